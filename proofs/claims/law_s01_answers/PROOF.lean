import PyProof.Rows.All
import Wide.All
import OpenK.AllK
import Wide.FinOn
import Open.SpecLaws
import KE.OsGo
import HandS.ForSpec
import HandS.Comp
import HandS.Iter
import HandS.Rev
import HandS.Dict
import HandS.ExcInit
import HandS.ExcField
import HandS.Text
import PySem.Challenge.RW_linekept_s01_answers
import HandS.Steps
set_option Elab.async false
set_option linter.all false
set_option maxRecDepth 100000
set_option maxHeartbeats 2000000
/-! # The plain part: what holds of the specification's own state, and the program's steps told over it -/
namespace LK
abbrev S := Sa72.St
open Sa72 (Bytes Bits bitsOf bytesOf crc stuffed onLine Got afresh downNow greet own refuse answered pf PF commanded answering frame feed late)

/-- bytes -/
def B8 (l : List Nat) : Prop := ∀ x ∈ l, x < 256
/-- bits -/
def B1 (l : List Nat) : Prop := ∀ x ∈ l, x ≤ 1
theorem B8.nil : B8 [] := fun _ h => by cases h
theorem B8.cons {a : Nat} {l : List Nat} (h : a < 256) (k : B8 l) : B8 (a :: l) := fun x m => by
  rcases List.mem_cons.mp m with rfl | m
  · exact h
  · exact k x m
theorem B8.app {a b : List Nat} (h : B8 a) (k : B8 b) : B8 (a ++ b) := fun x m => by
  rcases List.mem_append.mp m with m | m
  · exact h x m
  · exact k x m
theorem B1.nil : B1 [] := fun _ h => by cases h
theorem B1.app {a b : List Nat} (h : B1 a) (k : B1 b) : B1 (a ++ b) := fun x m => by
  rcases List.mem_append.mp m with m | m
  · exact h x m
  · exact k x m
theorem B1.cons {a : Nat} {l : List Nat} (h : a ≤ 1) (k : B1 l) : B1 (a :: l) := fun x m => by
  rcases List.mem_cons.mp m with rfl | m
  · exact h
  · exact k x m

/-! ### what the listener's attributes do -/
structure Ls where
  lost : Bool
  kb : List Nat
  ones : Nat
def Ls.lose (s : Ls) : Ls := { s with lost := true, kb := [] }
def Ls.keep (s : Ls) (b : Nat) : Ls :=
  let s1 : Ls := if s.lost = true then s else { s with kb := s.kb ++ [b] }
  if 8231 < s1.kb.length then s1.lose else s1
/-- the row of the bits ahead of a flag's -/
def rowOf (kb : List Nat) : List Nat := bytesOf ((kb.length - 7 + 7) / 8) (kb.take (kb.length - 7))
def Ls.bad (s : Ls) : Bool := (s.lost || decide (s.kb.length < 7)) || (decide (0 < (s.kb.length - 7) % 8) || (decide ((rowOf s.kb).length < 4) || decide (1028 < (rowOf s.kb).length)))
def sumOf (d : List Nat) : List Nat := [crc d % 256, crc d / 256]
def Ls.row (s : Ls) : Option (List Nat) :=
  if s.bad = true then none
  else if sumOf ((rowOf s.kb).take ((rowOf s.kb).length - 2)) = (rowOf s.kb).drop ((rowOf s.kb).length - 2) then some ((rowOf s.kb).take ((rowOf s.kb).length - 2)) else none
def Ls.fresh (s : Ls) : Ls := { s with lost := false, kb := [] }
def Ls.take (s : Ls) (b : Nat) : Ls × Option (List Nat) :=
  if b = 1 then
    let s1 : Ls := ({ s with ones := s.ones + 1 } : Ls).keep 1
    (if 6 < s1.ones then s1.lose else s1, none)
  else
    let s0 : Ls := { s with ones := 0 }
    if s.ones = 6 then (s0.fresh, s0.row) else if s.ones ≠ 5 then (s0.keep 0, none) else (s0, none)
/-- the listener's attributes against the specification's -/
inductive LisRel : Ls → Got → Prop where
  | live {kb : List Nat} {n : Nat} : B1 kb → n ≤ 5 → kb.length ≤ 8230 → LisRel ⟨false, kb, n⟩ ⟨true, kb, n⟩
  | six {kb : List Nat} : B1 kb → kb.length ≤ 8230 → LisRel ⟨false, kb ++ [1], 6⟩ ⟨true, kb, 6⟩
  | lost {n : Nat} : LisRel ⟨true, [], n⟩ ⟨false, [], min n 7⟩
  | full {kb : List Nat} {n : Nat} : B1 kb → n ≤ 5 → kb.length = 8231 → LisRel ⟨false, kb, n⟩ ⟨false, [], n⟩

/-! ### what holds of an end always -/
structure Ok (t : S) : Prop where
  side : t.side ≤ 1
  win : 1 ≤ t.window ∧ t.window ≤ 7
  s : t.s < 8
  a : t.a < 8
  r : t.r < 8
  clock : ∀ c, t.clock = some c → c < 2 ^ 32
  sent : t.sent.length ≤ 7
  many : t.sent.length + t.waits.length ≤ 64
  inbox : t.inbox.length ≤ 64 ∧ ∀ b, b ∈ t.inbox → b.length ≤ 1024
  rows : ∀ b, b ∈ t.sent ++ t.waits → b.length ≤ 1024 ∧ B8 b
  wrong : t.wrong.length ≤ 3 ∧ B8 t.wrong
  far : t.stage = .up → (t.s + 8 - t.a) % 8 ≤ t.sent.length
  out : t.out.length ≤ 1048576 ∧ B1 t.out

/-! ### one field changed (as words, so that the terms stay small) -/
def sStage (t : S) (g : Sa72.Stage) : S := { t with stage := g }
def sS (t : S) (m : Nat) : S := { t with s := m }
def sA (t : S) (m : Nat) : S := { t with a := m }
def sR (t : S) (m : Nat) : S := { t with r := m }
def sOut (t : S) (m : Nat) : S := { t with outs := m }
def sClk (t : S) (c : Option Nat) : S := { t with clock := c }
def sAsk (t : S) (b : Bool) : S := { t with asked := b }
def sPol (t : S) (b : Bool) : S := { t with polls := b }
def sBusy (t : S) (b : Bool) : S := { t with busy := b }
def sSent (t : S) (l : List Bytes) : S := { t with sent := l }
def sWrong (t : S) (l : Bytes) : S := { t with wrong := l }
def sBits (t : S) (l : Bits) : S := { t with out := l }
def sGot (t : S) (g : Got) : S := { t with got := g }
def sMsgs (t : S) (a b c : List Bytes) : S := { t with sent := a, waits := b, inbox := c }

/-! ### the program's smaller steps, over the specification's state -/
def mayGo (t : S) : Bool := decide (t.stage = .up ∧ t.busy = false ∧ t.polls = false ∧ (t.s + 8 - t.a) % 8 < t.window ∧ (t.s + 8 - t.a) % 8 < t.sent.length + t.waits.length)
def mHello (t : S) (p : Nat) : S := if t.stage = .ending then t.answer (0x0F + p * PF) [] else ({ afresh t with stage := .up } : S).answer (0x63 + p * PF) []
def mFinish (t : S) (p : Nat) : S := if t.stage = .up ∨ t.stage = .stuck then (downNow t).answer (0x63 + p * PF) [] else (if t.stage = .greeting then downNow t else t).answer (0x0F + p * PF) []
def mYes (t : S) : S := if t.stage = .greeting then { afresh t with stage := .up } else if t.stage = .ending then downNow t else t
def mNumbered (t : S) (c : Nat) (b : Bytes) (now : Nat) : S := match answered t (Sa72.next c) now with
  | none => refuse t c 8
  | some v =>
    if c / 2 % 8 = v.r then
      (if v.inbox.length < 64 then let w : S := { v with inbox := v.inbox ++ [b], r := (v.r + 1) % 8, asked := false }; w.answer (own w + pf c * PF) []
      else v.answer (5 + 32 * v.r + pf c * PF) [])
    else if v.asked = false then ({ v with asked := true } : S).answer (9 + 32 * v.r + pf c * PF) []
    else if pf c = 1 then v.answer (own v + PF) [] else v
def mState (isC : Bool) (t : S) (c : Nat) (now : Nat) : S := match Sa72.supervised t c now with
  | none => refuse t c 8
  | some v =>
    if isC = true then (let w := if c % 16 = 9 then Sa72.fromThere v c else v; if pf c = 1 then w.answer (own w + PF) [] else w)
    else (let w := if c % 16 = 9 ∨ (pf c = 1 ∧ v.polls = true) then Sa72.fromThere v c else v; if pf c = 1 then { w with polls := false } else w)
/-- Frame.kind, Frame.fault -/
def kindOf (c : Nat) : Int :=
  if c % 2 = 0 then 0 else if c % 16 = 1 ∨ c % 16 = 5 ∨ c % 16 = 9 then ((c % 16 : Nat) : Int)
  else if c - c / 16 % 2 * 16 = 47 ∨ c - c / 16 % 2 * 16 = 67 ∨ c - c / 16 % 2 * 16 = 99 ∨ c - c / 16 % 2 * 16 = 15 ∨ c - c / 16 % 2 * 16 = 135 then ((c - c / 16 % 2 * 16 : Nat) : Int) else -1
def isCmdKind (k : Int) : Bool := decide (k = 0 ∨ k = 1 ∨ k = 5 ∨ k = 9 ∨ k = 47 ∨ k = 67)
def isAnsKind (k : Int) : Bool := decide (k = 1 ∨ k = 5 ∨ k = 9 ∨ k = 99 ∨ k = 15 ∨ k = 135)
def faultOf (isC : Bool) (c n : Nat) : Nat :=
  if (isC && !isCmdKind (kindOf c)) || (!isC && !isAnsKind (kindOf c)) then 1
  else if kindOf c = 0 ∧ 1024 < n then 4
  else if (n : Int) ≠ (if kindOf c = 0 then (if (n : Int) > 1 then (n : Int) else 1) else if kindOf c = 135 then 3 else 0) then 3 else 0
end LK
namespace LK
open PySem PySem.Spec PyProof.Rows L2
/-! # The heap: what stands where -/
abbrev nts (l : List Nat) : List V := l.map fun (n : Nat) => V.int (n : Int)
abbrev zts (l : List Int) : List V := l.map V.int
/-- where the top's classes and tuples stand -/
structure LA where
  CF : Addr
  CI : Addr
  CW : Addr
  CE : Addr
  CX : Addr
  tFLAG : Addr
  tPLAIN : Addr
  tSTATES : Addr
  tCOMMANDS : Addr
  tANSWERS : Addr
  tMANY_NUMBERS : Addr
/-! ### operators as readings -/
def kAdd : R2 := rI0 fun i j => .int (i + j)
def kSub : R2 := rI0 fun i j => .int (i - j)
def kMul : R2 := rI CMul fun i j => .int (i * j)
def kMod : R2 := rI (fun _ j => 0 < j) fun i j => .int (i % j)
def kDiv : R2 := rI CDiv fun i j => .int (i / j)
def kShr : R2 := rI (fun _ j => 0 ≤ j) fun i j => .int (i / 2 ^ j.toNat)
def kAnd : R2 := rI0 fun i j => .int (Builtin.bitAnd i j)
def kXor : R2 := rI0 fun i j => .int (Builtin.bitXor i j)
def kLt : R2 := rI0 fun i j => .bl (decide (i < j))
def kLe : R2 := rI0 fun i j => .bl (decide (i ≤ j))
def kGt : R2 := rI0 fun i j => .bl (decide (j < i))
def kGe : R2 := rI0 fun i j => .bl (decide (j ≤ i))
def kIsN : R2 := fun x y H Q => y = .non ∧ Q (.bl (decide (x = .non))) H
def kNotN : R2 := fun x y H Q => y = .non ∧ Q (.bl (!decide (x = .non))) H
def kNeg : V → Hp → VK → Prop := rU fun i => .int (-i)
def kLen (K : PySem.W.Frag) : List V → Hp → VK → Prop := fun xs H Q => ∃ p ys, xs = [.ref p] ∧ (SqL K H p ys ∨ SqT K H p ys) ∧ Q (.int ys.length) H
def kMax : List V → Hp → VK → Prop := fun xs H Q => ∃ i j, xs = [.int i, .int j] ∧ Q (.int (if j > i then j else i)) H
def kList (K : PySem.W.Frag) : List V → Hp → VK → Prop := fun xs H Q => ∃ p ys, xs = [.ref p] ∧ (SqL K H p ys ∨ SqT K H p ys) ∧ ∀ l, H l = none → Q (.ref l) (upd H l (.lst ys))
/-- what a def that may raise wishes of an error -/
abbrev wE (E : XK) : WX := fun cls d _ H => E cls d H
/-- try: .. except Refused as error: .. -/
def tTryX (L : LA) (K : PySem.W.Frag) (tb : WX → TS) (ts : Addr → Value → Option Addr → TS) (i : Nat) : TS := fun D σ H => tb (wAs K (.ref L.CX) i ts (fun _ _ _ _ => False) D) D σ H

/-! ### frames of what changes -/
/-- all that was tracked stands, but M's -/
def KeepBut (M : List Addr) (H H' : Hp) : Prop := ∀ b o, H b = some o → b ∉ M → H' b = some o
theorem KeepBut.refl (M : List Addr) (H : Hp) : KeepBut M H H := fun _ _ e _ => e
theorem KeepBut.same {M : List Addr} {H H' : Hp} (s : Same H H') : KeepBut M H H' := fun b o e _ => s b o e
theorem KeepBut.new {M : List Addr} {H H' : Hp} {p : Addr} {o : HO} (k : KeepBut M H H') (hp : H p = none) : KeepBut M H (upd H' p o) := fun b u e hb => by
  rw [upd_ne (ne_of_none e hp)]
  exact k b u e hb
theorem KeepBut.at {M : List Addr} {H H' : Hp} {p : Addr} {o : HO} (k : KeepBut M H H') (hp : p ∈ M) : KeepBut M H (upd H' p o) := fun b u e hb => by
  rw [upd_ne (fun z => hb (by rw [z]; exact hp))]
  exact k b u e hb
theorem same_new {H H' : Hp} {p : Addr} {o : HO} (k : Same H H') (hp : H p = none) : Same H (upd H' p o) := fun b u e => by
  rw [upd_ne (ne_of_none e hp)]
  exact k b u e
theorem none_back {H H' : Hp} {p : Addr} (k : Same H H') (h : H' p = none) : H p = none := k.free h

/-! ### Frame -/
/-- End's attributes by Python's values -/
structure EV where
  co : Int
  ao : Int
  win : Int
  pat : Int
  tri : Int
  stage : Int
  sent : Addr
  unsent : Addr
  come : Addr
  wrong : Addr
  li : Addr
  wa : Addr
  now : Int
  s : Int
  a : Int
  r : Int
  busy : Bool
  asked : Bool
  polls : Bool
  since : V
  out : Int
def eF (x : EV) : List (Str × V) := [("commands_out", .int x.co), ("answers_out", .int x.ao), ("window", .int x.win), ("patience", .int x.pat), ("tries", .int x.tri), ("stage", .int x.stage), ("sent", .ref x.sent), ("unsent", .ref x.unsent), ("come", .ref x.come), ("wrong", .ref x.wrong), ("listener", .ref x.li), ("waiting", .ref x.wa), ("now", .int x.now), ("s", .int x.s), ("a", .int x.a), ("r", .int x.r), ("other_busy", .bl x.busy), ("asked_again", .bl x.asked), ("polls", .bl x.polls), ("since", x.since), ("out", .int x.out)]
theorem eF_commands_out (x : EV) : (eF x).lookup ("commands_out" : Str) = some (.int x.co) := by kernel_rfl
theorem eP_commands_out (x : EV) (v : Int) : putF "commands_out" (.int v) (eF x) = eF { x with co := v } := by kernel_rfl
theorem eF_answers_out (x : EV) : (eF x).lookup ("answers_out" : Str) = some (.int x.ao) := by kernel_rfl
theorem eP_answers_out (x : EV) (v : Int) : putF "answers_out" (.int v) (eF x) = eF { x with ao := v } := by kernel_rfl
theorem eF_window (x : EV) : (eF x).lookup ("window" : Str) = some (.int x.win) := by kernel_rfl
theorem eP_window (x : EV) (v : Int) : putF "window" (.int v) (eF x) = eF { x with win := v } := by kernel_rfl
theorem eF_patience (x : EV) : (eF x).lookup ("patience" : Str) = some (.int x.pat) := by kernel_rfl
theorem eP_patience (x : EV) (v : Int) : putF "patience" (.int v) (eF x) = eF { x with pat := v } := by kernel_rfl
theorem eF_tries (x : EV) : (eF x).lookup ("tries" : Str) = some (.int x.tri) := by kernel_rfl
theorem eP_tries (x : EV) (v : Int) : putF "tries" (.int v) (eF x) = eF { x with tri := v } := by kernel_rfl
theorem eF_stage (x : EV) : (eF x).lookup ("stage" : Str) = some (.int x.stage) := by kernel_rfl
theorem eP_stage (x : EV) (v : Int) : putF "stage" (.int v) (eF x) = eF { x with stage := v } := by kernel_rfl
theorem eF_sent (x : EV) : (eF x).lookup ("sent" : Str) = some (.ref x.sent) := by kernel_rfl
theorem eP_sent (x : EV) (v : Addr) : putF "sent" (.ref v) (eF x) = eF { x with sent := v } := by kernel_rfl
theorem eF_unsent (x : EV) : (eF x).lookup ("unsent" : Str) = some (.ref x.unsent) := by kernel_rfl
theorem eP_unsent (x : EV) (v : Addr) : putF "unsent" (.ref v) (eF x) = eF { x with unsent := v } := by kernel_rfl
theorem eF_come (x : EV) : (eF x).lookup ("come" : Str) = some (.ref x.come) := by kernel_rfl
theorem eP_come (x : EV) (v : Addr) : putF "come" (.ref v) (eF x) = eF { x with come := v } := by kernel_rfl
theorem eF_wrong (x : EV) : (eF x).lookup ("wrong" : Str) = some (.ref x.wrong) := by kernel_rfl
theorem eP_wrong (x : EV) (v : Addr) : putF "wrong" (.ref v) (eF x) = eF { x with wrong := v } := by kernel_rfl
theorem eF_listener (x : EV) : (eF x).lookup ("listener" : Str) = some (.ref x.li) := by kernel_rfl
theorem eP_listener (x : EV) (v : Addr) : putF "listener" (.ref v) (eF x) = eF { x with li := v } := by kernel_rfl
theorem eF_waiting (x : EV) : (eF x).lookup ("waiting" : Str) = some (.ref x.wa) := by kernel_rfl
theorem eP_waiting (x : EV) (v : Addr) : putF "waiting" (.ref v) (eF x) = eF { x with wa := v } := by kernel_rfl
theorem eF_now (x : EV) : (eF x).lookup ("now" : Str) = some (.int x.now) := by kernel_rfl
theorem eP_now (x : EV) (v : Int) : putF "now" (.int v) (eF x) = eF { x with now := v } := by kernel_rfl
theorem eF_s (x : EV) : (eF x).lookup ("s" : Str) = some (.int x.s) := by kernel_rfl
theorem eP_s (x : EV) (v : Int) : putF "s" (.int v) (eF x) = eF { x with s := v } := by kernel_rfl
theorem eF_a (x : EV) : (eF x).lookup ("a" : Str) = some (.int x.a) := by kernel_rfl
theorem eP_a (x : EV) (v : Int) : putF "a" (.int v) (eF x) = eF { x with a := v } := by kernel_rfl
theorem eF_r (x : EV) : (eF x).lookup ("r" : Str) = some (.int x.r) := by kernel_rfl
theorem eP_r (x : EV) (v : Int) : putF "r" (.int v) (eF x) = eF { x with r := v } := by kernel_rfl
theorem eF_other_busy (x : EV) : (eF x).lookup ("other_busy" : Str) = some (.bl x.busy) := by kernel_rfl
theorem eP_other_busy (x : EV) (v : Bool) : putF "other_busy" (.bl v) (eF x) = eF { x with busy := v } := by kernel_rfl
theorem eF_asked_again (x : EV) : (eF x).lookup ("asked_again" : Str) = some (.bl x.asked) := by kernel_rfl
theorem eP_asked_again (x : EV) (v : Bool) : putF "asked_again" (.bl v) (eF x) = eF { x with asked := v } := by kernel_rfl
theorem eF_polls (x : EV) : (eF x).lookup ("polls" : Str) = some (.bl x.polls) := by kernel_rfl
theorem eP_polls (x : EV) (v : Bool) : putF "polls" (.bl v) (eF x) = eF { x with polls := v } := by kernel_rfl
theorem eF_since (x : EV) : (eF x).lookup ("since" : Str) = some (x.since) := by kernel_rfl
theorem eP_since (x : EV) (v : V) : putF "since" (v) (eF x) = eF { x with since := v } := by kernel_rfl
theorem eF_out (x : EV) : (eF x).lookup ("out" : Str) = some (.int x.out) := by kernel_rfl
theorem eP_out (x : EV) (v : Int) : putF "out" (.int v) (eF x) = eF { x with out := v } := by kernel_rfl
theorem eF_afresh (x : EV) : (eF x).lookup ("afresh" : Str) = none := by kernel_rfl
theorem eF_command (x : EV) : (eF x).lookup ("command" : Str) = none := by kernel_rfl
theorem eF_answer (x : EV) : (eF x).lookup ("answer" : Str) = none := by kernel_rfl
theorem eF_run_clock (x : EV) : (eF x).lookup ("run_clock" : Str) = none := by kernel_rfl
theorem eF_greet (x : EV) : (eF x).lookup ("greet" : Str) = none := by kernel_rfl
theorem eF_finish (x : EV) : (eF x).lookup ("finish" : Str) = none := by kernel_rfl
theorem eF_go_up (x : EV) : (eF x).lookup ("go_up" : Str) = none := by kernel_rfl
theorem eF_go_down (x : EV) : (eF x).lookup ("go_down" : Str) = none := by kernel_rfl
theorem eF_own_state (x : EV) : (eF x).lookup ("own_state" : Str) = none := by kernel_rfl
theorem eF_tell_state (x : EV) : (eF x).lookup ("tell_state" : Str) = none := by kernel_rfl
theorem eF_ask_again (x : EV) : (eF x).lookup ("ask_again" : Str) = none := by kernel_rfl
theorem eF_many_out (x : EV) : (eF x).lookup ("many_out" : Str) = none := by kernel_rfl
theorem eF_may_go_out (x : EV) : (eF x).lookup ("may_go_out" : Str) = none := by kernel_rfl
theorem eF_go_out (x : EV) : (eF x).lookup ("go_out" : Str) = none := by kernel_rfl
theorem eF_can_be_answered (x : EV) : (eF x).lookup ("can_be_answered" : Str) = none := by kernel_rfl
theorem eF_answered_up_to (x : EV) : (eF x).lookup ("answered_up_to" : Str) = none := by kernel_rfl
theorem eF_say_wrong (x : EV) : (eF x).lookup ("say_wrong" : Str) = none := by kernel_rfl
theorem eF_get_stuck (x : EV) : (eF x).lookup ("get_stuck" : Str) = none := by kernel_rfl
theorem eF_is_out (x : EV) : (eF x).lookup ("is_out" : Str) = none := by kernel_rfl
theorem eF_see_to_clock (x : EV) : (eF x).lookup ("see_to_clock" : Str) = none := by kernel_rfl
theorem eF_len (x : EV) : (eF x).length < 1000 := by show 21 < 1000; decide
/-- Listener's attributes -/
def lF (lost : Bool) (kept : Addr) (ones : Int) : List (Str × V) := [("lost", .bl lost), ("kept", .ref kept), ("ones", .int ones)]
theorem lF_lost (lost : Bool) (kept : Addr) (ones : Int) : (lF lost kept ones).lookup ("lost" : Str) = some (.bl lost) := by kernel_rfl
theorem lP_lost (lost : Bool) (kept : Addr) (ones : Int) (v : Bool) : putF "lost" (.bl v) (lF lost kept ones) = lF v kept ones := by kernel_rfl
theorem lF_kept (lost : Bool) (kept : Addr) (ones : Int) : (lF lost kept ones).lookup ("kept" : Str) = some (.ref kept) := by kernel_rfl
theorem lP_kept (lost : Bool) (kept : Addr) (ones : Int) (v : Addr) : putF "kept" (.ref v) (lF lost kept ones) = lF lost v ones := by kernel_rfl
theorem lF_ones (lost : Bool) (kept : Addr) (ones : Int) : (lF lost kept ones).lookup ("ones" : Str) = some (.int ones) := by kernel_rfl
theorem lP_ones (lost : Bool) (kept : Addr) (ones : Int) (v : Int) : putF "ones" (.int v) (lF lost kept ones) = lF lost kept v := by kernel_rfl
theorem lF_m_lose (lost : Bool) (kept : Addr) (ones : Int) : (lF lost kept ones).lookup ("lose" : Str) = none := by kernel_rfl
theorem lF_m_keep (lost : Bool) (kept : Addr) (ones : Int) : (lF lost kept ones).lookup ("keep" : Str) = none := by kernel_rfl
theorem lF_m_whole (lost : Bool) (kept : Addr) (ones : Int) : (lF lost kept ones).lookup ("whole" : Str) = none := by kernel_rfl
theorem lF_m_take (lost : Bool) (kept : Addr) (ones : Int) : (lF lost kept ones).lookup ("take" : Str) = none := by kernel_rfl
theorem lF_len (lost : Bool) (kept : Addr) (ones : Int) : (lF lost kept ones).length < 1000 := by show 3 < 1000; decide
/-- Waiting's attributes -/
def wF (bits : Addr) : List (Str × V) := [("bits", .ref bits)]
theorem wF_bits (bits : Addr) : (wF bits).lookup ("bits" : Str) = some (.ref bits) := by kernel_rfl
theorem wP_bits (bits : Addr) (v : Addr) : putF "bits" (.ref v) (wF bits) = wF v := by kernel_rfl
theorem wF_m_put (bits : Addr) : (wF bits).lookup ("put" : Str) = none := by kernel_rfl
theorem wF_m_take (bits : Addr) : (wF bits).lookup ("take" : Str) = none := by kernel_rfl
theorem wF_len (bits : Addr) : (wF bits).length < 1000 := by show 1 < 1000; decide
/-- Frame's attributes -/
def fF (is_command : Bool) (control : Int) (load : Addr) : List (Str × V) := [("is_command", .bl is_command), ("control", .int control), ("load", .ref load)]
theorem fF_is_command (is_command : Bool) (control : Int) (load : Addr) : (fF is_command control load).lookup ("is_command" : Str) = some (.bl is_command) := by kernel_rfl
theorem fP_is_command (is_command : Bool) (control : Int) (load : Addr) (v : Bool) : putF "is_command" (.bl v) (fF is_command control load) = fF v control load := by kernel_rfl
theorem fF_control (is_command : Bool) (control : Int) (load : Addr) : (fF is_command control load).lookup ("control" : Str) = some (.int control) := by kernel_rfl
theorem fP_control (is_command : Bool) (control : Int) (load : Addr) (v : Int) : putF "control" (.int v) (fF is_command control load) = fF is_command v load := by kernel_rfl
theorem fF_load (is_command : Bool) (control : Int) (load : Addr) : (fF is_command control load).lookup ("load" : Str) = some (.ref load) := by kernel_rfl
theorem fP_load (is_command : Bool) (control : Int) (load : Addr) (v : Addr) : putF "load" (.ref v) (fF is_command control load) = fF is_command control v := by kernel_rfl
theorem fF_m_kind (is_command : Bool) (control : Int) (load : Addr) : (fF is_command control load).lookup ("kind" : Str) = none := by kernel_rfl
theorem fF_m_bit (is_command : Bool) (control : Int) (load : Addr) : (fF is_command control load).lookup ("bit" : Str) = none := by kernel_rfl
theorem fF_m_own_number (is_command : Bool) (control : Int) (load : Addr) : (fF is_command control load).lookup ("own_number" : Str) = none := by kernel_rfl
theorem fF_m_awaited (is_command : Bool) (control : Int) (load : Addr) : (fF is_command control load).lookup ("awaited" : Str) = none := by kernel_rfl
theorem fF_m_fault (is_command : Bool) (control : Int) (load : Addr) : (fF is_command control load).lookup ("fault" : Str) = none := by kernel_rfl
theorem fF_len (is_command : Bool) (control : Int) (load : Addr) : (fF is_command control load).length < 1000 := by show 3 < 1000; decide
structure FrO (L : LA) (H : Hp) (f la : Addr) (b : Bool) (c : Nat) (load : List Nat) : Prop where
  obj : ∃ dx, H f = some (.ins L.CF dx (fF b c la))
  load : H la = some (.lst (nts load))
/-! ### Listener, Waiting -/
structure LisAt (L : LA) (H : Hp) (l dl kp : Addr) (s : Ls) : Prop where
  obj : H l = some (.ins L.CI dl (lF s.lost kp s.ones))
  kept : H kp = some (.lst (nts s.kb))
structure WaitAt (L : LA) (H : Hp) (w dw bt : Addr) (bits : List Nat) : Prop where
  obj : H w = some (.ins L.CW dw (wF bt))
  bits : H bt = some (.lst (nts bits))
/-! ### End -/
structure EA where
  dx : Addr
  sent : Addr
  unsent : Addr
  come : Addr
  wrong : Addr
  li : Addr
  wa : Addr
  dl : Addr
  kept : Addr
  dw : Addr
  bits : Addr
  sm : List Addr
  um : List Addr
  cm : List Addr
  bz : Bool
  ls : Ls
def clockV : Option Nat → V
  | none => .non
  | some c => .int (c : Int)
def ev (A : EA) (t : S) (n : Nat) : EV :=
  { co := if t.side = 0 then 1 else 3, ao := if t.side = 0 then 3 else 1, win := t.window, pat := t.patience, tri := t.tries, stage := Sa72.stageNumber t.stage, sent := A.sent, unsent := A.unsent, come := A.come, wrong := A.wrong, li := A.li, wa := A.wa,
    now := n, s := t.s, a := t.a, r := t.r, busy := A.bz, asked := t.asked, polls := t.polls, since := clockV t.clock, out := t.outs }
/-- what an end's calls may change -/
abbrev Own (e : Addr) (A : EA) : List Addr := [e, A.sent, A.unsent, A.come, A.li, A.kept, A.wa, A.bits]
abbrev Imm (A : EA) : List Addr := A.wrong :: (A.sm ++ (A.um ++ A.cm))
abbrev Foot (e : Addr) (A : EA) : List Addr := Own e A ++ Imm A
inductive Rows (H : Hp) : List Addr → List (List Nat) → Prop where
  | nil : Rows H [] []
  | cons {p : Addr} {ps : List Addr} {r : List Nat} {rs : List (List Nat)} : H p = some (.lst (nts r)) → Rows H ps rs → Rows H (p :: ps) (r :: rs)
structure EndAt (L : LA) (H : Hp) (e : Addr) (A : EA) (t : S) (n : Nat) : Prop where
  obj : H e = some (.ins L.CE A.dx (eF (ev A t n)))
  sent : H A.sent = some (.lst (A.sm.map V.ref))
  unsent : H A.unsent = some (.lst (A.um.map V.ref))
  come : H A.come = some (.lst (A.cm.map V.ref))
  wrong : H A.wrong = some (.lst (nts t.wrong))
  lis : LisAt L H A.li A.dl A.kept A.ls
  wai : WaitAt L H A.wa A.dw A.bits t.out
  rs : Rows H A.sm t.sent
  ru : Rows H A.um t.waits
  rc : Rows H A.cm t.inbox
  nd : (Own e A).Nodup
  im : ∀ p ∈ Imm A, p ∉ Own e A
  lr : LisRel A.ls t.got
  bz : t.stage = .up → A.bz = t.busy
  nn : n < 2 ^ 32
structure Fr (e : Addr) (A : EA) (X : List Addr) (H : Hp) (A' : EA) (H' : Hp) : Prop where
  keep : KeepBut (Own e A) H H'
  own : ∀ b ∈ Own e A', b ∈ Own e A ∨ H b = none
  foot : ∀ b ∈ Foot e A', b ∈ Foot e A ∨ b ∈ X ∨ H b = none
/-- the end of a promise: the end at e is then as t' tells -/
def Post (L : LA) (H : Hp) (e : Addr) (A : EA) (X : List Addr) (t' : S) (n : Nat) (G : Hp → Prop) : Prop := ∀ H' A', EndAt L H' e A' t' n → Fr e A X H A' H' → G H'
theorem Fr.refl (e : Addr) (A : EA) (X : List Addr) (H : Hp) : Fr e A X H A H := ⟨KeepBut.refl _ _, fun _ h => .inl h, fun _ h => .inl h⟩
theorem own_foot {e : Addr} {A : EA} {b : Addr} (h : b ∈ Own e A) : b ∈ Foot e A := List.mem_append_left _ h
theorem Fr.trans {e : Addr} {A A1 A2 : EA} {X : List Addr} {H H1 H2 : Hp} (f : Fr e A X H A1 H1) (g : Fr e A1 X H1 A2 H2) : Fr e A X H A2 H2 where
  keep := fun b o h hb => g.keep b o (f.keep b o h hb) fun z => by
    rcases f.own b z with q | q
    · exact hb q
    · rw [h] at q
      cases q
  own := fun b hb => by
    rcases g.own b hb with q | q
    · exact f.own b q
    · cases h : H b with
      | none => exact .inr rfl
      | some o =>
        by_cases z : b ∈ Own e A
        · exact .inl z
        · rw [f.keep b o h z] at q
          cases q
  foot := fun b hb => by
    rcases g.foot b hb with q | q | q
    · exact f.foot b q
    · exact .inr (.inl q)
    · cases h : H b with
      | none => exact .inr (.inr rfl)
      | some o =>
        by_cases z : b ∈ Own e A
        · exact .inl (own_foot z)
        · rw [f.keep b o h z] at q
          cases q
theorem Fr.mono {e : Addr} {A A1 : EA} {X : List Addr} {H H1 : Hp} (f : Fr e A [] H A1 H1) : Fr e A X H A1 H1 := ⟨f.keep, f.own, fun b hb => (f.foot b hb).elim .inl fun z => z.elim (fun q => by cases q) fun q => .inr (.inr q)⟩
/-- what an allocation ahead leaves -/
theorem Fr.pre {e : Addr} {A A1 : EA} {X : List Addr} {H H0 H1 : Hp} (s : Same H H0) (f : Fr e A X H0 A1 H1) : Fr e A X H A1 H1 where
  keep := fun b o h hb => f.keep b o (s b o h) hb
  own := fun b hb => (f.own b hb).imp id fun q => s.free q
  foot := fun b hb => (f.foot b hb).imp id fun z => z.imp id fun q => s.free q
theorem Fr.keepRow {e : Addr} {A A1 : EA} {X : List Addr} {H H1 : Hp} (f : Fr e A X H A1 H1) {p : Addr} {o : HO} (h : H p = some o) (hp : p ∉ Own e A) : H1 p = some o ∧ p ∉ Own e A1 :=
  ⟨f.keep p o h hp, fun z => (f.own p z).elim hp fun q => by rw [h] at q; cases q⟩
theorem Rows.keep {H H' : Hp} : ∀ {ps : List Addr} {rs : List (List Nat)}, Rows H ps rs → (∀ p ∈ ps, H' p = H p) → Rows H' ps rs
  | _, _, .nil, _ => .nil
  | _, _, .cons h t, k => .cons (by rw [k _ (List.mem_cons_self ..)]; exact h) (t.keep fun p hp => k p (List.mem_cons_of_mem _ hp))
theorem Rows.len {H : Hp} : ∀ {ps : List Addr} {rs : List (List Nat)}, Rows H ps rs → ps.length = rs.length
  | _, _, .nil => rfl
  | _, _, .cons _ t => congrArg (· + 1) t.len
theorem Rows.get {H : Hp} : ∀ {ps : List Addr} {rs : List (List Nat)} {i : Nat} {r : List Nat}, Rows H ps rs → rs[i]? = some r → ∃ p, ps[i]? = some p ∧ H p = some (.lst (nts r))
  | _, _, 0, _, .cons h _, e => by
    cases e
    exact ⟨_, rfl, h⟩
  | _, _, i + 1, _, .cons _ t, e => t.get (i := i) (by simpa using e)
theorem Rows.drop {H : Hp} : ∀ {ps : List Addr} {rs : List (List Nat)} (n : Nat), Rows H ps rs → Rows H (ps.drop n) (rs.drop n)
  | _, _, 0, h => h
  | _, _, n + 1, .nil => by simpa using Rows.nil
  | _, _, n + 1, .cons _ t => by simpa using t.drop n
theorem Rows.app {H : Hp} : ∀ {ps qs : List Addr} {rs ss : List (List Nat)}, Rows H ps rs → Rows H qs ss → Rows H (ps ++ qs) (rs ++ ss)
  | _, _, _, _, .nil, k => k
  | _, _, _, _, .cons h t, k => .cons h (t.app k)
theorem Rows.mem {H : Hp} : ∀ {ps : List Addr} {rs : List (List Nat)}, Rows H ps rs → ∀ p ∈ ps, ∃ r, H p = some (.lst (nts r))
  | _, _, .cons h t, p, hp => by
    rcases List.mem_cons.mp hp with rfl | hp
    · exact ⟨_, h⟩
    · exact t.mem p hp
end LK
namespace LK
open PySem PySem.Spec PyProof.Rows L2
/-! # The promises -/
/-- a new list of l -/
def New (H : Hp) (l : List Nat) (Q : VK) : Prop := ∀ H' p, Same H H' → H p = none → H' p = some (.lst (nts l)) → Q (.ref p) H'
/-- a frame or None -/
def RowRes (H H' : Hp) (kp : Addr) (o : Option (List Nat)) (Q : VK) : Prop := (o = none → Q .non H') ∧ ∀ r p, o = some r → H p = none → H' p = some (.lst (nts r)) → p ≠ kp → Q (.ref p) H'
/-- Refused(n) leaves -/
def ErrP (L : LA) (H : Hp) (n : Int) (E : XK) : Prop := ∀ H1 d, Same H H1 → H1 d = none → E (.ref L.CX) (some d) (upd H1 d (.xd [("number", .int n)]))
/-- an end's call has answered -/
def PostR (L : LA) (H : Hp) (e : Addr) (A : EA) (X : List Addr) (t' : S) (ans : List Int) (Q : VK) : Prop :=
  ∀ H' A' n' p, EndAt L H' e A' t' n' → Fr e A X H A' H' → H' p = some (.lst (zts ans)) → p ∉ Foot e A' → (∀ b o, H b = some o → b ∉ Own e A → p ≠ b) → Q (.ref p) H'
def CallP (L : LA) (H : Hp) (e : Addr) (A : EA) (X : List Addr) (t : S) (c : Sa72.Call) (Q : VK) (E : XK) : Prop :=
  ((Sa72.does (some t) c).2.v < 0 → ErrP L H (Sa72.does (some t) c).2.v E) ∧
  (0 ≤ (Sa72.does (some t) c).2.v → ∀ t', (Sa72.does (some t) c).1 = some t' → PostR L H e A X t' ((Sa72.does (some t) c).2.v :: (Sa72.does (some t) c).2.l.map fun (x : Nat) => (x : Int)) Q)
inductive CallIs (row : List Nat) : Int → List Int → Sa72.Call → Prop where
  | connect {now : Nat} : now < 2 ^ 32 → CallIs row 1 [(now : Int)] (.connect now)
  | finish {now : Nat} : now < 2 ^ 32 → CallIs row 2 [(now : Int)] (.end_ now)
  | send {now : Nat} : now < 2 ^ 32 → CallIs row 3 [(now : Int)] (.send row row.length now)
  | bits {n : Int} {now : Nat} : now < 2 ^ 32 → CallIs row 4 [n, (now : Int)] (.bits row n now)
  | tick {now : Nat} : now < 2 ^ 32 → CallIs row 5 [(now : Int)] (.tick now)
  | output {most : Int} : CallIs row 6 [most] (.output most)
  | take {most : Int} : CallIs row 7 [most] (.take most)
  | told : CallIs row 8 [] .told
/-- an end of the two, or none -/
inductive AtE (L : LA) (H : Hp) : V → List Addr → List Addr → Option S → Prop where
  | non : AtE L H .non [] [] none
  | at {e : Addr} {A : EA} {t : S} {n : Nat} : EndAt L H e A t n → Ok t → AtE L H (.ref e) (Foot e A) (Own e A) (some t)
structure Two (L : LA) (H : Hp) (ae : Addr) (F O : List Addr) (s : Option S × Option S) : Prop where
  ex : ∃ v0 v1 F0 F1 O0 O1, H ae = some (.lst [v0, v1]) ∧ AtE L H v0 F0 O0 s.1 ∧ AtE L H v1 F1 O1 s.2 ∧ F = F0 ++ F1 ∧ O = O0 ++ O1 ∧ ae ∉ F ∧ (∀ b ∈ F0, b ∉ O1) ∧ ∀ b ∈ F1, b ∉ O0
/-- what a call of one of the two does: c 0: begin -/
inductive StepIs (row : List Nat) : Int → List Int → Int × Sa72.Call → Prop where
  | begun {e : Nat} {side w p n : Int} : e ≤ 1 → 0 ≤ p → p < 2 ^ 32 → StepIs row 0 [(e : Int), side, w, p, n] ((e : Int), .begin_ side w p.toNat n)
  | other {e : Nat} {c : Int} {xs : List Int} {x : Sa72.Call} : e ≤ 1 → CallIs row c xs x → StepIs row c ((e : Int) :: xs) ((e : Int), x)
def stepOf (s : Option S × Option S) (x : Int × Sa72.Call) : (Option S × Option S) × Sa72.Ans :=
  ((if x.1 = 0 then ((Sa72.does (if x.1 = 0 then s.1 else s.2) x.2).1, s.2) else (s.1, (Sa72.does (if x.1 = 0 then s.1 else s.2) x.2).1)), (Sa72.does (if x.1 = 0 then s.1 else s.2) x.2).2)
def ansOf (r : Sa72.Ans) : List Int := r.v :: r.l.map fun (x : Nat) => (x : Int)
def PostT (L : LA) (H : Hp) (ae : Addr) (F O X : List Addr) (s' : Option S × Option S) (ans : List Int) (Q : VK) : Prop :=
  ∀ H' F' O' p, Two L H' ae F' O' s' → KeepBut (ae :: O) H H' → (∀ b ∈ F', b ∈ F ∨ b ∈ X ∨ H b = none) → H' p = some (.lst (zts ans)) → p ∉ F' → p ≠ ae → (∀ b o, H b = some o → b ∉ ae :: O → p ≠ b) → Q (.ref p) H'
/-! ### Frame -/
def sp_F_init (K : PySem.W.Frag) (L : LA) : Sp := fun vs H Q _ => ∃ (x dx la : Addr) (b : Bool) (c : Int), vs = [.ref x, .bl b, .int c, .ref la] ∧ H x = some (.ins L.CF dx []) ∧ ∀ H', H' x = some (.ins L.CF dx (fF b c la)) → KeepBut [x] H H' → Q .non H'
def sp_F_kind (K : PySem.W.Frag) (L : LA) : Sp := fun vs H Q _ => ∃ (f la : Addr) (b : Bool) (c : Nat) (load : List Nat), vs = [.ref f] ∧ FrO L H f la b c load ∧ c < 256 ∧ Q (.int (kindOf c)) H
def sp_F_bit (K : PySem.W.Frag) (L : LA) : Sp := fun vs H Q _ => ∃ (f la : Addr) (b : Bool) (c : Nat) (load : List Nat), vs = [.ref f] ∧ FrO L H f la b c load ∧ Q (.int ((Sa72.pf c : Nat) : Int)) H
def sp_F_own_number (K : PySem.W.Frag) (L : LA) : Sp := fun vs H Q _ => ∃ (f la : Addr) (b : Bool) (c : Nat) (load : List Nat), vs = [.ref f] ∧ FrO L H f la b c load ∧ Q (.int ((c / 2 % 8 : Nat) : Int)) H
def sp_F_awaited (K : PySem.W.Frag) (L : LA) : Sp := fun vs H Q _ => ∃ (f la : Addr) (b : Bool) (c : Nat) (load : List Nat), vs = [.ref f] ∧ FrO L H f la b c load ∧ Q (.int ((Sa72.next c : Nat) : Int)) H
def sp_F_fault (K : PySem.W.Frag) (L : LA) : Sp := fun vs H Q _ => ∃ (f la : Addr) (b : Bool) (c : Nat) (load : List Nat), vs = [.ref f] ∧ FrO L H f la b c load ∧ c < 256 ∧ ∀ H', Same H H' → Q (.int ((faultOf b c load.length : Nat) : Int)) H'
def sp_d_numbered_control (K : PySem.W.Frag) (L : LA) : Sp := fun vs H Q _ => ∃ (i j : Int), vs = [.int i, .int j] ∧ Q (.int (2 * i + 32 * j)) H
def sp_d_state_control (K : PySem.W.Frag) (L : LA) : Sp := fun vs H Q _ => ∃ (i j k : Int), vs = [.int i, .int j, .int k] ∧ Q (.int (i + 16 * j + 32 * k)) H
/-! ### bits, bytes, sums -/
def sp_d_bits_of (K : PySem.W.Frag) (L : LA) : Sp := fun vs H Q _ => ∃ (a : Addr) (l : List Nat), vs = [.ref a] ∧ H a = some (.lst (nts l)) ∧ l.length ≤ 100000 ∧ New H (Sa72.bitsOf l) Q
def sp_d_bytes_of (K : PySem.W.Frag) (L : LA) : Sp := fun vs H Q _ => ∃ (a : Addr) (l : List Nat), vs = [.ref a] ∧ H a = some (.lst (nts l)) ∧ l.length ≤ 1100000 ∧ New H (Sa72.bytesOf ((l.length + 7) / 8) l) Q
def sp_d_sum_of (K : PySem.W.Frag) (L : LA) : Sp := fun vs H Q _ => ∃ (a : Addr) (l : List Nat), vs = [.ref a] ∧ H a = some (.lst (nts l)) ∧ B8 l ∧ New H (sumOf l) Q
def sp_d_with_noughts (K : PySem.W.Frag) (L : LA) : Sp := fun vs H Q _ => ∃ (a : Addr) (l : List Nat), vs = [.ref a] ∧ H a = some (.lst (nts l)) ∧ B1 l ∧ l.length ≤ 100000 ∧ New H (Sa72.stuffed 0 l) Q
def sp_d_frame_bits (K : PySem.W.Frag) (L : LA) : Sp := fun vs H Q _ => ∃ (a : Addr) (l : List Nat), vs = [.ref a] ∧ H a = some (.lst (nts l)) ∧ B8 l ∧ l.length ≤ 1026 ∧ New H (Sa72.onLine l) Q
/-! ### Listener -/
def sp_I_init (K : PySem.W.Frag) (L : LA) : Sp := fun vs H Q _ => ∃ (x dx : Addr), vs = [.ref x] ∧ H x = some (.ins L.CI dx []) ∧ ∀ H' kp, LisAt L H' x dx kp ⟨true, [], 0⟩ → KeepBut [x] H H' → H kp = none → Q .non H'
def sp_I_lose (K : PySem.W.Frag) (L : LA) : Sp := fun vs H Q _ => ∃ (l dl kp : Addr) (s : Ls), vs = [.ref l] ∧ LisAt L H l dl kp s ∧ ∀ H' kp', LisAt L H' l dl kp' s.lose → KeepBut [l] H H' → H kp' = none → Q .non H'
def sp_I_keep (K : PySem.W.Frag) (L : LA) : Sp := fun vs H Q _ => ∃ (l dl kp : Addr) (s : Ls) (z : Int) (b : Nat), vs = [.ref l, .int z] ∧ z = (b : Int) ∧ LisAt L H l dl kp s ∧ s.kb.length ≤ 8232 ∧ ∀ H' kp', LisAt L H' l dl kp' (s.keep b) → KeepBut [l, kp] H H' → (kp' = kp ∨ H kp' = none) → Q .non H'
def sp_I_whole (K : PySem.W.Frag) (L : LA) : Sp := fun vs H Q _ => ∃ (l dl kp : Addr) (s : Ls), vs = [.ref l] ∧ LisAt L H l dl kp s ∧ s.kb.length ≤ 8232 ∧ B1 s.kb ∧ ∀ H' kp', LisAt L H' l dl kp' s.fresh → KeepBut [l] H H' → H kp' = none → RowRes H H' kp' s.row Q
def sp_I_take (K : PySem.W.Frag) (L : LA) : Sp := fun vs H Q _ => ∃ (l dl kp : Addr) (s : Ls) (z : Int) (b : Nat), vs = [.ref l, .int z] ∧ z = (b : Int) ∧ b ≤ 1 ∧ LisAt L H l dl kp s ∧ s.kb.length ≤ 8231 ∧ B1 s.kb ∧
  ∀ H' kp', LisAt L H' l dl kp' (s.take b).1 → KeepBut [l, kp] H H' → (kp' = kp ∨ H kp' = none) → RowRes H H' kp' (s.take b).2 Q
/-! ### Waiting -/
def sp_W_init (K : PySem.W.Frag) (L : LA) : Sp := fun vs H Q _ => ∃ (x dx : Addr), vs = [.ref x] ∧ H x = some (.ins L.CW dx []) ∧ ∀ H' bt, WaitAt L H' x dx bt [] → KeepBut [x] H H' → H bt = none → Q .non H'
def putBits (bits : List Nat) (row : List Nat) : List Nat := if 1048576 < bits.length + (Sa72.onLine row).length then bits else bits ++ Sa72.onLine row
def sp_W_put (K : PySem.W.Frag) (L : LA) : Sp := fun vs H Q _ => ∃ (w dw bt ra : Addr) (bits row : List Nat), vs = [.ref w, .ref ra] ∧ WaitAt L H w dw bt bits ∧ H ra = some (.lst (nts row)) ∧ B8 row ∧ row.length ≤ 1026 ∧ ∀ H', WaitAt L H' w dw bt (putBits bits row) → KeepBut [bt] H H' → Q .non H'
def sp_W_take (K : PySem.W.Frag) (L : LA) : Sp := fun vs H Q _ => ∃ (w dw bt : Addr) (bits : List Nat) (z : Int) (m : Nat), vs = [.ref w, .int z] ∧ z = (m : Int) ∧ m ≤ 65536 ∧ WaitAt L H w dw bt bits ∧ bits.length ≤ 1048576 ∧
  ∀ H' bt' p, WaitAt L H' w dw bt' (Sa72.outgoing bits m).2 → KeepBut [w] H H' → H bt' = none → H p = none → H' p = some (.lst (nts (Sa72.outgoing bits m).1)) → p ≠ bt' → Q (.ref p) H'
/-! ### End -/
def afF (p : Addr) (fs : List (Str × V)) : List (Str × V) := putF "sent" (.ref p) (putF "out" (.int 0) (putF "since" .non (putF "polls" (.bl false) (putF "asked_again" (.bl false) (putF "other_busy" (.bl false) (putF "r" (.int 0) (putF "a" (.int 0) (putF "s" (.int 0) fs))))))))
def sp_E_afresh (K : PySem.W.Frag) (L : LA) : Sp := fun vs H Q _ => ∃ (e dx : Addr) (fs : List (Str × V)), vs = [.ref e] ∧ H e = some (.ins L.CE dx fs) ∧ fs.length ≤ 100 ∧
  ∀ H' p, H p = none → H' e = some (.ins L.CE dx (afF p fs)) → H' p = some (.lst []) → KeepBut [e] H H' → Q .non H'
def sp_E_init (K : PySem.W.Frag) (L : LA) : Sp := fun vs H Q _ => ∃ (x dx : Addr) (i j k l : Int) (sd w p n : Nat), vs = [.ref x, .int i, .int j, .int k, .int l] ∧ (i = sd ∧ j = w ∧ k = p ∧ l = n) ∧ sd ≤ 1 ∧ H x = some (.ins L.CE dx []) ∧
  ∀ H' A', EndAt L H' x A' (Sa72.begun sd w p n) 0 → KeepBut [x] H H' → (∀ b ∈ Foot x A', b = x ∨ H b = none) → Q .non H'
def sp_E_command (K : PySem.W.Frag) (L : LA) : Sp := fun vs H Q _ => ∃ (e la : Addr) (A : EA) (t : S) (n c : Nat) (z : Int) (load : List Nat), vs = [.ref e, .int z, .ref la] ∧ z = (c : Int) ∧ c < 256 ∧ H la = some (.lst (nts load)) ∧ B8 load ∧ load.length ≤ 1024 ∧ EndAt L H e A t n ∧ Post L H e A [] (t.command c load) n (Q .non)
def sp_E_answer (K : PySem.W.Frag) (L : LA) : Sp := fun vs H Q _ => ∃ (e la : Addr) (A : EA) (t : S) (n c : Nat) (z : Int) (load : List Nat), vs = [.ref e, .int z, .ref la] ∧ z = (c : Int) ∧ c < 256 ∧ H la = some (.lst (nts load)) ∧ B8 load ∧ load.length ≤ 1024 ∧ EndAt L H e A t n ∧ Post L H e A [] (t.answer c load) n (Q .non)
def sp_E_run_clock (K : PySem.W.Frag) (L : LA) : Sp := fun vs H Q _ => ∃ (e : Addr) (A : EA) (t : S) (n : Nat), vs = [.ref e] ∧ EndAt L H e A t n ∧ Post L H e A [] { t with clock := some (n % 2 ^ 32) } n (Q .non)
def sp_E_greet (K : PySem.W.Frag) (L : LA) : Sp := fun vs H Q _ => ∃ (e : Addr) (A : EA) (t : S) (n : Nat), vs = [.ref e] ∧ EndAt L H e A t n ∧ Post L H e A [] (Sa72.greet t n) n (Q .non)
def sp_E_finish (K : PySem.W.Frag) (L : LA) : Sp := fun vs H Q _ => ∃ (e : Addr) (A : EA) (t : S) (n : Nat), vs = [.ref e] ∧ EndAt L H e A t n ∧ Post L H e A [] (({ Sa72.afresh t with stage := .ending, clock := some (n % 2 ^ 32) } : S).command (0x43 + Sa72.PF) []) n (Q .non)
def sp_E_go_up (K : PySem.W.Frag) (L : LA) : Sp := fun vs H Q _ => ∃ (e : Addr) (A : EA) (t : S) (n : Nat), vs = [.ref e] ∧ EndAt L H e A t n ∧ Post L H e A [] { Sa72.afresh t with stage := .up } n (Q .non)
def sp_E_go_down (K : PySem.W.Frag) (L : LA) : Sp := fun vs H Q _ => ∃ (e : Addr) (A : EA) (t : S) (n : Nat), vs = [.ref e] ∧ EndAt L H e A t n ∧ Post L H e A [] (Sa72.downNow t) n (Q .non)
def sp_E_own_state (K : PySem.W.Frag) (L : LA) : Sp := fun vs H Q _ => ∃ (e : Addr) (A : EA) (t : S) (n : Nat) (z : Int), vs = [.ref e, .int z] ∧ EndAt L H e A t n ∧ Q (.int ((Sa72.own t : Nat) + 16 * z)) H
def sp_E_tell_state (K : PySem.W.Frag) (L : LA) : Sp := fun vs H Q _ => ∃ (e : Addr) (A : EA) (t : S) (n b : Nat) (z : Int), vs = [.ref e, .int z] ∧ z = (b : Int) ∧ b ≤ 1 ∧ t.r < 8 ∧ EndAt L H e A t n ∧ Post L H e A [] (t.answer (Sa72.own t + b * Sa72.PF) []) n (Q .non)
def sp_E_ask_again (K : PySem.W.Frag) (L : LA) : Sp := fun vs H Q _ => ∃ (e : Addr) (A : EA) (t : S) (n b : Nat) (z : Int), vs = [.ref e, .int z] ∧ z = (b : Int) ∧ b ≤ 1 ∧ t.r < 8 ∧ EndAt L H e A t n ∧ Post L H e A [] (({ t with asked := true } : S).answer (9 + 32 * t.r + b * Sa72.PF) []) n (Q .non)
def sp_E_many_out (K : PySem.W.Frag) (L : LA) : Sp := fun vs H Q _ => ∃ (e : Addr) (A : EA) (t : S) (n : Nat), vs = [.ref e] ∧ EndAt L H e A t n ∧ Q (.int ((t.sent.length + t.waits.length : Nat) : Int)) H
def sp_E_may_go_out (K : PySem.W.Frag) (L : LA) : Sp := fun vs H Q _ => ∃ (e : Addr) (A : EA) (t : S) (n : Nat), vs = [.ref e] ∧ EndAt L H e A t n ∧ t.a < 8 ∧ Q (.bl (mayGo t)) H
def sp_E_go_out (K : PySem.W.Frag) (L : LA) : Sp := fun vs H Q _ => ∃ (e : Addr) (A : EA) (t : S) (n : Nat), vs = [.ref e] ∧ EndAt L H e A t n ∧ Ok t ∧ Post L H e A [] (Sa72.onward t n) n (Q .non)
def sp_E_can_be_answered (K : PySem.W.Frag) (L : LA) : Sp := fun vs H Q _ => ∃ (e : Addr) (A : EA) (t : S) (n k : Nat) (z : Int), vs = [.ref e, .int z] ∧ z = (k : Int) ∧ t.a < 8 ∧ EndAt L H e A t n ∧ Q (.bl (decide ((k + 8 - t.a) % 8 ≤ t.sent.length))) H
def sp_E_answered_up_to (K : PySem.W.Frag) (L : LA) : Sp := fun vs H Q _ => ∃ (e : Addr) (A : EA) (t t' : S) (n k : Nat) (z : Int), vs = [.ref e, .int z] ∧ z = (k : Int) ∧ k < 8 ∧ t.a < 8 ∧ t.s < 8 ∧ t.sent.length ≤ 100 ∧ Sa72.answered t k n = some t' ∧ EndAt L H e A t n ∧ Post L H e A [] t' n (Q .non)
def sp_E_say_wrong (K : PySem.W.Frag) (L : LA) : Sp := fun vs H Q _ => ∃ (e : Addr) (A : EA) (t : S) (n b : Nat) (z : Int), vs = [.ref e, .int z] ∧ z = (b : Int) ∧ b ≤ 1 ∧ (t.wrong.length ≤ 3 ∧ B8 t.wrong) ∧ EndAt L H e A t n ∧ Post L H e A [] (t.answer (0x87 + b * Sa72.PF) t.wrong) n (Q .non)
def sp_E_get_stuck (K : PySem.W.Frag) (L : LA) : Sp := fun vs H Q _ => ∃ (e : Addr) (A : EA) (t : S) (n c y : Nat) (z1 z2 z3 : Int), vs = [.ref e, .int z1, .int z2, .int z3] ∧ (z1 = (c : Int) ∧ z2 = (Sa72.pf c : Nat) ∧ z3 = (y : Int)) ∧ c < 256 ∧ y < 256 ∧ t.s < 8 ∧ t.r < 8 ∧ EndAt L H e A t n ∧ Post L H e A [] (Sa72.refuse t c y) n (Q .non)
def sp_E_is_out (K : PySem.W.Frag) (L : LA) : Sp := fun vs H Q _ => ∃ (e : Addr) (A : EA) (t : S) (n : Nat), vs = [.ref e] ∧ EndAt L H e A t n ∧ (∀ c, t.clock = some c → c < 2 ^ 32) ∧ Q (.bl (Sa72.late t n)) H
def sp_E_see_to_clock (K : PySem.W.Frag) (L : LA) : Sp := fun vs H Q _ => ∃ (e : Addr) (A : EA) (t : S) (n : Nat), vs = [.ref e] ∧ EndAt L H e A t n ∧ Ok t ∧ Post L H e A [] (Sa72.tick t n) n (Q .non)
/-! ### what's done with frames that come -/
def sp_d_hear_hello (K : PySem.W.Frag) (L : LA) : Sp := fun vs H Q _ => ∃ (e : Addr) (A : EA) (t : S) (n b : Nat) (z : Int), vs = [.ref e, .int z] ∧ z = (b : Int) ∧ b ≤ 1 ∧ EndAt L H e A t n ∧ Post L H e A [] (mHello t b) n (Q .non)
def sp_d_hear_finish (K : PySem.W.Frag) (L : LA) : Sp := fun vs H Q _ => ∃ (e : Addr) (A : EA) (t : S) (n b : Nat) (z : Int), vs = [.ref e, .int z] ∧ z = (b : Int) ∧ b ≤ 1 ∧ EndAt L H e A t n ∧ Post L H e A [] (mFinish t b) n (Q .non)
def sp_d_hear_awaited (K : PySem.W.Frag) (L : LA) : Sp := fun vs H Q _ => ∃ (e f la : Addr) (A : EA) (t : S) (n c : Nat) (ic : Bool) (load : List Nat), vs = [.ref e, .ref f] ∧ FrO L H f la ic c load ∧ f ∉ Own e A ∧ la ∉ Own e A ∧ c < 256 ∧ Ok t ∧ EndAt L H e A t n ∧
  (Sa72.answered t (Sa72.next c) n = none → Post L H e A [] (Sa72.refuse t c 8) n (Q (.bl false))) ∧ (∀ t', Sa72.answered t (Sa72.next c) n = some t' → Post L H e A [] t' n (Q (.bl true)))
def sp_d_hear_numbered (K : PySem.W.Frag) (L : LA) : Sp := fun vs H Q _ => ∃ (e f la : Addr) (A : EA) (t : S) (n c : Nat) (ic : Bool) (load : List Nat), vs = [.ref e, .ref f] ∧ FrO L H f la ic c load ∧ f ∉ Own e A ∧ la ∉ Own e A ∧ c < 256 ∧ Ok t ∧ EndAt L H e A t n ∧ Post L H e A [la] (mNumbered t c load n) n (Q .non)
def sp_d_hear_state (K : PySem.W.Frag) (L : LA) : Sp := fun vs H Q _ => ∃ (e f la : Addr) (A : EA) (t : S) (n c : Nat) (ic : Bool) (load : List Nat), vs = [.ref e, .ref f] ∧ FrO L H f la ic c load ∧ f ∉ Own e A ∧ la ∉ Own e A ∧ c < 256 ∧ Ok t ∧ t.stage = .up ∧ (c % 16 = 1 ∨ c % 16 = 5 ∨ c % 16 = 9) ∧ EndAt L H e A t n ∧ Post L H e A [] (mState ic t c n) n (Q .non)
def sp_d_hear_command (K : PySem.W.Frag) (L : LA) : Sp := fun vs H Q _ => ∃ (e f la : Addr) (A : EA) (t : S) (n c : Nat) (load : List Nat), vs = [.ref e, .ref f] ∧ FrO L H f la true c load ∧ f ∉ Own e A ∧ la ∉ Own e A ∧ c < 256 ∧ Ok t ∧ EndAt L H e A t n ∧ Post L H e A [la] (Sa72.commanded t c load n) n (Q .non)
def sp_d_hear_yes (K : PySem.W.Frag) (L : LA) : Sp := fun vs H Q _ => ∃ (e : Addr) (A : EA) (t : S) (n : Nat), vs = [.ref e] ∧ EndAt L H e A t n ∧ Post L H e A [] (mYes t) n (Q .non)
def sp_d_hear_answer (K : PySem.W.Frag) (L : LA) : Sp := fun vs H Q _ => ∃ (e f la : Addr) (A : EA) (t : S) (n c : Nat) (load : List Nat), vs = [.ref e, .ref f] ∧ FrO L H f la false c load ∧ f ∉ Own e A ∧ la ∉ Own e A ∧ c < 256 ∧ Ok t ∧ EndAt L H e A t n ∧ Post L H e A [] (Sa72.answering t c load n) n (Q .non)
def sp_d_hear (K : PySem.W.Frag) (L : LA) : Sp := fun vs H Q _ => ∃ (e ra : Addr) (A : EA) (t : S) (n : Nat) (row : List Nat), vs = [.ref e, .ref ra] ∧ H ra = some (.lst (nts row)) ∧ ra ∉ Own e A ∧ 2 ≤ row.length ∧ row.length ≤ 1026 ∧ B8 row ∧ Ok t ∧ EndAt L H e A t n ∧ Post L H e A [] (Sa72.frame t row n) n (Q .non)
def sp_d_take_bits (K : PySem.W.Frag) (L : LA) : Sp := fun vs H Q _ => ∃ (e ra : Addr) (A : EA) (t : S) (n : Nat) (row : List Nat), vs = [.ref e, .ref ra] ∧ H ra = some (.lst (nts row)) ∧ ra ∉ Own e A ∧ B1 row ∧ Ok t ∧ EndAt L H e A t n ∧ Post L H e A [] (Sa72.feed row t n) n (Q .non)
/-! ### calls -/
def sp_X_init (K : PySem.W.Frag) (L : LA) : Sp := fun vs H Q _ => ∃ (a : Addr) (n : Int), vs = [.ref a, .int n] ∧ H a = some (exo a L.CX none) ∧ ∀ dx, H dx = none → dx ≠ a → Q .non (upd (upd H dx (exd dx [("number", .int n)])) a (exo a L.CX (some dx)))
def sp_d_ask (K : PySem.W.Frag) (L : LA) : Sp := fun vs H Q E => ∃ (g : Bool) (n : Int), vs = [.bl g, .int n] ∧ (g = true → Q .non H) ∧ (g = false → ErrP L H n E)
def okBegin (sd w p n : Int) : Bool := Sa72.within sd 0 1 && (Sa72.within w 1 7 && (decide (1 ≤ p) && Sa72.within n 1 100))
def sp_d_begun (K : PySem.W.Frag) (L : LA) : Sp := fun vs H Q E => ∃ (a : Addr) (sd w p n : Int), vs = [.ref a] ∧ H a = some (.lst [.int sd, .int w, .int p, .int n]) ∧ (okBegin sd w p n = false → ErrP L H (-2) E) ∧
  (okBegin sd w p n = true → ∀ H' x A, EndAt L H' x A (Sa72.begun sd.toNat w.toNat p.toNat n.toNat) 0 → Same H H' → (∀ b ∈ Foot x A, H b = none) → Q (.ref x) H')
def sp_d_connect (K : PySem.W.Frag) (L : LA) : Sp := fun vs H Q E => ∃ (e : Addr) (A : EA) (t : S) (n now : Nat), vs = [.ref e, .int (now : Int)] ∧ now < 2 ^ 32 ∧ Ok t ∧ EndAt L H e A t n ∧ CallP L H e A [] t (.connect now) Q E
def sp_d_finish (K : PySem.W.Frag) (L : LA) : Sp := fun vs H Q E => ∃ (e : Addr) (A : EA) (t : S) (n now : Nat), vs = [.ref e, .int (now : Int)] ∧ now < 2 ^ 32 ∧ Ok t ∧ EndAt L H e A t n ∧ CallP L H e A [] t (.end_ now) Q E
def sp_d_send (K : PySem.W.Frag) (L : LA) : Sp := fun vs H Q E => ∃ (e ra : Addr) (A : EA) (t : S) (n now : Nat) (row : List Nat), vs = [.ref e, .int (now : Int), .ref ra] ∧ H ra = some (.lst (nts row)) ∧ ra ∉ Own e A ∧ B8 row ∧ now < 2 ^ 32 ∧ Ok t ∧ EndAt L H e A t n ∧ CallP L H e A [ra] t (.send row row.length now) Q E
def sp_d_bits (K : PySem.W.Frag) (L : LA) : Sp := fun vs H Q E => ∃ (e ra : Addr) (A : EA) (t : S) (n now : Nat) (m : Int) (row : List Nat), vs = [.ref e, .int m, .int (now : Int), .ref ra] ∧ H ra = some (.lst (nts row)) ∧ ra ∉ Own e A ∧ row.length ≤ 30000 ∧ now < 2 ^ 32 ∧ Ok t ∧ EndAt L H e A t n ∧ CallP L H e A [] t (.bits row m now) Q E
def sp_d_tick (K : PySem.W.Frag) (L : LA) : Sp := fun vs H Q _ => ∃ (e : Addr) (A : EA) (t : S) (n now : Nat), vs = [.ref e, .int (now : Int)] ∧ now < 2 ^ 32 ∧ Ok t ∧ EndAt L H e A t n ∧ PostR L H e A [] (Sa72.tick t now) [0] Q
def sp_d_output (K : PySem.W.Frag) (L : LA) : Sp := fun vs H Q E => ∃ (e : Addr) (A : EA) (t : S) (n : Nat) (m : Int), vs = [.ref e, .int m] ∧ Ok t ∧ EndAt L H e A t n ∧ CallP L H e A [] t (.output m) Q E
def sp_d_take (K : PySem.W.Frag) (L : LA) : Sp := fun vs H Q E => ∃ (e : Addr) (A : EA) (t : S) (n : Nat) (m : Int), vs = [.ref e, .int m] ∧ Ok t ∧ EndAt L H e A t n ∧ CallP L H e A [] t (.take m) Q E
def sp_d_told (K : PySem.W.Frag) (L : LA) : Sp := fun vs H Q _ => ∃ (e : Addr) (A : EA) (t : S) (n : Nat), vs = [.ref e] ∧ EndAt L H e A t n ∧ PostR L H e A [] t (ansOf (Sa72.does (some t) .told).2) Q
def sp_d_answer_of (K : PySem.W.Frag) (L : LA) : Sp := fun vs H Q E => ∃ (e a ra : Addr) (A : EA) (t : S) (n : Nat) (c : Int) (xs : List Int) (row : List Nat) (x : Sa72.Call), vs = [.ref e, .int c, .ref a, .ref ra] ∧ H a = some (.lst (zts xs)) ∧ H ra = some (.lst (nts row)) ∧ ra ∉ Own e A ∧ B8 row ∧ row.length ≤ 30000 ∧ CallIs row c xs x ∧ Ok t ∧ EndAt L H e A t n ∧ CallP L H e A [ra] t x Q E
def sp_d_answer_to (K : PySem.W.Frag) (L : LA) : Sp := fun vs H Q E => ∃ (ae a ra : Addr) (F O : List Addr) (c : Int) (xs : List Int) (row : List Nat) (x : Int × Sa72.Call) (s : Option S × Option S), vs = [.ref ae, .int c, .ref a, .ref ra] ∧ H a = some (.lst (zts xs)) ∧ H ra = some (.lst (nts row)) ∧ ra ∉ F ∧ ra ≠ ae ∧ B8 row ∧ row.length ≤ 30000 ∧ StepIs row c xs x ∧ Two L H ae F O s ∧
  ((stepOf s x).2.v < 0 → ErrP L H (stepOf s x).2.v E) ∧ (0 ≤ (stepOf s x).2.v → PostT L H ae F O [ra] (stepOf s x).1 (ansOf (stepOf s x).2) Q)
def sp_d_answered (K : PySem.W.Frag) (L : LA) : Sp := fun vs H Q _ => ∃ (ae a ra : Addr) (F O : List Addr) (c : Int) (xs : List Int) (row : List Nat) (x : Int × Sa72.Call) (s : Option S × Option S), vs = [.ref ae, .int c, .ref a, .ref ra] ∧ H a = some (.lst (zts xs)) ∧ H ra = some (.lst (nts row)) ∧ ra ∉ F ∧ ra ≠ ae ∧ B8 row ∧ row.length ≤ 30000 ∧ StepIs row c xs x ∧ Two L H ae F O s ∧
  PostT L H ae F O [ra] (stepOf s x).1 (ansOf (stepOf s x).2) Q
def sp_d_answers (K : PySem.W.Frag) (L : LA) : Sp := fun vs H Q _ => ∃ (a : Addr) (ns : List Int), vs = [.ref a] ∧ SqL K H a (zts ns) ∧ OnlyF H ∧ PySa72.answers_asked ns = true ∧ ns.length ≤ 30000 ∧ ∀ (H' : Hp) (p : Addr), H' p = some (.lst (zts (PySa72.answers ns))) → Q (.ref p) H'
theorem len_F_init {K : PySem.W.Frag} {L : LA} {vs : List V} {H : Hp} {Q : VK} {E : XK} (h : sp_F_init K L vs H Q E) : vs.length = 4 := by
  obtain ⟨_, _, _, _, _, rfl, _⟩ := h
  rfl
theorem len_F_kind {K : PySem.W.Frag} {L : LA} {vs : List V} {H : Hp} {Q : VK} {E : XK} (h : sp_F_kind K L vs H Q E) : vs.length = 1 := by
  obtain ⟨_, _, _, _, _, rfl, _⟩ := h
  rfl
theorem len_F_bit {K : PySem.W.Frag} {L : LA} {vs : List V} {H : Hp} {Q : VK} {E : XK} (h : sp_F_bit K L vs H Q E) : vs.length = 1 := by
  obtain ⟨_, _, _, _, _, rfl, _⟩ := h
  rfl
theorem len_F_own_number {K : PySem.W.Frag} {L : LA} {vs : List V} {H : Hp} {Q : VK} {E : XK} (h : sp_F_own_number K L vs H Q E) : vs.length = 1 := by
  obtain ⟨_, _, _, _, _, rfl, _⟩ := h
  rfl
theorem len_F_awaited {K : PySem.W.Frag} {L : LA} {vs : List V} {H : Hp} {Q : VK} {E : XK} (h : sp_F_awaited K L vs H Q E) : vs.length = 1 := by
  obtain ⟨_, _, _, _, _, rfl, _⟩ := h
  rfl
theorem len_F_fault {K : PySem.W.Frag} {L : LA} {vs : List V} {H : Hp} {Q : VK} {E : XK} (h : sp_F_fault K L vs H Q E) : vs.length = 1 := by
  obtain ⟨_, _, _, _, _, rfl, _⟩ := h
  rfl
theorem len_d_numbered_control {K : PySem.W.Frag} {L : LA} {vs : List V} {H : Hp} {Q : VK} {E : XK} (h : sp_d_numbered_control K L vs H Q E) : vs.length = 2 := by
  obtain ⟨_, _, rfl, _⟩ := h
  rfl
theorem len_d_state_control {K : PySem.W.Frag} {L : LA} {vs : List V} {H : Hp} {Q : VK} {E : XK} (h : sp_d_state_control K L vs H Q E) : vs.length = 3 := by
  obtain ⟨_, _, _, rfl, _⟩ := h
  rfl
theorem len_d_bits_of {K : PySem.W.Frag} {L : LA} {vs : List V} {H : Hp} {Q : VK} {E : XK} (h : sp_d_bits_of K L vs H Q E) : vs.length = 1 := by
  obtain ⟨_, _, rfl, _⟩ := h
  rfl
theorem len_d_bytes_of {K : PySem.W.Frag} {L : LA} {vs : List V} {H : Hp} {Q : VK} {E : XK} (h : sp_d_bytes_of K L vs H Q E) : vs.length = 1 := by
  obtain ⟨_, _, rfl, _⟩ := h
  rfl
theorem len_d_sum_of {K : PySem.W.Frag} {L : LA} {vs : List V} {H : Hp} {Q : VK} {E : XK} (h : sp_d_sum_of K L vs H Q E) : vs.length = 1 := by
  obtain ⟨_, _, rfl, _⟩ := h
  rfl
theorem len_d_with_noughts {K : PySem.W.Frag} {L : LA} {vs : List V} {H : Hp} {Q : VK} {E : XK} (h : sp_d_with_noughts K L vs H Q E) : vs.length = 1 := by
  obtain ⟨_, _, rfl, _⟩ := h
  rfl
theorem len_d_frame_bits {K : PySem.W.Frag} {L : LA} {vs : List V} {H : Hp} {Q : VK} {E : XK} (h : sp_d_frame_bits K L vs H Q E) : vs.length = 1 := by
  obtain ⟨_, _, rfl, _⟩ := h
  rfl
theorem len_I_init {K : PySem.W.Frag} {L : LA} {vs : List V} {H : Hp} {Q : VK} {E : XK} (h : sp_I_init K L vs H Q E) : vs.length = 1 := by
  obtain ⟨_, _, rfl, _⟩ := h
  rfl
theorem len_I_lose {K : PySem.W.Frag} {L : LA} {vs : List V} {H : Hp} {Q : VK} {E : XK} (h : sp_I_lose K L vs H Q E) : vs.length = 1 := by
  obtain ⟨_, _, _, _, rfl, _⟩ := h
  rfl
theorem len_I_keep {K : PySem.W.Frag} {L : LA} {vs : List V} {H : Hp} {Q : VK} {E : XK} (h : sp_I_keep K L vs H Q E) : vs.length = 2 := by
  obtain ⟨_, _, _, _, _, _, rfl, _⟩ := h
  rfl
theorem len_I_whole {K : PySem.W.Frag} {L : LA} {vs : List V} {H : Hp} {Q : VK} {E : XK} (h : sp_I_whole K L vs H Q E) : vs.length = 1 := by
  obtain ⟨_, _, _, _, rfl, _⟩ := h
  rfl
theorem len_I_take {K : PySem.W.Frag} {L : LA} {vs : List V} {H : Hp} {Q : VK} {E : XK} (h : sp_I_take K L vs H Q E) : vs.length = 2 := by
  obtain ⟨_, _, _, _, _, _, rfl, _⟩ := h
  rfl
theorem len_W_init {K : PySem.W.Frag} {L : LA} {vs : List V} {H : Hp} {Q : VK} {E : XK} (h : sp_W_init K L vs H Q E) : vs.length = 1 := by
  obtain ⟨_, _, rfl, _⟩ := h
  rfl
theorem len_W_put {K : PySem.W.Frag} {L : LA} {vs : List V} {H : Hp} {Q : VK} {E : XK} (h : sp_W_put K L vs H Q E) : vs.length = 2 := by
  obtain ⟨_, _, _, _, _, _, rfl, _⟩ := h
  rfl
theorem len_W_take {K : PySem.W.Frag} {L : LA} {vs : List V} {H : Hp} {Q : VK} {E : XK} (h : sp_W_take K L vs H Q E) : vs.length = 2 := by
  obtain ⟨_, _, _, _, _, _, rfl, _⟩ := h
  rfl
theorem len_E_afresh {K : PySem.W.Frag} {L : LA} {vs : List V} {H : Hp} {Q : VK} {E : XK} (h : sp_E_afresh K L vs H Q E) : vs.length = 1 := by
  obtain ⟨_, _, _, rfl, _⟩ := h
  rfl
theorem len_E_init {K : PySem.W.Frag} {L : LA} {vs : List V} {H : Hp} {Q : VK} {E : XK} (h : sp_E_init K L vs H Q E) : vs.length = 5 := by
  obtain ⟨_, _, _, _, _, _, _, _, _, _, rfl, _⟩ := h
  rfl
theorem len_E_command {K : PySem.W.Frag} {L : LA} {vs : List V} {H : Hp} {Q : VK} {E : XK} (h : sp_E_command K L vs H Q E) : vs.length = 3 := by
  obtain ⟨_, _, _, _, _, _, _, _, rfl, _⟩ := h
  rfl
theorem len_E_answer {K : PySem.W.Frag} {L : LA} {vs : List V} {H : Hp} {Q : VK} {E : XK} (h : sp_E_answer K L vs H Q E) : vs.length = 3 := by
  obtain ⟨_, _, _, _, _, _, _, _, rfl, _⟩ := h
  rfl
theorem len_E_run_clock {K : PySem.W.Frag} {L : LA} {vs : List V} {H : Hp} {Q : VK} {E : XK} (h : sp_E_run_clock K L vs H Q E) : vs.length = 1 := by
  obtain ⟨_, _, _, _, rfl, _⟩ := h
  rfl
theorem len_E_greet {K : PySem.W.Frag} {L : LA} {vs : List V} {H : Hp} {Q : VK} {E : XK} (h : sp_E_greet K L vs H Q E) : vs.length = 1 := by
  obtain ⟨_, _, _, _, rfl, _⟩ := h
  rfl
theorem len_E_finish {K : PySem.W.Frag} {L : LA} {vs : List V} {H : Hp} {Q : VK} {E : XK} (h : sp_E_finish K L vs H Q E) : vs.length = 1 := by
  obtain ⟨_, _, _, _, rfl, _⟩ := h
  rfl
theorem len_E_go_up {K : PySem.W.Frag} {L : LA} {vs : List V} {H : Hp} {Q : VK} {E : XK} (h : sp_E_go_up K L vs H Q E) : vs.length = 1 := by
  obtain ⟨_, _, _, _, rfl, _⟩ := h
  rfl
theorem len_E_go_down {K : PySem.W.Frag} {L : LA} {vs : List V} {H : Hp} {Q : VK} {E : XK} (h : sp_E_go_down K L vs H Q E) : vs.length = 1 := by
  obtain ⟨_, _, _, _, rfl, _⟩ := h
  rfl
theorem len_E_own_state {K : PySem.W.Frag} {L : LA} {vs : List V} {H : Hp} {Q : VK} {E : XK} (h : sp_E_own_state K L vs H Q E) : vs.length = 2 := by
  obtain ⟨_, _, _, _, _, rfl, _⟩ := h
  rfl
theorem len_E_tell_state {K : PySem.W.Frag} {L : LA} {vs : List V} {H : Hp} {Q : VK} {E : XK} (h : sp_E_tell_state K L vs H Q E) : vs.length = 2 := by
  obtain ⟨_, _, _, _, _, _, rfl, _⟩ := h
  rfl
theorem len_E_ask_again {K : PySem.W.Frag} {L : LA} {vs : List V} {H : Hp} {Q : VK} {E : XK} (h : sp_E_ask_again K L vs H Q E) : vs.length = 2 := by
  obtain ⟨_, _, _, _, _, _, rfl, _⟩ := h
  rfl
theorem len_E_many_out {K : PySem.W.Frag} {L : LA} {vs : List V} {H : Hp} {Q : VK} {E : XK} (h : sp_E_many_out K L vs H Q E) : vs.length = 1 := by
  obtain ⟨_, _, _, _, rfl, _⟩ := h
  rfl
theorem len_E_may_go_out {K : PySem.W.Frag} {L : LA} {vs : List V} {H : Hp} {Q : VK} {E : XK} (h : sp_E_may_go_out K L vs H Q E) : vs.length = 1 := by
  obtain ⟨_, _, _, _, rfl, _⟩ := h
  rfl
theorem len_E_go_out {K : PySem.W.Frag} {L : LA} {vs : List V} {H : Hp} {Q : VK} {E : XK} (h : sp_E_go_out K L vs H Q E) : vs.length = 1 := by
  obtain ⟨_, _, _, _, rfl, _⟩ := h
  rfl
theorem len_E_can_be_answered {K : PySem.W.Frag} {L : LA} {vs : List V} {H : Hp} {Q : VK} {E : XK} (h : sp_E_can_be_answered K L vs H Q E) : vs.length = 2 := by
  obtain ⟨_, _, _, _, _, _, rfl, _⟩ := h
  rfl
theorem len_E_answered_up_to {K : PySem.W.Frag} {L : LA} {vs : List V} {H : Hp} {Q : VK} {E : XK} (h : sp_E_answered_up_to K L vs H Q E) : vs.length = 2 := by
  obtain ⟨_, _, _, _, _, _, _, rfl, _⟩ := h
  rfl
theorem len_E_say_wrong {K : PySem.W.Frag} {L : LA} {vs : List V} {H : Hp} {Q : VK} {E : XK} (h : sp_E_say_wrong K L vs H Q E) : vs.length = 2 := by
  obtain ⟨_, _, _, _, _, _, rfl, _⟩ := h
  rfl
theorem len_E_get_stuck {K : PySem.W.Frag} {L : LA} {vs : List V} {H : Hp} {Q : VK} {E : XK} (h : sp_E_get_stuck K L vs H Q E) : vs.length = 4 := by
  obtain ⟨_, _, _, _, _, _, _, _, _, rfl, _⟩ := h
  rfl
theorem len_E_is_out {K : PySem.W.Frag} {L : LA} {vs : List V} {H : Hp} {Q : VK} {E : XK} (h : sp_E_is_out K L vs H Q E) : vs.length = 1 := by
  obtain ⟨_, _, _, _, rfl, _⟩ := h
  rfl
theorem len_E_see_to_clock {K : PySem.W.Frag} {L : LA} {vs : List V} {H : Hp} {Q : VK} {E : XK} (h : sp_E_see_to_clock K L vs H Q E) : vs.length = 1 := by
  obtain ⟨_, _, _, _, rfl, _⟩ := h
  rfl
theorem len_d_hear_hello {K : PySem.W.Frag} {L : LA} {vs : List V} {H : Hp} {Q : VK} {E : XK} (h : sp_d_hear_hello K L vs H Q E) : vs.length = 2 := by
  obtain ⟨_, _, _, _, _, _, rfl, _⟩ := h
  rfl
theorem len_d_hear_finish {K : PySem.W.Frag} {L : LA} {vs : List V} {H : Hp} {Q : VK} {E : XK} (h : sp_d_hear_finish K L vs H Q E) : vs.length = 2 := by
  obtain ⟨_, _, _, _, _, _, rfl, _⟩ := h
  rfl
theorem len_d_hear_awaited {K : PySem.W.Frag} {L : LA} {vs : List V} {H : Hp} {Q : VK} {E : XK} (h : sp_d_hear_awaited K L vs H Q E) : vs.length = 2 := by
  obtain ⟨_, _, _, _, _, _, _, _, _, rfl, _⟩ := h
  rfl
theorem len_d_hear_numbered {K : PySem.W.Frag} {L : LA} {vs : List V} {H : Hp} {Q : VK} {E : XK} (h : sp_d_hear_numbered K L vs H Q E) : vs.length = 2 := by
  obtain ⟨_, _, _, _, _, _, _, _, _, rfl, _⟩ := h
  rfl
theorem len_d_hear_state {K : PySem.W.Frag} {L : LA} {vs : List V} {H : Hp} {Q : VK} {E : XK} (h : sp_d_hear_state K L vs H Q E) : vs.length = 2 := by
  obtain ⟨_, _, _, _, _, _, _, _, _, rfl, _⟩ := h
  rfl
theorem len_d_hear_command {K : PySem.W.Frag} {L : LA} {vs : List V} {H : Hp} {Q : VK} {E : XK} (h : sp_d_hear_command K L vs H Q E) : vs.length = 2 := by
  obtain ⟨_, _, _, _, _, _, _, _, rfl, _⟩ := h
  rfl
theorem len_d_hear_yes {K : PySem.W.Frag} {L : LA} {vs : List V} {H : Hp} {Q : VK} {E : XK} (h : sp_d_hear_yes K L vs H Q E) : vs.length = 1 := by
  obtain ⟨_, _, _, _, rfl, _⟩ := h
  rfl
theorem len_d_hear_answer {K : PySem.W.Frag} {L : LA} {vs : List V} {H : Hp} {Q : VK} {E : XK} (h : sp_d_hear_answer K L vs H Q E) : vs.length = 2 := by
  obtain ⟨_, _, _, _, _, _, _, _, rfl, _⟩ := h
  rfl
theorem len_d_hear {K : PySem.W.Frag} {L : LA} {vs : List V} {H : Hp} {Q : VK} {E : XK} (h : sp_d_hear K L vs H Q E) : vs.length = 2 := by
  obtain ⟨_, _, _, _, _, _, rfl, _⟩ := h
  rfl
theorem len_d_take_bits {K : PySem.W.Frag} {L : LA} {vs : List V} {H : Hp} {Q : VK} {E : XK} (h : sp_d_take_bits K L vs H Q E) : vs.length = 2 := by
  obtain ⟨_, _, _, _, _, _, rfl, _⟩ := h
  rfl
theorem len_X_init {K : PySem.W.Frag} {L : LA} {vs : List V} {H : Hp} {Q : VK} {E : XK} (h : sp_X_init K L vs H Q E) : vs.length = 2 := by
  obtain ⟨_, _, rfl, _⟩ := h
  rfl
theorem len_d_ask {K : PySem.W.Frag} {L : LA} {vs : List V} {H : Hp} {Q : VK} {E : XK} (h : sp_d_ask K L vs H Q E) : vs.length = 2 := by
  obtain ⟨_, _, rfl, _⟩ := h
  rfl
theorem len_d_begun {K : PySem.W.Frag} {L : LA} {vs : List V} {H : Hp} {Q : VK} {E : XK} (h : sp_d_begun K L vs H Q E) : vs.length = 1 := by
  obtain ⟨_, _, _, _, _, rfl, _⟩ := h
  rfl
theorem len_d_connect {K : PySem.W.Frag} {L : LA} {vs : List V} {H : Hp} {Q : VK} {E : XK} (h : sp_d_connect K L vs H Q E) : vs.length = 2 := by
  obtain ⟨_, _, _, _, _, rfl, _⟩ := h
  rfl
theorem len_d_finish {K : PySem.W.Frag} {L : LA} {vs : List V} {H : Hp} {Q : VK} {E : XK} (h : sp_d_finish K L vs H Q E) : vs.length = 2 := by
  obtain ⟨_, _, _, _, _, rfl, _⟩ := h
  rfl
theorem len_d_send {K : PySem.W.Frag} {L : LA} {vs : List V} {H : Hp} {Q : VK} {E : XK} (h : sp_d_send K L vs H Q E) : vs.length = 3 := by
  obtain ⟨_, _, _, _, _, _, _, rfl, _⟩ := h
  rfl
theorem len_d_bits {K : PySem.W.Frag} {L : LA} {vs : List V} {H : Hp} {Q : VK} {E : XK} (h : sp_d_bits K L vs H Q E) : vs.length = 4 := by
  obtain ⟨_, _, _, _, _, _, _, _, rfl, _⟩ := h
  rfl
theorem len_d_tick {K : PySem.W.Frag} {L : LA} {vs : List V} {H : Hp} {Q : VK} {E : XK} (h : sp_d_tick K L vs H Q E) : vs.length = 2 := by
  obtain ⟨_, _, _, _, _, rfl, _⟩ := h
  rfl
theorem len_d_output {K : PySem.W.Frag} {L : LA} {vs : List V} {H : Hp} {Q : VK} {E : XK} (h : sp_d_output K L vs H Q E) : vs.length = 2 := by
  obtain ⟨_, _, _, _, _, rfl, _⟩ := h
  rfl
theorem len_d_take {K : PySem.W.Frag} {L : LA} {vs : List V} {H : Hp} {Q : VK} {E : XK} (h : sp_d_take K L vs H Q E) : vs.length = 2 := by
  obtain ⟨_, _, _, _, _, rfl, _⟩ := h
  rfl
theorem len_d_told {K : PySem.W.Frag} {L : LA} {vs : List V} {H : Hp} {Q : VK} {E : XK} (h : sp_d_told K L vs H Q E) : vs.length = 1 := by
  obtain ⟨_, _, _, _, rfl, _⟩ := h
  rfl
theorem len_d_answer_of {K : PySem.W.Frag} {L : LA} {vs : List V} {H : Hp} {Q : VK} {E : XK} (h : sp_d_answer_of K L vs H Q E) : vs.length = 4 := by
  obtain ⟨_, _, _, _, _, _, _, _, _, _, rfl, _⟩ := h
  rfl
theorem len_d_answer_to {K : PySem.W.Frag} {L : LA} {vs : List V} {H : Hp} {Q : VK} {E : XK} (h : sp_d_answer_to K L vs H Q E) : vs.length = 4 := by
  obtain ⟨_, _, _, _, _, _, _, _, _, _, rfl, _⟩ := h
  rfl
theorem len_d_answered {K : PySem.W.Frag} {L : LA} {vs : List V} {H : Hp} {Q : VK} {E : XK} (h : sp_d_answered K L vs H Q E) : vs.length = 4 := by
  obtain ⟨_, _, _, _, _, _, _, _, _, _, rfl, _⟩ := h
  rfl
theorem len_d_answers {K : PySem.W.Frag} {L : LA} {vs : List V} {H : Hp} {Q : VK} {E : XK} (h : sp_d_answers K L vs H Q E) : vs.length = 1 := by
  obtain ⟨_, _, rfl, _⟩ := h
  rfl
def top (i : Nat) : Stmt := PySem.Challenge.pw_linekept_s01_answers.main.body.getD i (.Pass ⟨0, 0, 0, 0⟩)
abbrev s_F_init : Stmt := inClass (top 24) 0
abbrev N_F_init : List Str := ["self", "is_command", "control", "load"]
abbrev s_F_kind : Stmt := inClass (top 24) 1
abbrev N_F_kind : List Str := ["self", "plain"]
abbrev s_F_bit : Stmt := inClass (top 24) 2
abbrev N_F_bit : List Str := ["self"]
abbrev s_F_own_number : Stmt := inClass (top 24) 3
abbrev N_F_own_number : List Str := ["self"]
abbrev s_F_awaited : Stmt := inClass (top 24) 4
abbrev N_F_awaited : List Str := ["self"]
abbrev s_F_fault : Stmt := inClass (top 24) 5
abbrev N_F_fault : List Str := ["self", "kind", "wanted"]
abbrev s_d_numbered_control : Stmt := top 25
abbrev N_d_numbered_control : List Str := ["number", "awaited"]
abbrev s_d_state_control : Stmt := top 26
abbrev N_d_state_control : List Str := ["kind", "bit", "awaited"]
abbrev s_d_bits_of : Stmt := top 36
abbrev N_d_bits_of : List Str := ["row", "found", "byte", "k"]
abbrev s_d_bytes_of : Stmt := top 37
abbrev N_d_bytes_of : List Str := ["bits", "found", "begin", "byte", "bit"]
abbrev s_d_sum_of : Stmt := top 38
abbrev N_d_sum_of : List Str := ["row", "number", "byte", "turn"]
abbrev s_d_with_noughts : Stmt := top 39
abbrev N_d_with_noughts : List Str := ["bits", "found", "ones", "bit"]
abbrev s_d_frame_bits : Stmt := top 40
abbrev N_d_frame_bits : List Str := ["row"]
abbrev s_I_init : Stmt := inClass (top 41) 0
abbrev N_I_init : List Str := ["self"]
abbrev s_I_lose : Stmt := inClass (top 41) 1
abbrev N_I_lose : List Str := ["self"]
abbrev s_I_keep : Stmt := inClass (top 41) 2
abbrev N_I_keep : List Str := ["self", "bit"]
abbrev s_I_whole : Stmt := inClass (top 41) 3
abbrev N_I_whole : List Str := ["self", "bits", "is_lost", "row"]
abbrev s_I_take : Stmt := inClass (top 41) 4
abbrev N_I_take : List Str := ["self", "bit", "ones"]
abbrev s_W_init : Stmt := inClass (top 42) 0
abbrev N_W_init : List Str := ["self"]
abbrev s_W_put : Stmt := inClass (top 42) 1
abbrev N_W_put : List Str := ["self", "row", "bits"]
abbrev s_W_take : Stmt := inClass (top 42) 2
abbrev N_W_take : List Str := ["self", "most", "some"]
abbrev s_E_init : Stmt := inClass (top 51) 0
abbrev N_E_init : List Str := ["self", "side", "window", "patience", "tries"]
abbrev s_E_afresh : Stmt := inClass (top 51) 1
abbrev N_E_afresh : List Str := ["self"]
abbrev s_E_command : Stmt := inClass (top 51) 2
abbrev N_E_command : List Str := ["self", "control", "load"]
abbrev s_E_answer : Stmt := inClass (top 51) 3
abbrev N_E_answer : List Str := ["self", "control", "load"]
abbrev s_E_run_clock : Stmt := inClass (top 51) 4
abbrev N_E_run_clock : List Str := ["self"]
abbrev s_E_greet : Stmt := inClass (top 51) 5
abbrev N_E_greet : List Str := ["self"]
abbrev s_E_finish : Stmt := inClass (top 51) 6
abbrev N_E_finish : List Str := ["self"]
abbrev s_E_go_up : Stmt := inClass (top 51) 7
abbrev N_E_go_up : List Str := ["self"]
abbrev s_E_go_down : Stmt := inClass (top 51) 8
abbrev N_E_go_down : List Str := ["self"]
abbrev s_E_own_state : Stmt := inClass (top 51) 9
abbrev N_E_own_state : List Str := ["self", "bit", "kind"]
abbrev s_E_tell_state : Stmt := inClass (top 51) 10
abbrev N_E_tell_state : List Str := ["self", "bit"]
abbrev s_E_ask_again : Stmt := inClass (top 51) 11
abbrev N_E_ask_again : List Str := ["self", "bit"]
abbrev s_E_many_out : Stmt := inClass (top 51) 12
abbrev N_E_many_out : List Str := ["self"]
abbrev s_E_may_go_out : Stmt := inClass (top 51) 13
abbrev N_E_may_go_out : List Str := ["self", "far"]
abbrev s_E_go_out : Stmt := inClass (top 51) 14
abbrev N_E_go_out : List Str := ["self", "far"]
abbrev s_E_can_be_answered : Stmt := inClass (top 51) 15
abbrev N_E_can_be_answered : List Str := ["self", "k"]
abbrev s_E_answered_up_to : Stmt := inClass (top 51) 16
abbrev N_E_answered_up_to : List Str := ["self", "k", "many"]
abbrev s_E_say_wrong : Stmt := inClass (top 51) 17
abbrev N_E_say_wrong : List Str := ["self", "bit"]
abbrev s_E_get_stuck : Stmt := inClass (top 51) 18
abbrev N_E_get_stuck : List Str := ["self", "control", "bit", "reason"]
abbrev s_E_is_out : Stmt := inClass (top 51) 19
abbrev N_E_is_out : List Str := ["self"]
abbrev s_E_see_to_clock : Stmt := inClass (top 51) 20
abbrev N_E_see_to_clock : List Str := ["self"]
abbrev s_d_hear_hello : Stmt := top 53
abbrev N_d_hear_hello : List Str := ["end", "bit"]
abbrev s_d_hear_finish : Stmt := top 54
abbrev N_d_hear_finish : List Str := ["end", "bit"]
abbrev s_d_hear_awaited : Stmt := top 55
abbrev N_d_hear_awaited : List Str := ["end", "frame"]
abbrev s_d_hear_numbered : Stmt := top 56
abbrev N_d_hear_numbered : List Str := ["end", "frame", "bit"]
abbrev s_d_hear_state : Stmt := top 57
abbrev N_d_hear_state : List Str := ["end", "frame", "answers_poll"]
abbrev s_d_hear_command : Stmt := top 58
abbrev N_d_hear_command : List Str := ["end", "frame", "fault"]
abbrev s_d_hear_yes : Stmt := top 59
abbrev N_d_hear_yes : List Str := ["end"]
abbrev s_d_hear_answer : Stmt := top 60
abbrev N_d_hear_answer : List Str := ["end", "frame", "fault", "kind"]
abbrev s_d_hear : Stmt := top 61
abbrev N_d_hear : List Str := ["end", "row"]
abbrev s_d_take_bits : Stmt := top 62
abbrev N_d_take_bits : List Str := ["end", "bits", "bit", "row"]
abbrev s_X_init : Stmt := inClass (top 73) 0
abbrev N_X_init : List Str := ["self", "number"]
abbrev s_d_ask : Stmt := top 74
abbrev N_d_ask : List Str := ["good", "number"]
abbrev s_d_begun : Stmt := top 75
abbrev N_d_begun : List Str := ["numbers", "side", "window", "patience", "tries"]
abbrev s_d_connect : Stmt := top 76
abbrev N_d_connect : List Str := ["end", "now"]
abbrev s_d_finish : Stmt := top 77
abbrev N_d_finish : List Str := ["end", "now"]
abbrev s_d_send : Stmt := top 78
abbrev N_d_send : List Str := ["end", "now", "row"]
abbrev s_d_bits : Stmt := top 79
abbrev N_d_bits : List Str := ["end", "n", "now", "row"]
abbrev s_d_tick : Stmt := top 80
abbrev N_d_tick : List Str := ["end", "now"]
abbrev s_d_output : Stmt := top 81
abbrev N_d_output : List Str := ["end", "most", "found"]
abbrev s_d_take : Stmt := top 82
abbrev N_d_take : List Str := ["end", "most", "found"]
abbrev s_d_told : Stmt := top 83
abbrev N_d_told : List Str := ["end"]
abbrev s_d_answer_of : Stmt := top 84
abbrev N_d_answer_of : List Str := ["end", "call", "numbers", "row"]
abbrev s_d_answer_to : Stmt := top 85
abbrev N_d_answer_to : List Str := ["ends", "call", "numbers", "row", "which"]
abbrev s_d_answered : Stmt := top 86
abbrev N_d_answered : List Str := ["ends", "call", "numbers", "row", "error"]
abbrev s_d_answers : Stmt := top 87
abbrev N_d_answers : List Str := ["calls", "ends", "found", "at", "call", "behind", "numbers", "row", "there"]
def tRaiseX (L : LA) (K : PySem.W.Frag) (W : WX) (ta : TA) : TS := fun _ σ H => tMkO L.CX (sp_X_init K L) [] ta σ H fun cls d H' => W cls d σ H'
/-- Frame.__init__ -/
def t_F_init (K : PySem.W.Frag) (L : LA) : TS :=
  (tSeq (sFld K (tVar 0) (tVar 1) "is_command")
    (tSeq (sFld K (tVar 0) (tVar 2) "control")
    (sFld K (tVar 0) (tVar 3) "load")))
/-- Frame.kind -/
def t_F_kind (K : PySem.W.Frag) (L : LA) : TS :=
  (tSeq (tIfS (tTest (tOp rEq (tOp kAnd (tFld K (tVar 0) "control") (tC (.int (1)))) (tC (.int (0))))) (tRet (tC (.int (0)))) tNext)
    (tSeq (tIfS (tTest (tOp (rIn K false) (tOp kAnd (tFld K (tVar 0) "control") (tC (.int (15)))) (tC (.ref L.tSTATES)))) (tRet (tOp kAnd (tFld K (tVar 0) "control") (tC (.int (15))))) tNext)
    (tSeq (tAsg (tOp kSub (tFld K (tVar 0) "control") (tOp kAnd (tFld K (tVar 0) "control") (tC (.int (16))))) (gName 1))
    (tSeq (tIfS (tTest (tOp (rIn K false) (tVar 1) (tC (.ref L.tPLAIN)))) (tRet (tVar 1)) tNext)
    (tRet (tC (.int (-1))))))))
/-- Frame.bit -/
def t_F_bit (K : PySem.W.Frag) (L : LA) : TS :=
  (tRet (tOp kAnd (tOp kShr (tFld K (tVar 0) "control") (tC (.int (4)))) (tC (.int (1)))))
/-- Frame.own_number -/
def t_F_own_number (K : PySem.W.Frag) (L : LA) : TS :=
  (tRet (tOp kAnd (tOp kShr (tFld K (tVar 0) "control") (tC (.int (1)))) (tC (.int (7)))))
/-- Frame.awaited -/
def t_F_awaited (K : PySem.W.Frag) (L : LA) : TS :=
  (tRet (tOp kShr (tFld K (tVar 0) "control") (tC (.int (5)))))
/-- Frame.fault -/
def t_F_fault (K : PySem.W.Frag) (L : LA) : TS :=
  (tSeq (tAsg (tMeth L.CF "kind" (sp_F_kind K L) [] E0 (tVar 0) tNil) (gName 1))
    (tSeq (tIfS (tOr (tAnd (tB (tFld K (tVar 0) "is_command")) (tTest (tOp (rIn K true) (tVar 1) (tC (.ref L.tCOMMANDS))))) (tAnd (tNot (tB (tFld K (tVar 0) "is_command"))) (tTest (tOp (rIn K true) (tVar 1) (tC (.ref L.tANSWERS)))))) (tRet (tC (.int (1)))) tNext)
    (tSeq (tIfS (tAnd (tTest (tOp rEq (tVar 1) (tC (.int (0))))) (tTest (tOp kGt (tCB (kLen K) (tCons (tFld K (tVar 0) "load") tNil)) (tC (.int (1024)))))) (tRet (tC (.int (4)))) tNext)
    (tSeq (tAsg (tDisp [((tC (.int (0))), (tCB kMax (tCons (tC (.int (1))) (tCons (tCB (kLen K) (tCons (tFld K (tVar 0) "load") tNil)) tNil)))), ((tC (.int (135))), (tC (.int (3))))]) (gName 2))
    (tSeq (tIfS (tTest (tOp rNe (tCB (kLen K) (tCons (tFld K (tVar 0) "load") tNil)) (tDGet2 (tVar 2) (tVar 1) (tC (.int (0)))))) (tRet (tC (.int (3)))) tNext)
    (tRet (tC (.int (0)))))))))
/-- numbered_control -/
def t_d_numbered_control (K : PySem.W.Frag) (L : LA) : TS :=
  (tRet (tOp kAdd (tOp kMul (tC (.int (2))) (tVar 0)) (tOp kMul (tC (.int (32))) (tVar 1))))
/-- state_control -/
def t_d_state_control (K : PySem.W.Frag) (L : LA) : TS :=
  (tRet (tOp kAdd (tOp kAdd (tVar 0) (tOp kMul (tC (.int (16))) (tVar 1))) (tOp kMul (tC (.int (32))) (tVar 2))))
/-- bits_of -/
def t_d_bits_of (K : PySem.W.Frag) (L : LA) : TS :=
  (tSeq (tAsg (tLst tNil) (gName 1))
    (tSeq (tFor (iList K (tVar 0)) (gName 2) (tDrop (tBM K "list" rExtend (tVar 1) (tCons (tLc (iRng1 (tCons (tC (.int (8))) tNil)) (gName 3) tYes (tOp kAnd (tOp kShr (tVar 2) (tVar 3)) (tC (.int (1)))) [3]) tNil))))
    (tRet (tVar 1))))
/-- bytes_of -/
def t_d_bytes_of (K : PySem.W.Frag) (L : LA) : TS :=
  (tSeq (tAsg (tLst tNil) (gName 1))
    (tSeq (tFor (iRng3 (tCons (tC (.int (0))) (tCons (tCB (kLen K) (tCons (tVar 0) tNil)) (tCons (tC (.int (8))) tNil)))) (gName 2) (tSeq (tAsg (tC (.int (0))) (gName 3))
    (tSeq (tFor (iRev K (tCons (tSl (rSlL K) (tVar 0) (tPart (tVar 2)) (tPart (tOp kAdd (tVar 2) (tC (.int (8)))))) tNil)) (gName 4) (tAsg (tOp kAdd (tOp kMul (tC (.int (2))) (tVar 3)) (tVar 4)) (gName 3)))
    (tDrop (tBM K "list" rAppend (tVar 1) (tCons (tVar 3) tNil))))))
    (tRet (tVar 1))))
/-- sum_of -/
def t_d_sum_of (K : PySem.W.Frag) (L : LA) : TS :=
  (tSeq (tAsg (tC (.int (65535))) (gName 1))
    (tSeq (tFor (iList K (tVar 0)) (gName 2) (tSeq (tAsg (tOp kXor (tVar 1) (tVar 2)) (gName 1))
    (tFor (iRng1 (tCons (tC (.int (8))) tNil)) (gName 3) (tIfS (tTest (tOp rEq (tOp kAnd (tVar 1) (tC (.int (1)))) (tC (.int (1))))) (tAsg (tOp kXor (tOp kShr (tVar 1) (tC (.int (1)))) (tC (.int (33800)))) (gName 1)) (tAsg (tOp kShr (tVar 1) (tC (.int (1)))) (gName 1))))))
    (tSeq (tAsg (tOp kSub (tC (.int (65535))) (tVar 1)) (gName 1))
    (tRet (tLst (tCons (tOp kMod (tVar 1) (tC (.int (256)))) (tCons (tOp kDiv (tVar 1) (tC (.int (256)))) tNil)))))))
/-- with_noughts -/
def t_d_with_noughts (K : PySem.W.Frag) (L : LA) : TS :=
  (tSeq (tAsg (tLst tNil) (gName 1))
    (tSeq (tAsg (tC (.int (0))) (gName 2))
    (tSeq (tFor (iList K (tVar 0)) (gName 3) (tSeq (tDrop (tBM K "list" rAppend (tVar 1) (tCons (tVar 3) tNil)))
    (tSeq (tAsg (tOp kMul (tOp kAdd (tVar 2) (tC (.int (1)))) (tVar 3)) (gName 2))
    (tIfS (tTest (tOp rEq (tVar 2) (tC (.int (5))))) (tSeq (tDrop (tBM K "list" rAppend (tVar 1) (tCons (tC (.int (0))) tNil)))
    (tAsg (tC (.int (0))) (gName 2))) tNext))))
    (tRet (tVar 1)))))
/-- frame_bits -/
def t_d_frame_bits (K : PySem.W.Frag) (L : LA) : TS :=
  (tRet (tOp rCat (tOp rCat (tCB (kList K) (tCons (tC (.ref L.tFLAG)) tNil)) (tCall (sp_d_with_noughts K L) [] E0 (tCons (tCall (sp_d_bits_of K L) [] E0 (tCons (tOp rCat (tVar 0) (tCall (sp_d_sum_of K L) [] E0 (tCons (tVar 0) tNil))) tNil)) tNil))) (tCB (kList K) (tCons (tC (.ref L.tFLAG)) tNil))))
/-- Listener.__init__ -/
def t_I_init (K : PySem.W.Frag) (L : LA) : TS :=
  (tSeq (sFld K (tVar 0) (tC (.bl true)) "lost")
    (tSeq (sFld K (tVar 0) (tLst tNil) "kept")
    (sFld K (tVar 0) (tC (.int (0))) "ones")))
/-- Listener.lose -/
def t_I_lose (K : PySem.W.Frag) (L : LA) : TS :=
  (tSeq (sFld K (tVar 0) (tC (.bl true)) "lost")
    (sFld K (tVar 0) (tLst tNil) "kept"))
/-- Listener.keep -/
def t_I_keep (K : PySem.W.Frag) (L : LA) : TS :=
  (tSeq (tIfS (tNot (tB (tFld K (tVar 0) "lost"))) (tDrop (tBM K "list" rAppend (tFld K (tVar 0) "kept") (tCons (tVar 1) tNil))) tNext)
    (tIfS (tTest (tOp kGt (tCB (kLen K) (tCons (tFld K (tVar 0) "kept") tNil)) (tC (.int (8231))))) (tDrop (tMeth L.CI "lose" (sp_I_lose K L) [] E0 (tVar 0) tNil)) tNext))
/-- Listener.whole -/
def t_I_whole (K : PySem.W.Frag) (L : LA) : TS :=
  (tSeq (tAsg (tSl (rSlL K) (tFld K (tVar 0) "kept") tNoPart (tPart (tCB kMax (tCons (tC (.int (0))) (tCons (tOp kSub (tCB (kLen K) (tCons (tFld K (tVar 0) "kept") tNil)) (tC (.int (7)))) tNil))))) (gName 1))
    (tSeq (tAsg (tOrV (tFld K (tVar 0) "lost") (tOp kLt (tCB (kLen K) (tCons (tFld K (tVar 0) "kept") tNil)) (tC (.int (7))))) (gName 2))
    (tSeq (sFld K (tVar 0) (tC (.bl false)) "lost")
    (tSeq (sFld K (tVar 0) (tLst tNil) "kept")
    (tSeq (tAsg (tCall (sp_d_bytes_of K L) [] E0 (tCons (tVar 1) tNil)) (gName 3))
    (tSeq (tIfS (tOr (tB (tVar 2)) (tOr (tTest (tOp kGt (tOp kMod (tCB (kLen K) (tCons (tVar 1) tNil)) (tC (.int (8)))) (tC (.int (0))))) (tOr (tTest (tOp kLt (tCB (kLen K) (tCons (tVar 3) tNil)) (tC (.int (4))))) (tTest (tOp kGt (tCB (kLen K) (tCons (tVar 3) tNil)) (tC (.int (1028)))))))) (tRet (tC .non)) tNext)
    (tSeq (tIfS (tTest (tOp (rNeD K) (tCall (sp_d_sum_of K L) [] E0 (tCons (tSl (rSlL K) (tVar 3) tNoPart (tPart (tUn kNeg (tC (.int (2)))))) tNil)) (tSl (rSlL K) (tVar 3) (tPart (tUn kNeg (tC (.int (2))))) tNoPart))) (tRet (tC .non)) tNext)
    (tRet (tSl (rSlL K) (tVar 3) tNoPart (tPart (tUn kNeg (tC (.int (2))))))))))))))
/-- Listener.take -/
def t_I_take (K : PySem.W.Frag) (L : LA) : TS :=
  (tSeq (tAsg (tFld K (tVar 0) "ones") (gName 2))
    (tSeq (tIfS (tTest (tOp rEq (tVar 1) (tC (.int (1))))) (tSeq (sFld K (tVar 0) (tOp kAdd (tVar 2) (tC (.int (1)))) "ones")
    (tSeq (tDrop (tMeth L.CI "keep" (sp_I_keep K L) [] E0 (tVar 0) (tCons (tC (.int (1))) tNil)))
    (tSeq (tIfS (tTest (tOp kGt (tFld K (tVar 0) "ones") (tC (.int (6))))) (tDrop (tMeth L.CI "lose" (sp_I_lose K L) [] E0 (tVar 0) tNil)) tNext)
    (tRet (tC .non))))) tNext)
    (tSeq (sFld K (tVar 0) (tC (.int (0))) "ones")
    (tSeq (tIfS (tTest (tOp rEq (tVar 2) (tC (.int (6))))) (tRet (tMeth L.CI "whole" (sp_I_whole K L) [] E0 (tVar 0) tNil)) tNext)
    (tSeq (tIfS (tTest (tOp rNe (tVar 2) (tC (.int (5))))) (tDrop (tMeth L.CI "keep" (sp_I_keep K L) [] E0 (tVar 0) (tCons (tC (.int (0))) tNil))) tNext)
    (tRet (tC .non)))))))
/-- Waiting.__init__ -/
def t_W_init (K : PySem.W.Frag) (L : LA) : TS :=
  (sFld K (tVar 0) (tLst tNil) "bits")
/-- Waiting.put -/
def t_W_put (K : PySem.W.Frag) (L : LA) : TS :=
  (tSeq (tAsg (tCall (sp_d_frame_bits K L) [] E0 (tCons (tVar 1) tNil)) (gName 2))
    (tIfS (tTest (tOp kLe (tOp kAdd (tCB (kLen K) (tCons (tFld K (tVar 0) "bits") tNil)) (tCB (kLen K) (tCons (tVar 2) tNil))) (tC (.int (1048576))))) (tDrop (tBM K "list" rExtend (tFld K (tVar 0) "bits") (tCons (tVar 2) tNil))) tNext))
/-- Waiting.take -/
def t_W_take (K : PySem.W.Frag) (L : LA) : TS :=
  (tSeq (tAsg (tSl (rSlL K) (tFld K (tVar 0) "bits") tNoPart (tPart (tOp kMul (tC (.int (8))) (tVar 1)))) (gName 2))
    (tSeq (sFld K (tVar 0) (tSl (rSlL K) (tFld K (tVar 0) "bits") (tPart (tOp kMul (tC (.int (8))) (tVar 1))) tNoPart) "bits")
    (tSeq (tWhile (tTest (tOp kGt (tOp kMod (tCB (kLen K) (tCons (tVar 2) tNil)) (tC (.int (8)))) (tC (.int (0))))) (tDrop (tBM K "list" rAppend (tVar 2) (tCons (tC (.int (1))) tNil))))
    (tRet (tCall (sp_d_bytes_of K L) [] E0 (tCons (tVar 2) tNil))))))
/-- End.afresh -/
def t_E_afresh (K : PySem.W.Frag) (L : LA) : TS :=
  (tSeq (sFld K (tVar 0) (tC (.int (0))) "s")
    (tSeq (sFld K (tVar 0) (tC (.int (0))) "a")
    (tSeq (sFld K (tVar 0) (tC (.int (0))) "r")
    (tSeq (sFld K (tVar 0) (tC (.bl false)) "other_busy")
    (tSeq (sFld K (tVar 0) (tC (.bl false)) "asked_again")
    (tSeq (sFld K (tVar 0) (tC (.bl false)) "polls")
    (tSeq (sFld K (tVar 0) (tC .non) "since")
    (tSeq (sFld K (tVar 0) (tC (.int (0))) "out")
    (sFld K (tVar 0) (tLst tNil) "sent")))))))))
/-- End.__init__ -/
def t_E_init (K : PySem.W.Frag) (L : LA) : TS :=
  (tSeq (sFld K (tVar 0) (tOp kAdd (tC (.int (1))) (tOp kMul (tC (.int (2))) (tVar 1))) "commands_out")
    (tSeq (sFld K (tVar 0) (tOp kSub (tC (.int (3))) (tOp kMul (tC (.int (2))) (tVar 1))) "answers_out")
    (tSeq (sFld K (tVar 0) (tVar 2) "window")
    (tSeq (sFld K (tVar 0) (tVar 3) "patience")
    (tSeq (sFld K (tVar 0) (tVar 4) "tries")
    (tSeq (sFld K (tVar 0) (tC (.int (0))) "stage")
    (tSeq (sFld K (tVar 0) (tLst tNil) "sent")
    (tSeq (sFld K (tVar 0) (tLst tNil) "unsent")
    (tSeq (sFld K (tVar 0) (tLst tNil) "come")
    (tSeq (sFld K (tVar 0) (tLst tNil) "wrong")
    (tSeq (sFld K (tVar 0) (tMake L.CI (sp_I_init K L) [] E0 tNil) "listener")
    (tSeq (sFld K (tVar 0) (tMake L.CW (sp_W_init K L) [] E0 tNil) "waiting")
    (tSeq (sFld K (tVar 0) (tC (.int (0))) "now")
    (tDrop (tMeth L.CE "afresh" (sp_E_afresh K L) [] E0 (tVar 0) tNil)))))))))))))))
/-- End.command -/
def t_E_command (K : PySem.W.Frag) (L : LA) : TS :=
  (tDrop (tMeth L.CW "put" (sp_W_put K L) [] E0 (tFld K (tVar 0) "waiting") (tCons (tOp rCat (tLst (tCons (tFld K (tVar 0) "commands_out") (tCons (tVar 1) tNil))) (tVar 2)) tNil)))
/-- End.answer -/
def t_E_answer (K : PySem.W.Frag) (L : LA) : TS :=
  (tDrop (tMeth L.CW "put" (sp_W_put K L) [] E0 (tFld K (tVar 0) "waiting") (tCons (tOp rCat (tLst (tCons (tFld K (tVar 0) "answers_out") (tCons (tVar 1) tNil))) (tVar 2)) tNil)))
/-- End.run_clock -/
def t_E_run_clock (K : PySem.W.Frag) (L : LA) : TS :=
  (sFld K (tVar 0) (tFld K (tVar 0) "now") "since")
/-- End.greet -/
def t_E_greet (K : PySem.W.Frag) (L : LA) : TS :=
  (tSeq (tDrop (tMeth L.CE "afresh" (sp_E_afresh K L) [] E0 (tVar 0) tNil))
    (tSeq (sFld K (tVar 0) (tC (.int (1))) "stage")
    (tSeq (tDrop (tMeth L.CE "command" (sp_E_command K L) [] E0 (tVar 0) (tCons (tOp kAdd (tC (.int (47))) (tC (.int (16)))) (tCons (tLst tNil) tNil))))
    (tDrop (tMeth L.CE "run_clock" (sp_E_run_clock K L) [] E0 (tVar 0) tNil)))))
/-- End.finish -/
def t_E_finish (K : PySem.W.Frag) (L : LA) : TS :=
  (tSeq (sFld K (tVar 0) (tC (.int (3))) "stage")
    (tSeq (tDrop (tMeth L.CE "command" (sp_E_command K L) [] E0 (tVar 0) (tCons (tOp kAdd (tC (.int (67))) (tC (.int (16)))) (tCons (tLst tNil) tNil))))
    (tSeq (tDrop (tMeth L.CE "afresh" (sp_E_afresh K L) [] E0 (tVar 0) tNil))
    (tDrop (tMeth L.CE "run_clock" (sp_E_run_clock K L) [] E0 (tVar 0) tNil)))))
/-- End.go_up -/
def t_E_go_up (K : PySem.W.Frag) (L : LA) : TS :=
  (tSeq (tDrop (tMeth L.CE "afresh" (sp_E_afresh K L) [] E0 (tVar 0) tNil))
    (sFld K (tVar 0) (tC (.int (2))) "stage"))
/-- End.go_down -/
def t_E_go_down (K : PySem.W.Frag) (L : LA) : TS :=
  (tSeq (sFld K (tVar 0) (tC (.int (0))) "stage")
    (sFld K (tVar 0) (tC .non) "since"))
/-- End.own_state -/
def t_E_own_state (K : PySem.W.Frag) (L : LA) : TS :=
  (tSeq (tAsg (tC (.int (1))) (gName 2))
    (tSeq (tIfS (tTest (tOp kGe (tCB (kLen K) (tCons (tFld K (tVar 0) "come") tNil)) (tC (.int (64))))) (tAsg (tC (.int (5))) (gName 2)) tNext)
    (tRet (tCall (sp_d_state_control K L) [] E0 (tCons (tVar 2) (tCons (tVar 1) (tCons (tFld K (tVar 0) "r") tNil)))))))
/-- End.tell_state -/
def t_E_tell_state (K : PySem.W.Frag) (L : LA) : TS :=
  (tDrop (tMeth L.CE "answer" (sp_E_answer K L) [] E0 (tVar 0) (tCons (tMeth L.CE "own_state" (sp_E_own_state K L) [] E0 (tVar 0) (tCons (tVar 1) tNil)) (tCons (tLst tNil) tNil))))
/-- End.ask_again -/
def t_E_ask_again (K : PySem.W.Frag) (L : LA) : TS :=
  (tSeq (tDrop (tMeth L.CE "answer" (sp_E_answer K L) [] E0 (tVar 0) (tCons (tCall (sp_d_state_control K L) [] E0 (tCons (tC (.int (9))) (tCons (tVar 1) (tCons (tFld K (tVar 0) "r") tNil)))) (tCons (tLst tNil) tNil))))
    (sFld K (tVar 0) (tC (.bl true)) "asked_again"))
/-- End.many_out -/
def t_E_many_out (K : PySem.W.Frag) (L : LA) : TS :=
  (tRet (tOp kAdd (tCB (kLen K) (tCons (tFld K (tVar 0) "sent") tNil)) (tCB (kLen K) (tCons (tFld K (tVar 0) "unsent") tNil))))
/-- End.may_go_out -/
def t_E_may_go_out (K : PySem.W.Frag) (L : LA) : TS :=
  (tSeq (tAsg (tOp kMod (tOp kSub (tFld K (tVar 0) "s") (tFld K (tVar 0) "a")) (tC (.int (8)))) (gName 1))
    (tSeq (tIfS (tOr (tTest (tOp rNe (tFld K (tVar 0) "stage") (tC (.int (2))))) (tOr (tB (tFld K (tVar 0) "other_busy")) (tOr (tB (tFld K (tVar 0) "polls")) (tTest (tOp kGe (tVar 1) (tFld K (tVar 0) "window")))))) (tRet (tC (.bl false))) tNext)
    (tRet (tOp kLt (tVar 1) (tMeth L.CE "many_out" (sp_E_many_out K L) [] E0 (tVar 0) tNil)))))
/-- End.go_out -/
def t_E_go_out (K : PySem.W.Frag) (L : LA) : TS :=
  (tWhile (tB (tMeth L.CE "may_go_out" (sp_E_may_go_out K L) [] E0 (tVar 0) tNil)) (tSeq (tAsg (tOp kMod (tOp kSub (tFld K (tVar 0) "s") (tFld K (tVar 0) "a")) (tC (.int (8)))) (gName 1))
    (tSeq (tIfS (tTest (tOp rEq (tVar 1) (tCB (kLen K) (tCons (tFld K (tVar 0) "sent") tNil)))) (tDrop (tBM K "list" rAppend (tFld K (tVar 0) "sent") (tCons (tBM K "list" rPopAt (tFld K (tVar 0) "unsent") (tCons (tC (.int (0))) tNil)) tNil))) tNext)
    (tSeq (tDrop (tMeth L.CE "command" (sp_E_command K L) [] E0 (tVar 0) (tCons (tCall (sp_d_numbered_control K L) [] E0 (tCons (tFld K (tVar 0) "s") (tCons (tFld K (tVar 0) "r") tNil))) (tCons (tOp (rIxL K) (tFld K (tVar 0) "sent") (tVar 1)) tNil))))
    (tSeq (sFld K (tVar 0) (tOp kMod (tOp kAdd (tFld K (tVar 0) "s") (tC (.int (1)))) (tC (.int (8)))) "s")
    (tIfS (tTest (tOp kIsN (tFld K (tVar 0) "since") (tC .non))) (tDrop (tMeth L.CE "run_clock" (sp_E_run_clock K L) [] E0 (tVar 0) tNil)) tNext))))))
/-- End.can_be_answered -/
def t_E_can_be_answered (K : PySem.W.Frag) (L : LA) : TS :=
  (tRet (tOp kLe (tOp kMod (tOp kSub (tVar 1) (tFld K (tVar 0) "a")) (tC (.int (8)))) (tCB (kLen K) (tCons (tFld K (tVar 0) "sent") tNil))))
/-- End.answered_up_to -/
def t_E_answered_up_to (K : PySem.W.Frag) (L : LA) : TS :=
  (tSeq (tAsg (tOp kMod (tOp kSub (tVar 1) (tFld K (tVar 0) "a")) (tC (.int (8)))) (gName 2))
    (tSeq (tIfS (tTest (tOp kLt (tOp kMod (tOp kSub (tFld K (tVar 0) "s") (tFld K (tVar 0) "a")) (tC (.int (8)))) (tVar 2))) (sFld K (tVar 0) (tVar 1) "s") tNext)
    (tSeq (sFld K (tVar 0) (tVar 1) "a")
    (tSeq (sFld K (tVar 0) (tSl (rSlL K) (tFld K (tVar 0) "sent") (tPart (tVar 2)) tNoPart) "sent")
    (tIfS (tTest (tOp kGt (tVar 2) (tC (.int (0))))) (tSeq (sFld K (tVar 0) (tC (.int (0))) "out")
    (tSeq (sFld K (tVar 0) (tC .non) "since")
    (tIfS (tTest (tOp kGt (tCB (kLen K) (tCons (tFld K (tVar 0) "sent") tNil)) (tC (.int (0))))) (tDrop (tMeth L.CE "run_clock" (sp_E_run_clock K L) [] E0 (tVar 0) tNil)) tNext))) tNext)))))
/-- End.say_wrong -/
def t_E_say_wrong (K : PySem.W.Frag) (L : LA) : TS :=
  (tDrop (tMeth L.CE "answer" (sp_E_answer K L) [] E0 (tVar 0) (tCons (tOp kAdd (tC (.int (135))) (tOp kMul (tC (.int (16))) (tVar 1))) (tCons (tFld K (tVar 0) "wrong") tNil))))
/-- End.get_stuck -/
def t_E_get_stuck (K : PySem.W.Frag) (L : LA) : TS :=
  (tSeq (sFld K (tVar 0) (tLst (tCons (tVar 1) (tCons (tOp kAdd (tOp kMul (tC (.int (32))) (tFld K (tVar 0) "r")) (tOp kMul (tC (.int (2))) (tFld K (tVar 0) "s"))) (tCons (tVar 3) tNil)))) "wrong")
    (tSeq (tDrop (tMeth L.CE "say_wrong" (sp_E_say_wrong K L) [] E0 (tVar 0) (tCons (tVar 2) tNil)))
    (tSeq (sFld K (tVar 0) (tC (.int (4))) "stage")
    (tSeq (sFld K (tVar 0) (tC .non) "since")
    (sFld K (tVar 0) (tLst tNil) "sent")))))
/-- End.is_out -/
def t_E_is_out (K : PySem.W.Frag) (L : LA) : TS :=
  (tRet (tAndV (tOp kNotN (tFld K (tVar 0) "since") (tC .non)) (tOp kGe (tOp kMod (tOp kSub (tFld K (tVar 0) "now") (tFld K (tVar 0) "since")) (tC (.int (4294967296)))) (tFld K (tVar 0) "patience"))))
/-- End.see_to_clock -/
def t_E_see_to_clock (K : PySem.W.Frag) (L : LA) : TS :=
  (tSeq (tIfS (tNot (tB (tMeth L.CE "is_out" (sp_E_is_out K L) [] E0 (tVar 0) tNil))) tRetN tNext)
    (tSeq (sFldAug K (tVar 0) (tC (.int (1))) L2.rAdd "out")
    (tSeq (tIfS (tTest (tOp kGt (tFld K (tVar 0) "out") (tFld K (tVar 0) "tries"))) (tSeq (tIfS (tTest (tOp rEq (tFld K (tVar 0) "stage") (tC (.int (2))))) (tDrop (tMeth L.CE "greet" (sp_E_greet K L) [] E0 (tVar 0) tNil)) (tDrop (tMeth L.CE "go_down" (sp_E_go_down K L) [] E0 (tVar 0) tNil)))
    tRetN) tNext)
    (tSeq (tDrop (tMeth L.CE "run_clock" (sp_E_run_clock K L) [] E0 (tVar 0) tNil))
    (tIfS (tTest (tOp rEq (tFld K (tVar 0) "stage") (tC (.int (1))))) (tDrop (tMeth L.CE "command" (sp_E_command K L) [] E0 (tVar 0) (tCons (tOp kAdd (tC (.int (47))) (tC (.int (16)))) (tCons (tLst tNil) tNil)))) (tIfS (tTest (tOp rEq (tFld K (tVar 0) "stage") (tC (.int (3))))) (tDrop (tMeth L.CE "command" (sp_E_command K L) [] E0 (tVar 0) (tCons (tOp kAdd (tC (.int (67))) (tC (.int (16)))) (tCons (tLst tNil) tNil)))) (tSeq (sFld K (tVar 0) (tC (.bl true)) "polls")
    (tDrop (tMeth L.CE "command" (sp_E_command K L) [] E0 (tVar 0) (tCons (tMeth L.CE "own_state" (sp_E_own_state K L) [] E0 (tVar 0) (tCons (tC (.int (1))) tNil)) (tCons (tLst tNil) tNil)))))))))))
/-- hear_hello -/
def t_d_hear_hello (K : PySem.W.Frag) (L : LA) : TS :=
  (tIfS (tTest (tOp rEq (tFld K (tVar 0) "stage") (tC (.int (3))))) (tDrop (tMeth L.CE "answer" (sp_E_answer K L) [] E0 (tVar 0) (tCons (tOp kAdd (tC (.int (15))) (tOp kMul (tC (.int (16))) (tVar 1))) (tCons (tLst tNil) tNil)))) (tSeq (tDrop (tMeth L.CE "answer" (sp_E_answer K L) [] E0 (tVar 0) (tCons (tOp kAdd (tC (.int (99))) (tOp kMul (tC (.int (16))) (tVar 1))) (tCons (tLst tNil) tNil))))
    (tDrop (tMeth L.CE "go_up" (sp_E_go_up K L) [] E0 (tVar 0) tNil))))
/-- hear_finish -/
def t_d_hear_finish (K : PySem.W.Frag) (L : LA) : TS :=
  (tIfS (tOr (tTest (tOp rEq (tFld K (tVar 0) "stage") (tC (.int (2))))) (tTest (tOp rEq (tFld K (tVar 0) "stage") (tC (.int (4)))))) (tSeq (tDrop (tMeth L.CE "answer" (sp_E_answer K L) [] E0 (tVar 0) (tCons (tOp kAdd (tC (.int (99))) (tOp kMul (tC (.int (16))) (tVar 1))) (tCons (tLst tNil) tNil))))
    (tDrop (tMeth L.CE "go_down" (sp_E_go_down K L) [] E0 (tVar 0) tNil))) (tSeq (tDrop (tMeth L.CE "answer" (sp_E_answer K L) [] E0 (tVar 0) (tCons (tOp kAdd (tC (.int (15))) (tOp kMul (tC (.int (16))) (tVar 1))) (tCons (tLst tNil) tNil))))
    (tIfS (tTest (tOp rEq (tFld K (tVar 0) "stage") (tC (.int (1))))) (tDrop (tMeth L.CE "go_down" (sp_E_go_down K L) [] E0 (tVar 0) tNil)) tNext)))
/-- hear_awaited -/
def t_d_hear_awaited (K : PySem.W.Frag) (L : LA) : TS :=
  (tSeq (tIfS (tNot (tB (tMeth L.CE "can_be_answered" (sp_E_can_be_answered K L) [] E0 (tVar 0) (tCons (tMeth L.CF "awaited" (sp_F_awaited K L) [] E0 (tVar 1) tNil) tNil)))) (tSeq (tDrop (tMeth L.CE "get_stuck" (sp_E_get_stuck K L) [] E0 (tVar 0) (tCons (tFld K (tVar 1) "control") (tCons (tMeth L.CF "bit" (sp_F_bit K L) [] E0 (tVar 1) tNil) (tCons (tC (.int (8))) tNil)))))
    (tRet (tC (.bl false)))) tNext)
    (tSeq (tDrop (tMeth L.CE "answered_up_to" (sp_E_answered_up_to K L) [] E0 (tVar 0) (tCons (tMeth L.CF "awaited" (sp_F_awaited K L) [] E0 (tVar 1) tNil) tNil)))
    (tRet (tC (.bl true)))))
/-- hear_numbered -/
def t_d_hear_numbered (K : PySem.W.Frag) (L : LA) : TS :=
  (tSeq (tIfS (tNot (tB (tCall (sp_d_hear_awaited K L) [] E0 (tCons (tVar 0) (tCons (tVar 1) tNil))))) tRetN tNext)
    (tSeq (tAsg (tMeth L.CF "bit" (sp_F_bit K L) [] E0 (tVar 1) tNil) (gName 2))
    (tIfS (tAnd (tTest (tOp rEq (tMeth L.CF "own_number" (sp_F_own_number K L) [] E0 (tVar 1) tNil) (tFld K (tVar 0) "r"))) (tTest (tOp kLt (tCB (kLen K) (tCons (tFld K (tVar 0) "come") tNil)) (tC (.int (64)))))) (tSeq (tDrop (tBM K "list" rAppend (tFld K (tVar 0) "come") (tCons (tFld K (tVar 1) "load") tNil)))
    (tSeq (sFld K (tVar 0) (tOp kMod (tOp kAdd (tFld K (tVar 0) "r") (tC (.int (1)))) (tC (.int (8)))) "r")
    (tSeq (sFld K (tVar 0) (tC (.bl false)) "asked_again")
    (tDrop (tMeth L.CE "tell_state" (sp_E_tell_state K L) [] E0 (tVar 0) (tCons (tVar 2) tNil)))))) (tIfS (tTest (tOp rEq (tMeth L.CF "own_number" (sp_F_own_number K L) [] E0 (tVar 1) tNil) (tFld K (tVar 0) "r"))) (tDrop (tMeth L.CE "answer" (sp_E_answer K L) [] E0 (tVar 0) (tCons (tCall (sp_d_state_control K L) [] E0 (tCons (tC (.int (5))) (tCons (tVar 2) (tCons (tFld K (tVar 0) "r") tNil)))) (tCons (tLst tNil) tNil)))) (tIfS (tNot (tB (tFld K (tVar 0) "asked_again"))) (tDrop (tMeth L.CE "ask_again" (sp_E_ask_again K L) [] E0 (tVar 0) (tCons (tVar 2) tNil))) (tIfS (tTest (tOp rEq (tVar 2) (tC (.int (1))))) (tDrop (tMeth L.CE "tell_state" (sp_E_tell_state K L) [] E0 (tVar 0) (tCons (tC (.int (1))) tNil))) tNext))))))
/-- hear_state -/
def t_d_hear_state (K : PySem.W.Frag) (L : LA) : TS :=
  (tSeq (sFld K (tVar 0) (tOp rEq (tMeth L.CF "kind" (sp_F_kind K L) [] E0 (tVar 1) tNil) (tC (.int (5)))) "other_busy")
    (tSeq (tIfS (tNot (tB (tCall (sp_d_hear_awaited K L) [] E0 (tCons (tVar 0) (tCons (tVar 1) tNil))))) tRetN tNext)
    (tSeq (tAsg (tAndV (tNotV (tFld K (tVar 1) "is_command")) (tOp rEq (tMeth L.CF "bit" (sp_F_bit K L) [] E0 (tVar 1) tNil) (tC (.int (1))))) (gName 2))
    (tSeq (tIfS (tOr (tTest (tOp rEq (tMeth L.CF "kind" (sp_F_kind K L) [] E0 (tVar 1) tNil) (tC (.int (9))))) (tAnd (tB (tVar 2)) (tB (tFld K (tVar 0) "polls")))) (sFld K (tVar 0) (tMeth L.CF "awaited" (sp_F_awaited K L) [] E0 (tVar 1) tNil) "s") tNext)
    (tSeq (tIfS (tB (tVar 2)) (sFld K (tVar 0) (tC (.bl false)) "polls") tNext)
    (tIfS (tAnd (tB (tFld K (tVar 1) "is_command")) (tTest (tOp rEq (tMeth L.CF "bit" (sp_F_bit K L) [] E0 (tVar 1) tNil) (tC (.int (1)))))) (tDrop (tMeth L.CE "tell_state" (sp_E_tell_state K L) [] E0 (tVar 0) (tCons (tC (.int (1))) tNil))) tNext))))))
/-- hear_command -/
def t_d_hear_command (K : PySem.W.Frag) (L : LA) : TS :=
  (tSeq (tAsg (tMeth L.CF "fault" (sp_F_fault K L) [] E0 (tVar 1) tNil) (gName 2))
    (tIfS (tAnd (tTest (tOp rEq (tVar 2) (tC (.int (0))))) (tTest (tOp rEq (tMeth L.CF "kind" (sp_F_kind K L) [] E0 (tVar 1) tNil) (tC (.int (47)))))) (tDrop (tCall (sp_d_hear_hello K L) [] E0 (tCons (tVar 0) (tCons (tMeth L.CF "bit" (sp_F_bit K L) [] E0 (tVar 1) tNil) tNil)))) (tIfS (tAnd (tTest (tOp rEq (tVar 2) (tC (.int (0))))) (tTest (tOp rEq (tMeth L.CF "kind" (sp_F_kind K L) [] E0 (tVar 1) tNil) (tC (.int (67)))))) (tDrop (tCall (sp_d_hear_finish K L) [] E0 (tCons (tVar 0) (tCons (tMeth L.CF "bit" (sp_F_bit K L) [] E0 (tVar 1) tNil) tNil)))) (tIfS (tTest (tOp rEq (tFld K (tVar 0) "stage") (tC (.int (4))))) (tIfS (tTest (tOp rEq (tMeth L.CF "bit" (sp_F_bit K L) [] E0 (tVar 1) tNil) (tC (.int (1))))) (tDrop (tMeth L.CE "say_wrong" (sp_E_say_wrong K L) [] E0 (tVar 0) (tCons (tC (.int (1))) tNil))) tNext) (tIfS (tTest (tOp rNe (tFld K (tVar 0) "stage") (tC (.int (2))))) (tIfS (tTest (tOp rEq (tMeth L.CF "bit" (sp_F_bit K L) [] E0 (tVar 1) tNil) (tC (.int (1))))) (tDrop (tMeth L.CE "answer" (sp_E_answer K L) [] E0 (tVar 0) (tCons (tOp kAdd (tC (.int (15))) (tC (.int (16)))) (tCons (tLst tNil) tNil)))) tNext) (tIfS (tTest (tOp rNe (tVar 2) (tC (.int (0))))) (tDrop (tMeth L.CE "get_stuck" (sp_E_get_stuck K L) [] E0 (tVar 0) (tCons (tFld K (tVar 1) "control") (tCons (tMeth L.CF "bit" (sp_F_bit K L) [] E0 (tVar 1) tNil) (tCons (tVar 2) tNil))))) (tIfS (tTest (tOp rEq (tMeth L.CF "kind" (sp_F_kind K L) [] E0 (tVar 1) tNil) (tC (.int (0))))) (tDrop (tCall (sp_d_hear_numbered K L) [] E0 (tCons (tVar 0) (tCons (tVar 1) tNil)))) (tDrop (tCall (sp_d_hear_state K L) [] E0 (tCons (tVar 0) (tCons (tVar 1) tNil)))))))))))
/-- hear_yes -/
def t_d_hear_yes (K : PySem.W.Frag) (L : LA) : TS :=
  (tIfS (tTest (tOp rEq (tFld K (tVar 0) "stage") (tC (.int (1))))) (tDrop (tMeth L.CE "go_up" (sp_E_go_up K L) [] E0 (tVar 0) tNil)) (tIfS (tTest (tOp rEq (tFld K (tVar 0) "stage") (tC (.int (3))))) (tDrop (tMeth L.CE "go_down" (sp_E_go_down K L) [] E0 (tVar 0) tNil)) tNext))
/-- hear_answer -/
def t_d_hear_answer (K : PySem.W.Frag) (L : LA) : TS :=
  (tSeq (tAsg (tMeth L.CF "fault" (sp_F_fault K L) [] E0 (tVar 1) tNil) (gName 2))
    (tSeq (tAsg (tMeth L.CF "kind" (sp_F_kind K L) [] E0 (tVar 1) tNil) (gName 3))
    (tIfS (tTest (tOp rNe (tVar 2) (tC (.int (0))))) (tIfS (tTest (tOp rEq (tFld K (tVar 0) "stage") (tC (.int (2))))) (tDrop (tMeth L.CE "get_stuck" (sp_E_get_stuck K L) [] E0 (tVar 0) (tCons (tFld K (tVar 1) "control") (tCons (tMeth L.CF "bit" (sp_F_bit K L) [] E0 (tVar 1) tNil) (tCons (tVar 2) tNil))))) tNext) (tIfS (tTest (tOp rEq (tVar 3) (tC (.int (99))))) (tDrop (tCall (sp_d_hear_yes K L) [] E0 (tCons (tVar 0) tNil))) (tIfS (tTest (tOp rEq (tVar 3) (tC (.int (15))))) (tIfS (tTest (tOp rNe (tFld K (tVar 0) "stage") (tC (.int (0))))) (tDrop (tMeth L.CE "go_down" (sp_E_go_down K L) [] E0 (tVar 0) tNil)) tNext) (tIfS (tAnd (tTest (tOp rEq (tFld K (tVar 0) "stage") (tC (.int (2))))) (tTest (tOp rEq (tVar 3) (tC (.int (135)))))) (tDrop (tMeth L.CE "greet" (sp_E_greet K L) [] E0 (tVar 0) tNil)) (tIfS (tAnd (tTest (tOp rEq (tFld K (tVar 0) "stage") (tC (.int (2))))) (tTest (tOp (rIn K false) (tVar 3) (tC (.ref L.tSTATES))))) (tDrop (tCall (sp_d_hear_state K L) [] E0 (tCons (tVar 0) (tCons (tVar 1) tNil)))) tNext)))))))
/-- hear -/
def t_d_hear (K : PySem.W.Frag) (L : LA) : TS :=
  (tIfS (tTest (tOp rEq (tOp (rIxL K) (tVar 1) (tC (.int (0)))) (tFld K (tVar 0) "answers_out"))) (tSeq (tDrop (tCall (sp_d_hear_command K L) [] E0 (tCons (tVar 0) (tCons (tMake L.CF (sp_F_init K L) [] E0 (tCons (tC (.bl true)) (tCons (tOp (rIxL K) (tVar 1) (tC (.int (1)))) (tCons (tSl (rSlL K) (tVar 1) (tPart (tC (.int (2)))) tNoPart) tNil)))) tNil))))
    (tDrop (tMeth L.CE "go_out" (sp_E_go_out K L) [] E0 (tVar 0) tNil))) (tIfS (tTest (tOp rEq (tOp (rIxL K) (tVar 1) (tC (.int (0)))) (tFld K (tVar 0) "commands_out"))) (tSeq (tDrop (tCall (sp_d_hear_answer K L) [] E0 (tCons (tVar 0) (tCons (tMake L.CF (sp_F_init K L) [] E0 (tCons (tC (.bl false)) (tCons (tOp (rIxL K) (tVar 1) (tC (.int (1)))) (tCons (tSl (rSlL K) (tVar 1) (tPart (tC (.int (2)))) tNoPart) tNil)))) tNil))))
    (tDrop (tMeth L.CE "go_out" (sp_E_go_out K L) [] E0 (tVar 0) tNil))) tNext))
/-- take_bits -/
def t_d_take_bits (K : PySem.W.Frag) (L : LA) : TS :=
  (tFor (iList K (tVar 1)) (gName 2) (tSeq (tAsg (tMeth L.CI "take" (sp_I_take K L) [] E0 (tFld K (tVar 0) "listener") (tCons (tVar 2) tNil)) (gName 3))
    (tIfS (tTest (tOp kNotN (tVar 3) (tC .non))) (tDrop (tCall (sp_d_hear K L) [] E0 (tCons (tVar 0) (tCons (tVar 3) tNil)))) tNext)))
/-- Refused.__init__ -/
def t_X_init (K : PySem.W.Frag) (L : LA) : TS :=
  (tOst K "number" (tVar 0) (tVar 1))
/-- ask -/
def t_d_ask (K : PySem.W.Frag) (L : LA) (E : XK) : TS :=
  (tIfS (tNot (tB (tVar 0))) (tRaiseX L K (wE E) (tCons (tVar 1) tNil)) tNext)
/-- begun -/
def t_d_begun (K : PySem.W.Frag) (L : LA) (E : XK) : TS :=
  (tSeq (tAsg (tVar 0) (gLst K 4 (gCons (gName 1) (gCons (gName 2) (gCons (gName 3) (gCons (gName 4) gNil))))))
    (tSeq (tDrop (tCallS (sp_d_ask K L) (WE (wE E)) (tCons (tAndV (tChain kLe kLe (tC (.int (0))) (tVar 1) (tC (.int (1)))) (tAndV (tChain kLe kLe (tC (.int (1))) (tVar 2) (tC (.int (7)))) (tAndV (tOp kGt (tVar 3) (tC (.int (0)))) (tChain kLe kLe (tC (.int (1))) (tVar 4) (tC (.int (100))))))) (tCons (tUn kNeg (tC (.int (2)))) tNil))))
    (tRet (tMake L.CE (sp_E_init K L) [] E0 (tCons (tVar 1) (tCons (tVar 2) (tCons (tVar 3) (tCons (tVar 4) tNil))))))))
/-- connect -/
def t_d_connect (K : PySem.W.Frag) (L : LA) (E : XK) : TS :=
  (tSeq (tDrop (tCallS (sp_d_ask K L) (WE (wE E)) (tCons (tOp rEq (tFld K (tVar 0) "stage") (tC (.int (0)))) (tCons (tUn kNeg (tC (.int (3)))) tNil))))
    (tSeq (sFld K (tVar 0) (tVar 1) "now")
    (tSeq (tDrop (tMeth L.CE "greet" (sp_E_greet K L) [] E0 (tVar 0) tNil))
    (tRet (tLst (tCons (tC (.int (0))) tNil))))))
/-- finish -/
def t_d_finish (K : PySem.W.Frag) (L : LA) (E : XK) : TS :=
  (tSeq (tDrop (tCallS (sp_d_ask K L) (WE (wE E)) (tCons (tOp rEq (tFld K (tVar 0) "stage") (tC (.int (2)))) (tCons (tUn kNeg (tC (.int (3)))) tNil))))
    (tSeq (sFld K (tVar 0) (tVar 1) "now")
    (tSeq (tDrop (tMeth L.CE "finish" (sp_E_finish K L) [] E0 (tVar 0) tNil))
    (tRet (tLst (tCons (tC (.int (0))) tNil))))))
/-- send -/
def t_d_send (K : PySem.W.Frag) (L : LA) (E : XK) : TS :=
  (tSeq (tDrop (tCallS (sp_d_ask K L) (WE (wE E)) (tCons (tChain kLe kLe (tC (.int (1))) (tCB (kLen K) (tCons (tVar 2) tNil)) (tC (.int (1024)))) (tCons (tUn kNeg (tC (.int (2)))) tNil))))
    (tSeq (tDrop (tCallS (sp_d_ask K L) (WE (wE E)) (tCons (tOp kLt (tMeth L.CE "many_out" (sp_E_many_out K L) [] E0 (tVar 0) tNil) (tC (.int (64)))) (tCons (tUn kNeg (tC (.int (4)))) tNil))))
    (tSeq (sFld K (tVar 0) (tVar 1) "now")
    (tSeq (tDrop (tBM K "list" rAppend (tFld K (tVar 0) "unsent") (tCons (tVar 2) tNil)))
    (tSeq (tDrop (tMeth L.CE "go_out" (sp_E_go_out K L) [] E0 (tVar 0) tNil))
    (tRet (tLst (tCons (tC (.int (0))) tNil))))))))
/-- bits -/
def t_d_bits (K : PySem.W.Frag) (L : LA) (E : XK) : TS :=
  (tSeq (tDrop (tCallS (sp_d_ask K L) (WE (wE E)) (tCons (tChain kLe kLe (tC (.int (0))) (tVar 1) (tC (.int (524280)))) (tCons (tUn kNeg (tC (.int (2)))) tNil))))
    (tSeq (sFld K (tVar 0) (tVar 2) "now")
    (tSeq (tDrop (tCall (sp_d_take_bits K L) [] E0 (tCons (tVar 0) (tCons (tSl (rSlL K) (tCall (sp_d_bits_of K L) [] E0 (tCons (tVar 3) tNil)) tNoPart (tPart (tVar 1))) tNil))))
    (tRet (tLst (tCons (tC (.int (0))) tNil))))))
/-- tick -/
def t_d_tick (K : PySem.W.Frag) (L : LA) : TS :=
  (tSeq (sFld K (tVar 0) (tVar 1) "now")
    (tSeq (tDrop (tMeth L.CE "see_to_clock" (sp_E_see_to_clock K L) [] E0 (tVar 0) tNil))
    (tRet (tLst (tCons (tC (.int (0))) tNil)))))
/-- output -/
def t_d_output (K : PySem.W.Frag) (L : LA) (E : XK) : TS :=
  (tSeq (tDrop (tCallS (sp_d_ask K L) (WE (wE E)) (tCons (tChain kLe kLe (tC (.int (0))) (tVar 1) (tC (.int (65536)))) (tCons (tUn kNeg (tC (.int (2)))) tNil))))
    (tSeq (tAsg (tMeth L.CW "take" (sp_W_take K L) [] E0 (tFld K (tVar 0) "waiting") (tCons (tVar 1) tNil)) (gName 2))
    (tRet (tOp rCat (tLst (tCons (tCB (kLen K) (tCons (tVar 2) tNil)) tNil)) (tVar 2)))))
/-- take -/
def t_d_take (K : PySem.W.Frag) (L : LA) (E : XK) : TS :=
  (tSeq (tDrop (tCallS (sp_d_ask K L) (WE (wE E)) (tCons (tOp kGe (tVar 1) (tC (.int (0)))) (tCons (tUn kNeg (tC (.int (2)))) tNil))))
    (tSeq (tIfS (tTest (tOp rEq (tCB (kLen K) (tCons (tFld K (tVar 0) "come") tNil)) (tC (.int (0))))) (tRet (tLst (tCons (tC (.int (0))) tNil))) tNext)
    (tSeq (tDrop (tCallS (sp_d_ask K L) (WE (wE E)) (tCons (tOp kLe (tCB (kLen K) (tCons (tOp (rIxL K) (tFld K (tVar 0) "come") (tC (.int (0)))) tNil)) (tVar 1)) (tCons (tUn kNeg (tC (.int (1)))) tNil))))
    (tSeq (tAsg (tBM K "list" rPopAt (tFld K (tVar 0) "come") (tCons (tC (.int (0))) tNil)) (gName 2))
    (tRet (tOp rCat (tLst (tCons (tCB (kLen K) (tCons (tVar 2) tNil)) tNil)) (tVar 2)))))))
/-- told -/
def t_d_told (K : PySem.W.Frag) (L : LA) : TS :=
  (tRet (tLst (tCons (tC (.int (0))) (tCons (tFld K (tVar 0) "stage") (tCons (tFld K (tVar 0) "s") (tCons (tFld K (tVar 0) "a") (tCons (tFld K (tVar 0) "r") (tCons (tMeth L.CE "many_out" (sp_E_many_out K L) [] E0 (tVar 0) tNil) (tCons (tCB (kLen K) (tCons (tFld K (tVar 0) "come") tNil)) tNil)))))))))
/-- answer_of -/
def t_d_answer_of (K : PySem.W.Frag) (L : LA) (E : XK) : TS :=
  (tSeq (tIfS (tTest (tOp rEq (tVar 1) (tC (.int (1))))) (tRet (tCallS (sp_d_connect K L) (WE (wE E)) (tCons (tVar 0) (tCons (tOp (rIxL K) (tVar 2) (tC (.int (0)))) tNil)))) tNext)
    (tSeq (tIfS (tTest (tOp rEq (tVar 1) (tC (.int (2))))) (tRet (tCallS (sp_d_finish K L) (WE (wE E)) (tCons (tVar 0) (tCons (tOp (rIxL K) (tVar 2) (tC (.int (0)))) tNil)))) tNext)
    (tSeq (tIfS (tTest (tOp rEq (tVar 1) (tC (.int (3))))) (tRet (tCallS (sp_d_send K L) (WE (wE E)) (tCons (tVar 0) (tCons (tOp (rIxL K) (tVar 2) (tC (.int (0)))) (tCons (tVar 3) tNil))))) tNext)
    (tSeq (tIfS (tTest (tOp rEq (tVar 1) (tC (.int (4))))) (tRet (tCallS (sp_d_bits K L) (WE (wE E)) (tCons (tVar 0) (tCons (tOp (rIxL K) (tVar 2) (tC (.int (0)))) (tCons (tOp (rIxL K) (tVar 2) (tC (.int (1)))) (tCons (tVar 3) tNil)))))) tNext)
    (tSeq (tIfS (tTest (tOp rEq (tVar 1) (tC (.int (5))))) (tRet (tCall (sp_d_tick K L) [] E0 (tCons (tVar 0) (tCons (tOp (rIxL K) (tVar 2) (tC (.int (0)))) tNil)))) tNext)
    (tSeq (tIfS (tTest (tOp rEq (tVar 1) (tC (.int (6))))) (tRet (tCallS (sp_d_output K L) (WE (wE E)) (tCons (tVar 0) (tCons (tOp (rIxL K) (tVar 2) (tC (.int (0)))) tNil)))) tNext)
    (tSeq (tIfS (tTest (tOp rEq (tVar 1) (tC (.int (7))))) (tRet (tCallS (sp_d_take K L) (WE (wE E)) (tCons (tVar 0) (tCons (tOp (rIxL K) (tVar 2) (tC (.int (0)))) tNil)))) tNext)
    (tRet (tCall (sp_d_told K L) [] E0 (tCons (tVar 0) tNil))))))))))
/-- answer_to -/
def t_d_answer_to (K : PySem.W.Frag) (L : LA) (E : XK) : TS :=
  (tSeq (tAsg (tOp (rIxL K) (tVar 2) (tC (.int (0)))) (gName 4))
    (tSeq (tIfS (tTest (tOp rEq (tVar 1) (tC (.int (0))))) (tSeq (tAsg (tCallS (sp_d_begun K L) (WE (wE E)) (tCons (tSl (rSlL K) (tVar 2) (tPart (tC (.int (1)))) tNoPart) tNil)) (gSub (tVar 0) (tVar 4) rSetL))
    (tRet (tLst (tCons (tC (.int (0))) tNil)))) tNext)
    (tSeq (tDrop (tCallS (sp_d_ask K L) (WE (wE E)) (tCons (tOp kNotN (tOp (rIxL K) (tVar 0) (tVar 4)) (tC .non)) (tCons (tUn kNeg (tC (.int (9)))) tNil))))
    (tRet (tCallS (sp_d_answer_of K L) (WE (wE E)) (tCons (tOp (rIxL K) (tVar 0) (tVar 4)) (tCons (tVar 1) (tCons (tSl (rSlL K) (tVar 2) (tPart (tC (.int (1)))) tNoPart) (tCons (tVar 3) tNil)))))))))
/-- answered -/
def t_d_answered (K : PySem.W.Frag) (L : LA) : TS :=
  (tTryX L K (fun W => (tRet (tCallS (sp_d_answer_to K L) (WE W) (tCons (tVar 0) (tCons (tVar 1) (tCons (tVar 2) (tCons (tVar 3) tNil))))))) (fun a cls d => (tRet (tLst (tCons (tXf a cls d L.CX "number" (tVar 4)) tNil)))) 4)
/-- answers -/
def t_d_answers (K : PySem.W.Frag) (L : LA) : TS :=
  (tSeq (tAsg (tOp rRep (tLst (tCons (tC .non) tNil)) (tC (.int (2)))) (gName 1))
    (tSeq (tAsg (tLst tNil) (gName 2))
    (tSeq (tAsg (tC (.int (0))) (gName 3))
    (tSeq (tWhile (tTest (tOp kLt (tVar 3) (tCB (kLen K) (tCons (tVar 0) tNil)))) (tSeq (tAsg (tOp (rIxL K) (tVar 0) (tVar 3)) (gName 4))
    (tSeq (tAsg (tOp kAdd (tOp kAdd (tVar 3) (tC (.int (1)))) (tOp (rIxT K) (tC (.ref L.tMANY_NUMBERS)) (tVar 4))) (gName 5))
    (tSeq (tAsg (tSl (rSlL K) (tVar 0) (tPart (tOp kAdd (tVar 3) (tC (.int (1))))) (tPart (tVar 5))) (gName 6))
    (tSeq (tAsg (tLst tNil) (gName 7))
    (tSeq (tIfS (tTest (tOp (rIn K false) (tVar 4) (tTup (tCons (tC (.int (3))) (tCons (tC (.int (4))) tNil))))) (tSeq (tAsg (tSl (rSlL K) (tVar 0) (tPart (tOp kAdd (tVar 5) (tC (.int (1))))) (tPart (tOp kAdd (tOp kAdd (tVar 5) (tC (.int (1)))) (tOp (rIxL K) (tVar 0) (tVar 5))))) (gName 7))
    (tAug 5 (tOp kAdd (tC (.int (1))) (tOp (rIxL K) (tVar 0) (tVar 5))) (ipI fun i j => i + j))) tNext)
    (tSeq (tAsg (tVar 5) (gName 3))
    (tSeq (tAsg (tCall (sp_d_answered K L) [] E0 (tCons (tVar 1) (tCons (tVar 4) (tCons (tVar 6) (tCons (tVar 7) tNil))))) (gName 8))
    (tSeq (tDrop (tBM K "list" rAppend (tVar 2) (tCons (tCB (kLen K) (tCons (tVar 8) tNil)) tNil)))
    (tDrop (tBM K "list" rExtend (tVar 2) (tCons (tVar 8) tNil))))))))))))
    (tRet (tVar 2))))))
def G1 (mg : Str → Option Value) (x : Str) (v : V) : Prop := ∃ u, mg x = some u ∧ RelV v u
theorem pe_g {X : Cx} {x : Str} {v : V} {pos : Pos} (h : G1 X.mg x v) (hg : Gl X x := by rfl) (hd : (x == ("__debug__" : Str)) = false := by decide) : PE X (.Name x pos) (tC v) := by
  obtain ⟨u, h1, h2⟩ := h
  exact pe_glob hg h1 h2 hd
/-- where the top's defs stand -/
structure FA where
  F_init : Addr
  fd_F_init : FuncData
  F_kind : Addr
  fd_F_kind : FuncData
  F_bit : Addr
  fd_F_bit : FuncData
  F_own_number : Addr
  fd_F_own_number : FuncData
  F_awaited : Addr
  fd_F_awaited : FuncData
  F_fault : Addr
  fd_F_fault : FuncData
  d_numbered_control : Addr
  fd_d_numbered_control : FuncData
  d_state_control : Addr
  fd_d_state_control : FuncData
  d_bits_of : Addr
  fd_d_bits_of : FuncData
  d_bytes_of : Addr
  fd_d_bytes_of : FuncData
  d_sum_of : Addr
  fd_d_sum_of : FuncData
  d_with_noughts : Addr
  fd_d_with_noughts : FuncData
  d_frame_bits : Addr
  fd_d_frame_bits : FuncData
  I_init : Addr
  fd_I_init : FuncData
  I_lose : Addr
  fd_I_lose : FuncData
  I_keep : Addr
  fd_I_keep : FuncData
  I_whole : Addr
  fd_I_whole : FuncData
  I_take : Addr
  fd_I_take : FuncData
  W_init : Addr
  fd_W_init : FuncData
  W_put : Addr
  fd_W_put : FuncData
  W_take : Addr
  fd_W_take : FuncData
  E_init : Addr
  fd_E_init : FuncData
  E_afresh : Addr
  fd_E_afresh : FuncData
  E_command : Addr
  fd_E_command : FuncData
  E_answer : Addr
  fd_E_answer : FuncData
  E_run_clock : Addr
  fd_E_run_clock : FuncData
  E_greet : Addr
  fd_E_greet : FuncData
  E_finish : Addr
  fd_E_finish : FuncData
  E_go_up : Addr
  fd_E_go_up : FuncData
  E_go_down : Addr
  fd_E_go_down : FuncData
  E_own_state : Addr
  fd_E_own_state : FuncData
  E_tell_state : Addr
  fd_E_tell_state : FuncData
  E_ask_again : Addr
  fd_E_ask_again : FuncData
  E_many_out : Addr
  fd_E_many_out : FuncData
  E_may_go_out : Addr
  fd_E_may_go_out : FuncData
  E_go_out : Addr
  fd_E_go_out : FuncData
  E_can_be_answered : Addr
  fd_E_can_be_answered : FuncData
  E_answered_up_to : Addr
  fd_E_answered_up_to : FuncData
  E_say_wrong : Addr
  fd_E_say_wrong : FuncData
  E_get_stuck : Addr
  fd_E_get_stuck : FuncData
  E_is_out : Addr
  fd_E_is_out : FuncData
  E_see_to_clock : Addr
  fd_E_see_to_clock : FuncData
  d_hear_hello : Addr
  fd_d_hear_hello : FuncData
  d_hear_finish : Addr
  fd_d_hear_finish : FuncData
  d_hear_awaited : Addr
  fd_d_hear_awaited : FuncData
  d_hear_numbered : Addr
  fd_d_hear_numbered : FuncData
  d_hear_state : Addr
  fd_d_hear_state : FuncData
  d_hear_command : Addr
  fd_d_hear_command : FuncData
  d_hear_yes : Addr
  fd_d_hear_yes : FuncData
  d_hear_answer : Addr
  fd_d_hear_answer : FuncData
  d_hear : Addr
  fd_d_hear : FuncData
  d_take_bits : Addr
  fd_d_take_bits : FuncData
  X_init : Addr
  fd_X_init : FuncData
  d_ask : Addr
  fd_d_ask : FuncData
  d_begun : Addr
  fd_d_begun : FuncData
  d_connect : Addr
  fd_d_connect : FuncData
  d_finish : Addr
  fd_d_finish : FuncData
  d_send : Addr
  fd_d_send : FuncData
  d_bits : Addr
  fd_d_bits : FuncData
  d_tick : Addr
  fd_d_tick : FuncData
  d_output : Addr
  fd_d_output : FuncData
  d_take : Addr
  fd_d_take : FuncData
  d_told : Addr
  fd_d_told : FuncData
  d_answer_of : Addr
  fd_d_answer_of : FuncData
  d_answer_to : Addr
  fd_d_answer_to : FuncData
  d_answered : Addr
  fd_d_answered : FuncData
  d_answers : Addr
  fd_d_answers : FuncData
/-- what the top has written of classes and tuples -/
structure Tx (K : PySem.W.Frag) (L : LA) : Prop where
  cl_F : Cls K L.CF
  cl_I : Cls K L.CI
  cl_W : Cls K L.CW
  cl_E : Cls K L.CE
  n_F_is_command : NoAttr K L.CF "is_command"
  n_F_control : NoAttr K L.CF "control"
  n_F_load : NoAttr K L.CF "load"
  n_I_lost : NoAttr K L.CI "lost"
  n_I_kept : NoAttr K L.CI "kept"
  n_I_ones : NoAttr K L.CI "ones"
  n_W_bits : NoAttr K L.CW "bits"
  n_E_commands_out : NoAttr K L.CE "commands_out"
  n_E_answers_out : NoAttr K L.CE "answers_out"
  n_E_window : NoAttr K L.CE "window"
  n_E_patience : NoAttr K L.CE "patience"
  n_E_tries : NoAttr K L.CE "tries"
  n_E_stage : NoAttr K L.CE "stage"
  n_E_sent : NoAttr K L.CE "sent"
  n_E_unsent : NoAttr K L.CE "unsent"
  n_E_come : NoAttr K L.CE "come"
  n_E_wrong : NoAttr K L.CE "wrong"
  n_E_listener : NoAttr K L.CE "listener"
  n_E_waiting : NoAttr K L.CE "waiting"
  n_E_now : NoAttr K L.CE "now"
  n_E_s : NoAttr K L.CE "s"
  n_E_a : NoAttr K L.CE "a"
  n_E_r : NoAttr K L.CE "r"
  n_E_other_busy : NoAttr K L.CE "other_busy"
  n_E_asked_again : NoAttr K L.CE "asked_again"
  n_E_polls : NoAttr K L.CE "polls"
  n_E_since : NoAttr K L.CE "since"
  n_E_out : NoAttr K L.CE "out"
  s_PLAIN : ∀ H : Hp, SqT K H L.tPLAIN (zts [47, 67, 99, 15, 135])
  s_STATES : ∀ H : Hp, SqT K H L.tSTATES (zts [1, 5, 9])
  s_COMMANDS : ∀ H : Hp, SqT K H L.tCOMMANDS (zts [0, 1, 5, 9, 47, 67])
  s_ANSWERS : ∀ H : Hp, SqT K H L.tANSWERS (zts [1, 5, 9, 99, 15, 135])
  s_FLAG : ∀ H : Hp, SqT K H L.tFLAG (zts [0, 1, 1, 1, 1, 1, 1, 0])
  s_MANY_NUMBERS : ∀ H : Hp, SqT K H L.tMANY_NUMBERS (zts [5, 2, 2, 2, 3, 2, 2, 2, 1])
  ox : OexC K L.CX
  te : PySem.W.exmOne K (.ref L.CX) (.ref L.CX) = some true
  nX_number : PySem.W.findIn K (.ref L.CX) "number" = some none
  xf : XfC K L.CX
structure Txt (K : PySem.W.Frag) (mg : Str → Option Value) (L : LA) (f : FA) : Prop extends Tx K L where
  c_READY : G1 mg "READY" (.int (1))
  c_BUSY : G1 mg "BUSY" (.int (5))
  c_AGAIN : G1 mg "AGAIN" (.int (9))
  c_HELLO : G1 mg "HELLO" (.int (47))
  c_FINISH : G1 mg "FINISH" (.int (67))
  c_YES : G1 mg "YES" (.int (99))
  c_DOWN_ANSWER : G1 mg "DOWN_ANSWER" (.int (15))
  c_WRONG : G1 mg "WRONG" (.int (135))
  c_NUMBERED : G1 mg "NUMBERED" (.int (0))
  c_UNKNOWN : G1 mg "UNKNOWN" (.int (-1))
  c_BIT : G1 mg "BIT" (.int (16))
  c_NUMBERS : G1 mg "NUMBERS" (.int (8))
  c_WRONG_BYTES : G1 mg "WRONG_BYTES" (.int (3))
  c_MOST_LOAD : G1 mg "MOST_LOAD" (.int (1024))
  c_GOOD : G1 mg "GOOD" (.int (0))
  c_NOT_KNOWN : G1 mg "NOT_KNOWN" (.int (1))
  c_BYTES : G1 mg "BYTES" (.int (3))
  c_TOO_MANY : G1 mg "TOO_MANY" (.int (4))
  c_CANNOT_BE : G1 mg "CANNOT_BE" (.int (8))
  c_FLAG_KEPT : G1 mg "FLAG_KEPT" (.int (7))
  c_LEAST_BYTES : G1 mg "LEAST_BYTES" (.int (4))
  c_MOST_BYTES : G1 mg "MOST_BYTES" (.int (1028))
  c_MOST_KEPT : G1 mg "MOST_KEPT" (.int (8231))
  c_MOST_WAITING : G1 mg "MOST_WAITING" (.int (1048576))
  c_SUM_BEGIN : G1 mg "SUM_BEGIN" (.int (65535))
  c_SUM_PARTS : G1 mg "SUM_PARTS" (.int (33800))
  c_DOWN : G1 mg "DOWN" (.int (0))
  c_GREETING : G1 mg "GREETING" (.int (1))
  c_UP : G1 mg "UP" (.int (2))
  c_ENDING : G1 mg "ENDING" (.int (3))
  c_STUCK : G1 mg "STUCK" (.int (4))
  c_MOST_MESSAGES : G1 mg "MOST_MESSAGES" (.int (64))
  c_WHOLE_TIME : G1 mg "WHOLE_TIME" (.int (4294967296))
  c_MANY_ENDS : G1 mg "MANY_ENDS" (.int (2))
  c_SEND : G1 mg "SEND" (.int (3))
  c_BITS : G1 mg "BITS" (.int (4))
  c_MOST_BITS : G1 mg "MOST_BITS" (.int (524280))
  c_MOST_OUT : G1 mg "MOST_OUT" (.int (65536))
  c_MOST_MESSAGE : G1 mg "MOST_MESSAGE" (.int (1024))
  c_MOST_WINDOW : G1 mg "MOST_WINDOW" (.int (7))
  c_MOST_TRIES : G1 mg "MOST_TRIES" (.int (100))
  c_PLAIN : G1 mg "PLAIN" (.ref L.tPLAIN)
  c_STATES : G1 mg "STATES" (.ref L.tSTATES)
  c_COMMANDS : G1 mg "COMMANDS" (.ref L.tCOMMANDS)
  c_ANSWERS : G1 mg "ANSWERS" (.ref L.tANSWERS)
  c_FLAG : G1 mg "FLAG" (.ref L.tFLAG)
  c_MANY_NUMBERS : G1 mg "MANY_NUMBERS" (.ref L.tMANY_NUMBERS)
  n_len : mg "len" = none
  n_max : mg "max" = none
  n_list : mg "list" = none
  n_range : mg "range" = none
  n_reversed : mg "reversed" = none
  g_F : mg "Frame" = some (.ref L.CF)
  g_I : mg "Listener" = some (.ref L.CI)
  g_W : mg "Waiting" = some (.ref L.CW)
  g_E : mg "End" = some (.ref L.CE)
  g_X : mg "Refused" = some (.ref L.CX)
  mk_F : Mk K L.CF f.F_init
  mk_I : Mk K L.CI f.I_init
  mk_W : Mk K L.CW f.W_init
  mk_E : Mk K L.CE f.E_init
  F_F_init : Fun K "__init__" "Frame.__init__" s_F_init f.F_init f.fd_F_init
  b_F_init : Binds K f.fd_F_init ["self", "is_command", "control", "load"] []
  F_F_kind : Fun K "kind" "Frame.kind" s_F_kind f.F_kind f.fd_F_kind
  b_F_kind : Binds K f.fd_F_kind ["self"] []
  m_F_kind : Meth K L.CF "kind" f.F_kind
  F_F_bit : Fun K "bit" "Frame.bit" s_F_bit f.F_bit f.fd_F_bit
  b_F_bit : Binds K f.fd_F_bit ["self"] []
  m_F_bit : Meth K L.CF "bit" f.F_bit
  F_F_own_number : Fun K "own_number" "Frame.own_number" s_F_own_number f.F_own_number f.fd_F_own_number
  b_F_own_number : Binds K f.fd_F_own_number ["self"] []
  m_F_own_number : Meth K L.CF "own_number" f.F_own_number
  F_F_awaited : Fun K "awaited" "Frame.awaited" s_F_awaited f.F_awaited f.fd_F_awaited
  b_F_awaited : Binds K f.fd_F_awaited ["self"] []
  m_F_awaited : Meth K L.CF "awaited" f.F_awaited
  F_F_fault : Fun K "fault" "Frame.fault" s_F_fault f.F_fault f.fd_F_fault
  b_F_fault : Binds K f.fd_F_fault ["self"] []
  m_F_fault : Meth K L.CF "fault" f.F_fault
  F_d_numbered_control : Fun K "numbered_control" "numbered_control" s_d_numbered_control f.d_numbered_control f.fd_d_numbered_control
  b_d_numbered_control : Binds K f.fd_d_numbered_control ["number", "awaited"] []
  g_d_numbered_control : mg "numbered_control" = some (.ref f.d_numbered_control)
  F_d_state_control : Fun K "state_control" "state_control" s_d_state_control f.d_state_control f.fd_d_state_control
  b_d_state_control : Binds K f.fd_d_state_control ["kind", "bit", "awaited"] []
  g_d_state_control : mg "state_control" = some (.ref f.d_state_control)
  F_d_bits_of : Fun K "bits_of" "bits_of" s_d_bits_of f.d_bits_of f.fd_d_bits_of
  b_d_bits_of : Binds K f.fd_d_bits_of ["row"] []
  g_d_bits_of : mg "bits_of" = some (.ref f.d_bits_of)
  F_d_bytes_of : Fun K "bytes_of" "bytes_of" s_d_bytes_of f.d_bytes_of f.fd_d_bytes_of
  b_d_bytes_of : Binds K f.fd_d_bytes_of ["bits"] []
  g_d_bytes_of : mg "bytes_of" = some (.ref f.d_bytes_of)
  F_d_sum_of : Fun K "sum_of" "sum_of" s_d_sum_of f.d_sum_of f.fd_d_sum_of
  b_d_sum_of : Binds K f.fd_d_sum_of ["row"] []
  g_d_sum_of : mg "sum_of" = some (.ref f.d_sum_of)
  F_d_with_noughts : Fun K "with_noughts" "with_noughts" s_d_with_noughts f.d_with_noughts f.fd_d_with_noughts
  b_d_with_noughts : Binds K f.fd_d_with_noughts ["bits"] []
  g_d_with_noughts : mg "with_noughts" = some (.ref f.d_with_noughts)
  F_d_frame_bits : Fun K "frame_bits" "frame_bits" s_d_frame_bits f.d_frame_bits f.fd_d_frame_bits
  b_d_frame_bits : Binds K f.fd_d_frame_bits ["row"] []
  g_d_frame_bits : mg "frame_bits" = some (.ref f.d_frame_bits)
  F_I_init : Fun K "__init__" "Listener.__init__" s_I_init f.I_init f.fd_I_init
  b_I_init : Binds K f.fd_I_init ["self"] []
  F_I_lose : Fun K "lose" "Listener.lose" s_I_lose f.I_lose f.fd_I_lose
  b_I_lose : Binds K f.fd_I_lose ["self"] []
  m_I_lose : Meth K L.CI "lose" f.I_lose
  F_I_keep : Fun K "keep" "Listener.keep" s_I_keep f.I_keep f.fd_I_keep
  b_I_keep : Binds K f.fd_I_keep ["self", "bit"] []
  m_I_keep : Meth K L.CI "keep" f.I_keep
  F_I_whole : Fun K "whole" "Listener.whole" s_I_whole f.I_whole f.fd_I_whole
  b_I_whole : Binds K f.fd_I_whole ["self"] []
  m_I_whole : Meth K L.CI "whole" f.I_whole
  F_I_take : Fun K "take" "Listener.take" s_I_take f.I_take f.fd_I_take
  b_I_take : Binds K f.fd_I_take ["self", "bit"] []
  m_I_take : Meth K L.CI "take" f.I_take
  F_W_init : Fun K "__init__" "Waiting.__init__" s_W_init f.W_init f.fd_W_init
  b_W_init : Binds K f.fd_W_init ["self"] []
  F_W_put : Fun K "put" "Waiting.put" s_W_put f.W_put f.fd_W_put
  b_W_put : Binds K f.fd_W_put ["self", "row"] []
  m_W_put : Meth K L.CW "put" f.W_put
  F_W_take : Fun K "take" "Waiting.take" s_W_take f.W_take f.fd_W_take
  b_W_take : Binds K f.fd_W_take ["self", "most"] []
  m_W_take : Meth K L.CW "take" f.W_take
  F_E_init : Fun K "__init__" "End.__init__" s_E_init f.E_init f.fd_E_init
  b_E_init : Binds K f.fd_E_init ["self", "side", "window", "patience", "tries"] []
  F_E_afresh : Fun K "afresh" "End.afresh" s_E_afresh f.E_afresh f.fd_E_afresh
  b_E_afresh : Binds K f.fd_E_afresh ["self"] []
  m_E_afresh : Meth K L.CE "afresh" f.E_afresh
  F_E_command : Fun K "command" "End.command" s_E_command f.E_command f.fd_E_command
  b_E_command : Binds K f.fd_E_command ["self", "control", "load"] []
  m_E_command : Meth K L.CE "command" f.E_command
  F_E_answer : Fun K "answer" "End.answer" s_E_answer f.E_answer f.fd_E_answer
  b_E_answer : Binds K f.fd_E_answer ["self", "control", "load"] []
  m_E_answer : Meth K L.CE "answer" f.E_answer
  F_E_run_clock : Fun K "run_clock" "End.run_clock" s_E_run_clock f.E_run_clock f.fd_E_run_clock
  b_E_run_clock : Binds K f.fd_E_run_clock ["self"] []
  m_E_run_clock : Meth K L.CE "run_clock" f.E_run_clock
  F_E_greet : Fun K "greet" "End.greet" s_E_greet f.E_greet f.fd_E_greet
  b_E_greet : Binds K f.fd_E_greet ["self"] []
  m_E_greet : Meth K L.CE "greet" f.E_greet
  F_E_finish : Fun K "finish" "End.finish" s_E_finish f.E_finish f.fd_E_finish
  b_E_finish : Binds K f.fd_E_finish ["self"] []
  m_E_finish : Meth K L.CE "finish" f.E_finish
  F_E_go_up : Fun K "go_up" "End.go_up" s_E_go_up f.E_go_up f.fd_E_go_up
  b_E_go_up : Binds K f.fd_E_go_up ["self"] []
  m_E_go_up : Meth K L.CE "go_up" f.E_go_up
  F_E_go_down : Fun K "go_down" "End.go_down" s_E_go_down f.E_go_down f.fd_E_go_down
  b_E_go_down : Binds K f.fd_E_go_down ["self"] []
  m_E_go_down : Meth K L.CE "go_down" f.E_go_down
  F_E_own_state : Fun K "own_state" "End.own_state" s_E_own_state f.E_own_state f.fd_E_own_state
  b_E_own_state : Binds K f.fd_E_own_state ["self", "bit"] []
  m_E_own_state : Meth K L.CE "own_state" f.E_own_state
  F_E_tell_state : Fun K "tell_state" "End.tell_state" s_E_tell_state f.E_tell_state f.fd_E_tell_state
  b_E_tell_state : Binds K f.fd_E_tell_state ["self", "bit"] []
  m_E_tell_state : Meth K L.CE "tell_state" f.E_tell_state
  F_E_ask_again : Fun K "ask_again" "End.ask_again" s_E_ask_again f.E_ask_again f.fd_E_ask_again
  b_E_ask_again : Binds K f.fd_E_ask_again ["self", "bit"] []
  m_E_ask_again : Meth K L.CE "ask_again" f.E_ask_again
  F_E_many_out : Fun K "many_out" "End.many_out" s_E_many_out f.E_many_out f.fd_E_many_out
  b_E_many_out : Binds K f.fd_E_many_out ["self"] []
  m_E_many_out : Meth K L.CE "many_out" f.E_many_out
  F_E_may_go_out : Fun K "may_go_out" "End.may_go_out" s_E_may_go_out f.E_may_go_out f.fd_E_may_go_out
  b_E_may_go_out : Binds K f.fd_E_may_go_out ["self"] []
  m_E_may_go_out : Meth K L.CE "may_go_out" f.E_may_go_out
  F_E_go_out : Fun K "go_out" "End.go_out" s_E_go_out f.E_go_out f.fd_E_go_out
  b_E_go_out : Binds K f.fd_E_go_out ["self"] []
  m_E_go_out : Meth K L.CE "go_out" f.E_go_out
  F_E_can_be_answered : Fun K "can_be_answered" "End.can_be_answered" s_E_can_be_answered f.E_can_be_answered f.fd_E_can_be_answered
  b_E_can_be_answered : Binds K f.fd_E_can_be_answered ["self", "k"] []
  m_E_can_be_answered : Meth K L.CE "can_be_answered" f.E_can_be_answered
  F_E_answered_up_to : Fun K "answered_up_to" "End.answered_up_to" s_E_answered_up_to f.E_answered_up_to f.fd_E_answered_up_to
  b_E_answered_up_to : Binds K f.fd_E_answered_up_to ["self", "k"] []
  m_E_answered_up_to : Meth K L.CE "answered_up_to" f.E_answered_up_to
  F_E_say_wrong : Fun K "say_wrong" "End.say_wrong" s_E_say_wrong f.E_say_wrong f.fd_E_say_wrong
  b_E_say_wrong : Binds K f.fd_E_say_wrong ["self", "bit"] []
  m_E_say_wrong : Meth K L.CE "say_wrong" f.E_say_wrong
  F_E_get_stuck : Fun K "get_stuck" "End.get_stuck" s_E_get_stuck f.E_get_stuck f.fd_E_get_stuck
  b_E_get_stuck : Binds K f.fd_E_get_stuck ["self", "control", "bit", "reason"] []
  m_E_get_stuck : Meth K L.CE "get_stuck" f.E_get_stuck
  F_E_is_out : Fun K "is_out" "End.is_out" s_E_is_out f.E_is_out f.fd_E_is_out
  b_E_is_out : Binds K f.fd_E_is_out ["self"] []
  m_E_is_out : Meth K L.CE "is_out" f.E_is_out
  F_E_see_to_clock : Fun K "see_to_clock" "End.see_to_clock" s_E_see_to_clock f.E_see_to_clock f.fd_E_see_to_clock
  b_E_see_to_clock : Binds K f.fd_E_see_to_clock ["self"] []
  m_E_see_to_clock : Meth K L.CE "see_to_clock" f.E_see_to_clock
  F_d_hear_hello : Fun K "hear_hello" "hear_hello" s_d_hear_hello f.d_hear_hello f.fd_d_hear_hello
  b_d_hear_hello : Binds K f.fd_d_hear_hello ["end", "bit"] []
  g_d_hear_hello : mg "hear_hello" = some (.ref f.d_hear_hello)
  F_d_hear_finish : Fun K "hear_finish" "hear_finish" s_d_hear_finish f.d_hear_finish f.fd_d_hear_finish
  b_d_hear_finish : Binds K f.fd_d_hear_finish ["end", "bit"] []
  g_d_hear_finish : mg "hear_finish" = some (.ref f.d_hear_finish)
  F_d_hear_awaited : Fun K "hear_awaited" "hear_awaited" s_d_hear_awaited f.d_hear_awaited f.fd_d_hear_awaited
  b_d_hear_awaited : Binds K f.fd_d_hear_awaited ["end", "frame"] []
  g_d_hear_awaited : mg "hear_awaited" = some (.ref f.d_hear_awaited)
  F_d_hear_numbered : Fun K "hear_numbered" "hear_numbered" s_d_hear_numbered f.d_hear_numbered f.fd_d_hear_numbered
  b_d_hear_numbered : Binds K f.fd_d_hear_numbered ["end", "frame"] []
  g_d_hear_numbered : mg "hear_numbered" = some (.ref f.d_hear_numbered)
  F_d_hear_state : Fun K "hear_state" "hear_state" s_d_hear_state f.d_hear_state f.fd_d_hear_state
  b_d_hear_state : Binds K f.fd_d_hear_state ["end", "frame"] []
  g_d_hear_state : mg "hear_state" = some (.ref f.d_hear_state)
  F_d_hear_command : Fun K "hear_command" "hear_command" s_d_hear_command f.d_hear_command f.fd_d_hear_command
  b_d_hear_command : Binds K f.fd_d_hear_command ["end", "frame"] []
  g_d_hear_command : mg "hear_command" = some (.ref f.d_hear_command)
  F_d_hear_yes : Fun K "hear_yes" "hear_yes" s_d_hear_yes f.d_hear_yes f.fd_d_hear_yes
  b_d_hear_yes : Binds K f.fd_d_hear_yes ["end"] []
  g_d_hear_yes : mg "hear_yes" = some (.ref f.d_hear_yes)
  F_d_hear_answer : Fun K "hear_answer" "hear_answer" s_d_hear_answer f.d_hear_answer f.fd_d_hear_answer
  b_d_hear_answer : Binds K f.fd_d_hear_answer ["end", "frame"] []
  g_d_hear_answer : mg "hear_answer" = some (.ref f.d_hear_answer)
  F_d_hear : Fun K "hear" "hear" s_d_hear f.d_hear f.fd_d_hear
  b_d_hear : Binds K f.fd_d_hear ["end", "row"] []
  g_d_hear : mg "hear" = some (.ref f.d_hear)
  F_d_take_bits : Fun K "take_bits" "take_bits" s_d_take_bits f.d_take_bits f.fd_d_take_bits
  b_d_take_bits : Binds K f.fd_d_take_bits ["end", "bits"] []
  g_d_take_bits : mg "take_bits" = some (.ref f.d_take_bits)
  F_X_init : Fun K "__init__" "Refused.__init__" s_X_init f.X_init f.fd_X_init
  b_X_init : Binds K f.fd_X_init ["self", "number"] []
  F_d_ask : Fun K "ask" "ask" s_d_ask f.d_ask f.fd_d_ask
  b_d_ask : Binds K f.fd_d_ask ["good", "number"] []
  g_d_ask : mg "ask" = some (.ref f.d_ask)
  F_d_begun : Fun K "begun" "begun" s_d_begun f.d_begun f.fd_d_begun
  b_d_begun : Binds K f.fd_d_begun ["numbers"] []
  g_d_begun : mg "begun" = some (.ref f.d_begun)
  F_d_connect : Fun K "connect" "connect" s_d_connect f.d_connect f.fd_d_connect
  b_d_connect : Binds K f.fd_d_connect ["end", "now"] []
  g_d_connect : mg "connect" = some (.ref f.d_connect)
  F_d_finish : Fun K "finish" "finish" s_d_finish f.d_finish f.fd_d_finish
  b_d_finish : Binds K f.fd_d_finish ["end", "now"] []
  g_d_finish : mg "finish" = some (.ref f.d_finish)
  F_d_send : Fun K "send" "send" s_d_send f.d_send f.fd_d_send
  b_d_send : Binds K f.fd_d_send ["end", "now", "row"] []
  g_d_send : mg "send" = some (.ref f.d_send)
  F_d_bits : Fun K "bits" "bits" s_d_bits f.d_bits f.fd_d_bits
  b_d_bits : Binds K f.fd_d_bits ["end", "n", "now", "row"] []
  g_d_bits : mg "bits" = some (.ref f.d_bits)
  F_d_tick : Fun K "tick" "tick" s_d_tick f.d_tick f.fd_d_tick
  b_d_tick : Binds K f.fd_d_tick ["end", "now"] []
  g_d_tick : mg "tick" = some (.ref f.d_tick)
  F_d_output : Fun K "output" "output" s_d_output f.d_output f.fd_d_output
  b_d_output : Binds K f.fd_d_output ["end", "most"] []
  g_d_output : mg "output" = some (.ref f.d_output)
  F_d_take : Fun K "take" "take" s_d_take f.d_take f.fd_d_take
  b_d_take : Binds K f.fd_d_take ["end", "most"] []
  g_d_take : mg "take" = some (.ref f.d_take)
  F_d_told : Fun K "told" "told" s_d_told f.d_told f.fd_d_told
  b_d_told : Binds K f.fd_d_told ["end"] []
  g_d_told : mg "told" = some (.ref f.d_told)
  F_d_answer_of : Fun K "answer_of" "answer_of" s_d_answer_of f.d_answer_of f.fd_d_answer_of
  b_d_answer_of : Binds K f.fd_d_answer_of ["end", "call", "numbers", "row"] []
  g_d_answer_of : mg "answer_of" = some (.ref f.d_answer_of)
  F_d_answer_to : Fun K "answer_to" "answer_to" s_d_answer_to f.d_answer_to f.fd_d_answer_to
  b_d_answer_to : Binds K f.fd_d_answer_to ["ends", "call", "numbers", "row"] []
  g_d_answer_to : mg "answer_to" = some (.ref f.d_answer_to)
  F_d_answered : Fun K "answered" "answered" s_d_answered f.d_answered f.fd_d_answered
  b_d_answered : Binds K f.fd_d_answered ["ends", "call", "numbers", "row"] []
  g_d_answered : mg "answered" = some (.ref f.d_answered)
  F_d_answers : Fun K "answers" "answers" s_d_answers f.d_answers f.fd_d_answers
  b_d_answers : Binds K f.fd_d_answers ["calls"] []
  g_d_answers : mg "answers" = some (.ref f.d_answers)
  iX : PySem.W.findIn K (.ref L.CX) "__init__" = some (some (.ref f.X_init))
  tX : PySem.W.typeIn K (.ref f.X_init) = some (.type "function")
end LK
namespace LK
open PySem PySem.Spec PyProof.Rows L2
theorem ef_commands_out {K : PySem.W.Frag} {L : LA} {H : Hp} {e : Addr} {A : EA} {t : S} {n : Nat} {σ : L2.St} {ta : TE} (I : EndAt L H e A t n) (T : Tx K L) (h : Val ta σ H (.ref e)) : Val (tFld K ta "commands_out") σ H (.int (if t.side = 0 then 1 else 3)) := val_fld h I.obj T.cl_E T.n_E_commands_out (eF_commands_out _)
theorem ef_answers_out {K : PySem.W.Frag} {L : LA} {H : Hp} {e : Addr} {A : EA} {t : S} {n : Nat} {σ : L2.St} {ta : TE} (I : EndAt L H e A t n) (T : Tx K L) (h : Val ta σ H (.ref e)) : Val (tFld K ta "answers_out") σ H (.int (if t.side = 0 then 3 else 1)) := val_fld h I.obj T.cl_E T.n_E_answers_out (eF_answers_out _)
theorem ef_window {K : PySem.W.Frag} {L : LA} {H : Hp} {e : Addr} {A : EA} {t : S} {n : Nat} {σ : L2.St} {ta : TE} (I : EndAt L H e A t n) (T : Tx K L) (h : Val ta σ H (.ref e)) : Val (tFld K ta "window") σ H (.int (t.window : Nat)) := val_fld h I.obj T.cl_E T.n_E_window (eF_window _)
theorem ef_patience {K : PySem.W.Frag} {L : LA} {H : Hp} {e : Addr} {A : EA} {t : S} {n : Nat} {σ : L2.St} {ta : TE} (I : EndAt L H e A t n) (T : Tx K L) (h : Val ta σ H (.ref e)) : Val (tFld K ta "patience") σ H (.int (t.patience : Nat)) := val_fld h I.obj T.cl_E T.n_E_patience (eF_patience _)
theorem ef_tries {K : PySem.W.Frag} {L : LA} {H : Hp} {e : Addr} {A : EA} {t : S} {n : Nat} {σ : L2.St} {ta : TE} (I : EndAt L H e A t n) (T : Tx K L) (h : Val ta σ H (.ref e)) : Val (tFld K ta "tries") σ H (.int (t.tries : Nat)) := val_fld h I.obj T.cl_E T.n_E_tries (eF_tries _)
theorem ef_stage {K : PySem.W.Frag} {L : LA} {H : Hp} {e : Addr} {A : EA} {t : S} {n : Nat} {σ : L2.St} {ta : TE} (I : EndAt L H e A t n) (T : Tx K L) (h : Val ta σ H (.ref e)) : Val (tFld K ta "stage") σ H (.int (Sa72.stageNumber t.stage)) := val_fld h I.obj T.cl_E T.n_E_stage (eF_stage _)
theorem ef_sent {K : PySem.W.Frag} {L : LA} {H : Hp} {e : Addr} {A : EA} {t : S} {n : Nat} {σ : L2.St} {ta : TE} (I : EndAt L H e A t n) (T : Tx K L) (h : Val ta σ H (.ref e)) : Val (tFld K ta "sent") σ H (.ref A.sent) := val_fld h I.obj T.cl_E T.n_E_sent (eF_sent _)
theorem ef_unsent {K : PySem.W.Frag} {L : LA} {H : Hp} {e : Addr} {A : EA} {t : S} {n : Nat} {σ : L2.St} {ta : TE} (I : EndAt L H e A t n) (T : Tx K L) (h : Val ta σ H (.ref e)) : Val (tFld K ta "unsent") σ H (.ref A.unsent) := val_fld h I.obj T.cl_E T.n_E_unsent (eF_unsent _)
theorem ef_come {K : PySem.W.Frag} {L : LA} {H : Hp} {e : Addr} {A : EA} {t : S} {n : Nat} {σ : L2.St} {ta : TE} (I : EndAt L H e A t n) (T : Tx K L) (h : Val ta σ H (.ref e)) : Val (tFld K ta "come") σ H (.ref A.come) := val_fld h I.obj T.cl_E T.n_E_come (eF_come _)
theorem ef_wrong {K : PySem.W.Frag} {L : LA} {H : Hp} {e : Addr} {A : EA} {t : S} {n : Nat} {σ : L2.St} {ta : TE} (I : EndAt L H e A t n) (T : Tx K L) (h : Val ta σ H (.ref e)) : Val (tFld K ta "wrong") σ H (.ref A.wrong) := val_fld h I.obj T.cl_E T.n_E_wrong (eF_wrong _)
theorem ef_listener {K : PySem.W.Frag} {L : LA} {H : Hp} {e : Addr} {A : EA} {t : S} {n : Nat} {σ : L2.St} {ta : TE} (I : EndAt L H e A t n) (T : Tx K L) (h : Val ta σ H (.ref e)) : Val (tFld K ta "listener") σ H (.ref A.li) := val_fld h I.obj T.cl_E T.n_E_listener (eF_listener _)
theorem ef_waiting {K : PySem.W.Frag} {L : LA} {H : Hp} {e : Addr} {A : EA} {t : S} {n : Nat} {σ : L2.St} {ta : TE} (I : EndAt L H e A t n) (T : Tx K L) (h : Val ta σ H (.ref e)) : Val (tFld K ta "waiting") σ H (.ref A.wa) := val_fld h I.obj T.cl_E T.n_E_waiting (eF_waiting _)
theorem ef_now {K : PySem.W.Frag} {L : LA} {H : Hp} {e : Addr} {A : EA} {t : S} {n : Nat} {σ : L2.St} {ta : TE} (I : EndAt L H e A t n) (T : Tx K L) (h : Val ta σ H (.ref e)) : Val (tFld K ta "now") σ H (.int (n : Nat)) := val_fld h I.obj T.cl_E T.n_E_now (eF_now _)
theorem ef_s {K : PySem.W.Frag} {L : LA} {H : Hp} {e : Addr} {A : EA} {t : S} {n : Nat} {σ : L2.St} {ta : TE} (I : EndAt L H e A t n) (T : Tx K L) (h : Val ta σ H (.ref e)) : Val (tFld K ta "s") σ H (.int (t.s : Nat)) := val_fld h I.obj T.cl_E T.n_E_s (eF_s _)
theorem ef_a {K : PySem.W.Frag} {L : LA} {H : Hp} {e : Addr} {A : EA} {t : S} {n : Nat} {σ : L2.St} {ta : TE} (I : EndAt L H e A t n) (T : Tx K L) (h : Val ta σ H (.ref e)) : Val (tFld K ta "a") σ H (.int (t.a : Nat)) := val_fld h I.obj T.cl_E T.n_E_a (eF_a _)
theorem ef_r {K : PySem.W.Frag} {L : LA} {H : Hp} {e : Addr} {A : EA} {t : S} {n : Nat} {σ : L2.St} {ta : TE} (I : EndAt L H e A t n) (T : Tx K L) (h : Val ta σ H (.ref e)) : Val (tFld K ta "r") σ H (.int (t.r : Nat)) := val_fld h I.obj T.cl_E T.n_E_r (eF_r _)
theorem ef_other_busy {K : PySem.W.Frag} {L : LA} {H : Hp} {e : Addr} {A : EA} {t : S} {n : Nat} {σ : L2.St} {ta : TE} (I : EndAt L H e A t n) (T : Tx K L) (h : Val ta σ H (.ref e)) : Val (tFld K ta "other_busy") σ H (.bl A.bz) := val_fld h I.obj T.cl_E T.n_E_other_busy (eF_other_busy _)
theorem ef_asked_again {K : PySem.W.Frag} {L : LA} {H : Hp} {e : Addr} {A : EA} {t : S} {n : Nat} {σ : L2.St} {ta : TE} (I : EndAt L H e A t n) (T : Tx K L) (h : Val ta σ H (.ref e)) : Val (tFld K ta "asked_again") σ H (.bl t.asked) := val_fld h I.obj T.cl_E T.n_E_asked_again (eF_asked_again _)
theorem ef_polls {K : PySem.W.Frag} {L : LA} {H : Hp} {e : Addr} {A : EA} {t : S} {n : Nat} {σ : L2.St} {ta : TE} (I : EndAt L H e A t n) (T : Tx K L) (h : Val ta σ H (.ref e)) : Val (tFld K ta "polls") σ H (.bl t.polls) := val_fld h I.obj T.cl_E T.n_E_polls (eF_polls _)
theorem ef_since {K : PySem.W.Frag} {L : LA} {H : Hp} {e : Addr} {A : EA} {t : S} {n : Nat} {σ : L2.St} {ta : TE} (I : EndAt L H e A t n) (T : Tx K L) (h : Val ta σ H (.ref e)) : Val (tFld K ta "since") σ H (clockV t.clock) := val_fld h I.obj T.cl_E T.n_E_since (eF_since _)
theorem ef_out {K : PySem.W.Frag} {L : LA} {H : Hp} {e : Addr} {A : EA} {t : S} {n : Nat} {σ : L2.St} {ta : TE} (I : EndAt L H e A t n) (T : Tx K L) (h : Val ta σ H (.ref e)) : Val (tFld K ta "out") σ H (.int (t.outs : Nat)) := val_fld h I.obj T.cl_E T.n_E_out (eF_out _)
theorem lf_lost {K : PySem.W.Frag} {L : LA} {H : Hp} {l dl kp : Addr} {s : Ls} {σ : L2.St} {ta : TE} (I : LisAt L H l dl kp s) (T : Tx K L) (h : Val ta σ H (.ref l)) : Val (tFld K ta "lost") σ H (.bl s.lost) := val_fld h I.obj T.cl_I T.n_I_lost (lF_lost _ _ _)
theorem lf_kept {K : PySem.W.Frag} {L : LA} {H : Hp} {l dl kp : Addr} {s : Ls} {σ : L2.St} {ta : TE} (I : LisAt L H l dl kp s) (T : Tx K L) (h : Val ta σ H (.ref l)) : Val (tFld K ta "kept") σ H (.ref kp) := val_fld h I.obj T.cl_I T.n_I_kept (lF_kept _ _ _)
theorem lf_ones {K : PySem.W.Frag} {L : LA} {H : Hp} {l dl kp : Addr} {s : Ls} {σ : L2.St} {ta : TE} (I : LisAt L H l dl kp s) (T : Tx K L) (h : Val ta σ H (.ref l)) : Val (tFld K ta "ones") σ H (.int (s.ones : Nat)) := val_fld h I.obj T.cl_I T.n_I_ones (lF_ones _ _ _)
theorem wf_bits {K : PySem.W.Frag} {L : LA} {H : Hp} {w dw bt : Addr} {bits : List Nat} {σ : L2.St} {ta : TE} (I : WaitAt L H w dw bt bits) (T : Tx K L) (h : Val ta σ H (.ref w)) : Val (tFld K ta "bits") σ H (.ref bt) := val_fld h I.obj T.cl_W T.n_W_bits (wF_bits _)
theorem ff_is_command {K : PySem.W.Frag} {L : LA} {H : Hp} {f la : Addr} {b : Bool} {c : Nat} {load : List Nat} {σ : L2.St} {ta : TE} (I : FrO L H f la b c load) (T : Tx K L) (h : Val ta σ H (.ref f)) : Val (tFld K ta "is_command") σ H (.bl b) := by
  obtain ⟨dx, ho⟩ := I.obj
  exact val_fld h ho T.cl_F T.n_F_is_command (fF_is_command _ _ _)
theorem ff_control {K : PySem.W.Frag} {L : LA} {H : Hp} {f la : Addr} {b : Bool} {c : Nat} {load : List Nat} {σ : L2.St} {ta : TE} (I : FrO L H f la b c load) (T : Tx K L) (h : Val ta σ H (.ref f)) : Val (tFld K ta "control") σ H (.int (c : Nat)) := by
  obtain ⟨dx, ho⟩ := I.obj
  exact val_fld h ho T.cl_F T.n_F_control (fF_control _ _ _)
theorem ff_load {K : PySem.W.Frag} {L : LA} {H : Hp} {f la : Addr} {b : Bool} {c : Nat} {load : List Nat} {σ : L2.St} {ta : TE} (I : FrO L H f la b c load) (T : Tx K L) (h : Val ta σ H (.ref f)) : Val (tFld K ta "load") σ H (.ref la) := by
  obtain ⟨dx, ho⟩ := I.obj
  exact val_fld h ho T.cl_F T.n_F_load (fF_load _ _ _)
/-! # Words for the readings -/
section
variable {K : PySem.W.Frag} {σ : L2.St} {H : Hp} {ta tb te : TE} {i j : Int} {D : Ends}
theorem v_add (a : Val ta σ H (.int i)) (b : Val tb σ H (.int j)) : Val (tOp kAdd ta tb) σ H (.int (i + j)) := val_op a b fun _ q => ⟨i, j, rfl, rfl, q⟩
theorem v_sub (a : Val ta σ H (.int i)) (b : Val tb σ H (.int j)) : Val (tOp kSub ta tb) σ H (.int (i - j)) := val_op a b fun _ q => ⟨i, j, rfl, rfl, q⟩
theorem v_mul (a : Val ta σ H (.int i)) (b : Val tb σ H (.int j)) (h : -(2 ^ 64) < i ∧ i < 2 ^ 64) : Val (tOp kMul ta tb) σ H (.int (i * j)) := val_op a b fun _ q => ⟨i, j, rfl, rfl, .inl h, q⟩
theorem v_mod (a : Val ta σ H (.int i)) (b : Val tb σ H (.int j)) (h : 0 < j) : Val (tOp kMod ta tb) σ H (.int (i % j)) := val_op a b fun _ q => ⟨i, j, rfl, rfl, h, q⟩
theorem v_div (a : Val ta σ H (.int i)) (b : Val tb σ H (.int j)) (h : CDiv i j) : Val (tOp kDiv ta tb) σ H (.int (i / j)) := val_op a b fun _ q => ⟨i, j, rfl, rfl, h, q⟩
theorem v_shr (a : Val ta σ H (.int i)) (b : Val tb σ H (.int j)) (h : 0 ≤ j) : Val (tOp kShr ta tb) σ H (.int (i / 2 ^ j.toNat)) := val_op a b fun _ q => ⟨i, j, rfl, rfl, h, q⟩
theorem v_and (a : Val ta σ H (.int i)) (b : Val tb σ H (.int j)) : Val (tOp kAnd ta tb) σ H (.int (Builtin.bitAnd i j)) := val_op a b fun _ q => ⟨i, j, rfl, rfl, q⟩
theorem v_xor (a : Val ta σ H (.int i)) (b : Val tb σ H (.int j)) : Val (tOp kXor ta tb) σ H (.int (Builtin.bitXor i j)) := val_op a b fun _ q => ⟨i, j, rfl, rfl, q⟩
theorem v_lt (a : Val ta σ H (.int i)) (b : Val tb σ H (.int j)) : Val (tOp kLt ta tb) σ H (.bl (decide (i < j))) := val_op a b fun _ q => ⟨i, j, rfl, rfl, q⟩
theorem v_le (a : Val ta σ H (.int i)) (b : Val tb σ H (.int j)) : Val (tOp kLe ta tb) σ H (.bl (decide (i ≤ j))) := val_op a b fun _ q => ⟨i, j, rfl, rfl, q⟩
theorem v_gt (a : Val ta σ H (.int i)) (b : Val tb σ H (.int j)) : Val (tOp kGt ta tb) σ H (.bl (decide (j < i))) := val_op a b fun _ q => ⟨i, j, rfl, rfl, q⟩
theorem v_ge (a : Val ta σ H (.int i)) (b : Val tb σ H (.int j)) : Val (tOp kGe ta tb) σ H (.bl (decide (j ≤ i))) := val_op a b fun _ q => ⟨i, j, rfl, rfl, q⟩
theorem v_eq (a : Val ta σ H (.int i)) (b : Val tb σ H (.int j)) : Val (tOp rEq ta tb) σ H (.bl (decide (i = j))) := val_op a b fun Q q => ⟨rfl, by
  have e : decide (V.int i = V.int j) = decide (i = j) := by
    by_cases h : i = j
    · subst h
      simp
    · have : ¬ V.int i = V.int j := fun z => h (V.int.inj z)
      simp [h, this]
  rw [e]
  exact q⟩
theorem v_isN {x : V} (a : Val ta σ H x) : Val (tOp kIsN ta (tC .non)) σ H (.bl (decide (x = .non))) := val_op a val_c fun _ q => ⟨rfl, q⟩
theorem v_notN {x : V} (a : Val ta σ H x) : Val (tOp kNotN ta (tC .non)) σ H (.bl (!decide (x = .non))) := val_op a val_c fun _ q => ⟨rfl, q⟩
theorem v_neg (a : Val ta σ H (.int i)) : Val (tUn kNeg ta) σ H (.int (-i)) := fun Q q => a _ ⟨i, rfl, q⟩
theorem v_len {p : Addr} {xs : List V} (a : Val ta σ H (.ref p)) (h : H p = some (.lst xs)) : Val (tCB (kLen K) (tCons ta tNil)) σ H (.int (xs.length : Nat)) := fun Q q => a _ ⟨p, xs, rfl, .inl (SqL.of h), q⟩
theorem v_ix {p : Addr} {xs : List V} {v : V} {k : Nat} (a : Val ta σ H (.ref p)) (h : H p = some (.lst xs)) (b : Val tb σ H (.int i)) (e : i = (k : Int)) (g : xs[k]? = some v) : Val (tOp (rIxL K) ta tb) σ H v := val_op a b fun Q q => ⟨p, xs, i, v, rfl, rfl, SqL.of h, by rw [e]; exact atI_nat g, q⟩
theorem v_is {x y : V} (a : Val te σ H x) (e : x = y) : Val te σ H y := e ▸ a
theorem v_inT {p : Addr} {xs : List V} {neg : Bool} {x : V} (a : Val ta σ H x) (b : Val tb σ H (.ref p)) (h : SqT K H p xs) (hx : flatV x = true) (ha : xs.all flatV = true) : Val (tOp (rIn K neg) ta tb) σ H (.bl (if neg then !inV x xs else inV x xs)) := val_op a b fun Q q => ⟨p, xs, rfl, .inr h, hx, ha, q⟩
theorem v_andV {x y : Bool} (a : Val ta σ H (.bl x)) (b : x = true → Val tb σ H (.bl y)) : Val (tAndV ta tb) σ H (.bl (x && y)) := fun Q q => a _ ⟨x, rfl, by
  cases x with
  | true => exact iteT (b rfl Q q)
  | false => exact iteF q⟩
theorem v_orV {x y : Bool} (a : Val ta σ H (.bl x)) (b : x = false → Val tb σ H (.bl y)) : Val (tOrV ta tb) σ H (.bl (x || y)) := fun Q q => a _ ⟨x, rfl, by
  cases x with
  | true => exact iteT q
  | false => exact iteF (b rfl Q q)⟩
theorem v_notV {x : Bool} (a : Val ta σ H (.bl x)) : Val (tNotV ta) σ H (.bl (!x)) := fun Q q => a _ ⟨x, rfl, q⟩
theorem v_chain {r r2 : R2} {tc : TE} {x y z : V} {p q : Bool} (a : Val ta σ H x) (b : Val tb σ H y) (c : Val tc σ H z) (h1 : ∀ Q : VK, Q (.bl p) H → r x y H Q) (h2 : ∀ Q : VK, Q (.bl q) H → r2 y z H Q) : Val (tChain r r2 ta tb tc) σ H (.bl (p && q)) := fun Q w => by
  refine a _ (b _ (h1 _ ⟨p, rfl, ?_⟩))
  cases p with
  | true => exact iteT (c _ (h2 _ w))
  | false => exact iteF w
theorem v_lele {tc : TE} {i j k : Int} (a : Val ta σ H (.int i)) (b : Val tb σ H (.int j)) (c : Val tc σ H (.int k)) : Val (tChain kLe kLe ta tb tc) σ H (.bl (decide (i ≤ j) && decide (j ≤ k))) := v_chain a b c (fun _ q => ⟨i, j, rfl, rfl, q⟩) fun _ q => ⟨j, k, rfl, rfl, q⟩
/-! tests -/
theorem t_of {b : Bool} (h : Val te σ H (.bl b)) : Ans (tTest te) σ H b := fun Q q => h _ ⟨b, rfl, q⟩
theorem t_val {b : Bool} (h : Val te σ H (.bl b)) : Ans (tB te) σ H b := fun Q q => h _ ⟨b, rfl, q⟩
theorem t_not {t : TT} {b : Bool} (h : Ans t σ H b) : Ans (tNot t) σ H (!b) := fun Q q => h _ q
theorem t_and {t u : TT} {x y : Bool} (a : Ans t σ H x) (b : x = true → Ans u σ H y) : Ans (tAnd t u) σ H (x && y) := fun Q q => a _ (by
  cases x with
  | true => exact iteT (b rfl Q q)
  | false => exact iteF q)
theorem t_or {t u : TT} {x y : Bool} (a : Ans t σ H x) (b : x = false → Ans u σ H y) : Ans (tOr t u) σ H (x || y) := fun Q q => a _ (by
  cases x with
  | true => exact iteT q
  | false => exact iteF (b rfl Q q))
theorem t_is {t : TT} {x y : Bool} (a : Ans t σ H x) (e : x = y) : Ans t σ H y := e ▸ a
/-! statements -/
theorem s_asg {v : V} {k : Nat} (h : Val te σ H v) (q : D.nx (σ.set k (some v)) H) : tAsg te (gName k) D σ H := h _ q
theorem s_ret {v : V} (h : Val te σ H v) (q : D.rt v H) : tRet te D σ H := h _ q
theorem s_drop {v : V} (h : Val te σ H v) (q : D.nx σ H) : tDrop te D σ H := h _ q
theorem s_if {c : TT} {t u : TS} {b : Bool} (h : Ans c σ H b) (h1 : b = true → t D σ H) (h2 : b = false → u D σ H) : tIfS c t u D σ H := h _ (by
  cases b with
  | true => exact iteT (h1 rfl)
  | false => exact iteF (h2 rfl))
theorem s_fld {a C dx : Addr} {fs : List (Str × V)} {f : Str} {v : V} (hv : Val te σ H v) (ho : Val ta σ H (.ref a)) (o : H a = some (.ins C dx fs)) (c : Cls K C) (n : NoAttr K C f) (l : fs.length < 1000) (q : D.nx σ (upd H a (.ins C dx (putF f v fs)))) : sFld K ta te f D σ H :=
  hv _ (ho _ ⟨a, C, dx, fs, rfl, o, c, n, l, q⟩)
/-- [] -/
theorem e_nil {Q : VK} (q : ∀ p, H p = none → Q (.ref p) (upd H p (.lst []))) : tLst tNil σ H Q := ⟨by show 0 ≤ sizeLine; exact Nat.zero_le _, q⟩
theorem sz {n : Nat} (h : n ≤ 10000000) : n ≤ sizeLine := Nat.le_trans h (by decide)
theorem szl {n : Nat} (h : n ≤ 10000000) : n < sizeLine := Nat.lt_of_le_of_lt h (by decide)
end
theorem same_upd {H : Hp} {p : Addr} {o : HO} (h : H p = none) : Same H (upd H p o) := same_new (Same.refl H) h
/-! # The end at e through what happens -/
section
variable {K : PySem.W.Frag} {L : LA} {H H' : Hp} {e : Addr} {A : EA} {t : S} {n : Nat}
theorem Rows.same (s : Same H H') : ∀ {ps : List Addr} {rs : List (List Nat)}, Rows H ps rs → Rows H' ps rs
  | _, _, .nil => .nil
  | _, _, .cons h k => .cons (s _ _ h) (k.same s)
theorem EndAt.same (I : EndAt L H e A t n) (s : Same H H') : EndAt L H' e A t n :=
  { I with obj := s _ _ I.obj, sent := s _ _ I.sent, unsent := s _ _ I.unsent, come := s _ _ I.come, wrong := s _ _ I.wrong, lis := ⟨s _ _ I.lis.obj, s _ _ I.lis.kept⟩, wai := ⟨s _ _ I.wai.obj, s _ _ I.wai.bits⟩, rs := I.rs.same s, ru := I.ru.same s, rc := I.rc.same s }
theorem EndAt.new (I : EndAt L H e A t n) {p : Addr} {o : HO} (h : H p = none) : EndAt L (upd H p o) e A t n := I.same (same_upd h)
theorem EndAt.ne_lst (I : EndAt L H e A t n) {p : Addr} {xs : List V} (h : H p = some (.lst xs)) : p ≠ e := ne_of h I.obj (by intro z; cases z)
theorem EndAt.li_ne (I : EndAt L H e A t n) : A.li ≠ e := fun z => by
  have h := I.lis.obj
  rw [z, I.obj] at h
  injection h with h
  injection h with _ _ h
  exact absurd (congrArg List.length h) (by show ¬ (21 = 3); decide)
theorem EndAt.wa_ne (I : EndAt L H e A t n) : A.wa ≠ e := fun z => by
  have h := I.wai.obj
  rw [z, I.obj] at h
  injection h with h
  injection h with _ _ h
  exact absurd (congrArg List.length h) (by show ¬ (21 = 1); decide)
theorem EndAt.li_wa (I : EndAt L H e A t n) : A.li ≠ A.wa := fun z => by
  have h := I.lis.obj
  rw [z, I.wai.obj] at h
  injection h with h
  injection h with _ _ h
  exact absurd (congrArg List.length h) (by show ¬ (1 = 3); decide)
/-- t' has t's lists -/
structure SameL (t t' : S) : Prop where
  sent : t'.sent = t.sent
  waits : t'.waits = t.waits
  inbox : t'.inbox = t.inbox
  wrong : t'.wrong = t.wrong
  out : t'.out = t.out
  got : t'.got = t.got
/-- an attribute of the end is changed, no list -/
theorem EndAt.fw (I : EndAt L H e A t n) (b : Bool) (t' : S) (n' : Nat) {fs : List (Str × V)} (ho : fs = eF (ev { A with bz := b } t' n')) (h : SameL t t') (hb : t'.stage = .up → b = t'.busy) (hn : n' < 2 ^ 32) :
    EndAt L (upd H e (.ins L.CE A.dx fs)) e { A with bz := b } t' n' := by
  have k : ∀ p xs, H p = some (.lst xs) → upd H e (.ins L.CE A.dx fs) p = some (.lst xs) := fun p xs q => by
    rw [upd_ne (I.ne_lst q)]
    exact q
  have kr : ∀ {ps : List Addr} {rs : List (List Nat)}, Rows H ps rs → Rows (upd H e (.ins L.CE A.dx fs)) ps rs := fun {ps rs} r => by
    induction r with
    | nil => exact .nil
    | cons h _ ih => exact .cons (k _ _ h) ih
  exact { obj := by rw [upd_same, ho], sent := k _ _ I.sent, unsent := k _ _ I.unsent, come := k _ _ I.come, wrong := by rw [h.wrong]; exact k _ _ I.wrong,
          lis := ⟨by rw [upd_ne I.li_ne]; exact I.lis.obj, k _ _ I.lis.kept⟩, wai := ⟨by rw [upd_ne I.wa_ne]; exact I.wai.obj, by rw [h.out]; exact k _ _ I.wai.bits⟩,
          rs := by rw [h.sent]; exact kr I.rs, ru := by rw [h.waits]; exact kr I.ru, rc := by rw [h.inbox]; exact kr I.rc, nd := I.nd, im := I.im, lr := by rw [h.got]; exact I.lr, bz := hb, nn := hn }
theorem e_own : e ∈ Own e A := List.mem_cons_self ..
theorem Fr.fw (I : EndAt L H e A t n) {b : Bool} {o : HO} {X : List Addr} : Fr e A X H { A with bz := b } (upd H e o) := ⟨(KeepBut.refl _ _).at e_own, fun _ h => .inl h, fun _ h => .inl h⟩
/-- where a def that works on an end stands: began at H0, A0; now H, A -/
structure Run (L : LA) (e : Addr) (A0 : EA) (X : List Addr) (H0 : Hp) (A : EA) (t : S) (n : Nat) (H : Hp) : Prop where
  I : EndAt L H e A t n
  F : Fr e A0 X H0 A H
variable {A0 : EA} {X : List Addr} {H0 : Hp}
theorem EndAt.run (I : EndAt L H e A t n) : Run L e A [] H A t n H := ⟨I, Fr.refl _ _ _ _⟩
theorem EndAt.runX (X : List Addr) (I : EndAt L H e A t n) : Run L e A X H A t n H := ⟨I, Fr.refl _ _ _ _⟩
theorem Run.post {t' : S} {n' : Nat} {G : Hp → Prop} (J : Run L e A0 X H0 A t n H) (k : ∀ H' A', Run L e A0 X H0 A' t' n' H' → G H') : Post L H e A [] t' n' G := fun H' A' I F => k H' A' ⟨I, J.F.trans F.mono⟩
theorem Run.postX {t' : S} {n' : Nat} {G : Hp → Prop} (J : Run L e A0 X H0 A t n H) (k : ∀ H' A', Run L e A0 X H0 A' t' n' H' → G H') : Post L H e A X t' n' G := fun H' A' I F => k H' A' ⟨I, J.F.trans F⟩
theorem Run.new (J : Run L e A0 X H0 A t n H) {p : Addr} {o : HO} (h : H p = none) : Run L e A0 X H0 A t n (upd H p o) :=
  ⟨J.I.new h, J.F.trans ⟨(KeepBut.refl _ _).new h, fun _ h => .inl h, fun _ h => .inl h⟩⟩
theorem Run.same (J : Run L e A0 X H0 A t n H) (s : Same H H') : Run L e A0 X H0 A t n H' :=
  ⟨J.I.same s, J.F.trans ⟨KeepBut.same s, fun _ h => .inl h, fun _ h => .inl h⟩⟩
theorem Run.fw (J : Run L e A0 X H0 A t n H) (b : Bool) (t' : S) (n' : Nat) {fs : List (Str × V)} (ho : fs = eF (ev { A with bz := b } t' n')) (h : SameL t t') (hb : t'.stage = .up → b = t'.busy) (hn : n' < 2 ^ 32) :
    Run L e A0 X H0 { A with bz := b } t' n' (upd H e (.ins L.CE A.dx fs)) := ⟨J.I.fw b t' n' ho h hb hn, J.F.trans (Fr.fw J.I)⟩
theorem Run.eq {t' : S} (J : Run L e A0 X H0 A t n H) (h : t = t') : Run L e A0 X H0 A t' n H := h ▸ J
end
end LK
namespace LK
open PySem PySem.Spec PyProof.Rows L2
/-! # One thing of the end changes -/
section
variable {K : PySem.W.Frag} {L : LA} {H H' H0 : Hp} {e : Addr} {A A0 : EA} {t : S} {n : Nat} {X : List Addr} {σ : L2.St} {ta tv : TE} {D : Ends}
theorem w_stage {g : Sa72.Stage} (J : Run L e A0 X H0 A t n H) (T : Tx K L) (hv : Val tv σ H (.int (Sa72.stageNumber g))) (ho : Val ta σ H (.ref e)) (hb : g = .up → A.bz = t.busy) (k : ∀ H1, Run L e A0 X H0 A (sStage t g) n H1 → D.nx σ H1) : sFld K ta tv "stage" D σ H :=
  s_fld hv ho J.I.obj T.cl_E T.n_E_stage (eF_len _) (k _ (J.fw A.bz { t with stage := g } n (eP_stage _ _) ⟨rfl, rfl, rfl, rfl, rfl, rfl⟩ hb J.I.nn))
theorem w_now {m : Nat} {z : Int} (J : Run L e A0 X H0 A t n H) (T : Tx K L) (hv : Val tv σ H (.int z)) (hz : z = (m : Int)) (hm : m < 2 ^ 32) (ho : Val ta σ H (.ref e)) (k : ∀ H1, Run L e A0 X H0 A t m H1 → D.nx σ H1) : sFld K ta tv "now" D σ H := by
  subst hz
  exact s_fld hv ho J.I.obj T.cl_E T.n_E_now (eF_len _) (k _ (J.fw A.bz t m (eP_now _ _) ⟨rfl, rfl, rfl, rfl, rfl, rfl⟩ J.I.bz hm))
theorem w_s {m : Nat} {z : Int} (J : Run L e A0 X H0 A t n H) (T : Tx K L) (hv : Val tv σ H (.int z)) (hz : z = (m : Int)) (ho : Val ta σ H (.ref e)) (k : ∀ H1, Run L e A0 X H0 A (sS t m) n H1 → D.nx σ H1) : sFld K ta tv "s" D σ H := by
  subst hz
  exact s_fld hv ho J.I.obj T.cl_E T.n_E_s (eF_len _) (k _ (J.fw A.bz { t with s := m } n (eP_s _ _) ⟨rfl, rfl, rfl, rfl, rfl, rfl⟩ J.I.bz J.I.nn))
theorem w_a {m : Nat} {z : Int} (J : Run L e A0 X H0 A t n H) (T : Tx K L) (hv : Val tv σ H (.int z)) (hz : z = (m : Int)) (ho : Val ta σ H (.ref e)) (k : ∀ H1, Run L e A0 X H0 A (sA t m) n H1 → D.nx σ H1) : sFld K ta tv "a" D σ H := by
  subst hz
  exact s_fld hv ho J.I.obj T.cl_E T.n_E_a (eF_len _) (k _ (J.fw A.bz { t with a := m } n (eP_a _ _) ⟨rfl, rfl, rfl, rfl, rfl, rfl⟩ J.I.bz J.I.nn))
theorem w_r {m : Nat} {z : Int} (J : Run L e A0 X H0 A t n H) (T : Tx K L) (hv : Val tv σ H (.int z)) (hz : z = (m : Int)) (ho : Val ta σ H (.ref e)) (k : ∀ H1, Run L e A0 X H0 A (sR t m) n H1 → D.nx σ H1) : sFld K ta tv "r" D σ H := by
  subst hz
  exact s_fld hv ho J.I.obj T.cl_E T.n_E_r (eF_len _) (k _ (J.fw A.bz { t with r := m } n (eP_r _ _) ⟨rfl, rfl, rfl, rfl, rfl, rfl⟩ J.I.bz J.I.nn))
theorem w_out {m : Nat} {z : Int} (J : Run L e A0 X H0 A t n H) (T : Tx K L) (hv : Val tv σ H (.int z)) (hz : z = (m : Int)) (ho : Val ta σ H (.ref e)) (k : ∀ H1, Run L e A0 X H0 A (sOut t m) n H1 → D.nx σ H1) : sFld K ta tv "out" D σ H := by
  subst hz
  exact s_fld hv ho J.I.obj T.cl_E T.n_E_out (eF_len _) (k _ (J.fw A.bz { t with outs := m } n (eP_out _ _) ⟨rfl, rfl, rfl, rfl, rfl, rfl⟩ J.I.bz J.I.nn))
theorem w_since {c : Option Nat} {x : V} (J : Run L e A0 X H0 A t n H) (T : Tx K L) (hv : Val tv σ H x) (hx : x = clockV c) (ho : Val ta σ H (.ref e)) (k : ∀ H1, Run L e A0 X H0 A (sClk t c) n H1 → D.nx σ H1) : sFld K ta tv "since" D σ H := by
  subst hx
  exact s_fld hv ho J.I.obj T.cl_E T.n_E_since (eF_len _) (k _ (J.fw A.bz { t with clock := c } n (eP_since _ _) ⟨rfl, rfl, rfl, rfl, rfl, rfl⟩ J.I.bz J.I.nn))
theorem w_asked {b : Bool} (J : Run L e A0 X H0 A t n H) (T : Tx K L) (hv : Val tv σ H (.bl b)) (ho : Val ta σ H (.ref e)) (k : ∀ H1, Run L e A0 X H0 A (sAsk t b) n H1 → D.nx σ H1) : sFld K ta tv "asked_again" D σ H :=
  s_fld hv ho J.I.obj T.cl_E T.n_E_asked_again (eF_len _) (k _ (J.fw A.bz { t with asked := b } n (eP_asked_again _ _) ⟨rfl, rfl, rfl, rfl, rfl, rfl⟩ J.I.bz J.I.nn))
theorem w_polls {b : Bool} (J : Run L e A0 X H0 A t n H) (T : Tx K L) (hv : Val tv σ H (.bl b)) (ho : Val ta σ H (.ref e)) (k : ∀ H1, Run L e A0 X H0 A (sPol t b) n H1 → D.nx σ H1) : sFld K ta tv "polls" D σ H :=
  s_fld hv ho J.I.obj T.cl_E T.n_E_polls (eF_len _) (k _ (J.fw A.bz { t with polls := b } n (eP_polls _ _) ⟨rfl, rfl, rfl, rfl, rfl, rfl⟩ J.I.bz J.I.nn))
theorem w_busy {b : Bool} (J : Run L e A0 X H0 A t n H) (T : Tx K L) (hv : Val tv σ H (.bl b)) (ho : Val ta σ H (.ref e)) (k : ∀ H1, Run L e A0 X H0 { A with bz := b } (sBusy t b) n H1 → D.nx σ H1) : sFld K ta tv "other_busy" D σ H :=
  s_fld hv ho J.I.obj T.cl_E T.n_E_other_busy (eF_len _) (k _ (J.fw b { t with busy := b } n (eP_other_busy _ _) ⟨rfl, rfl, rfl, rfl, rfl, rfl⟩ (fun _ => rfl) J.I.nn))
/-! ## lists -/
theorem Rows.but {M : List Addr} (I : EndAt L H e A t n) (hM : ∀ x ∈ M, x ∈ Own e A) (k : KeepBut M H H') : ∀ {ps : List Addr} {rs : List (List Nat)}, (∀ p ∈ ps, p ∈ Imm A) → Rows H ps rs → Rows H' ps rs
  | _, _, _, .nil => .nil
  | _, _, hp, .cons h r => .cons (k _ _ h fun z => I.im _ (hp _ (List.mem_cons_self ..)) (hM _ z)) (Rows.but I hM k (fun p q => hp p (List.mem_cons_of_mem _ q)) r)
theorem imm_s {A : EA} : ∀ p ∈ A.sm, p ∈ Imm A := fun p h => List.mem_cons_of_mem _ (List.mem_append_left _ h)
theorem imm_u {A : EA} : ∀ p ∈ A.um, p ∈ Imm A := fun p h => List.mem_cons_of_mem _ (List.mem_append_right _ (List.mem_append_left _ h))
theorem imm_c {A : EA} : ∀ p ∈ A.cm, p ∈ Imm A := fun p h => List.mem_cons_of_mem _ (List.mem_append_right _ (List.mem_append_right _ h))
theorem imm_w {A : EA} : A.wrong ∈ Imm A := List.mem_cons_self ..
theorem EndAt.own_some (I : EndAt L H e A t n) {b : Addr} (h : b ∈ Own e A) : ∃ o, H b = some o := by
  simp only [List.mem_cons, List.not_mem_nil, or_false] at h
  rcases h with rfl | rfl | rfl | rfl | rfl | rfl | rfl | rfl
  · exact ⟨_, I.obj⟩
  · exact ⟨_, I.sent⟩
  · exact ⟨_, I.unsent⟩
  · exact ⟨_, I.come⟩
  · exact ⟨_, I.lis.obj⟩
  · exact ⟨_, I.lis.kept⟩
  · exact ⟨_, I.wai.obj⟩
  · exact ⟨_, I.wai.bits⟩
theorem EndAt.imm_some (I : EndAt L H e A t n) {b : Addr} (h : b ∈ Imm A) : ∃ r, H b = some (.lst (nts r)) := by
  rcases List.mem_cons.mp h with rfl | h
  · exact ⟨_, I.wrong⟩
  · rcases List.mem_append.mp h with h | h
    · exact I.rs.mem _ h
    · rcases List.mem_append.mp h with h | h
      · exact I.ru.mem _ h
      · exact I.rc.mem _ h
theorem EndAt.foot_some (I : EndAt L H e A t n) {b : Addr} (h : b ∈ Foot e A) : ∃ o, H b = some o := by
  rcases List.mem_append.mp h with h | h
  · exact I.own_some h
  · obtain ⟨r, h⟩ := I.imm_some h
    exact ⟨_, h⟩
theorem EndAt.own_new (I : EndAt L H e A t n) {p : Addr} (h : H p = none) : p ∉ Own e A := fun z => by
  obtain ⟨o, q⟩ := I.own_some z
  rw [h] at q
  cases q
theorem EndAt.foot_new (I : EndAt L H e A t n) {p : Addr} (h : H p = none) : p ∉ Foot e A := fun z => by
  obtain ⟨o, q⟩ := I.foot_some z
  rw [h] at q
  cases q
/-- pairwise apart -/
structure Nes (e : Addr) (A : EA) : Prop where
  es : e ≠ A.sent
  eu : e ≠ A.unsent
  ec : e ≠ A.come
  el : e ≠ A.li
  ek : e ≠ A.kept
  ew : e ≠ A.wa
  eb : e ≠ A.bits
  su : A.sent ≠ A.unsent
  sc : A.sent ≠ A.come
  sl : A.sent ≠ A.li
  sk : A.sent ≠ A.kept
  sw : A.sent ≠ A.wa
  sb : A.sent ≠ A.bits
  uc : A.unsent ≠ A.come
  ul : A.unsent ≠ A.li
  uk : A.unsent ≠ A.kept
  uw : A.unsent ≠ A.wa
  ub : A.unsent ≠ A.bits
  cl : A.come ≠ A.li
  ck : A.come ≠ A.kept
  cw : A.come ≠ A.wa
  cb : A.come ≠ A.bits
  lk : A.li ≠ A.kept
  lw : A.li ≠ A.wa
  lb : A.li ≠ A.bits
  kw : A.kept ≠ A.wa
  kb : A.kept ≠ A.bits
  wb : A.wa ≠ A.bits
theorem nes_iff {e : Addr} {A : EA} : (Own e A).Nodup ↔ Nes e A := by
  constructor
  · intro h
    simp only [List.nodup_cons, List.mem_cons, List.not_mem_nil, or_false, not_or, not_false_eq_true, List.nodup_nil, and_true] at h
    obtain ⟨⟨a1, a2, a3, a4, a5, a6, a7⟩, ⟨b1, b2, b3, b4, b5, b6⟩, ⟨c1, c2, c3, c4, c5⟩, ⟨d1, d2, d3, d4⟩, ⟨f1, f2, f3⟩, ⟨g1, g2⟩, h1⟩ := h
    exact ⟨a1, a2, a3, a4, a5, a6, a7, b1, b2, b3, b4, b5, b6, c1, c2, c3, c4, c5, d1, d2, d3, d4, f1, f2, f3, g1, g2, h1⟩
  · rintro ⟨a1, a2, a3, a4, a5, a6, a7, b1, b2, b3, b4, b5, b6, c1, c2, c3, c4, c5, d1, d2, d3, d4, f1, f2, f3, g1, g2, h1⟩
    simp only [List.nodup_cons, List.mem_cons, List.not_mem_nil, or_false, not_or, not_false_eq_true, List.nodup_nil, and_true]
    exact ⟨⟨a1, a2, a3, a4, a5, a6, a7⟩, ⟨b1, b2, b3, b4, b5, b6⟩, ⟨c1, c2, c3, c4, c5⟩, ⟨d1, d2, d3, d4⟩, ⟨f1, f2, f3⟩, ⟨g1, g2⟩, h1⟩
theorem notin1 {b a : Addr} (h : b ≠ a) : b ∉ [a] := fun z => h (List.mem_singleton.mp z)
theorem notin2 {b a c : Addr} (h : b ≠ a) (k : b ≠ c) : b ∉ [a, c] := fun z => by
  rcases List.mem_cons.mp z with z | z
  · exact h z
  · exact k (List.mem_singleton.mp z)
/-- the waiting bits are others, in place -/
theorem Run.newBits {bits : List Nat} (J : Run L e A0 X H0 A t n H) (hw : WaitAt L H' A.wa A.dw A.bits bits) (k : KeepBut [A.bits] H H') : Run L e A0 X H0 A (sBits t bits) n H' := by
  have I := J.I
  have N := nes_iff.mp I.nd
  have hM : ∀ x ∈ [A.bits], x ∈ Own e A := fun x h => by
    rw [List.mem_singleton.mp h]
    simp
  refine ⟨{ obj := k _ _ I.obj (notin1 N.eb), sent := k _ _ I.sent (notin1 N.sb), unsent := k _ _ I.unsent (notin1 N.ub), come := k _ _ I.come (notin1 N.cb), wrong := k _ _ I.wrong fun z => I.im _ imm_w (hM _ z), lis := ⟨k _ _ I.lis.obj (notin1 N.lb), k _ _ I.lis.kept (notin1 N.kb)⟩, wai := hw, rs := Rows.but I hM k (imm_s (A := A)) I.rs, ru := Rows.but I hM k (imm_u (A := A)) I.ru, rc := Rows.but I hM k (imm_c (A := A)) I.rc, nd := I.nd, im := I.im, lr := I.lr, bz := I.bz, nn := I.nn },
    J.F.trans ⟨fun b o h hb => k b o h fun z => hb (hM _ z), fun _ h => .inl h, fun _ h => .inl h⟩⟩
/-- a new list of what's been sent -/
theorem Run.newSent {p : Addr} {ps : List Addr} {b : Bool} {t' : S} (J : Run L e A0 X H0 A t n H) (hp : H p = none) (he : H' e = some (.ins L.CE A.dx (eF (ev { A with sent := p, sm := ps, bz := b } t' n)))) (hq : H' p = some (.lst (ps.map V.ref))) (k : KeepBut [e] H H')
    (hr : Rows H ps t'.sent) (hs : ∀ x ∈ ps, x ∈ A.sm) (h1 : t'.waits = t.waits) (h2 : t'.inbox = t.inbox) (h3 : t'.wrong = t.wrong) (h4 : t'.out = t.out) (h5 : t'.got = t.got) (hb : t'.stage = .up → b = t'.busy) :
    Run L e A0 X H0 { A with sent := p, sm := ps, bz := b } t' n H' := by
  have I := J.I
  have N := nes_iff.mp I.nd
  have hM : ∀ x ∈ [e], x ∈ Own e A := fun x h => by
    rw [List.mem_singleton.mp h]
    exact e_own
  have np := I.own_new hp
  have g : ∀ q ∈ Imm A, H' q = H q := fun q hq => by
    obtain ⟨r, h⟩ := I.imm_some hq
    rw [h]
    exact k _ _ h fun z => I.im _ hq (hM _ z)
  have im' : ∀ q ∈ Imm ({ A with sent := p, sm := ps, bz := b } : EA), q ∈ Imm A := fun q hq => by
    rcases List.mem_cons.mp hq with z | hq
    · rw [z]
      exact imm_w
    · rcases List.mem_append.mp hq with hq | hq
      · exact imm_s _ (hs _ hq)
      · exact List.mem_cons_of_mem _ (List.mem_append_right _ hq)
  have np' : p ≠ e ∧ p ≠ A.sent ∧ p ≠ A.unsent ∧ p ≠ A.come ∧ p ≠ A.li ∧ p ≠ A.kept ∧ p ≠ A.wa ∧ p ≠ A.bits := by
    simp only [List.mem_cons, List.not_mem_nil, or_false, not_or] at np
    exact np
  obtain ⟨p1, p2, p3, p4, p5, p6, p7, p8⟩ := np'
  have own' : ∀ q ∈ Own e ({ A with sent := p, sm := ps, bz := b } : EA), q ∈ Own e A ∨ q = p := fun q hq => by
    simp only [List.mem_cons, List.not_mem_nil, or_false] at hq ⊢
    rcases hq with rfl | rfl | rfl | rfl | rfl | rfl | rfl | rfl <;> simp
  refine ⟨{ obj := he, sent := hq, unsent := k _ _ I.unsent (notin1 N.eu.symm), come := k _ _ I.come (notin1 N.ec.symm), wrong := by rw [h3]; exact k _ _ I.wrong fun z => I.im _ imm_w (hM _ z), lis := ⟨k _ _ I.lis.obj (notin1 N.el.symm), k _ _ I.lis.kept (notin1 N.ek.symm)⟩, wai := ⟨k _ _ I.wai.obj (notin1 N.ew.symm), by rw [h4]; exact k _ _ I.wai.bits (notin1 N.eb.symm)⟩, rs := Rows.but I hM k (fun q hq => imm_s _ (hs _ hq)) hr, ru := by rw [h1]; exact Rows.but I hM k (imm_u (A := A)) I.ru, rc := by rw [h2]; exact Rows.but I hM k (imm_c (A := A)) I.rc, nd := ?_, im := fun q hq z => ?_, lr := by rw [h5]; exact I.lr, bz := hb, nn := I.nn },
    J.F.trans ⟨fun b o h hb => k b o h fun z => hb (hM _ z), fun q hq => ?_, fun q hq => ?_⟩⟩
  · exact nes_iff.mpr ⟨(Ne.symm p1), N.eu, N.ec, N.el, N.ek, N.ew, N.eb, p3, p4, p5, p6, p7, p8, N.uc, N.ul, N.uk, N.uw, N.ub, N.cl, N.ck, N.cw, N.cb, N.lk, N.lw, N.lb, N.kw, N.kb, N.wb⟩
  · rcases own' q z with z | z
    · exact I.im _ (im' q hq) z
    · obtain ⟨r, h⟩ := I.imm_some (im' q hq)
      rw [z, hp] at h
      cases h
  · rcases own' q hq with z | z
    · exact .inl z
    · exact .inr (by rw [z]; exact hp)
  · rcases List.mem_append.mp hq with hq | hq
    · rcases own' q hq with z | z
      · exact .inl (own_foot z)
      · exact .inr (.inr (by rw [z]; exact hp))
    · exact .inl (List.mem_append_right _ (im' q hq))
/-- a new list of what was wrong -/
theorem Run.newWrong {p : Addr} {t' : S} (J : Run L e A0 X H0 A t n H) (hp : H p = none) (he : H' e = some (.ins L.CE A.dx (eF (ev { A with wrong := p } t' n)))) (hq : H' p = some (.lst (nts t'.wrong))) (k : KeepBut [e] H H')
    (h0 : t'.sent = t.sent) (h1 : t'.waits = t.waits) (h2 : t'.inbox = t.inbox) (h4 : t'.out = t.out) (h5 : t'.got = t.got) (hb : t'.stage = .up → A.bz = t'.busy) :
    Run L e A0 X H0 { A with wrong := p } t' n H' := by
  have I := J.I
  have N := nes_iff.mp I.nd
  have hM : ∀ x ∈ [e], x ∈ Own e A := fun x h => by
    rw [List.mem_singleton.mp h]
    exact e_own
  have np := I.own_new hp
  have im' : ∀ q ∈ Imm ({ A with wrong := p } : EA), q ∈ Imm A ∨ q = p := fun q hq => by
    rcases List.mem_cons.mp hq with z | hq
    · exact .inr z
    · exact .inl (List.mem_cons_of_mem _ hq)
  refine ⟨{ obj := he, sent := k _ _ I.sent (notin1 N.es.symm), unsent := k _ _ I.unsent (notin1 N.eu.symm), come := k _ _ I.come (notin1 N.ec.symm), wrong := hq, lis := ⟨k _ _ I.lis.obj (notin1 N.el.symm), k _ _ I.lis.kept (notin1 N.ek.symm)⟩, wai := ⟨k _ _ I.wai.obj (notin1 N.ew.symm), by rw [h4]; exact k _ _ I.wai.bits (notin1 N.eb.symm)⟩, rs := by rw [h0]; exact Rows.but I hM k (imm_s (A := A)) I.rs, ru := by rw [h1]; exact Rows.but I hM k (imm_u (A := A)) I.ru, rc := by rw [h2]; exact Rows.but I hM k (imm_c (A := A)) I.rc, nd := I.nd, im := fun q hq z => ?_, lr := by rw [h5]; exact I.lr, bz := hb, nn := I.nn },
    J.F.trans ⟨fun b o h hb => k b o h fun z => hb (hM _ z), fun q hq => .inl hq, fun q hq => ?_⟩⟩
  · rcases im' q hq with w | w
    · exact I.im _ w z
    · exact np (by rw [← w]; exact z)
  · rcases List.mem_append.mp hq with hq | hq
    · exact .inl (own_foot hq)
    · rcases im' q hq with w | w
      · exact .inl (List.mem_append_right _ w)
      · exact .inr (.inr (by rw [w]; exact hp))
/-- the listener has heard a bit -/
theorem Run.newLis {kp : Addr} {s : Ls} {g : Sa72.Got} (J : Run L e A0 X H0 A t n H) (hl : LisAt L H' A.li A.dl kp s) (hr : LisRel s g) (k : KeepBut [A.li, A.kept] H H') (hk : kp = A.kept ∨ H kp = none) :
    Run L e A0 X H0 { A with kept := kp, ls := s } (sGot t g) n H' := by
  have I := J.I
  have N := nes_iff.mp I.nd
  have hM : ∀ x ∈ [A.li, A.kept], x ∈ Own e A := fun x h => by
    simp only [List.mem_cons, List.not_mem_nil, or_false] at h ⊢
    rcases h with rfl | rfl <;> simp
  have own' : ∀ q ∈ Own e ({ A with kept := kp, ls := s } : EA), q ∈ Own e A ∨ H q = none := fun q hq => by
    simp only [List.mem_cons, List.not_mem_nil, or_false] at hq ⊢
    rcases hq with rfl | rfl | rfl | rfl | rfl | rfl | rfl | rfl
    · simp
    · simp
    · simp
    · simp
    · simp
    · rcases hk with z | z
      · simp [z]
      · exact .inr z
    · simp
    · simp
  have nk : Nes e ({ A with kept := kp, ls := s } : EA) := by
    rcases hk with z | z
    · subst z
      exact { N with }
    · have np := I.own_new z
      simp only [List.mem_cons, List.not_mem_nil, or_false, not_or] at np
      obtain ⟨p1, p2, p3, p4, p5, p6, p7, p8⟩ := np
      exact { N with ek := (Ne.symm p1), sk := (Ne.symm p2), uk := (Ne.symm p3), ck := (Ne.symm p4), lk := (Ne.symm p5), kw := p7, kb := p8 }
  refine ⟨{ obj := k _ _ I.obj (notin2 N.el N.ek), sent := k _ _ I.sent (notin2 N.sl N.sk), unsent := k _ _ I.unsent (notin2 N.ul N.uk), come := k _ _ I.come (notin2 N.cl N.ck), wrong := k _ _ I.wrong fun z => I.im _ imm_w (hM _ z), lis := hl, wai := ⟨k _ _ I.wai.obj (notin2 N.lw.symm N.kw.symm), k _ _ I.wai.bits (notin2 N.lb.symm N.kb.symm)⟩, rs := Rows.but I hM k (imm_s (A := A)) I.rs, ru := Rows.but I hM k (imm_u (A := A)) I.ru, rc := Rows.but I hM k (imm_c (A := A)) I.rc, nd := nes_iff.mpr nk, im := fun q hq z => ?_, lr := hr, bz := I.bz, nn := I.nn },
    J.F.trans ⟨fun b o h hb => k b o h fun z => hb (hM _ z), own', fun q hq => ?_⟩⟩
  · rcases own' q z with w | w
    · exact I.im _ hq w
    · obtain ⟨r, h⟩ := I.imm_some hq
      rw [w] at h
      cases h
  · rcases List.mem_append.mp hq with hq | hq
    · exact (own' q hq).elim (fun z => .inl (own_foot z)) fun z => .inr (.inr z)
    · exact .inl (List.mem_append_right _ hq)
/-- the waiting bits are a new list -/
theorem Run.newWait {bt : Addr} {bits : List Nat} (J : Run L e A0 X H0 A t n H) (hw : WaitAt L H' A.wa A.dw bt bits) (k : KeepBut [A.wa] H H') (hk : H bt = none) :
    Run L e A0 X H0 { A with bits := bt } (sBits t bits) n H' := by
  have I := J.I
  have N := nes_iff.mp I.nd
  have hM : ∀ x ∈ [A.wa], x ∈ Own e A := fun x h => by
    rw [List.mem_singleton.mp h]
    simp
  have own' : ∀ q ∈ Own e ({ A with bits := bt } : EA), q ∈ Own e A ∨ H q = none := fun q hq => by
    simp only [List.mem_cons, List.not_mem_nil, or_false] at hq ⊢
    rcases hq with rfl | rfl | rfl | rfl | rfl | rfl | rfl | rfl
    · simp
    · simp
    · simp
    · simp
    · simp
    · simp
    · simp
    · exact .inr hk
  have nk : Nes e ({ A with bits := bt } : EA) := by
    have np := I.own_new hk
    simp only [List.mem_cons, List.not_mem_nil, or_false, not_or] at np
    obtain ⟨p1, p2, p3, p4, p5, p6, p7, p8⟩ := np
    exact { N with eb := (Ne.symm p1), sb := (Ne.symm p2), ub := (Ne.symm p3), cb := (Ne.symm p4), lb := (Ne.symm p5), kb := (Ne.symm p6), wb := (Ne.symm p7) }
  refine ⟨{ obj := k _ _ I.obj (notin1 N.ew), sent := k _ _ I.sent (notin1 N.sw), unsent := k _ _ I.unsent (notin1 N.uw), come := k _ _ I.come (notin1 N.cw), wrong := k _ _ I.wrong fun z => I.im _ imm_w (hM _ z), lis := ⟨k _ _ I.lis.obj (notin1 N.lw), k _ _ I.lis.kept (notin1 N.kw)⟩, wai := hw, rs := Rows.but I hM k (imm_s (A := A)) I.rs, ru := Rows.but I hM k (imm_u (A := A)) I.ru, rc := Rows.but I hM k (imm_c (A := A)) I.rc, nd := nes_iff.mpr nk, im := fun q hq z => ?_, lr := I.lr, bz := I.bz, nn := I.nn },
    J.F.trans ⟨fun b o h hb => k b o h fun z => hb (hM _ z), own', fun q hq => ?_⟩⟩
  · rcases own' q z with w | w
    · exact I.im _ hq w
    · obtain ⟨r, h⟩ := I.imm_some hq
      rw [w] at h
      cases h
  · rcases List.mem_append.mp hq with hq | hq
    · exact (own' q hq).elim (fun z => .inl (own_foot z)) fun z => .inr (.inr z)
    · exact .inl (List.mem_append_right _ hq)
/-- the three lists of messages are others, in place; their items were known or are in X -/
theorem Run.newMsgs {sm um cm : List Addr} {sent waits inbox : List (List Nat)} (J : Run L e A0 X H0 A t n H) (h1 : H' A.sent = some (.lst (sm.map V.ref))) (h2 : H' A.unsent = some (.lst (um.map V.ref))) (h3 : H' A.come = some (.lst (cm.map V.ref)))
    (r1 : Rows H sm sent) (r2 : Rows H um waits) (r3 : Rows H cm inbox) (hs : ∀ p ∈ sm ++ (um ++ cm), p ∈ Imm A ∨ (p ∈ X ∧ p ∉ Own e A)) (k : KeepBut [A.sent, A.unsent, A.come] H H') :
    Run L e A0 X H0 { A with sm := sm, um := um, cm := cm } (sMsgs t sent waits inbox) n H' := by
  have I := J.I
  have N := nes_iff.mp I.nd
  have hM : ∀ x ∈ [A.sent, A.unsent, A.come], x ∈ Own e A := fun x h => by
    simp only [List.mem_cons, List.not_mem_nil, or_false] at h ⊢
    rcases h with rfl | rfl | rfl <;> simp
  have ni : ∀ b, b ≠ A.sent → b ≠ A.unsent → b ≠ A.come → b ∉ [A.sent, A.unsent, A.come] := fun b a1 a2 a3 z => by
    simp only [List.mem_cons, List.not_mem_nil, or_false] at z
    rcases z with z | z | z
    · exact a1 z
    · exact a2 z
    · exact a3 z
  have no : ∀ p ∈ sm ++ (um ++ cm), p ∉ Own e A := fun p hp => (hs p hp).elim (fun z => I.im _ z) fun z => z.2
  have kr : ∀ {ps : List Addr} {rs : List (List Nat)}, (∀ p ∈ ps, p ∈ sm ++ (um ++ cm)) → Rows H ps rs → Rows H' ps rs := fun {ps rs} hp r => by
    induction r with
    | nil => exact .nil
    | cons h _ ih => exact .cons (k _ _ h fun z => no _ (hp _ (List.mem_cons_self ..)) (hM _ z)) (ih fun p q => hp p (List.mem_cons_of_mem _ q))
  refine ⟨{ obj := k _ _ I.obj (ni _ N.es N.eu N.ec), sent := h1, unsent := h2, come := h3, wrong := k _ _ I.wrong fun z => I.im _ imm_w (hM _ z), lis := ⟨k _ _ I.lis.obj (ni _ N.sl.symm N.ul.symm N.cl.symm), k _ _ I.lis.kept (ni _ N.sk.symm N.uk.symm N.ck.symm)⟩, wai := ⟨k _ _ I.wai.obj (ni _ N.sw.symm N.uw.symm N.cw.symm), k _ _ I.wai.bits (ni _ N.sb.symm N.ub.symm N.cb.symm)⟩, rs := kr (fun p h => List.mem_append_left _ h) r1, ru := kr (fun p h => List.mem_append_right _ (List.mem_append_left _ h)) r2, rc := kr (fun p h => List.mem_append_right _ (List.mem_append_right _ h)) r3, nd := I.nd, im := fun q hq => ?_, lr := I.lr, bz := I.bz, nn := I.nn },
    J.F.trans ⟨fun b o h hb => k b o h fun z => hb (hM _ z), fun _ h => .inl h, fun q hq => ?_⟩⟩
  · rcases List.mem_cons.mp hq with z | hq
    · rw [z]
      exact I.im _ imm_w
    · exact no q hq
  · rcases List.mem_append.mp hq with hq | hq
    · exact .inl (own_foot hq)
    · rcases List.mem_cons.mp hq with z | hq
      · rw [z]
        exact .inl (List.mem_append_right _ imm_w)
      · rcases hs q hq with z | z
        · exact .inl (List.mem_append_right _ z)
        · exact .inr (.inl z.1)
end
end LK
namespace LK
open PySem PySem.Spec PyProof.Rows L2
/-! # Bits, bytes, sums -/
theorem bAnd {x y : Nat} : Builtin.bitAnd (x : Int) (y : Int) = ((x &&& y : Nat) : Int) := by
  rw [bitAnd_pp (Int.natCast_nonneg _) (Int.natCast_nonneg _), Int.toNat_natCast, Int.toNat_natCast]
theorem bXor {x y : Nat} : Builtin.bitXor (x : Int) (y : Int) = ((x ^^^ y : Nat) : Int) := by
  rw [Bits.bitXor_pp (Int.natCast_nonneg _) (Int.natCast_nonneg _), Int.toNat_natCast, Int.toNat_natCast]
theorem shr_nat (x k : Nat) : ((x : Int) / 2 ^ ((k : Int)).toNat) = ((x / 2 ^ k : Nat) : Int) := by
  rw [Int.toNat_natCast, Int.natCast_ediv, Int.natCast_pow] <;> rfl
theorem bit_int (b k : Nat) : Builtin.bitAnd ((b : Int) / 2 ^ ((0 : Int) + (k : Int)).toNat) 1 = ((b / 2 ^ k % 2 : Nat) : Int) := by
  rw [Int.zero_add, shr_nat, show (1 : Int) = ((1 : Nat) : Int) from rfl, bAnd, Nat.and_one_is_mod]
theorem nts_get {l : List Nat} {i : Nat} {x : V} (h : (nts l)[i]? = some x) : ∃ b, l[i]? = some b ∧ x = .int ((b : Nat) : Int) := by
  rw [List.getElem?_map] at h
  cases e : l[i]? with
  | none =>
    rw [e] at h
    cases h
  | some b =>
    rw [e] at h
    exact ⟨b, rfl, (Option.some.inj h).symm⟩
theorem take_one {α : Type} {l : List α} {i : Nat} {b : α} (h : l[i]? = some b) : l.take (i + 1) = l.take i ++ [b] := by
  rw [List.take_add_one, h] <;> rfl
theorem bits_len : ∀ l : List Nat, (Sa72.bitsOf l).length = 8 * l.length
  | [] => rfl
  | a :: l => by
    have h := bits_len l
    show ((List.range 8).map _ ++ Sa72.bitsOf l).length = _
    rw [List.length_append, List.length_map, List.length_range, h, List.length_cons]
    omega
theorem bits_app (l m : List Nat) : Sa72.bitsOf (l ++ m) = Sa72.bitsOf l ++ Sa72.bitsOf m := by
  unfold Sa72.bitsOf
  rw [List.flatMap_append]
theorem bits_one (b : Nat) : Sa72.bitsOf [b] = (List.range 8).map fun k => b / 2 ^ k % 2 := by
  unfold Sa72.bitsOf
  rw [List.flatMap_cons, List.flatMap_nil, List.append_nil]
theorem nts_app (l m : List Nat) : nts (l ++ m) = nts l ++ nts m := List.map_append
theorem nts_len (l : List Nat) : (nts l).length = l.length := List.length_map ..
theorem yes_if {σ : L2.St} {H : Hp} {P R : Hp → Prop} (h : P H) : tYes σ H (fun b H3 => if b = true then P H3 else R H3) := by
  show if true = true then P H else R H
  rw [if_pos rfl]
  exact h
theorem pure_d_bits_of {K : PySem.W.Frag} {L : LA} (T : Tx K L) {vs : List V} {H : Hp} {Q : VK} {E : XK} (h : sp_d_bits_of K L vs H Q E) : t_d_bits_of K L { nx := fun _ H' => Q .non H', rt := Q } (start N_d_bits_of vs) H := by
  obtain ⟨a, l, rfl, ha, hl, k⟩ := h
  refine ⟨Nat.zero_le _, fun p hp => ?_⟩
  have s0 : Same H (upd H p (.lst [])) := same_upd hp
  refine ⟨_, rfl, a, rfl, ⟨_, SqL.of (s0 _ _ ha)⟩, for_list (K := K) (a := a) (xs := nts l) (fun i σ H' => (∃ v2 v3, σ = [some (.ref a), some (.ref p), v2, v3]) ∧ Same H H' ∧ H' p = some (.lst (nts (Sa72.bitsOf (l.take i)))))
    ⟨⟨none, none, rfl⟩, s0, upd_same⟩ (fun i σ H' _ ⟨_, s, _⟩ => SqL.of (s _ _ ha)) ?_ ?_⟩
  · rintro i x σ H' hi ⟨⟨v2, v3, rfl⟩, s, hq⟩
    obtain ⟨b, hb, rfl⟩ := nts_get hi
    have hil : i < l.length := by
      obtain ⟨z, _⟩ := List.getElem?_eq_some_iff.mp hb
      exact z
    refine ⟨_, rfl, .inl ⟨rfl, _, SqL.of hq⟩, ?_⟩
    refine ⟨8, rfl, by decide, by decide, fun d hd => lc_range (lo := 0) (n := 8) (fun j H2 => Same H' H2 ∧ H2 d = some (.lst (nts ((List.range j).map fun k => b / 2 ^ k % 2)))) ⟨same_upd hd, upd_same⟩ ?_ ?_⟩
    · rintro j H2 hj ⟨s2, h2⟩
      refine ⟨rfl, yes_if ?_⟩
      refine ⟨_, rfl, _, rfl, _, _, rfl, rfl, by omega, _, _, rfl, rfl, _, h2, by rw [nts_len, List.length_map, List.length_range]; exact szl (by omega), same_new s2 hd, ?_⟩
      rw [upd_same, List.range_succ, List.map_append, nts_app]
      show some (HO.lst (_ ++ [V.int (Builtin.bitAnd ((b : Int) / 2 ^ ((0 : Int) + (j : Int)).toNat) 1)])) = _
      rw [bit_int] <;> rfl
    · rintro H2 ⟨s2, h2⟩
      have hz : (Sa72.bitsOf (l.take i)).length ≤ 800000 := by
        rw [bits_len, List.length_take]
        omega
      refine ⟨p, d, _, _, rfl, rfl, s2 _ _ hq, h2, by rw [nts_len, nts_len, List.length_map, List.length_range]; exact sz (by omega), ⟨_, _, rfl⟩, same_new (s.trans s2) hp, ?_⟩
      rw [upd_same, take_one hb, bits_app, bits_one, nts_app]
  · rintro σ H' ⟨⟨v2, v3, rfl⟩, s, hq⟩
    rw [nts_len, List.take_length] at hq
    exact ⟨_, rfl, k _ _ s hp hq⟩
end LK
namespace LK
open PySem PySem.Spec PyProof.Rows L2
theorem rg8 (m : Nat) (h : m ≤ 2000000) : RgC 0 (m : Int) 8 ((m + 7) / 8) := by
  refine ⟨by decide, by decide, ?_, ?_⟩
  · have e : Builtin.Range.small 0 (m : Int) 8 = true := by
      unfold Builtin.Range.small Builtin.Range.rangeSize
      rw [if_pos (show (8 : Int) > 0 from by decide)]
      have f : ∀ i : Int, -(2 ^ 62) ≤ i → i < 2 ^ 62 → Builtin.Range.rangeFitsLong i = true := fun i h1 h2 => by
        unfold Builtin.Range.rangeFitsLong
        rw [Bool.and_eq_true, decide_eq_true_eq, decide_eq_true_eq]
        omega
      have g : (0 : Int) ≤ (if (0 : Int) < (m : Int) then ((m : Int) - 0 - 1) / 8 + 1 else 0) ∧ (if (0 : Int) < (m : Int) then ((m : Int) - 0 - 1) / 8 + 1 else 0) ≤ 2000000 := by
        split <;> omega
      rw [f 0 (by decide) (by decide), f 8 (by decide) (by decide), f (m : Int) (by omega) (by omega), f _ (by omega) (by omega)]
      simp only [Bool.true_and, Bool.and_true, Bool.or_eq_true]
      first
        | exact .inr (f _ (by omega) (by omega))
        | (refine .inr ?_; rw [if_pos (by decide)]; exact f _ (by omega) (by omega))
    exact e
  · unfold Builtin.Range.rangeSize
    rw [if_pos (by decide)]
    by_cases c : (0 : Int) < m
    · rw [if_pos c]
      omega
    · rw [if_neg c]
      omega
def byteOf (l : List Nat) : Nat := l.foldr (fun (c n : Nat) => c + 2 * n) 0
theorem bytes_more : ∀ (i : Nat) (l : List Nat), Sa72.bytesOf (i + 1) l = Sa72.bytesOf i l ++ [byteOf ((l.drop (8 * i)).take 8)]
  | 0, l => by
    show [_] = [] ++ [_]
    rfl
  | i + 1, l => by
    show byteOf (l.take 8) :: Sa72.bytesOf (i + 1) (l.drop 8) = (byteOf (l.take 8) :: Sa72.bytesOf i (l.drop 8)) ++ _
    rw [bytes_more i (l.drop 8), List.drop_drop, show 8 + 8 * i = 8 * (i + 1) from by omega] <;> rfl
theorem bytes_len : ∀ (i : Nat) (l : List Nat), (Sa72.bytesOf i l).length = i
  | 0, _ => rfl
  | i + 1, l => congrArg (· + 1) (bytes_len i (l.drop 8))
theorem cut_nat {l : List Nat} {i j : Nat} : cutV (nts l) (some (i : Int)) (some (j : Int)) = nts ((l.drop (min i l.length)).take (min j l.length - min i l.length)) := by
  unfold cutV
  rw [HT.sIx_nat, HT.sIx_nat, nts_len, ← List.map_drop, ← List.map_take]
theorem cut8 {l : List Nat} {i : Nat} (h : 8 * i < l.length) : cutV (nts l) (some ((0 : Int) + (i : Nat) * 8)) (some ((0 : Int) + (i : Nat) * 8 + 8)) = nts ((l.drop (8 * i)).take 8) := by
  have e1 : (0 : Int) + (i : Nat) * 8 = ((8 * i : Nat) : Int) := by omega
  have e2 : (0 : Int) + (i : Nat) * 8 + 8 = ((8 * i + 8 : Nat) : Int) := by omega
  rw [e1, show ((8 * i : Nat) : Int) + 8 = ((8 * i + 8 : Nat) : Int) from by omega, cut_nat]
  congr 1
  rw [Nat.min_eq_left (Nat.le_of_lt h)]
  by_cases c : 8 * i + 8 ≤ l.length
  · rw [Nat.min_eq_left c, show 8 * i + 8 - 8 * i = 8 from by omega]
  · rw [Nat.min_eq_right (by omega), List.take_of_length_le (by rw [List.length_drop]; omega), List.take_of_length_le (by rw [List.length_drop]; omega)]
theorem byte_step {c : List Nat} {j b : Nat} (hj : j < c.length) (h : c[c.length - 1 - j]? = some b) : byteOf (c.drop (c.length - (j + 1))) = b + 2 * byteOf (c.drop (c.length - j)) := by
  have e : c.drop (c.length - (j + 1)) = b :: c.drop (c.length - j) := by
    obtain ⟨h1, h2⟩ := List.getElem?_eq_some_iff.mp h
    rw [show c.length - (j + 1) = c.length - 1 - j from by omega, List.drop_eq_getElem_cons h1, h2, show c.length - 1 - j + 1 = c.length - j from by omega]
  rw [e] <;> rfl
theorem pure_d_bytes_of {K : PySem.W.Frag} {L : LA} (T : Tx K L) {vs : List V} {H : Hp} {Q : VK} {E : XK} (h : sp_d_bytes_of K L vs H Q E) : t_d_bytes_of K L { nx := fun _ H' => Q .non H', rt := Q } (start N_d_bytes_of vs) H := by
  obtain ⟨a, l, rfl, ha, hl, k⟩ := h
  refine ⟨Nat.zero_le _, fun p hp => ?_⟩
  have s0 : Same H (upd H p (.lst [])) := same_upd hp
  refine ⟨_, rfl, a, nts l, rfl, .inl (SqL.of (s0 _ _ ha)), ?_⟩
  refine ⟨0, ((nts l).length : Nat), 8, (l.length + 7) / 8, rfl, by rw [nts_len]; exact rg8 _ (by omega), for_rangeC (lo := 0) (c := 8) (n := (l.length + 7) / 8)
    (fun i σ H' => (∃ v2 v3 v4, σ = [some (.ref a), some (.ref p), v2, v3, v4]) ∧ Same H H' ∧ H' p = some (.lst (nts (Sa72.bytesOf i l)))) ⟨⟨none, none, none, rfl⟩, s0, upd_same⟩ ?_ ?_⟩
  · rintro i σ H' hi ⟨⟨v2, v3, v4, rfl⟩, s, hq⟩
    have hlt : 8 * i < l.length := by omega
    refine ⟨_, rfl, _, rfl, _, rfl, _, rfl, _, _, rfl, rfl, _, rfl, a, _, rfl, SqL.of (s _ _ ha), fun c hc => ?_⟩
    show ∃ _, _
    rw [cut8 hlt]
    generalize hch : (l.drop (8 * i)).take 8 = ch
    refine ⟨c, nts ch, rfl, SqL.of upd_same, ?_⟩
    refine RT.for_Itv (K := K) (a := c) (xs := nts ch) (fun j σ H2 => (∃ v4, σ = [some (.ref a), some (.ref p), some (.int ((0 : Int) + (i : Nat) * 8)), some (.int (byteOf (ch.drop (ch.length - j)) : Nat)), v4]) ∧ Same H' H2 ∧ H2 c = some (.lst (nts ch)))
      ⟨⟨v4, by rw [Nat.sub_zero, List.drop_length]; rfl⟩, same_upd hc, upd_same⟩ (fun j σ H2 ⟨_, _, h2⟩ => SqL.of h2) ?_ ?_
    · rintro j x σ H2 hj hx ⟨⟨w4, rfl⟩, s2, h2⟩
      rw [nts_len] at hj hx
      obtain ⟨b, hb, rfl⟩ := nts_get hx
      refine ⟨_, rfl, _, _, rfl, rfl, .inl (by decide), _, rfl, _, _, rfl, rfl, ?_⟩
      refine ⟨⟨some (.int (b : Nat)), ?_⟩, s2, h2⟩
      rw [byte_step hj hb]
      show [_, _, _, some (V.int (2 * _ + _)), _] = _
      congr 4
      rw [show ((b + 2 * byteOf (ch.drop (ch.length - j)) : Nat) : Int) = 2 * (byteOf (ch.drop (ch.length - j)) : Nat) + (b : Nat) from by omega]
    · rintro σ H2 ⟨⟨w4, rfl⟩, s2, h2⟩
      rw [nts_len, Nat.sub_self, List.drop_zero]
      refine ⟨_, rfl, .inl ⟨rfl, _, SqL.of (s2 _ _ hq)⟩, _, rfl, p, _, _, rfl, rfl, s2 _ _ hq, by rw [nts_len, bytes_len]; exact szl (by omega), ⟨_, _, _, rfl⟩, same_new (s.trans s2) hp, ?_⟩
      rw [upd_same, bytes_more, hch, nts_app] <;> rfl
  · rintro σ H' ⟨⟨v2, v3, v4, rfl⟩, s, hq⟩
    exact ⟨_, rfl, k _ _ s hp hq⟩
end LK
namespace LK
open PySem PySem.Spec PyProof.Rows L2
theorem crcBit_lt {r : Nat} (h : r < 65536) : Sa72.crcBit r < 65536 := by
  unfold Sa72.crcBit
  split
  · exact Nat.xor_lt_two_pow (n := 16) (by omega) (by decide)
  · omega
theorem crcByte_lt {r c : Nat} (h : r < 65536) (k : c < 256) : Sa72.crcByte r c < 65536 := by
  unfold Sa72.crcByte
  exact crcBit_lt (crcBit_lt (crcBit_lt (crcBit_lt (crcBit_lt (crcBit_lt (crcBit_lt (crcBit_lt (Nat.xor_lt_two_pow (n := 16) h (by omega)))))))))
def crcIt : Nat → Nat → Nat
  | 0, r => r
  | j + 1, r => Sa72.crcBit (crcIt j r)
theorem crcIt_lt {r : Nat} (h : r < 65536) : ∀ j, crcIt j r < 65536
  | 0 => h
  | j + 1 => crcBit_lt (crcIt_lt h j)
theorem crc_fold_lt : ∀ (l : List Nat) (r : Nat), B8 l → r < 65536 → l.foldl Sa72.crcByte r < 65536
  | [], _, _, h => h
  | c :: l, r, b, h => crc_fold_lt l _ (fun x m => b x (List.mem_cons_of_mem _ m)) (crcByte_lt h (b c (List.mem_cons_self ..)))
theorem crc_lt {l : List Nat} : Sa72.crc l < 65536 := by
  unfold Sa72.crc
  omega
theorem sum_b8 (l : List Nat) : B8 (sumOf l) := by
  have h := crc_lt (l := l)
  exact B8.cons (Nat.mod_lt _ (by decide)) (B8.cons (by omega) B8.nil)
theorem pure_d_sum_of {K : PySem.W.Frag} {L : LA} (T : Tx K L) {vs : List V} {H : Hp} {Q : VK} {E : XK} (h : sp_d_sum_of K L vs H Q E) : t_d_sum_of K L { nx := fun _ H' => Q .non H', rt := Q } (start N_d_sum_of vs) H := by
  obtain ⟨a, l, rfl, ha, hb, k⟩ := h
  refine ⟨_, rfl, a, rfl, ⟨_, SqL.of ha⟩, for_list (K := K) (a := a) (xs := nts l) (fun i σ H' => (∃ v2 v3, σ = [some (.ref a), some (.int ((l.take i).foldl Sa72.crcByte 65535 : Nat)), v2, v3]) ∧ H' = H)
    ⟨⟨none, none, rfl⟩, rfl⟩ (fun i σ H' _ ⟨_, s⟩ => by rw [s]; exact SqL.of ha) ?_ ?_⟩
  · rintro i x σ H' hi ⟨⟨v2, v3, rfl⟩, rfl⟩
    obtain ⟨b, hx, rfl⟩ := nts_get hi
    have hm : b < 256 := hb b (List.mem_of_getElem? hx)
    have hr : (l.take i).foldl Sa72.crcByte 65535 < 65536 := crc_fold_lt _ _ (fun y m => hb y (List.mem_of_mem_take m)) (by decide)
    generalize he : (l.take i).foldl Sa72.crcByte 65535 = r at hr
    refine ⟨_, rfl, _, rfl, _, _, rfl, rfl, ?_⟩
    refine ⟨8, rfl, by decide, by decide, ?_⟩
    refine for_range (lo := 0) (n := 8) (fun j σ H2 => (∃ v3, σ = [some (.ref a), some (.int (crcIt j (r ^^^ b) : Nat)), some (.int (b : Nat)), v3]) ∧ H2 = H') ⟨⟨v3, ?_⟩, rfl⟩ ?_ ?_
    · show [_, some (V.int (Builtin.bitXor (r : Int) (b : Int))), _, _] = _
      rw [bXor] <;> rfl
    · rintro j σ H2 hj ⟨⟨w3, rfl⟩, rfl⟩
      have hq : crcIt j (r ^^^ b) < 65536 := crcIt_lt (Nat.xor_lt_two_pow (n := 16) hr (by omega)) j
      generalize hz : crcIt j (r ^^^ b) = z at hq
      have e1 : Builtin.bitAnd (z : Int) 1 = ((z % 2 : Nat) : Int) := by
        rw [show (1 : Int) = ((1 : Nat) : Int) from rfl, bAnd, Nat.and_one_is_mod]
      have e2 : (z : Int) / 2 ^ ((1 : Int)).toNat = ((z / 2 : Nat) : Int) := by
        rw [show ((1 : Int)).toNat = 1 from rfl]
        omega
      refine s_if (t_of (v_eq (v_and (val_var rfl) val_c) val_c)) (fun c => ?_) (fun c => ?_)
      · rw [e1, decide_eq_true_eq] at c
        refine s_asg (v_xor (v_shr (val_var rfl) val_c (by decide)) val_c) ?_
        refine ⟨⟨some (.int ((0 : Int) + (j : Nat))), ?_⟩, rfl⟩
        show [_, some (V.int (Builtin.bitXor ((z : Int) / 2 ^ ((1 : Int)).toNat) 33800)), _, _] = _
        rw [e2, show (33800 : Int) = ((33800 : Nat) : Int) from rfl, bXor]
        show _ = [_, some (V.int ((Sa72.crcBit (crcIt j (r ^^^ b)) : Nat) : Int)), _, _]
        rw [hz, Sa72.crcBit, if_pos (by omega)] <;> rfl
      · rw [e1, decide_eq_false_iff_not] at c
        refine s_asg (v_shr (val_var rfl) val_c (by decide)) ?_
        refine ⟨⟨some (.int ((0 : Int) + (j : Nat))), ?_⟩, rfl⟩
        show [_, some (V.int ((z : Int) / 2 ^ ((1 : Int)).toNat)), _, _] = _
        rw [e2]
        show _ = [_, some (V.int ((Sa72.crcBit (crcIt j (r ^^^ b)) : Nat) : Int)), _, _]
        rw [hz, Sa72.crcBit, if_neg (by omega)] <;> rfl
    · rintro σ H2 ⟨⟨w3, rfl⟩, rfl⟩
      refine ⟨⟨some (.int (b : Nat)), w3, ?_⟩, rfl⟩
      rw [take_one hx, List.foldl_append, he] <;> rfl
  · rintro σ H' ⟨⟨v2, v3, rfl⟩, rfl⟩
    rw [nts_len, List.take_length]
    have hr : l.foldl Sa72.crcByte 65535 < 65536 := crc_fold_lt _ _ hb (by decide)
    refine s_asg (v_sub val_c (val_var rfl)) ?_
    have e : (65535 : Int) - ((l.foldl Sa72.crcByte 65535 : Nat) : Int) = ((Sa72.crc l : Nat) : Int) := by
      unfold Sa72.crc
      omega
    rw [e]
    refine ⟨_, rfl, _, _, rfl, rfl, by show (0 : Int) < 256; decide, _, rfl, _, _, rfl, rfl, ⟨by decide, by decide⟩, by show 2 ≤ sizeLine; decide, fun p hp => ?_⟩
    refine k _ p (same_upd hp) hp ?_
    rw [upd_same]
    show some (HO.lst [V.int (((Sa72.crc l : Nat) : Int) % 256), V.int (((Sa72.crc l : Nat) : Int) / 256)]) = some (HO.lst [V.int ((Sa72.crc l % 256 : Nat) : Int), V.int ((Sa72.crc l / 256 : Nat) : Int)])
    rw [Int.natCast_emod, Int.natCast_ediv] <;> rfl
theorem stuffed_len : ∀ (l : List Nat) (o : Nat), (Sa72.stuffed o l).length ≤ 2 * l.length
  | [], _ => Nat.le_refl _
  | c :: l, o => by
    have h0 := stuffed_len l 0
    have h1 := stuffed_len l (o + 1)
    unfold Sa72.stuffed
    split
    · rw [List.length_cons, List.length_cons]
      omega
    · split
      · rw [List.length_cons, List.length_cons, List.length_cons]
        omega
      · rw [List.length_cons, List.length_cons]
        omega
theorem stuffed_b1 : ∀ (l : List Nat) (o : Nat), B1 (Sa72.stuffed o l)
  | [], _ => B1.nil
  | c :: l, o => by
    unfold Sa72.stuffed
    split
    · exact B1.cons (by decide) (stuffed_b1 l 0)
    · split
      · exact B1.cons (by decide) (B1.cons (by decide) (stuffed_b1 l 0))
      · exact B1.cons (by decide) (stuffed_b1 l (o + 1))
theorem bitsOf_b1 (l : List Nat) : B1 (Sa72.bitsOf l) := fun x h => by
  unfold Sa72.bitsOf at h
  obtain ⟨c, _, h⟩ := List.mem_flatMap.mp h
  obtain ⟨k, _, rfl⟩ := List.mem_map.mp h
  have := Nat.mod_lt (c / 2 ^ k) (show 2 > 0 by decide)
  omega
theorem pure_d_with_noughts {K : PySem.W.Frag} {L : LA} (T : Tx K L) {vs : List V} {H : Hp} {Q : VK} {E : XK} (h : sp_d_with_noughts K L vs H Q E) : t_d_with_noughts K L { nx := fun _ H' => Q .non H', rt := Q } (start N_d_with_noughts vs) H := by
  obtain ⟨a, l, rfl, ha, hb, hl, k⟩ := h
  refine ⟨Nat.zero_le _, fun p hp => ?_⟩
  have s0 : Same H (upd H p (.lst [])) := same_upd hp
  refine ⟨_, rfl, a, rfl, ⟨_, SqL.of (s0 _ _ ha)⟩, for_list (K := K) (a := a) (xs := nts l) (fun i σ H' => ∃ v3 o f, σ = [some (.ref a), some (.ref p), some (.int (o : Nat)), v3] ∧ Same H H' ∧ H' p = some (.lst (nts f)) ∧ o ≤ 4 ∧ f.length ≤ 2 * i ∧ f ++ Sa72.stuffed o (l.drop i) = Sa72.stuffed 0 l)
    ⟨none, 0, [], rfl, s0, upd_same, by decide, by decide, rfl⟩ (fun i σ H' _ ⟨_, _, _, _, s, _⟩ => SqL.of (s _ _ ha)) ?_ ?_⟩
  · rintro i x σ H' hi ⟨v3, o, f, rfl, s, hq, ho, hf, hs⟩
    obtain ⟨b, hx, rfl⟩ := nts_get hi
    obtain ⟨hil, hxe⟩ := List.getElem?_eq_some_iff.mp hx
    have hm : b ≤ 1 := hb b (List.mem_of_getElem? hx)
    have hd : l.drop i = b :: l.drop (i + 1) := by rw [List.drop_eq_getElem_cons hil, hxe]
    rw [hd] at hs
    refine ⟨_, rfl, .inl ⟨rfl, _, SqL.of hq⟩, _, rfl, p, _, _, rfl, rfl, hq, by rw [nts_len]; exact szl (by omega), ?_⟩
    refine s_asg (v_mul (v_add (val_var rfl) val_c) (val_var rfl) (by omega)) ?_
    have q1 : Same H (upd H' p (.lst (nts f ++ [.int (b : Nat)]))) := same_new s hp
    have q2 : nts f ++ [V.int (b : Nat)] = nts (f ++ [b]) := (nts_app f [b]).symm
    rw [q2] at q1 ⊢
    have ob : ((o : Int) + 1) * (b : Int) = (((o + 1) * b : Nat) : Int) := by
      rw [Int.natCast_mul, Int.natCast_add] <;> rfl
    rw [ob]
    refine s_if (t_of (v_eq (val_var rfl) val_c)) (fun c => ?_) (fun c => ?_)
    · rw [decide_eq_true_eq] at c
      have hb1 : b = 1 := by
        rcases Nat.le_one_iff_eq_zero_or_eq_one.mp hm with z | z
        · rw [z] at c
          omega
        · exact z
      subst hb1
      have ho4 : o = 4 := by omega
      subst ho4
      refine ⟨_, rfl, .inl ⟨rfl, _, SqL.of upd_same⟩, p, _, _, rfl, rfl, upd_same, by rw [nts_len, List.length_append]; exact szl (by simp; omega), ?_⟩
      refine ⟨some (.int ((1 : Nat) : Int)), 0, f ++ [1] ++ [0], rfl, same_new q1 hp, ?_, by decide, by simp; omega, ?_⟩
      · rw [upd_same, nts_app (f ++ [1])] <;> rfl
      · rw [← hs]
        show _ = f ++ (if (1 : Nat) = 0 then _ else if (4 : Nat) = 4 then 1 :: 0 :: Sa72.stuffed 0 (l.drop (i + 1)) else _)
        rw [if_neg (by decide), if_pos rfl]
        simp
    · rw [decide_eq_false_iff_not] at c
      refine ⟨some (.int (b : Nat)), (o + 1) * b, f ++ [b], rfl, q1, upd_same, ?_, by simp; omega, ?_⟩
      · rcases Nat.le_one_iff_eq_zero_or_eq_one.mp hm with z | z
        · rw [z]
          omega
        · rw [z] at c ⊢
          omega
      · rw [← hs]
        rcases Nat.le_one_iff_eq_zero_or_eq_one.mp hm with z | z
        · subst z
          show _ = f ++ (if (0 : Nat) = 0 then 0 :: Sa72.stuffed 0 (l.drop (i + 1)) else _)
          rw [if_pos rfl, Nat.mul_zero]
          simp
        · subst z
          show _ = f ++ (if (1 : Nat) = 0 then _ else if o = 4 then _ else 1 :: Sa72.stuffed (o + 1) (l.drop (i + 1)))
          rw [if_neg (by decide), if_neg (by omega), Nat.mul_one]
          simp
  · rintro σ H' ⟨v3, o, f, rfl, s, hq, ho, hf, hs⟩
    rw [nts_len, List.drop_length] at hs
    have e : f = Sa72.stuffed 0 l := by
      rw [← hs]
      show f = f ++ []
      rw [List.append_nil]
    rw [e] at hq
    exact ⟨_, rfl, k _ _ s hp hq⟩
theorem onLine_len {l : List Nat} (h : l.length ≤ 1026) : (Sa72.onLine l).length ≤ 16500 := by
  unfold Sa72.onLine
  have h1 := stuffed_len (Sa72.bitsOf (l ++ [Sa72.crc l % 256, Sa72.crc l / 256])) 0
  rw [bits_len] at h1
  simp only [List.length_append, List.length_cons, List.length_nil, Sa72.FLAG] at h1 ⊢
  omega
theorem onLine_b1 (l : List Nat) : B1 (Sa72.onLine l) := by
  unfold Sa72.onLine
  have f : B1 Sa72.FLAG := fun x h => by
    unfold Sa72.FLAG at h
    simp only [List.mem_cons, List.not_mem_nil, or_false] at h
    omega
  exact B1.app f (B1.app (stuffed_b1 _ _) f)
theorem pure_d_frame_bits {K : PySem.W.Frag} {L : LA} (T : Tx K L) {vs : List V} {H : Hp} {Q : VK} {E : XK} (h : sp_d_frame_bits K L vs H Q E) : t_d_frame_bits K L { nx := fun _ H' => Q .non H', rt := Q } (start N_d_frame_bits vs) H := by
  obtain ⟨a, l, rfl, ha, hb, hl, k⟩ := h
  refine ⟨_, _, rfl, .inr (T.s_FLAG H), fun p hp => ?_⟩
  have s1 : Same H (upd H p (.lst (nts Sa72.FLAG))) := same_upd hp
  refine ⟨_, rfl, _, rfl, a, l, rfl, s1 _ _ ha, hb, fun H2 q s2 hq h2 => ?_⟩
  refine ⟨a, q, _, _, rfl, rfl, s2 _ _ (s1 _ _ ha), h2, by rw [nts_len, nts_len]; exact sz (by show l.length + 2 ≤ _; omega), fun r hr => ?_⟩
  have s3 : Same H (upd H2 r (.lst (nts l ++ nts (sumOf l)))) := same_new (s1.trans s2) ((s1.trans s2).free hr)
  rw [← nts_app] at s3 ⊢
  have hlen : (l ++ sumOf l).length ≤ 1028 := by
    rw [List.length_append]
    show l.length + 2 ≤ 1028
    omega
  refine ⟨r, l ++ sumOf l, rfl, upd_same, by omega, fun H4 x s4 hx h4 => ?_⟩
  refine ⟨x, _, rfl, h4, bitsOf_b1 _, by rw [bits_len]; omega, fun H5 y s5 hy h5 => ?_⟩
  have hp5 : H5 p = some (.lst (nts Sa72.FLAG)) := s5 _ _ (s4 _ _ (by rw [upd_ne (ne_of_none (s2 _ _ upd_same) hr)]; exact s2 _ _ upd_same))
  have z1 := stuffed_len (Sa72.bitsOf (l ++ sumOf l)) 0
  rw [bits_len] at z1
  refine ⟨p, y, _, _, rfl, rfl, hp5, h5, by rw [nts_len, nts_len]; exact sz (by show 8 + _ ≤ _; omega), fun u hu => ?_⟩
  have s6 : Same H H5 := (s3.trans s4).trans s5
  rw [← nts_app]
  refine ⟨_, _, rfl, .inr (T.s_FLAG _), fun w hw => ?_⟩
  have nuw : u ≠ w := ne_of_none upd_same hw
  refine ⟨u, w, _, _, rfl, rfl, by rw [upd_ne nuw]; exact upd_same, upd_same, by rw [nts_len, List.length_append]; exact sz (by show 8 + _ + 8 ≤ _; omega), fun v hv => ?_⟩
  have s7 : Same H (upd H5 u (.lst (nts (Sa72.FLAG ++ Sa72.stuffed 0 (Sa72.bitsOf (l ++ sumOf l)))))) := same_new s6 (s6.free hu)
  have s8 := same_new (o := .lst (zts [0, 1, 1, 1, 1, 1, 1, 0])) s7 (s7.free hw)
  refine k _ v (same_new s8 (s8.free hv)) (s8.free hv) ?_
  rw [upd_same]
  show some (HO.lst (nts _ ++ nts Sa72.FLAG)) = _
  rw [← nts_app, List.append_assoc] <;> rfl
end LK
namespace LK
open PySem PySem.Spec PyProof.Rows L2
/-! # Frames -/
theorem inV_zts (z : Int) : ∀ l : List Int, inV (.int z) (zts l) = decide (z ∈ l)
  | [] => by simp [inV]
  | a :: l => by
    have h := inV_zts z l
    unfold inV at h ⊢
    show (eqV (V.int a) (V.int z) || (zts l).any fun y => eqV y (V.int z)) = _
    rw [h]
    have e : eqV (V.int a) (V.int z) = decide (a = z) := by
      by_cases c : a = z <;> simp [eqV, c]
    rw [e]
    by_cases c : z = a
    · simp [c]
    · have c' : ¬ a = z := fun q => c q.symm
      simp [c, c']
theorem flat_zts : ∀ l : List Int, (zts l).all flatV = true
  | [] => rfl
  | a :: l => by
    show (flatV (V.int a) && (zts l).all flatV) = true
    rw [flat_zts l] <;> rfl
theorem pure_F_init {K : PySem.W.Frag} {L : LA} (T : Tx K L) {vs : List V} {H : Hp} {Q : VK} {E : XK} (h : sp_F_init K L vs H Q E) : t_F_init K L { nx := fun _ H' => Q .non H', rt := Q } (start N_F_init vs) H := by
  obtain ⟨x, dx, la, b, c, rfl, hx, k⟩ := h
  refine s_fld (val_var rfl) (val_var rfl) hx T.cl_F T.n_F_is_command (by show 0 < 1000; decide) ?_
  refine s_fld (val_var rfl) (val_var rfl) upd_same T.cl_F T.n_F_control (by show 1 < 1000; decide) ?_
  refine s_fld (val_var rfl) (val_var rfl) upd_same T.cl_F T.n_F_load (by show 2 < 1000; decide) ?_
  refine k _ (Eq.trans upd_same (congrArg (fun q => some (HO.ins L.CF dx q)) (by kernel_rfl))) ?_
  exact (((KeepBut.refl _ _).at (List.mem_singleton.mpr rfl)).at (List.mem_singleton.mpr rfl)).at (List.mem_singleton.mpr rfl)
theorem and15 (c : Nat) : Builtin.bitAnd (c : Int) 15 = ((c % 16 : Nat) : Int) := by
  rw [show (15 : Int) = ((15 : Nat) : Int) from rfl, bAnd]
  have := Nat.and_two_pow_sub_one_eq_mod c 4
  rw [show 2 ^ 4 - 1 = 15 from rfl] at this
  rw [this] <;> rfl
theorem and1 (c : Nat) : Builtin.bitAnd (c : Int) 1 = ((c % 2 : Nat) : Int) := by
  rw [show (1 : Int) = ((1 : Nat) : Int) from rfl, bAnd, Nat.and_one_is_mod]
theorem and7 (c : Nat) : Builtin.bitAnd (c : Int) 7 = ((c % 8 : Nat) : Int) := by
  rw [show (7 : Int) = ((7 : Nat) : Int) from rfl, bAnd]
  have := Nat.and_two_pow_sub_one_eq_mod c 3
  rw [show 2 ^ 3 - 1 = 7 from rfl] at this
  rw [this] <;> rfl
theorem nand16 : ∀ c : Nat, c < 256 → c &&& 16 = c / 16 % 2 * 16 := by decide +kernel
theorem and16 {c : Nat} (h : c < 256) : Builtin.bitAnd (c : Int) 16 = ((c / 16 % 2 * 16 : Nat) : Int) := by
  rw [show (16 : Int) = ((16 : Nat) : Int) from rfl, bAnd, nand16 c h]
theorem pure_F_bit {K : PySem.W.Frag} {L : LA} (T : Tx K L) {vs : List V} {H : Hp} {Q : VK} {E : XK} (h : sp_F_bit K L vs H Q E) : t_F_bit K L { nx := fun _ H' => Q .non H', rt := Q } (start N_F_bit vs) H := by
  obtain ⟨f, la, b, c, load, rfl, I, k⟩ := h
  refine s_ret (v_is (v_and (v_shr (ff_control I T (val_var rfl)) val_c (by decide)) val_c) (congrArg V.int ?_)) k
  rw [show (4 : Int) = ((4 : Nat) : Int) from rfl, shr_nat, and1] <;> rfl
theorem pure_F_own_number {K : PySem.W.Frag} {L : LA} (T : Tx K L) {vs : List V} {H : Hp} {Q : VK} {E : XK} (h : sp_F_own_number K L vs H Q E) : t_F_own_number K L { nx := fun _ H' => Q .non H', rt := Q } (start N_F_own_number vs) H := by
  obtain ⟨f, la, b, c, load, rfl, I, k⟩ := h
  refine s_ret (v_is (v_and (v_shr (ff_control I T (val_var rfl)) val_c (by decide)) val_c) (congrArg V.int ?_)) k
  rw [show (1 : Int) = ((1 : Nat) : Int) from rfl, shr_nat, and7] <;> rfl
theorem pure_F_awaited {K : PySem.W.Frag} {L : LA} (T : Tx K L) {vs : List V} {H : Hp} {Q : VK} {E : XK} (h : sp_F_awaited K L vs H Q E) : t_F_awaited K L { nx := fun _ H' => Q .non H', rt := Q } (start N_F_awaited vs) H := by
  obtain ⟨f, la, b, c, load, rfl, I, k⟩ := h
  refine s_ret (v_is (v_shr (ff_control I T (val_var rfl)) val_c (by decide)) (congrArg V.int ?_)) k
  rw [show (5 : Int) = ((5 : Nat) : Int) from rfl, shr_nat] <;> rfl
theorem pure_d_numbered_control {K : PySem.W.Frag} {L : LA} (T : Tx K L) {vs : List V} {H : Hp} {Q : VK} {E : XK} (h : sp_d_numbered_control K L vs H Q E) : t_d_numbered_control K L { nx := fun _ H' => Q .non H', rt := Q } (start N_d_numbered_control vs) H := by
  obtain ⟨i, j, rfl, k⟩ := h
  exact s_ret (v_add (v_mul val_c (val_var rfl) (by decide)) (v_mul val_c (val_var rfl) (by decide))) k
theorem pure_d_state_control {K : PySem.W.Frag} {L : LA} (T : Tx K L) {vs : List V} {H : Hp} {Q : VK} {E : XK} (h : sp_d_state_control K L vs H Q E) : t_d_state_control K L { nx := fun _ H' => Q .non H', rt := Q } (start N_d_state_control vs) H := by
  obtain ⟨i, j, l, rfl, k⟩ := h
  exact s_ret (v_add (v_add (val_var rfl) (v_mul val_c (val_var rfl) (by decide))) (v_mul val_c (val_var rfl) (by decide))) k
theorem pure_F_kind {K : PySem.W.Frag} {L : LA} (T : Tx K L) {vs : List V} {H : Hp} {Q : VK} {E : XK} (h : sp_F_kind K L vs H Q E) : t_F_kind K L { nx := fun _ H' => Q .non H', rt := Q } (start N_F_kind vs) H := by
  obtain ⟨f, la, b, c, load, rfl, I, hc, k⟩ := h
  unfold kindOf at k
  refine s_if (t_of (v_eq (v_and (ff_control I T (val_var rfl)) val_c) val_c)) (fun q => ?_) (fun q => ?_)
  · rw [and1, decide_eq_true_eq] at q
    rw [if_pos (by omega)] at k
    exact s_ret val_c k
  rw [and1, decide_eq_false_iff_not] at q
  rw [if_neg (by omega)] at k
  refine s_if (t_of (v_inT (v_and (ff_control I T (val_var rfl)) val_c) val_c (T.s_STATES H) rfl (flat_zts _))) (fun q2 => ?_) (fun q2 => ?_)
  · rw [and15, if_neg Bool.false_ne_true, inV_zts, decide_eq_true_eq] at q2
    simp only [List.mem_cons, List.not_mem_nil, or_false] at q2
    rw [if_pos (by omega)] at k
    exact s_ret (v_is (v_and (ff_control I T (val_var rfl)) val_c) (congrArg V.int (and15 c))) k
  rw [and15, if_neg Bool.false_ne_true, inV_zts, decide_eq_false_iff_not] at q2
  simp only [List.mem_cons, List.not_mem_nil, or_false] at q2
  rw [if_neg (by omega)] at k
  have e : (c : Int) - Builtin.bitAnd (c : Int) 16 = ((c - c / 16 % 2 * 16 : Nat) : Int) := by
    rw [and16 hc]
    omega
  refine s_asg (v_is (v_sub (ff_control I T (val_var rfl)) (v_and (ff_control I T (val_var rfl)) val_c)) (congrArg V.int e)) ?_
  refine s_if (t_of (v_inT (val_var rfl) val_c (T.s_PLAIN H) rfl (flat_zts _))) (fun q3 => ?_) (fun q3 => ?_)
  · rw [if_neg Bool.false_ne_true, inV_zts, decide_eq_true_eq] at q3
    simp only [List.mem_cons, List.not_mem_nil, or_false] at q3
    rw [if_pos (by omega)] at k
    exact s_ret (val_var rfl) k
  rw [if_neg Bool.false_ne_true, inV_zts, decide_eq_false_iff_not] at q3
  simp only [List.mem_cons, List.not_mem_nil, or_false] at q3
  rw [if_neg (by omega)] at k
  exact k
theorem v_ne {σ : L2.St} {H : Hp} {ta tb : TE} {i j : Int} (a : Val ta σ H (.int i)) (b : Val tb σ H (.int j)) : Val (tOp rNe ta tb) σ H (.bl (!decide (i = j))) := val_op a b fun Q q => ⟨rfl, by
  have e : decide (V.int i = V.int j) = decide (i = j) := by
    by_cases h : i = j
    · subst h
      simp
    · have : ¬ V.int i = V.int j := fun z => h (V.int.inj z)
      simp [h, this]
  rw [e]
  exact q⟩
theorem nin_cmd (z : Int) : (if true = true then !inV (.int z) (zts [0, 1, 5, 9, 47, 67]) else inV (.int z) (zts [0, 1, 5, 9, 47, 67])) = !isCmdKind z := by
  rw [if_pos rfl, inV_zts]
  unfold isCmdKind
  simp only [List.mem_cons, List.not_mem_nil, or_false]
theorem nin_ans (z : Int) : (if true = true then !inV (.int z) (zts [1, 5, 9, 99, 15, 135]) else inV (.int z) (zts [1, 5, 9, 99, 15, 135])) = !isAnsKind z := by
  rw [if_pos rfl, inV_zts]
  unfold isAnsKind
  simp only [List.mem_cons, List.not_mem_nil, or_false]
theorem merge2 (v w : V) : mergeK [] [((.inl 0 : Key), v), (.inl 135, w)] = [(.inl 0, v), (.inl 135, w)] := by
  simp [mergeK, putK]
theorem val2 (v w : V) (z : Int) : valV [((.inl 0 : Key), v), (.inl 135, w)] (.inl z) = if z = 0 then some v else if z = 135 then some w else none := by
  by_cases h : z = 0
  · subst h
    rw [if_pos rfl]
    exact valV_pos rfl
  · rw [if_neg h, valV_neg (by intro q; exact h (Sum.inl.inj q).symm)]
    by_cases h2 : z = 135
    · subst h2
      rw [if_pos rfl]
      exact valV_pos rfl
    · rw [if_neg h2, valV_neg (by intro q; exact h2 (Sum.inl.inj q).symm)]
      rfl
theorem pure_F_fault {K : PySem.W.Frag} {L : LA} (T : Tx K L) {vs : List V} {H : Hp} {Q : VK} {E : XK} (h : sp_F_fault K L vs H Q E) : t_F_fault K L { nx := fun _ H' => Q .non H', rt := Q } (start N_F_fault vs) H := by
  obtain ⟨f, la, b, c, load, rfl, I, hc, k⟩ := h
  obtain ⟨dx, ho⟩ := I.obj
  refine ⟨_, rfl, f, dx, _, rfl, ho, fF_m_kind _ _ _, f, la, b, c, load, rfl, I, hc, ?_⟩
  unfold faultOf at k
  generalize kindOf c = z at k ⊢
  refine s_if (t_is (t_or (t_and (t_val (ff_is_command I T (val_var rfl))) fun _ => t_is (t_of (v_inT (val_var rfl) val_c (T.s_COMMANDS H) rfl (flat_zts _))) (nin_cmd z)) fun _ => t_and (t_not (t_val (ff_is_command I T (val_var rfl)))) fun _ => t_is (t_of (v_inT (val_var rfl) val_c (T.s_ANSWERS H) rfl (flat_zts _))) (nin_ans z)) rfl) (fun q => ?_) (fun q => ?_)
  · rw [if_pos q] at k
    exact s_ret val_c (k H (Same.refl H))
  rw [if_neg (by rw [q]; exact Bool.false_ne_true)] at k
  refine s_if (t_and (t_of (v_eq (val_var rfl) val_c)) fun _ => t_of (v_gt (v_len (ff_load I T (val_var rfl)) I.load) val_c)) (fun q => ?_) (fun q => ?_)
  · rw [Bool.and_eq_true, decide_eq_true_eq, decide_eq_true_eq, nts_len] at q
    rw [if_pos (by omega)] at k
    exact s_ret val_c (k H (Same.refl H))
  rw [Bool.and_eq_false_iff, decide_eq_false_iff_not, decide_eq_false_iff_not, nts_len] at q
  rw [if_neg (by omega)] at k
  intro p hp
  have I1 : FrO L (upd H p (.dK [])) f la b c load := ⟨⟨dx, same_upd hp _ _ ho⟩, same_upd hp _ _ I.load⟩
  refine ⟨_, rfl, f, L.CF, dx, _, _, rfl, same_upd hp _ _ ho, T.cl_F, T.n_F_load, fF_load _ _ _, la, _, rfl, .inl (SqL.of I1.load), 1, _, rfl, upd_same, [(.inl 0, .int (if ((nts load).length : Int) > 1 then ((nts load).length : Int) else 1)), (.inl 135, .int 3)], rfl, by show 2 ≤ 15; decide, ?_⟩
  rw [merge2, upd_upd]
  have s2 : ∀ o, Same H (upd H p o) := fun o => same_upd hp
  generalize hkv : HO.dK [((.inl 0 : Key), V.int (if ((nts load).length : Int) > 1 then ((nts load).length : Int) else 1)), (.inl 135, .int 3)] = o
  have hp2 : upd H p o p = some (.dK [((.inl 0 : Key), V.int (if ((nts load).length : Int) > 1 then ((nts load).length : Int) else 1)), (.inl 135, .int 3)]) := by rw [upd_same, hkv]
  have s3 := s2 o
  generalize upd H p o = H2 at hp2 s3
  have I2 : FrO L H2 f la b c load := ⟨⟨dx, s3 _ _ ho⟩, s3 _ _ I.load⟩
  have vg : Val (tDGet2 (tVar 2) (tVar 1) (tC (.int 0))) [some (.ref f), some (.int z), some (.ref p)] H2 (.int (if z = 0 then (if (load.length : Int) > 1 then (load.length : Int) else 1) else if z = 135 then 3 else 0)) := fun Q q => by
    refine ⟨_, rfl, p, rfl, .inl ⟨_, .inl hp2⟩, _, rfl, _, DGet.k (k := Sum.inl z) hp2, ?_⟩
    rw [val2, nts_len]
    by_cases h1 : z = 0
    · rw [if_pos h1] at q ⊢
      exact q
    · rw [if_neg h1] at q ⊢
      by_cases h2 : z = 135
      · rw [if_pos h2] at q ⊢
        exact q
      · rw [if_neg h2] at q ⊢
        exact q
  refine s_if (t_of (v_ne (v_len (ff_load I2 T (val_var rfl)) I2.load) vg)) (fun q => ?_) (fun q => ?_)
  · rw [nts_len, Bool.not_eq_true', decide_eq_false_iff_not] at q
    rw [if_pos q] at k
    exact s_ret val_c (k H2 s3)
  · rw [nts_len, Bool.not_eq_false', decide_eq_true_eq] at q
    rw [if_neg (by rw [← q]; simp)] at k
    exact k H2 s3
end LK
namespace LK
open PySem PySem.Spec PyProof.Rows L2
/-! # Listener, Waiting -/
section
variable {K : PySem.W.Frag} {σ : L2.St} {H : Hp} {D : Ends}
theorem s_fldN {i : Nat} {a C dx : Addr} {fs : List (Str × V)} {f : Str} (h0 : σ[i]? = some (some (.ref a))) (o : H a = some (.ins C dx fs)) (c : Cls K C) (n : NoAttr K C f) (l : fs.length < 1000) (q : ∀ p, H p = none → D.nx σ (upd (upd H p (.lst [])) a (.ins C dx (putF f (.ref p) fs)))) : sFld K (tVar i) (tLst tNil) f D σ H :=
  ⟨Nat.zero_le _, fun p hp => ⟨_, h0, a, C, dx, fs, rfl, by rw [upd_ne (ne_of_none o hp)]; exact o, c, n, l, q p hp⟩⟩
theorem s_app {to te : TE} {l : Addr} {xs : List V} {v : V} (ho : Val to σ H (.ref l)) (h : H l = some (.lst xs)) (hv : Val te σ H v) (z : xs.length < sizeLine) (q : D.nx σ (upd H l (.lst (xs ++ [v])))) : tDrop (tBM K "list" rAppend to (tCons te tNil)) D σ H :=
  ho _ ⟨.inl ⟨rfl, _, SqL.of h⟩, hv _ ⟨l, xs, v, rfl, rfl, h, z, q⟩⟩
theorem s_ext {to te : TE} {l b : Addr} {xs ys : List V} (ho : Val to σ H (.ref l)) (h : H l = some (.lst xs)) (hv : Val te σ H (.ref b)) (hb : H b = some (.lst ys)) (z : xs.length + ys.length ≤ sizeLine) (q : D.nx σ (upd H l (.lst (xs ++ ys)))) : tDrop (tBM K "list" rExtend to (tCons te tNil)) D σ H :=
  ho _ ⟨.inl ⟨rfl, _, SqL.of h⟩, hv _ ⟨l, b, xs, ys, rfl, rfl, h, hb, z, q⟩⟩
end
theorem mem1 {a : Addr} : a ∈ [a] := List.mem_singleton.mpr rfl
theorem pure_I_init {K : PySem.W.Frag} {L : LA} (T : Tx K L) {vs : List V} {H : Hp} {Q : VK} {E : XK} (h : sp_I_init K L vs H Q E) : t_I_init K L { nx := fun _ H' => Q .non H', rt := Q } (start N_I_init vs) H := by
  obtain ⟨x, dx, rfl, hx, k⟩ := h
  refine s_fld val_c (val_var rfl) hx T.cl_I T.n_I_lost (by show 0 < 1000; decide) ?_
  refine s_fldN rfl upd_same T.cl_I T.n_I_kept (by show 1 < 1000; decide) fun p hp => ?_
  refine s_fld val_c (val_var rfl) upd_same T.cl_I T.n_I_ones (by show 2 < 1000; decide) ?_
  have npx : p ≠ x := (ne_of_none upd_same hp).symm
  rw [upd_ne npx] at hp
  refine k _ p ⟨Eq.trans upd_same (congrArg (fun q => some (HO.ins L.CI dx q)) (by kernel_rfl)), ?_⟩ ?_ hp
  · rw [upd_ne npx, upd_ne npx, upd_same] <;> rfl
  · exact ((((KeepBut.refl _ _).at mem1).new hp).at mem1).at mem1
theorem pure_I_lose {K : PySem.W.Frag} {L : LA} (T : Tx K L) {vs : List V} {H : Hp} {Q : VK} {E : XK} (h : sp_I_lose K L vs H Q E) : t_I_lose K L { nx := fun _ H' => Q .non H', rt := Q } (start N_I_lose vs) H := by
  obtain ⟨l, dl, kp, s, rfl, I, k⟩ := h
  refine s_fld val_c (val_var rfl) I.obj T.cl_I T.n_I_lost (lF_len _ _ _) ?_
  rw [lP_lost]
  refine s_fldN rfl upd_same T.cl_I T.n_I_kept (lF_len _ _ _) fun p hp => ?_
  rw [lP_kept]
  have npx : p ≠ l := (ne_of_none upd_same hp).symm
  rw [upd_ne npx] at hp
  refine k _ p ⟨upd_same, ?_⟩ ?_ hp
  · rw [upd_ne npx, upd_same] <;> rfl
  · exact (((KeepBut.refl _ _).at mem1).new hp).at mem1
theorem LisAt.ne {L : LA} {H : Hp} {l dl kp : Addr} {s : Ls} (I : LisAt L H l dl kp s) : kp ≠ l := ne_of I.kept I.obj (by intro z; cases z)
theorem pure_I_keep {K : PySem.W.Frag} {L : LA} (T : Tx K L) {vs : List V} {H : Hp} {Q : VK} {E : XK} (h : sp_I_keep K L vs H Q E) : t_I_keep K L { nx := fun _ H' => Q .non H', rt := Q } (start N_I_keep vs) H := by
  obtain ⟨l, dl, kp, s, z, b, rfl, rfl, I, hz, k⟩ := h
  -- behind the first if
  have fin : ∀ (s1 : Ls) (H1 : Hp), LisAt L H1 l dl kp s1 → KeepBut [l, kp] H H1 → s.keep b = (if 8231 < s1.kb.length then s1.lose else s1) →
      tIfS (tTest (tOp kGt (tCB (kLen K) (tCons (tFld K (tVar 0) "kept") tNil)) (tC (.int (8231))))) (tDrop (tMeth L.CI "lose" (sp_I_lose K L) [] E0 (tVar 0) tNil)) tNext { nx := fun _ H' => Q .non H', rt := Q } [some (.ref l), some (.int (b : Nat))] H1 := by
    intro s1 H1 I1 k1 e
    refine s_if (t_of (v_gt (v_len (lf_kept I1 T (val_var rfl)) I1.kept) val_c)) (fun q => ?_) (fun q => ?_)
    · rw [decide_eq_true_eq, nts_len] at q
      rw [if_pos (by omega)] at e
      refine ⟨_, rfl, l, dl, _, rfl, I1.obj, lF_m_lose _ _ _, l, dl, kp, s1, rfl, I1, fun H2 kp' I2 k2 hk => ?_⟩
      refine k H2 kp' (by rw [e]; exact I2) (fun c o hc hn => k2 c o (k1 c o hc hn) fun w => hn (by rw [List.mem_singleton.mp w]; exact List.mem_cons_self ..)) ?_
      cases hq : H kp' with
      | none => exact .inr rfl
      | some o =>
        by_cases w : kp' ∈ [l, kp]
        · simp only [List.mem_cons, List.not_mem_nil, or_false] at w
          rcases w with w | w
          · rw [w, I1.obj] at hk
            cases hk
          · rw [w, I1.kept] at hk
            cases hk
        · rw [k1 _ _ hq w] at hk
          cases hk
    · rw [decide_eq_false_iff_not, nts_len] at q
      rw [if_neg (by omega)] at e
      exact k H1 kp (by rw [e]; exact I1) k1 (.inl rfl)
  refine s_if (t_not (t_val (lf_lost I T (val_var rfl)))) (fun q => ?_) (fun q => ?_)
  · refine s_app (lf_kept I T (val_var rfl)) I.kept (val_var rfl) (by rw [nts_len]; exact szl (by omega)) ?_
    refine fin { s with kb := s.kb ++ [b] } _ ⟨?_, ?_⟩ ((KeepBut.refl _ _).at (by simp)) ?_
    · rw [upd_ne I.ne.symm]
      exact I.obj
    · rw [upd_same, nts_app] <;> rfl
    · have hl : s.lost = false := by simpa using q
      simp only [Ls.keep, hl, Bool.false_eq_true, if_false]
  · refine fin s H I (KeepBut.refl _ _) ?_
    have hl : s.lost = true := by simpa using q
    simp only [Ls.keep, hl, if_true]
theorem cut_to {l : List Nat} {j : Nat} : cutV (nts l) none (some (j : Int)) = nts (l.take j) := by
  unfold cutV
  rw [HT.sIx_nat, HT.sIx_none, nts_len, List.drop_zero, ← List.map_take, Nat.sub_zero]
  congr 1
  rcases Nat.le_total j l.length with c | c
  · rw [Nat.min_eq_left c]
  · rw [Nat.min_eq_right c, List.take_of_length_le (Nat.le_refl _), List.take_of_length_le c]
theorem cut_from {l : List Nat} {j : Nat} : cutV (nts l) (some (j : Int)) none = nts (l.drop j) := by
  unfold cutV
  rw [HT.sIx_nat, HT.sIx_none, nts_len, ← List.map_drop, ← List.map_take]
  congr 1
  rcases Nat.le_total j l.length with c | c
  · rw [Nat.min_eq_left c, List.take_of_length_le (by rw [List.length_drop]; omega)]
  · rw [Nat.min_eq_right c, List.drop_eq_nil_of_le (Nat.le_refl _), List.drop_eq_nil_of_le c, List.take_nil]
theorem sIx_m2 {n d : Nat} (h : 2 ≤ n) : HT.sIx n d (some (-2)) = n - 2 := by
  show (if (-2 : Int) < 0 then ((-2 : Int) + (n : Int)).toNat else min ((-2 : Int)).toNat n) = n - 2
  rw [if_pos (by decide)]
  omega
theorem cut_m2 {l : List Nat} (h : 2 ≤ l.length) : cutV (nts l) none (some (-2)) = nts (l.take (l.length - 2)) := by
  unfold cutV
  rw [nts_len, sIx_m2 h, HT.sIx_none, List.drop_zero, ← List.map_take, Nat.sub_zero]
theorem cut_2 {l : List Nat} (h : 2 ≤ l.length) : cutV (nts l) (some (-2)) none = nts (l.drop (l.length - 2)) := by
  unfold cutV
  rw [nts_len, sIx_m2 h, HT.sIx_none, ← List.map_drop, ← List.map_take, List.take_of_length_le (by rw [List.length_drop]; omega)]
theorem byteOf_b8 : ∀ l : List Nat, B1 l → byteOf l < 2 ^ l.length
  | [], _ => by decide
  | c :: l, h => by
    have h1 := byteOf_b8 l fun x m => h x (List.mem_cons_of_mem _ m)
    have h2 := h c (List.mem_cons_self ..)
    show c + 2 * byteOf l < 2 ^ (l.length + 1)
    rw [Nat.pow_succ]
    omega
theorem bytes_b8 : ∀ (n : Nat) (l : List Nat), B1 l → B8 (Sa72.bytesOf n l)
  | 0, _, _ => B8.nil
  | n + 1, l, h => by
    refine B8.cons ?_ (bytes_b8 n _ fun x m => h x (List.mem_of_mem_drop m))
    have h1 := byteOf_b8 (l.take 8) fun x m => h x (List.mem_of_mem_take m)
    have h2 : 2 ^ (l.take 8).length ≤ 2 ^ 8 := Nat.pow_le_pow_right (by decide) (by rw [List.length_take]; omega)
    exact Nat.lt_of_lt_of_le h1 h2
theorem row_len (kb : List Nat) : (rowOf kb).length = (kb.length - 7 + 7) / 8 := bytes_len _ _
theorem pure_I_whole {K : PySem.W.Frag} {L : LA} (T : Tx K L) {vs : List V} {H : Hp} {Q : VK} {E : XK} (h : sp_I_whole K L vs H Q E) : t_I_whole K L { nx := fun _ H' => Q .non H', rt := Q } (start N_I_whole vs) H := by
  obtain ⟨l, dl, kp, s, rfl, I, hz, hb, k⟩ := h
  have e7 : (if ((nts s.kb).length : Int) - 7 > 0 then ((nts s.kb).length : Int) - 7 else 0) = ((s.kb.length - 7 : Nat) : Int) := by
    rw [nts_len]
    split <;> omega
  refine ⟨_, rfl, l, L.CI, dl, _, _, rfl, I.obj, T.cl_I, T.n_I_kept, lF_kept _ _ _, ?_⟩
  refine (v_len (lf_kept I T (val_var rfl)) I.kept) _ ⟨_, 7, rfl, rfl, 0, _, rfl, _, rfl, kp, _, rfl, SqL.of I.kept, fun q0 hq0 => ?_⟩
  rw [show (if ((nts s.kb).length : Int) - 7 > 0 then ((nts s.kb).length : Int) - 7 else 0) = ((s.kb.length - 7 : Nat) : Int) from e7, cut_to]
  have s0 : Same H (upd H q0 (.lst (nts (s.kb.take (s.kb.length - 7))))) := same_upd hq0
  have I0 : LisAt L (upd H q0 (.lst (nts (s.kb.take (s.kb.length - 7))))) l dl kp s := ⟨s0 _ _ I.obj, s0 _ _ I.kept⟩
  have hq0' : upd H q0 (.lst (nts (s.kb.take (s.kb.length - 7)))) q0 = some (.lst (nts (s.kb.take (s.kb.length - 7)))) := upd_same
  generalize upd H q0 (.lst (nts (s.kb.take (s.kb.length - 7)))) = H0 at s0 I0 hq0'
  refine s_asg (v_orV (lf_lost I0 T (val_var rfl)) fun _ => v_lt (v_len (lf_kept I0 T (val_var rfl)) I0.kept) val_c) ?_
  refine s_fld val_c (val_var rfl) I0.obj T.cl_I T.n_I_lost (lF_len _ _ _) ?_
  rw [lP_lost]
  refine s_fldN rfl upd_same T.cl_I T.n_I_kept (lF_len _ _ _) fun p hp => ?_
  rw [lP_kept]
  have npx : p ≠ l := (ne_of_none upd_same hp).symm
  rw [upd_ne npx] at hp
  have hpH : H p = none := s0.free hp
  have k1 : KeepBut [l] H0 (upd (upd (upd H0 l (.ins L.CI dl (lF false kp s.ones))) p (.lst [])) l (.ins L.CI dl (lF false p s.ones))) := (((KeepBut.refl _ _).at mem1).new hp).at mem1
  have I1 : LisAt L (upd (upd (upd H0 l (.ins L.CI dl (lF false kp s.ones))) p (.lst [])) l (.ins L.CI dl (lF false p s.ones))) l dl p s.fresh := ⟨upd_same, by rw [upd_ne npx, upd_same] <;> rfl⟩
  generalize upd (upd (upd H0 l (.ins L.CI dl (lF false kp s.ones))) p (.lst [])) l (.ins L.CI dl (lF false p s.ones)) = H1 at k1 I1
  have hq1 := k1 _ _ hq0' (notin1 (ne_of hq0' I0.obj (by intro z; cases z)))
  have kH : KeepBut [l] H H1 := fun b o hb hn => k1 b o (s0 b o hb) hn
  have lenB : (s.kb.take (s.kb.length - 7)).length = s.kb.length - 7 := by
    rw [List.length_take]
    omega
  refine ⟨_, rfl, q0, _, rfl, hq1, by omega, fun H2 r s2 hr h2 => ?_⟩
  rw [lenB] at h2
  have I2 : LisAt L H2 l dl p s.fresh := ⟨s2 _ _ I1.obj, s2 _ _ I1.kept⟩
  have kH2 : KeepBut [l] H H2 := fun b o hb hn => s2 b o (kH b o hb hn)
  have hq2 := s2 _ _ hq1
  have h2' : H2 r = some (.lst (nts (rowOf s.kb))) := h2
  have fin : ∀ H6, Same H2 H6 → RowRes H H6 p s.row Q := fun H6 s6 => k H6 p ⟨s6 _ _ I2.obj, s6 _ _ I2.kept⟩ (fun b o hb hn => s6 b o (kH2 b o hb hn)) hpH
  refine s_if (t_or (t_val (val_var rfl)) fun _ => t_or (t_of (v_gt (v_mod (v_len (val_var rfl) hq2) val_c (by decide)) val_c)) fun _ => t_or (t_of (v_lt (v_len (val_var rfl) h2') val_c)) fun _ => t_of (v_gt (v_len (val_var rfl) h2') val_c)) (fun q => ?_) (fun q => ?_)
  · refine (fin H2 (Same.refl _)).1 ?_
    unfold Ls.row
    rw [if_pos ?_]
    unfold Ls.bad
    rw [← q]
    simp only [nts_len, lenB]
    congr 1
    · congr 1
      exact decide_eq_decide.mpr (by omega)
    · congr 1
      · exact decide_eq_decide.mpr (by omega)
      · congr 1
        · exact decide_eq_decide.mpr (by omega)
        · exact decide_eq_decide.mpr (by omega)
  · have hbad : s.bad = false := by
      unfold Ls.bad
      rw [← q]
      simp only [nts_len, lenB]
      congr 1
      · congr 1
        exact decide_eq_decide.mpr (by omega)
      · congr 1
        · exact decide_eq_decide.mpr (by omega)
        · congr 1
          · exact decide_eq_decide.mpr (by omega)
          · exact decide_eq_decide.mpr (by omega)
    have h4 : 4 ≤ (rowOf s.kb).length := by
      have := hbad
      unfold Ls.bad at this
      simp only [Bool.or_eq_false_iff, decide_eq_false_iff_not] at this
      omega
    have hR : s.row = if sumOf ((rowOf s.kb).take ((rowOf s.kb).length - 2)) = (rowOf s.kb).drop ((rowOf s.kb).length - 2) then some ((rowOf s.kb).take ((rowOf s.kb).length - 2)) else none := by
      unfold Ls.row
      rw [if_neg (by rw [hbad]; exact Bool.false_ne_true)]
    have rb : B8 (rowOf s.kb) := bytes_b8 _ _ fun x m => hb x (List.mem_of_mem_take m)
    generalize rowOf s.kb = row at h2' h4 hR rb
    refine ⟨_, rfl, 2, rfl, _, rfl, r, _, rfl, SqL.of h2', fun u hu => ?_⟩
    have s3 : Same H2 (upd H2 u (.lst (cutV (nts row) none (some (-2))))) := same_upd hu
    refine ⟨u, row.take (row.length - 2), rfl, by rw [upd_same]; exact congrArg (fun q => some (HO.lst q)) (cut_m2 (by omega)), fun x m => rb x (List.mem_of_mem_take m), fun H4 v s4 hv h5 => ?_⟩
    have s24 := s3.trans s4
    refine ⟨_, rfl, 2, rfl, _, rfl, r, _, rfl, SqL.of (s24 _ _ h2'), fun w hw => ?_⟩
    have h6 : upd H4 w (.lst (cutV (nts row) (some (-2)) none)) w = some (.lst (nts (row.drop (row.length - 2)))) := by
      rw [upd_same]
      exact congrArg (fun q => some (HO.lst q)) (cut_2 (by omega))
    have s5 : Same H4 (upd H4 w (.lst (cutV (nts row) (some (-2)) none))) := same_upd hw
    have h5' := s5 _ _ h5
    show rNeD K (.ref v) (.ref w) (upd H4 w (.lst (cutV (nts row) (some (-2)) none))) _
    generalize upd H4 w (.lst (cutV (nts row) (some (-2)) none)) = H6 at h6 s5 h5'
    have s26 := s24.trans s5
    have hl2 : (row.drop (row.length - 2)).length = 2 := by
      rw [List.length_drop]
      omega
    match hm : row.drop (row.length - 2), hl2 with
    | [x, y], _ =>
      rw [hm] at h6 hR
      have key : PyData.eqv (.list [.int ((Sa72.crc (row.take (row.length - 2)) % 256 : Nat) : Int), .int ((Sa72.crc (row.take (row.length - 2)) / 256 : Nat) : Int)]) (.list [.int (x : Nat), .int (y : Nat)]) = decide (sumOf (row.take (row.length - 2)) = [x, y]) := by
        show ((((Sa72.crc (row.take (row.length - 2)) % 256 : Nat) : Int) == ((x : Nat) : Int)) && ((((Sa72.crc (row.take (row.length - 2)) / 256 : Nat) : Int) == ((y : Nat) : Int)) && true)) = decide ([_, _] = [x, y])
        rw [Bool.and_true, Bool.beq_eq_decide_eq, Bool.beq_eq_decide_eq, ← Bool.decide_and]
        refine decide_eq_decide.mpr ⟨fun q => ?_, fun q => ?_⟩
        · rw [Int.ofNat.inj q.1, Int.ofNat.inj q.2]
        · injection q with q1 q2
          injection q2 with q2 _
          exact ⟨congrArg _ q1, congrArg _ q2⟩
      refine ⟨_, _, .lst (SqL.of h5') (.cons (.int _) (.cons (.int _) .nil)), .lst (SqL.of h6) (.cons (.int _) (.cons (.int _) .nil)), rfl, rfl, _, rfl, ?_⟩
      rw [key]
      by_cases c : sumOf (row.take (row.length - 2)) = [x, y]
      · rw [if_pos c] at hR
        rw [decide_eq_true c]
        refine iteF ?_
        refine ⟨_, rfl, 2, rfl, _, rfl, r, _, rfl, SqL.of (s26 _ _ h2'), fun z hz => ?_⟩
        have sz := s26.trans (same_upd (o := .lst (cutV (nts row) none (some (-2)))) hz)
        refine (fin _ sz).2 _ z hR ?_ (by rw [upd_same]; exact congrArg (fun q => some (HO.lst q)) (cut_m2 (by omega))) ?_
        · cases hq : H z with
          | none => rfl
          | some o =>
            by_cases w : z ∈ [l]
            · rw [List.mem_singleton.mp w, s26 _ _ I2.obj] at hz
              cases hz
            · rw [s26 _ _ (kH2 _ _ hq w)] at hz
              cases hz
        · exact (ne_of_none (s26 _ _ I2.kept) hz).symm
      · rw [if_neg c] at hR
        rw [decide_eq_false c]
        exact iteT ((fin _ s26).1 hR)
theorem lis_len {s : Ls} {g : Sa72.Got} (h : LisRel s g) : s.kb.length ≤ 8231 ∧ B1 s.kb := by
  cases h with
  | live h1 _ h2 => exact ⟨Nat.le_trans h2 (by decide), h1⟩
  | six h1 h2 => exact ⟨by simp; omega, B1.app h1 (B1.cons (by decide) B1.nil)⟩
  | lost => exact ⟨by simp, B1.nil⟩
  | full h1 _ h2 => exact ⟨Nat.le_of_eq h2, h1⟩
theorem keep_len {s : Ls} {b : Nat} (h : s.kb.length ≤ 8231) : (s.keep b).kb.length ≤ 8231 ∧ ((s.keep b).ones = s.ones) := by
  unfold Ls.keep
  simp only
  split
  · split
    · exact ⟨by simp [Ls.lose], rfl⟩
    · exact ⟨by omega, rfl⟩
  · split
    · exact ⟨by simp [Ls.lose], rfl⟩
    · exact ⟨by omega, rfl⟩
theorem pure_I_take {K : PySem.W.Frag} {L : LA} (T : Tx K L) {vs : List V} {H : Hp} {Q : VK} {E : XK} (h : sp_I_take K L vs H Q E) : t_I_take K L { nx := fun _ H' => Q .non H', rt := Q } (start N_I_take vs) H := by
  obtain ⟨l, dl, kp, s, z, b, rfl, rfl, hb1, I, hz, hb, k⟩ := h
  have mL : ∀ {H1 H2 : Hp}, KeepBut [l] H1 H2 → KeepBut [l, kp] H1 H2 := fun k1 c o hc hn => k1 c o hc fun w => hn (by rw [List.mem_singleton.mp w]; exact List.mem_cons_self ..)
  refine s_asg (lf_ones I T (val_var rfl)) ?_
  refine s_if (t_of (v_eq (val_var rfl) val_c)) (fun q => ?_) (fun q => ?_)
  · rw [decide_eq_true_eq] at q
    have hb' : b = 1 := by omega
    subst hb'
    refine s_fld (v_add (val_var rfl) val_c) (val_var rfl) I.obj T.cl_I T.n_I_ones (lF_len _ _ _) ?_
    rw [lP_ones]
    have I1 : LisAt L (upd H l (.ins L.CI dl (lF s.lost kp ((s.ones + 1 : Nat) : Int)))) l dl kp { s with ones := s.ones + 1 } := ⟨upd_same, by rw [upd_ne I.ne]; exact I.kept⟩
    have k1 : KeepBut [l] H (upd H l (.ins L.CI dl (lF s.lost kp ((s.ones + 1 : Nat) : Int)))) := (KeepBut.refl _ _).at mem1
    show tSeq _ _ _ _ (upd H l (.ins L.CI dl (lF s.lost kp ((s.ones + 1 : Nat) : Int))))
    generalize upd H l (.ins L.CI dl (lF s.lost kp ((s.ones + 1 : Nat) : Int))) = H1 at I1 k1
    refine ⟨_, rfl, l, dl, _, rfl, I1.obj, lF_m_keep _ _ _, l, dl, kp, _, 1, 1, rfl, rfl, I1, by show s.kb.length ≤ 8232; omega, fun H2 kp2 I2 k2 hk2 => ?_⟩
    obtain ⟨z1, z2⟩ := keep_len (s := { s with ones := s.ones + 1 }) (b := 1) (show s.kb.length ≤ 8231 from hz)
    have hk2' : kp2 = kp ∨ H kp2 = none := by
      rcases hk2 with w | w
      · exact .inl w
      · cases hq : H kp2 with
        | none => exact .inr rfl
        | some o =>
          by_cases v : kp2 ∈ [l]
          · rw [List.mem_singleton.mp v, I1.obj] at w
            cases w
          · rw [k1 _ _ hq v] at w
            cases w
    have k12 : KeepBut [l, kp] H H2 := fun c o hc hn => k2 c o (mL k1 c o hc hn) hn
    refine s_if (t_of (v_gt (lf_ones I2 T (val_var rfl)) val_c)) (fun q2 => ?_) (fun q2 => ?_)
    · rw [decide_eq_true_eq, z2] at q2
      refine ⟨_, rfl, l, dl, _, rfl, I2.obj, lF_m_lose _ _ _, l, dl, kp2, _, rfl, I2, fun H3 kp3 I3 k3 hk3 => ?_⟩
      have e : s.take 1 = ((({ s with ones := s.ones + 1 } : Ls).keep 1).lose, none) := by
        unfold Ls.take
        rw [if_pos rfl]
        simp only
        rw [if_pos (by rw [z2]; have q3 : (6 : Int) < ((s.ones + 1 : Nat) : Int) := q2; show 6 < s.ones + 1; omega)]
      refine (k H3 kp3 (by rw [e]; exact I3) (fun c o hc hn => k3 c o (k12 c o hc hn) fun w => hn (by rw [List.mem_singleton.mp w]; exact List.mem_cons_self ..)) ?_).1 (by rw [e])
      cases hq : H kp3 with
      | none => exact .inr rfl
      | some o =>
        by_cases v : kp3 ∈ [l, kp]
        · simp only [List.mem_cons, List.not_mem_nil, or_false] at v
          rcases v with v | v
          · rw [v, I2.obj] at hk3
            cases hk3
          · exact .inl v
        · rw [k12 _ _ hq v] at hk3
          cases hk3
    · rw [decide_eq_false_iff_not, z2] at q2
      have e : s.take 1 = ((({ s with ones := s.ones + 1 } : Ls).keep 1), none) := by
        unfold Ls.take
        rw [if_pos rfl]
        simp only
        rw [if_neg (by rw [z2]; have q3 : ¬ (6 : Int) < ((s.ones + 1 : Nat) : Int) := q2; show ¬ 6 < s.ones + 1; omega)]
      exact (k H2 kp2 (by rw [e]; exact I2) k12 hk2').1 (by rw [e])
  · rw [decide_eq_false_iff_not] at q
    have hb' : b = 0 := by omega
    subst hb'
    refine s_fld val_c (val_var rfl) I.obj T.cl_I T.n_I_ones (lF_len _ _ _) ?_
    rw [lP_ones]
    have I1 : LisAt L (upd H l (.ins L.CI dl (lF s.lost kp ((0 : Nat) : Int)))) l dl kp { s with ones := 0 } := ⟨upd_same, by rw [upd_ne I.ne]; exact I.kept⟩
    have k1 : KeepBut [l] H (upd H l (.ins L.CI dl (lF s.lost kp ((0 : Nat) : Int)))) := (KeepBut.refl _ _).at mem1
    show tSeq _ _ _ _ (upd H l (.ins L.CI dl (lF s.lost kp ((0 : Nat) : Int))))
    generalize upd H l (.ins L.CI dl (lF s.lost kp ((0 : Nat) : Int))) = H1 at I1 k1
    have back : ∀ x, H1 x = none → H x = none := fun x w => by
      cases hq : H x with
      | none => rfl
      | some o =>
        by_cases v : x ∈ [l]
        · rw [List.mem_singleton.mp v, I1.obj] at w
          cases w
        · rw [k1 _ _ hq v] at w
          cases w
    refine s_if (t_of (v_eq (val_var rfl) val_c)) (fun q2 => ?_) (fun q2 => ?_)
    · rw [decide_eq_true_eq] at q2
      have e : s.take 0 = (({ s with ones := 0 } : Ls).fresh, ({ s with ones := 0 } : Ls).row) := by
        unfold Ls.take
        rw [if_neg (by decide)]
        simp only
        rw [if_pos (by omega)]
      refine ⟨_, rfl, l, dl, _, rfl, I1.obj, lF_m_whole _ _ _, l, dl, kp, _, rfl, I1, by show s.kb.length ≤ 8232; omega, hb, fun H2 kp2 I2 k2 hk2 => ?_⟩
      obtain ⟨r1, r2⟩ := k H2 kp2 (by rw [e]; exact I2) (fun c o hc hn => mL k2 c o (mL k1 c o hc hn) hn) (.inr (back _ hk2))
      rw [e] at r1 r2
      exact ⟨r1, fun r p hr hp => r2 r p hr (back _ hp)⟩
    · rw [decide_eq_false_iff_not] at q2
      refine s_if (t_of (v_ne (val_var rfl) val_c)) (fun q3 => ?_) (fun q3 => ?_)
      · rw [Bool.not_eq_true', decide_eq_false_iff_not] at q3
        have e : s.take 0 = (({ s with ones := 0 } : Ls).keep 0, none) := by
          unfold Ls.take
          rw [if_neg (by decide)]
          simp only
          rw [if_neg (by omega), if_pos (by omega)]
        refine ⟨_, rfl, l, dl, _, rfl, I1.obj, lF_m_keep _ _ _, l, dl, kp, _, 0, 0, rfl, rfl, I1, by show s.kb.length ≤ 8232; omega, fun H2 kp2 I2 k2 hk2 => ?_⟩
        exact (k H2 kp2 (by rw [e]; exact I2) (fun c o hc hn => k2 c o (mL k1 c o hc hn) hn) (hk2.imp id (back _))).1 (by rw [e])
      · rw [Bool.not_eq_false', decide_eq_true_eq] at q3
        have e : s.take 0 = (({ s with ones := 0 } : Ls), none) := by
          unfold Ls.take
          rw [if_neg (by decide)]
          simp only
          rw [if_neg (by omega), if_neg (by omega)]
        exact (k H1 kp (by rw [e]; exact I1) (mL k1) (.inl rfl)).1 (by rw [e])
end LK
namespace LK
open PySem PySem.Spec PyProof.Rows L2
theorem pure_W_init {K : PySem.W.Frag} {L : LA} (T : Tx K L) {vs : List V} {H : Hp} {Q : VK} {E : XK} (h : sp_W_init K L vs H Q E) : t_W_init K L { nx := fun _ H' => Q .non H', rt := Q } (start N_W_init vs) H := by
  obtain ⟨x, dx, rfl, hx, k⟩ := h
  refine s_fldN rfl hx T.cl_W T.n_W_bits (by show 0 < 1000; decide) fun p hp => ?_
  have npx : p ≠ x := (ne_of_none hx hp).symm
  refine k _ p ⟨Eq.trans upd_same (congrArg (fun q => some (HO.ins L.CW dx q)) (by kernel_rfl)), ?_⟩ ?_ hp
  · rw [upd_ne npx, upd_same] <;> rfl
  · exact ((KeepBut.refl _ _).new hp).at mem1
theorem pure_W_put {K : PySem.W.Frag} {L : LA} (T : Tx K L) {vs : List V} {H : Hp} {Q : VK} {E : XK} (h : sp_W_put K L vs H Q E) : t_W_put K L { nx := fun _ H' => Q .non H', rt := Q } (start N_W_put vs) H := by
  obtain ⟨w, dw, bt, ra, bits, row, rfl, I, hr, hb, hl, k⟩ := h
  refine ⟨_, rfl, ra, row, rfl, hr, hb, hl, fun H1 p s1 hp h1 => ?_⟩
  have I1 : WaitAt L H1 w dw bt bits := ⟨s1 _ _ I.obj, s1 _ _ I.bits⟩
  refine s_if (t_of (v_le (v_add (v_len (wf_bits I1 T (val_var rfl)) I1.bits) (v_len (val_var rfl) h1)) val_c)) (fun q => ?_) (fun q => ?_)
  · rw [decide_eq_true_eq, nts_len, nts_len] at q
    refine s_ext (wf_bits I1 T (val_var rfl)) I1.bits (val_var rfl) h1 (by rw [nts_len, nts_len]; exact sz (by omega)) ?_
    refine k _ ⟨?_, ?_⟩ ((KeepBut.same s1).at mem1)
    · rw [upd_ne (ne_of I1.bits I1.obj (by intro z; cases z)).symm]
      exact I1.obj
    · unfold putBits
      rw [if_neg (by omega), upd_same, nts_app]
  · rw [decide_eq_false_iff_not, nts_len, nts_len] at q
    refine k _ ?_ (KeepBut.same s1)
    unfold putBits
    rw [if_pos (by omega)]
    exact I1
theorem bytes_take : ∀ (n : Nat) (l : List Nat), Sa72.bytesOf n l = Sa72.bytesOf n (l.take (8 * n))
  | 0, _ => rfl
  | n + 1, l => by
    show byteOf (l.take 8) :: Sa72.bytesOf n (l.drop 8) = byteOf ((l.take (8 * (n + 1))).take 8) :: Sa72.bytesOf n ((l.take (8 * (n + 1))).drop 8)
    rw [List.take_take, Nat.min_eq_left (by omega), List.drop_take, show 8 * (n + 1) - 8 = 8 * n from by omega, ← bytes_take n (l.drop 8)]
theorem filled_len (l : List Nat) : (Sa72.filled l).length = 8 * ((l.length + 7) / 8) := by
  unfold Sa72.filled
  rw [List.length_append, List.length_replicate]
  omega
theorem out_bits (l : List Nat) (m : Nat) : (Sa72.outgoing l m).2 = l.drop (8 * m) := by
  show l.drop (8 * min m ((l.length + 7) / 8)) = _
  rcases Nat.le_total m ((l.length + 7) / 8) with c | c
  · rw [Nat.min_eq_left c]
  · rw [Nat.min_eq_right c, List.drop_eq_nil_of_le (by omega), List.drop_eq_nil_of_le (by omega)]
theorem out_bytes (l : List Nat) (m j : Nat) (h : ((l.take (8 * m)).length + j) % 8 = 0) (hj : j ≤ 7) : Sa72.bytesOf (((l.take (8 * m) ++ List.replicate j 1).length + 7) / 8) (l.take (8 * m) ++ List.replicate j 1) = (Sa72.outgoing l m).1 := by
  show _ = Sa72.bytesOf (min m ((l.length + 7) / 8)) (Sa72.filled l)
  rw [List.length_append, List.length_replicate]
  rw [List.length_take] at h ⊢
  rcases Nat.le_total (8 * m) l.length with c | c
  · rw [Nat.min_eq_left c] at h ⊢
    have j0 : j = 0 := by omega
    subst j0
    rw [show (8 * m + 0 + 7) / 8 = m from by omega, Nat.min_eq_left (by omega), bytes_take m (Sa72.filled l)]
    unfold Sa72.filled
    rw [List.take_append_of_le_length c, List.replicate_zero, List.append_nil]
  · rw [Nat.min_eq_right c] at h ⊢
    rw [List.take_of_length_le c, Nat.min_eq_right (by omega)]
    unfold Sa72.filled
    rw [show (8 - l.length % 8) % 8 = j from by omega, show (l.length + j + 7) / 8 = (l.length + 7) / 8 from by omega]
theorem v_mul8 {σ : L2.St} {H : Hp} {tb : TE} {m : Nat} (b : Val tb σ H (.int (m : Nat))) : Val (tOp kMul (tC (.int 8)) tb) σ H (.int ((8 * m : Nat) : Int)) :=
  v_is (v_mul val_c b (by decide)) (congrArg V.int (by omega))
theorem pure_W_take {K : PySem.W.Frag} {L : LA} (T : Tx K L) {vs : List V} {H : Hp} {Q : VK} {E : XK} (h : sp_W_take K L vs H Q E) : t_W_take K L { nx := fun _ H' => Q .non H', rt := Q } (start N_W_take vs) H := by
  obtain ⟨w, dw, bt, bits, z, m, rfl, rfl, hm, I, hl, k⟩ := h
  show (tSl (rSlL K) (tFld K (tVar 0) "bits") tNoPart (tPart (tOp kMul (tC (.int 8)) (tVar 1)))) _ _ _
  refine (wf_bits I T (val_var rfl)) _ ?_
  refine (v_mul8 (val_var rfl)) _ ?_
  refine ⟨_, rfl, bt, _, rfl, SqL.of I.bits, fun q hq => ?_⟩
  rw [cut_to]
  have s1 : Same H (upd H q (.lst (nts (bits.take (8 * m))))) := same_upd hq
  have h1 : upd H q (.lst (nts (bits.take (8 * m)))) q = some (.lst (nts (bits.take (8 * m)))) := upd_same
  generalize upd H q (.lst (nts (bits.take (8 * m)))) = H1 at s1 h1
  have I1 : WaitAt L H1 w dw bt bits := ⟨s1 _ _ I.obj, s1 _ _ I.bits⟩
  show (tSl (rSlL K) (tFld K (tVar 0) "bits") (tPart (tOp kMul (tC (.int 8)) (tVar 1))) tNoPart) _ _ _
  refine (wf_bits I1 T (val_var rfl)) _ ?_
  refine (v_mul8 (val_var rfl)) _ ?_
  refine ⟨_, rfl, bt, _, rfl, SqL.of I1.bits, fun p hp => ?_⟩
  rw [cut_from]
  refine ⟨_, rfl, w, L.CW, dw, _, rfl, by rw [upd_ne (ne_of_none I1.obj hp)]; exact I1.obj, T.cl_W, T.n_W_bits, wF_len _, ?_⟩
  rw [wP_bits]
  have npw : p ≠ w := (ne_of_none I1.obj hp).symm
  have npq : q ≠ p := ne_of_none h1 hp
  have nqw : q ≠ w := ne_of h1 I1.obj (by intro z; cases z)
  have I2 : WaitAt L (upd (upd H1 p (.lst (nts (bits.drop (8 * m))))) w (.ins L.CW dw (wF p))) w dw p (bits.drop (8 * m)) := ⟨upd_same, by rw [upd_ne npw, upd_same]⟩
  have k2 : KeepBut [w] H (upd (upd H1 p (.lst (nts (bits.drop (8 * m))))) w (.ins L.CW dw (wF p))) := ((KeepBut.same s1).new (s1.free hp)).at mem1
  have h2 : upd (upd H1 p (.lst (nts (bits.drop (8 * m))))) w (.ins L.CW dw (wF p)) q = some (.lst (nts (bits.take (8 * m)))) := by
    rw [upd_ne nqw, upd_ne npq]
    exact h1
  have hpH := s1.free hp
  show tSeq _ _ _ _ (upd (upd H1 p (.lst (nts (bits.drop (8 * m))))) w (.ins L.CW dw (wF p)))
  generalize upd (upd H1 p (.lst (nts (bits.drop (8 * m))))) w (.ins L.CW dw (wF p)) = H2 at I2 k2 h2
  have lt : (bits.take (8 * m)).length ≤ 1048576 := by
    rw [List.length_take]
    omega
  refine ⟨fun d σ H' => σ = [some (.ref w), some (.int (m : Nat)), some (.ref q)] ∧ ∃ j, j ≤ 7 ∧ (((bits.take (8 * m)).length + j) % 8 = 0 → d = 0) ∧ d ≤ 7 ∧ ((bits.take (8 * m)).length + j + d) % 8 = 0 ∧ j + d ≤ 7 ∧ H' q = some (.lst (nts (bits.take (8 * m) ++ List.replicate j 1))) ∧ WaitAt L H' w dw p (bits.drop (8 * m)) ∧ KeepBut [w] H H',
    ⟨(8 - (bits.take (8 * m)).length % 8) % 8, rfl, 0, by omega, by omega, by omega, by omega, by omega, by rw [List.replicate_zero, List.append_nil]; exact h2, I2, k2⟩, ?_⟩
  rintro d σ H' ⟨rfl, j, hj, hd0, hd, hs, hjd, hq', I', k'⟩
  refine (t_of (v_gt (v_mod (v_len (val_var rfl) hq') val_c (by decide)) val_c)) _ ?_
  by_cases c : ((bits.take (8 * m)).length + j) % 8 = 0
  · rw [decide_eq_false (by rw [nts_len, List.length_append, List.length_replicate]; omega)]
    refine iteF ?_
    refine ⟨_, rfl, q, _, rfl, hq', by rw [List.length_append, List.length_replicate]; omega, fun H3 r s3 hr h3 => ?_⟩
    rw [out_bytes bits m j c hj] at h3
    have kf : KeepBut [w] H H3 := fun b o hb hn => s3 b o (k' b o hb hn)
    refine k H3 p r ?_ kf hpH ?_ h3 ?_
    · rw [out_bits]
      exact ⟨s3 _ _ I'.obj, s3 _ _ I'.bits⟩
    · cases hq2 : H r with
      | none => rfl
      | some o =>
        by_cases v : r ∈ [w]
        · rw [List.mem_singleton.mp v, I'.obj] at hr
          cases hr
        · rw [k' _ _ hq2 v] at hr
          cases hr
    · exact (ne_of_none I'.bits hr).symm
  · rw [decide_eq_true (by rw [nts_len, List.length_append, List.length_replicate]; omega)]
    refine iteT ?_
    refine ⟨fun σ' H'' => σ' = [some (.ref w), some (.int (m : Nat)), some (.ref q)] ∧ H'' = upd H' q (.lst (nts (bits.take (8 * m) ++ List.replicate j 1) ++ [.int 1])), ?_, s_app (val_var rfl) hq' val_c (by rw [nts_len, List.length_append, List.length_replicate]; exact szl (by omega)) ⟨rfl, rfl⟩⟩
    rintro σ' H'' ⟨rfl, rfl⟩
    have npq' : p ≠ q := npq.symm
    refine ⟨d - 1, by omega, rfl, j + 1, by omega, by omega, by omega, by omega, by omega, ?_, ⟨?_, ?_⟩, ?_⟩
    · rw [upd_same, List.replicate_succ', ← List.append_assoc, nts_app (bits.take (8 * m) ++ List.replicate j 1)] <;> rfl
    · rw [upd_ne nqw.symm]
      exact I'.obj
    · rw [upd_ne npq']
      exact I'.bits
    · exact k'.new hq
end LK
namespace LK
open PySem PySem.Spec PyProof.Rows L2
/-! # End: the small ones -/
theorem pure_E_afresh {K : PySem.W.Frag} {L : LA} (T : Tx K L) {vs : List V} {H : Hp} {Q : VK} {E : XK} (h : sp_E_afresh K L vs H Q E) : t_E_afresh K L { nx := fun _ H' => Q .non H', rt := Q } (start N_E_afresh vs) H := by
  obtain ⟨e, dx, fs, rfl, ho, hl, k⟩ := h
  have l1 := length_putF "s" (.int 0) fs
  have l2 := length_putF "a" (.int 0) (putF "s" (.int 0) fs)
  have l3 := length_putF "r" (.int 0) (putF "a" (.int 0) (putF "s" (.int 0) fs))
  have l4 := length_putF "other_busy" (.bl false) (putF "r" (.int 0) (putF "a" (.int 0) (putF "s" (.int 0) fs)))
  have l5 := length_putF "asked_again" (.bl false) (putF "other_busy" (.bl false) (putF "r" (.int 0) (putF "a" (.int 0) (putF "s" (.int 0) fs))))
  have l6 := length_putF "polls" (.bl false) (putF "asked_again" (.bl false) (putF "other_busy" (.bl false) (putF "r" (.int 0) (putF "a" (.int 0) (putF "s" (.int 0) fs)))))
  have l7 := length_putF "since" .non (putF "polls" (.bl false) (putF "asked_again" (.bl false) (putF "other_busy" (.bl false) (putF "r" (.int 0) (putF "a" (.int 0) (putF "s" (.int 0) fs))))))
  have l8 := length_putF "out" (.int 0) (putF "since" .non (putF "polls" (.bl false) (putF "asked_again" (.bl false) (putF "other_busy" (.bl false) (putF "r" (.int 0) (putF "a" (.int 0) (putF "s" (.int 0) fs)))))))
  refine s_fld val_c (val_var rfl) ho T.cl_E T.n_E_s (by omega) ?_
  refine s_fld val_c (val_var rfl) upd_same T.cl_E T.n_E_a (by omega) ?_
  refine s_fld val_c (val_var rfl) upd_same T.cl_E T.n_E_r (by omega) ?_
  refine s_fld val_c (val_var rfl) upd_same T.cl_E T.n_E_other_busy (by omega) ?_
  refine s_fld val_c (val_var rfl) upd_same T.cl_E T.n_E_asked_again (by omega) ?_
  refine s_fld val_c (val_var rfl) upd_same T.cl_E T.n_E_polls (by omega) ?_
  refine s_fld val_c (val_var rfl) upd_same T.cl_E T.n_E_since (by omega) ?_
  refine s_fld val_c (val_var rfl) upd_same T.cl_E T.n_E_out (by omega) ?_
  refine s_fldN rfl upd_same T.cl_E T.n_E_sent (by omega) fun p hp => ?_
  have npe : p ≠ e := (ne_of_none upd_same hp).symm
  simp only [upd_upd] at hp ⊢
  rw [upd_ne npe] at hp
  refine k _ p hp upd_same ?_ ?_
  · rw [upd_ne npe, upd_same]
  · exact ((((KeepBut.refl _ _).at mem1).new hp).at mem1)
section
variable {K : PySem.W.Frag} {L : LA} {H H0 : Hp} {e : Addr} {A A0 : EA} {t : S} {n : Nat} {X : List Addr} {σ : L2.St} {ta tv tw : TE} {D : Ends}
/-- self.afresh() -/
theorem c_afresh (J : Run L e A0 X H0 A t n H) (h0 : σ[0]? = some (some (.ref e))) (k : ∀ H1 A1, Run L e A0 X H0 A1 (Sa72.afresh t) n H1 → D.nx σ H1) (hd : t.stage = .up → False ∨ True := fun _ => .inr trivial) : tDrop (tMeth L.CE "afresh" (sp_E_afresh K L) [] E0 (tVar 0) tNil) D σ H :=
  ⟨_, h0, e, A.dx, _, rfl, J.I.obj, eF_afresh _, e, A.dx, _, rfl, J.I.obj, by show 21 ≤ 100; decide, fun H' p hp he hq kb =>
    k H' { A with sent := p, sm := [], bz := false } (J.newSent (t' := Sa72.afresh t) hp (he.trans (congrArg (fun q => some (HO.ins L.CE A.dx q)) (by kernel_rfl))) hq kb .nil (fun _ h => by cases h) rfl rfl rfl rfl rfl (fun _ => rfl))⟩
theorem c_run (J : Run L e A0 X H0 A t n H) (h0 : σ[0]? = some (some (.ref e))) (k : ∀ H1 A1, Run L e A0 X H0 A1 (sClk t (some (n % 2 ^ 32))) n H1 → D.nx σ H1) : tDrop (tMeth L.CE "run_clock" (sp_E_run_clock K L) [] E0 (tVar 0) tNil) D σ H :=
  ⟨_, h0, e, A.dx, _, rfl, J.I.obj, eF_run_clock _, e, A, t, n, rfl, J.I, J.post k⟩
theorem c_greet (J : Run L e A0 X H0 A t n H) (h0 : σ[0]? = some (some (.ref e))) (k : ∀ H1 A1, Run L e A0 X H0 A1 (Sa72.greet t n) n H1 → D.nx σ H1) : tDrop (tMeth L.CE "greet" (sp_E_greet K L) [] E0 (tVar 0) tNil) D σ H :=
  ⟨_, h0, e, A.dx, _, rfl, J.I.obj, eF_greet _, e, A, t, n, rfl, J.I, J.post k⟩
theorem c_up (J : Run L e A0 X H0 A t n H) (h0 : σ[0]? = some (some (.ref e))) (k : ∀ H1 A1, Run L e A0 X H0 A1 (sStage (Sa72.afresh t) .up) n H1 → D.nx σ H1) : tDrop (tMeth L.CE "go_up" (sp_E_go_up K L) [] E0 (tVar 0) tNil) D σ H :=
  ⟨_, h0, e, A.dx, _, rfl, J.I.obj, eF_go_up _, e, A, t, n, rfl, J.I, J.post k⟩
theorem c_down (J : Run L e A0 X H0 A t n H) (h0 : σ[0]? = some (some (.ref e))) (k : ∀ H1 A1, Run L e A0 X H0 A1 (Sa72.downNow t) n H1 → D.nx σ H1) : tDrop (tMeth L.CE "go_down" (sp_E_go_down K L) [] E0 (tVar 0) tNil) D σ H :=
  ⟨_, h0, e, A.dx, _, rfl, J.I.obj, eF_go_down _, e, A, t, n, rfl, J.I, J.post k⟩
/-- self.command(c, []), self.answer(c, []) -/
theorem c_cmd {z : Int} {c : Nat} (J : Run L e A0 X H0 A t n H) (h0 : σ[0]? = some (some (.ref e))) (hv : Val tv σ H (.int z)) (hz : z = (c : Int)) (hc : c < 256) (k : ∀ H1 A1, Run L e A0 X H0 A1 (t.command c []) n H1 → D.nx σ H1) : tDrop (tMeth L.CE "command" (sp_E_command K L) [] E0 (tVar 0) (tCons tv (tCons (tLst tNil) tNil))) D σ H :=
  ⟨_, h0, e, A.dx, _, rfl, J.I.obj, eF_command _, hv _ ⟨Nat.zero_le _, fun p hp => ⟨e, p, A, t, n, c, z, [], rfl, hz, hc, upd_same, B8.nil, Nat.zero_le _, J.I.new hp, (J.new hp).post k⟩⟩⟩
theorem c_ans {z : Int} {c : Nat} (J : Run L e A0 X H0 A t n H) (h0 : σ[0]? = some (some (.ref e))) (hv : Val tv σ H (.int z)) (hz : z = (c : Int)) (hc : c < 256) (k : ∀ H1 A1, Run L e A0 X H0 A1 (t.answer c []) n H1 → D.nx σ H1) : tDrop (tMeth L.CE "answer" (sp_E_answer K L) [] E0 (tVar 0) (tCons tv (tCons (tLst tNil) tNil))) D σ H :=
  ⟨_, h0, e, A.dx, _, rfl, J.I.obj, eF_answer _, hv _ ⟨Nat.zero_le _, fun p hp => ⟨e, p, A, t, n, c, z, [], rfl, hz, hc, upd_same, B8.nil, Nat.zero_le _, J.I.new hp, (J.new hp).post k⟩⟩⟩
/-- self.answer(c, load), load a list that stands -/
theorem c_ansL {z : Int} {c : Nat} {la : Addr} {load : List Nat} (J : Run L e A0 X H0 A t n H) (h0 : σ[0]? = some (some (.ref e))) (hv : Val tv σ H (.int z)) (hz : z = (c : Int)) (hc : c < 256) (hw : Val tw σ H (.ref la)) (hl : H la = some (.lst (nts load))) (hb : B8 load) (hn : load.length ≤ 1024) (k : ∀ H1 A1, Run L e A0 X H0 A1 (t.answer c load) n H1 → D.nx σ H1) : tDrop (tMeth L.CE "answer" (sp_E_answer K L) [] E0 (tVar 0) (tCons tv (tCons tw tNil))) D σ H :=
  ⟨_, h0, e, A.dx, _, rfl, J.I.obj, eF_answer _, hv _ (hw _ ⟨e, la, A, t, n, c, z, load, rfl, hz, hc, hl, hb, hn, J.I, J.post k⟩)⟩
theorem c_cmdL {z : Int} {c : Nat} {la : Addr} {load : List Nat} (J : Run L e A0 X H0 A t n H) (h0 : σ[0]? = some (some (.ref e))) (hv : Val tv σ H (.int z)) (hz : z = (c : Int)) (hc : c < 256) (hw : Val tw σ H (.ref la)) (hl : H la = some (.lst (nts load))) (hb : B8 load) (hn : load.length ≤ 1024) (k : ∀ H1 A1, Run L e A0 X H0 A1 (t.command c load) n H1 → D.nx σ H1) : tDrop (tMeth L.CE "command" (sp_E_command K L) [] E0 (tVar 0) (tCons tv (tCons tw tNil))) D σ H :=
  ⟨_, h0, e, A.dx, _, rfl, J.I.obj, eF_command _, hv _ (hw _ ⟨e, la, A, t, n, c, z, load, rfl, hz, hc, hl, hb, hn, J.I, J.post k⟩)⟩
theorem v_own {z : Int} (I : EndAt L H e A t n) (h0 : σ[0]? = some (some (.ref e))) (hv : Val tv σ H (.int z)) : Val (tMeth L.CE "own_state" (sp_E_own_state K L) [] E0 (tVar 0) (tCons tv tNil)) σ H (.int ((Sa72.own t : Nat) + 16 * z)) := fun Q q =>
  ⟨_, h0, e, A.dx, _, rfl, I.obj, eF_own_state _, hv _ ⟨e, A, t, n, z, rfl, I, q⟩⟩
theorem v_many (I : EndAt L H e A t n) (h0 : σ[0]? = some (some (.ref e))) : Val (tMeth L.CE "many_out" (sp_E_many_out K L) [] E0 (tVar 0) tNil) σ H (.int ((t.sent.length + t.waits.length : Nat) : Int)) := fun Q q =>
  ⟨_, h0, e, A.dx, _, rfl, I.obj, eF_many_out _, e, A, t, n, rfl, I, q⟩
theorem v_may (I : EndAt L H e A t n) (ha : t.a < 8) (h0 : σ[0]? = some (some (.ref e))) : Val (tMeth L.CE "may_go_out" (sp_E_may_go_out K L) [] E0 (tVar 0) tNil) σ H (.bl (mayGo t)) := fun Q q =>
  ⟨_, h0, e, A.dx, _, rfl, I.obj, eF_may_go_out _, e, A, t, n, rfl, I, ha, q⟩
theorem v_isout (I : EndAt L H e A t n) (hc : ∀ c, t.clock = some c → c < 2 ^ 32) (h0 : σ[0]? = some (some (.ref e))) : Val (tMeth L.CE "is_out" (sp_E_is_out K L) [] E0 (tVar 0) tNil) σ H (.bl (Sa72.late t n)) := fun Q q =>
  ⟨_, h0, e, A.dx, _, rfl, I.obj, eF_is_out _, e, A, t, n, rfl, I, hc, q⟩
theorem v_nctl {i j : Int} {tu tw : TE} (a : Val tu σ H (.int i)) (b : Val tw σ H (.int j)) : Val (tCall (sp_d_numbered_control K L) [] E0 (tCons tu (tCons tw tNil))) σ H (.int (2 * i + 32 * j)) := fun Q q => a _ (b _ ⟨i, j, rfl, q⟩)
theorem v_sctl {i j l : Int} {tu tw tx : TE} (a : Val tu σ H (.int i)) (b : Val tw σ H (.int j)) (c : Val tx σ H (.int l)) : Val (tCall (sp_d_state_control K L) [] E0 (tCons tu (tCons tw (tCons tx tNil)))) σ H (.int (i + 16 * j + 32 * l)) := fun Q q => a _ (b _ (c _ ⟨i, j, l, rfl, q⟩))
theorem lenS (I : EndAt L H e A t n) : A.sm.length = t.sent.length := I.rs.len
theorem lenU (I : EndAt L H e A t n) : A.um.length = t.waits.length := I.ru.len
theorem lenC (I : EndAt L H e A t n) : A.cm.length = t.inbox.length := I.rc.len
theorem lenR (l : List Addr) : (l.map V.ref).length = l.length := List.length_map ..
/-- (s - a) % 8 -/
theorem v_far (I : EndAt L H e A t n) (T : Tx K L) (ha : t.a < 8) (h0 : Val (tVar 0) σ H (.ref e)) : Val (tOp kMod (tOp kSub (tFld K (tVar 0) "s") (tFld K (tVar 0) "a")) (tC (.int 8))) σ H (.int (((t.s + 8 - t.a) % 8 : Nat) : Int)) :=
  v_is (v_mod (v_sub (ef_s I T h0) (ef_a I T h0)) val_c (by decide)) (congrArg V.int (by omega))
end
theorem line_bits (t : S) (b : List Nat) : t.line b = sBits t (putBits t.out b) := by
  unfold sBits Sa72.St.line putBits
  simp only
  split <;> rfl
theorem command_bits (t : S) (c : Nat) (b : List Nat) : t.command c b = sBits t (putBits t.out ((if t.side = 0 then 1 else 3) :: c :: b)) := line_bits t _
theorem answer_bits (t : S) (c : Nat) (b : List Nat) : t.answer c b = sBits t (putBits t.out ((if t.side = 0 then 3 else 1) :: c :: b)) := line_bits t _
/-- a row is put to what waits to be sent -/
theorem put_row {K : PySem.W.Frag} {L : LA} {H : Hp} {e la : Addr} {A : EA} {t t' : S} {n a c : Nat} {z y : Int} {load : List Nat} {σ : L2.St} {D : Ends} {tu : TE} (T : Tx K L) (I : EndAt L H e A t n) (h0 : σ = [some (.ref e), some (.int z), some (.ref la)]) (hu : Val tu σ H (.int y)) (hy : y = (a : Int)) (ha : a < 256) (hz : z = (c : Int)) (hc : c < 256)
    (hl : H la = some (.lst (nts load))) (hb : B8 load) (hn : load.length ≤ 1024) (ht : t' = sBits t (putBits t.out (a :: c :: load))) (k : Post L H e A [] t' n (D.nx σ)) :
    tDrop (tMeth L.CW "put" (sp_W_put K L) [] E0 (tFld K (tVar 0) "waiting") (tCons (tOp rCat (tLst (tCons tu (tCons (tVar 1) tNil))) (tVar 2)) tNil)) D σ H := by
  subst h0 hy hz ht
  refine ⟨_, rfl, e, L.CE, A.dx, _, _, rfl, I.obj, T.cl_E, T.n_E_waiting, eF_waiting _, A.wa, A.dw, _, rfl, I.wai.obj, wF_m_put _, ?_⟩
  refine hu _ ⟨_, rfl, by show 2 ≤ sizeLine; decide, fun p hp => ?_⟩
  have nlp : la ≠ p := ne_of_none hl hp
  have s1 : Same H (upd H p (.lst (nts [a, c]))) := same_upd hp
  refine ⟨_, rfl, p, la, nts [a, c], _, rfl, rfl, upd_same, s1 _ _ hl, by rw [nts_len, nts_len]; exact sz (by show 2 + _ ≤ _; omega), fun q hq => ?_⟩
  have s2 : Same H (upd (upd H p (.lst (nts [a, c]))) q (.lst (nts [a, c] ++ nts load))) := same_new s1 (s1.free hq)
  rw [← nts_app] at s2 ⊢
  have J := I.run.same s2
  refine ⟨A.wa, A.dw, A.bits, q, t.out, a :: c :: load, rfl, J.I.wai, upd_same, B8.cons ha (B8.cons hc hb), by show load.length + 2 ≤ 1026; omega, fun H1 W1 k1 => ?_⟩
  have J1 := J.newBits W1 k1
  exact k _ _ J1.I J1.F
theorem pure_E_command {K : PySem.W.Frag} {L : LA} (T : Tx K L) {vs : List V} {H : Hp} {Q : VK} {E : XK} (h : sp_E_command K L vs H Q E) : t_E_command K L { nx := fun _ H' => Q .non H', rt := Q } (start N_E_command vs) H := by
  obtain ⟨e, la, A, t, n, c, z, load, rfl, hz, hc, hl, hb, hn, I, k⟩ := h
  refine put_row (a := if t.side = 0 then 1 else 3) T I rfl (ef_commands_out I T (val_var rfl)) (by split <;> rfl) (by split <;> decide) hz hc hl hb hn (command_bits t c load) k
theorem pure_E_answer {K : PySem.W.Frag} {L : LA} (T : Tx K L) {vs : List V} {H : Hp} {Q : VK} {E : XK} (h : sp_E_answer K L vs H Q E) : t_E_answer K L { nx := fun _ H' => Q .non H', rt := Q } (start N_E_answer vs) H := by
  obtain ⟨e, la, A, t, n, c, z, load, rfl, hz, hc, hl, hb, hn, I, k⟩ := h
  refine put_row (a := if t.side = 0 then 3 else 1) T I rfl (ef_answers_out I T (val_var rfl)) (by split <;> rfl) (by split <;> decide) hz hc hl hb hn (answer_bits t c load) k
theorem pure_E_run_clock {K : PySem.W.Frag} {L : LA} (T : Tx K L) {vs : List V} {H : Hp} {Q : VK} {E : XK} (h : sp_E_run_clock K L vs H Q E) : t_E_run_clock K L { nx := fun _ H' => Q .non H', rt := Q } (start N_E_run_clock vs) H := by
  obtain ⟨e, A, t, n, rfl, I, k⟩ := h
  refine w_since (c := some (n % 2 ^ 32)) I.run T (ef_now I T (val_var rfl)) (by rw [Nat.mod_eq_of_lt I.nn] <;> rfl) (val_var rfl) fun H1 J => k _ _ J.I J.F
theorem pure_E_greet {K : PySem.W.Frag} {L : LA} (T : Tx K L) {vs : List V} {H : Hp} {Q : VK} {E : XK} (h : sp_E_greet K L vs H Q E) : t_E_greet K L { nx := fun _ H' => Q .non H', rt := Q } (start N_E_greet vs) H := by
  obtain ⟨e, A, t, n, rfl, I, k⟩ := h
  refine c_afresh I.run rfl fun H1 A1 J1 => ?_
  refine w_stage (g := .greeting) J1 T val_c (val_var rfl) (fun q => by cases q) fun H2 J2 => ?_
  refine c_cmd (c := 63) J2 rfl (v_add val_c val_c) rfl (by decide) fun H3 A3 J3 => ?_
  refine c_run J3 rfl fun H4 A4 J4 => k _ _ (J4.eq ?_).I J4.F
  unfold Sa72.greet
  rw [command_bits, command_bits] <;> rfl
theorem pure_E_finish {K : PySem.W.Frag} {L : LA} (T : Tx K L) {vs : List V} {H : Hp} {Q : VK} {E : XK} (h : sp_E_finish K L vs H Q E) : t_E_finish K L { nx := fun _ H' => Q .non H', rt := Q } (start N_E_finish vs) H := by
  obtain ⟨e, A, t, n, rfl, I, k⟩ := h
  refine w_stage (g := .ending) I.run T val_c (val_var rfl) (fun q => by cases q) fun H1 J1 => ?_
  refine c_cmd (c := 83) J1 rfl (v_add val_c val_c) rfl (by decide) fun H2 A2 J2 => ?_
  refine c_afresh J2 rfl fun H3 A3 J3 => ?_
  refine c_run J3 rfl fun H4 A4 J4 => k _ _ (J4.eq ?_).I J4.F
  rw [command_bits, command_bits] <;> rfl
theorem pure_E_go_up {K : PySem.W.Frag} {L : LA} (T : Tx K L) {vs : List V} {H : Hp} {Q : VK} {E : XK} (h : sp_E_go_up K L vs H Q E) : t_E_go_up K L { nx := fun _ H' => Q .non H', rt := Q } (start N_E_go_up vs) H := by
  obtain ⟨e, A, t, n, rfl, I, k⟩ := h
  refine ⟨_, rfl, e, A.dx, _, rfl, I.obj, eF_afresh _, e, A.dx, _, rfl, I.obj, by show 21 ≤ 100; decide, fun H' p hp he hq kb => ?_⟩
  have J1 := I.run.newSent (X := []) (t' := Sa72.afresh t) (b := false) (ps := []) hp (he.trans (congrArg (fun q => some (HO.ins L.CE A.dx q)) (by kernel_rfl))) hq kb .nil (fun _ h => by cases h) rfl rfl rfl rfl rfl (fun _ => rfl)
  exact w_stage (g := .up) J1 T val_c (val_var rfl) (fun _ => rfl) fun H2 J2 => k _ _ J2.I J2.F
theorem pure_E_go_down {K : PySem.W.Frag} {L : LA} (T : Tx K L) {vs : List V} {H : Hp} {Q : VK} {E : XK} (h : sp_E_go_down K L vs H Q E) : t_E_go_down K L { nx := fun _ H' => Q .non H', rt := Q } (start N_E_go_down vs) H := by
  obtain ⟨e, A, t, n, rfl, I, k⟩ := h
  refine w_stage (g := .down) I.run T val_c (val_var rfl) (fun q => by cases q) fun H1 J1 => ?_
  exact w_since (c := none) J1 T val_c rfl (val_var rfl) fun H2 J2 => k _ _ J2.I J2.F
theorem pure_E_own_state {K : PySem.W.Frag} {L : LA} (T : Tx K L) {vs : List V} {H : Hp} {Q : VK} {E : XK} (h : sp_E_own_state K L vs H Q E) : t_E_own_state K L { nx := fun _ H' => Q .non H', rt := Q } (start N_E_own_state vs) H := by
  obtain ⟨e, A, t, n, z, rfl, I, k⟩ := h
  refine s_asg val_c ?_
  refine s_if (t_of (v_ge (v_len (ef_come I T (val_var rfl)) I.come) val_c)) (fun q => ?_) (fun q => ?_)
  · rw [decide_eq_true_eq, lenR, lenC I] at q
    refine s_asg val_c ?_
    refine s_ret (v_is (v_sctl (val_var rfl) (val_var rfl) (ef_r I T (val_var rfl))) (congrArg V.int ?_)) k
    unfold Sa72.own
    rw [if_pos (by omega)]
    omega
  · rw [decide_eq_false_iff_not, lenR, lenC I] at q
    refine s_ret (te := tCall _ _ _ _) (v_is (v_sctl (val_var rfl) (val_var rfl) (ef_r I T (val_var rfl))) (congrArg V.int ?_)) k
    unfold Sa72.own
    rw [if_neg (by omega)]
    omega
theorem own_lt {t : S} (h : t.r < 8) {b : Nat} (hb : b ≤ 1) : Sa72.own t + b * Sa72.PF < 256 := by
  unfold Sa72.own Sa72.PF
  split <;> omega
theorem pure_E_tell_state {K : PySem.W.Frag} {L : LA} (T : Tx K L) {vs : List V} {H : Hp} {Q : VK} {E : XK} (h : sp_E_tell_state K L vs H Q E) : t_E_tell_state K L { nx := fun _ H' => Q .non H', rt := Q } (start N_E_tell_state vs) H := by
  obtain ⟨e, A, t, n, b, z, rfl, hz, hb, hr, I, k⟩ := h
  refine c_ans (c := Sa72.own t + b * Sa72.PF) I.run rfl (v_own I rfl (val_var rfl)) ?_ (own_lt hr hb) fun H1 A1 J => k _ _ J.I J.F
  rw [hz]
  unfold Sa72.PF
  omega
theorem pure_E_ask_again {K : PySem.W.Frag} {L : LA} (T : Tx K L) {vs : List V} {H : Hp} {Q : VK} {E : XK} (h : sp_E_ask_again K L vs H Q E) : t_E_ask_again K L { nx := fun _ H' => Q .non H', rt := Q } (start N_E_ask_again vs) H := by
  obtain ⟨e, A, t, n, b, z, rfl, hz, hb, hr, I, k⟩ := h
  refine c_ans (c := 9 + 32 * t.r + b * Sa72.PF) I.run rfl (v_sctl val_c (val_var rfl) (ef_r I T (val_var rfl))) ?_ ?_ fun H1 A1 J1 => ?_
  · rw [hz]
    unfold Sa72.PF
    omega
  · unfold Sa72.PF
    omega
  · refine w_asked J1 T val_c (val_var rfl) fun H2 J2 => k _ _ (J2.eq ?_).I J2.F
    rw [answer_bits, answer_bits] <;> rfl
theorem pure_E_many_out {K : PySem.W.Frag} {L : LA} (T : Tx K L) {vs : List V} {H : Hp} {Q : VK} {E : XK} (h : sp_E_many_out K L vs H Q E) : t_E_many_out K L { nx := fun _ H' => Q .non H', rt := Q } (start N_E_many_out vs) H := by
  obtain ⟨e, A, t, n, rfl, I, k⟩ := h
  refine s_ret (v_is (v_add (v_len (ef_sent I T (val_var rfl)) I.sent) (v_len (ef_unsent I T (val_var rfl)) I.unsent)) (congrArg V.int ?_)) k
  rw [lenR, lenR, lenS I, lenU I]
  omega
theorem stage_int (g g' : Sa72.Stage) : decide (((Sa72.stageNumber g : Nat) : Int) = ((Sa72.stageNumber g' : Nat) : Int)) = decide (g = g') := by
  cases g <;> cases g' <;> decide
theorem pure_E_may_go_out {K : PySem.W.Frag} {L : LA} (T : Tx K L) {vs : List V} {H : Hp} {Q : VK} {E : XK} (h : sp_E_may_go_out K L vs H Q E) : t_E_may_go_out K L { nx := fun _ H' => Q .non H', rt := Q } (start N_E_may_go_out vs) H := by
  obtain ⟨e, A, t, n, rfl, I, ha, k⟩ := h
  refine s_asg (v_far I T ha (val_var rfl)) ?_
  refine s_if (t_or (t_of (v_ne (ef_stage I T (val_var rfl)) val_c)) fun _ => t_or (t_val (ef_other_busy I T (val_var rfl))) fun _ => t_or (t_val (ef_polls I T (val_var rfl))) fun _ => t_of (v_ge (val_var rfl) (ef_window I T (val_var rfl)))) (fun q => ?_) (fun q => ?_)
  · have e1 : mayGo t = false := by
      unfold mayGo
      refine decide_eq_false fun ⟨z1, z2, z3, z4, z5⟩ => ?_
      rw [I.bz z1, z1, z2, z3] at q
      simp [Sa72.stageNumber] at q
      omega
    rw [e1] at k
    exact s_ret val_c k
  · simp only [Bool.or_eq_false_iff, Bool.not_eq_false', decide_eq_false_iff_not] at q
    obtain ⟨q1, q2, q3, q4⟩ := q
    have hu : t.stage = .up := by
      have := (stage_int t.stage .up).symm.trans q1
      exact of_decide_eq_true this
    refine s_ret (te := tOp kLt _ _) (v_is (v_lt (val_var rfl) (v_many I rfl)) (congrArg V.bl ?_)) k
    unfold mayGo
    refine decide_eq_decide.mpr ⟨fun c => ⟨hu, (I.bz hu).symm.trans q2, q3, by omega, by omega⟩, fun c => by omega⟩
theorem pure_E_can_be_answered {K : PySem.W.Frag} {L : LA} (T : Tx K L) {vs : List V} {H : Hp} {Q : VK} {E : XK} (h : sp_E_can_be_answered K L vs H Q E) : t_E_can_be_answered K L { nx := fun _ H' => Q .non H', rt := Q } (start N_E_can_be_answered vs) H := by
  obtain ⟨e, A, t, n, k', z, rfl, hz, ha, I, k⟩ := h
  subst hz
  refine s_ret (v_is (v_le (v_mod (v_sub (val_var rfl) (ef_a I T (val_var rfl))) val_c (by decide)) (v_len (ef_sent I T (val_var rfl)) I.sent)) (congrArg V.bl ?_)) k
  rw [lenR, lenS I]
  exact decide_eq_decide.mpr (by omega)
theorem pure_E_say_wrong {K : PySem.W.Frag} {L : LA} (T : Tx K L) {vs : List V} {H : Hp} {Q : VK} {E : XK} (h : sp_E_say_wrong K L vs H Q E) : t_E_say_wrong K L { nx := fun _ H' => Q .non H', rt := Q } (start N_E_say_wrong vs) H := by
  obtain ⟨e, A, t, n, b, z, rfl, hz, hb, hw, I, k⟩ := h
  refine c_ansL (c := 0x87 + b * Sa72.PF) I.run rfl (v_add val_c (v_mul val_c (val_var rfl) (by decide))) ?_ ?_ (ef_wrong I T (val_var rfl)) I.wrong hw.2 (by omega) fun H1 A1 J => k _ _ J.I J.F
  · rw [hz]
    unfold Sa72.PF
    omega
  · unfold Sa72.PF
    omega
theorem pure_E_is_out {K : PySem.W.Frag} {L : LA} (T : Tx K L) {vs : List V} {H : Hp} {Q : VK} {E : XK} (h : sp_E_is_out K L vs H Q E) : t_E_is_out K L { nx := fun _ H' => Q .non H', rt := Q } (start N_E_is_out vs) H := by
  obtain ⟨e, A, t, n, rfl, I, hc, k⟩ := h
  unfold Sa72.late at k
  cases hk : t.clock with
  | none =>
    rw [hk] at k
    have v1 := ef_since I T (σ := start N_E_is_out [.ref e]) (val_var (i := 0) rfl)
    rw [hk] at v1
    exact s_ret (v_andV (y := false) (v_notN v1) fun z => by cases z) k
  | some c =>
    rw [hk] at k
    have v1 := ef_since I T (σ := start N_E_is_out [.ref e]) (val_var (i := 0) rfl)
    rw [hk] at v1
    have hc' := hc c hk
    have hn := I.nn
    refine s_ret (v_is (v_andV (v_notN v1) fun _ => v_ge (v_mod (v_sub (ef_now I T (val_var rfl)) v1) val_c (by decide)) (ef_patience I T (val_var rfl))) (congrArg V.bl ?_)) k
    show (true && decide (((t.patience : Nat) : Int) ≤ (((n : Nat) : Int) - ((c : Nat) : Int)) % 4294967296)) = decide (t.patience ≤ (n + (2 ^ 32 - c)) % 2 ^ 32)
    rw [Bool.true_and]
    exact decide_eq_decide.mpr (by omega)
end LK
namespace LK
open PySem PySem.Spec PyProof.Rows L2
/-! # What holds always -/
theorem putBits_ok {bits row : List Nat} (h : bits.length ≤ 1048576 ∧ B1 bits) : (putBits bits row).length ≤ 1048576 ∧ B1 (putBits bits row) := by
  unfold putBits
  split
  · exact h
  · refine ⟨by rw [List.length_append]; omega, B1.app h.2 (onLine_b1 _)⟩
theorem Ok.bits {t : S} (h : Ok t) (row : List Nat) : Ok { t with out := putBits t.out row } :=
  ⟨h.side, h.win, h.s, h.a, h.r, h.clock, h.sent, h.many, h.inbox, h.rows, h.wrong, h.far, putBits_ok h.out⟩
theorem Ok.command {t : S} (h : Ok t) (c : Nat) (b : List Nat) : Ok (t.command c b) := by
  rw [command_bits]
  exact h.bits _
theorem Ok.answer {t : S} (h : Ok t) (c : Nat) (b : List Nat) : Ok (t.answer c b) := by
  rw [answer_bits]
  exact h.bits _
theorem Ok.afreshS {t : S} (h : Ok t) (g : Sa72.Stage) (c : Option Nat) (hc : ∀ x, c = some x → x < 2 ^ 32) : Ok { Sa72.afresh t with stage := g, clock := c } :=
  ⟨h.side, h.win, (by show 0 < 8; decide), (by show 0 < 8; decide), (by show 0 < 8; decide), hc, Nat.zero_le _, by have := h.many; show 0 + t.waits.length ≤ 64; omega, h.inbox, fun b m => h.rows b (List.mem_append_right _ m), h.wrong, fun _ => (by show (0 + 8 - 0) % 8 ≤ 0; decide), h.out⟩
theorem Ok.up {t : S} (h : Ok t) : Ok { Sa72.afresh t with stage := .up } := h.afreshS .up none fun _ q => by cases q
theorem mod32 (n : Nat) : ∀ x, some (n % 2 ^ 32) = some x → x < 2 ^ 32 := fun x q => by
  cases q
  exact Nat.mod_lt _ (by decide)
theorem Ok.greet {t : S} (h : Ok t) (n : Nat) : Ok (Sa72.greet t n) := (h.afreshS .greeting (some (n % 2 ^ 32)) (mod32 n)).command _ _
theorem Ok.down {t : S} (h : Ok t) : Ok (Sa72.downNow t) :=
  ⟨h.side, h.win, h.s, h.a, h.r, fun _ q => (by cases q), h.sent, h.many, h.inbox, h.rows, h.wrong, fun q => (by cases q), h.out⟩
theorem Ok.refuse {t : S} (h : Ok t) {c y : Nat} (hc : c < 256) (hy : y < 256) : Ok (Sa72.refuse t c y) := by
  have hs := h.s
  have hr := h.r
  have q : Ok ({ t with stage := .stuck, clock := none, sent := [], wrong := [c, 32 * t.r + 2 * t.s, y] } : S) :=
    ⟨h.side, h.win, h.s, h.a, h.r, fun _ q => (by cases q), Nat.zero_le _, by have := h.many; show 0 + t.waits.length ≤ 64; omega, h.inbox, fun b m => h.rows b (List.mem_append_right _ m),
      ⟨Nat.le_refl _, B8.cons hc (B8.cons (by omega) (B8.cons hy B8.nil))⟩, fun q => (by cases q), h.out⟩
  exact q.answer _ _
theorem Ok.busy {t : S} (h : Ok t) (b : Bool) : Ok { t with busy := b } := ⟨h.side, h.win, h.s, h.a, h.r, h.clock, h.sent, h.many, h.inbox, h.rows, h.wrong, h.far, h.out⟩
theorem Ok.polls {t : S} (h : Ok t) (b : Bool) : Ok { t with polls := b } := ⟨h.side, h.win, h.s, h.a, h.r, h.clock, h.sent, h.many, h.inbox, h.rows, h.wrong, h.far, h.out⟩
theorem Ok.asked {t : S} (h : Ok t) (b : Bool) : Ok { t with asked := b } := ⟨h.side, h.win, h.s, h.a, h.r, h.clock, h.sent, h.many, h.inbox, h.rows, h.wrong, h.far, h.out⟩
theorem Ok.got {t : S} (h : Ok t) (g : Sa72.Got) : Ok { t with got := g } := ⟨h.side, h.win, h.s, h.a, h.r, h.clock, h.sent, h.many, h.inbox, h.rows, h.wrong, h.far, h.out⟩
theorem Ok.outs {t : S} (h : Ok t) (k : Nat) (c : Option Nat) (hc : ∀ x, c = some x → x < 2 ^ 32) : Ok { t with outs := k, clock := c } := ⟨h.side, h.win, h.s, h.a, h.r, hc, h.sent, h.many, h.inbox, h.rows, h.wrong, h.far, h.out⟩
theorem Ok.answered {t t' : S} (h : Ok t) {k n : Nat} (hk : k < 8) (e : Sa72.answered t k n = some t') : Ok t' ∧ t'.a = k ∧ t'.stage = t.stage ∧ t'.inbox = t.inbox ∧ t'.r = t.r := by
  have ha := h.a
  have hs := h.s
  unfold Sa72.answered at e
  simp only at e
  split at e
  · cases e
  · rename_i h1
    split at e
    · rename_i h2
      cases e
      exact ⟨h, by omega, rfl, rfl, rfl⟩
    · rename_i h2
      have e' := Option.some.inj e
      subst e'
      have hw := h.sent
      have hm := h.many
      refine ⟨⟨h.side, h.win, ?_, hk, h.r, ?_, ?_, ?_, h.inbox, fun b m => h.rows b ?_, h.wrong, fun q => ?_, h.out⟩, rfl, rfl, rfl, rfl⟩
      · show (if (k + 8 - t.a) % 8 ≤ (t.s + 8 - t.a) % 8 then t.s else k) < 8
        split <;> omega
      · show ∀ c, (if t.sent.drop ((k + 8 - t.a) % 8) = [] then none else some (n % 2 ^ 32)) = some c → c < 2 ^ 32
        split
        · intro c q
          cases q
        · exact mod32 n
      · show (t.sent.drop _).length ≤ 7
        rw [List.length_drop]
        omega
      · show (t.sent.drop _).length + t.waits.length ≤ 64
        rw [List.length_drop]
        omega
      · rcases List.mem_append.mp m with m | m
        · exact List.mem_append_left _ (List.mem_of_mem_drop m)
        · exact List.mem_append_right _ m
      · show ((if (k + 8 - t.a) % 8 ≤ (t.s + 8 - t.a) % 8 then t.s else k) + 8 - k) % 8 ≤ (t.sent.drop ((k + 8 - t.a) % 8)).length
        have hf := h.far q
        rw [List.length_drop]
        split <;> omega
/-- one message goes out -/
def goStep (t : S) (b : List Nat) (n : Nat) : S :=
  let u : S := if (t.s + 8 - t.a) % 8 < t.sent.length then t else { t with sent := t.sent ++ [b], waits := t.waits.drop 1 }
  ({ u with s := (t.s + 1) % 8, clock := match t.clock with
          | some c => some c
          | none => some (n % 2 ^ 32) } : S).command (2 * t.s + 32 * t.r) b
theorem goes_no {t : S} {n : Nat} (h : mayGo t = false) : ∀ f, Sa72.goes f t n = t
  | 0 => rfl
  | f + 1 => by
    unfold mayGo at h
    have h' := of_decide_eq_false h
    unfold Sa72.goes
    simp only
    split
    · rfl
    · rename_i c
      have hn : (t.sent ++ t.waits)[(t.s + 8 - t.a) % 8]? = none := by
        refine List.getElem?_eq_none ?_
        rw [List.length_append]
        refine Nat.le_of_not_lt fun q => h' ⟨?_, ?_, ?_, ?_, q⟩
        · exact Decidable.byContradiction fun z => c (.inl z)
        · exact eq_false_of_ne_true fun z => c (.inr (.inl z))
        · exact eq_false_of_ne_true fun z => c (.inr (.inr (.inl z)))
        · exact Nat.lt_of_not_le fun z => c (.inr (.inr (.inr z)))
      rw [hn]
theorem goes_yes {t : S} {n f : Nat} {b : List Nat} (h : mayGo t = true) (hb : (t.sent ++ t.waits)[(t.s + 8 - t.a) % 8]? = some b) : Sa72.goes (f + 1) t n = Sa72.goes f (goStep t b n) n := by
  unfold mayGo at h
  obtain ⟨h1, h2, h3, h4, h5⟩ := of_decide_eq_true h
  rw [Sa72.goes]
  simp only
  have no : ¬ (t.stage ≠ .up ∨ t.busy = true ∨ t.polls = true ∨ t.window ≤ (t.s + 8 - t.a) % 8) := by
    rintro (z | z | z | z)
    · exact z h1
    · rw [h2] at z
      cases z
    · rw [h3] at z
      cases z
    · omega
  rw [if_neg no, hb]
  rfl
theorem Ok.go {t : S} (h : Ok t) {b : List Nat} {n : Nat} (hm : mayGo t = true) (hb : (t.sent ++ t.waits)[(t.s + 8 - t.a) % 8]? = some b) : Ok (goStep t b n) ∧ ((goStep t b n).s + 8 - (goStep t b n).a) % 8 = (t.s + 8 - t.a) % 8 + 1 ∧ (goStep t b n).stage = .up := by
  unfold mayGo at hm
  obtain ⟨h1, h2, h3, h4, h5⟩ := of_decide_eq_true hm
  have hs := h.s
  have ha := h.a
  have hw := h.win
  have hf := h.far h1
  have hl := h.sent
  have hy := h.many
  have hcl : ∀ c, (match t.clock with | some c => some c | none => some (n % 2 ^ 32)) = some c → c < 2 ^ 32 := by
    intro c q
    cases hk : t.clock with
    | none =>
      rw [hk] at q
      exact mod32 n c q
    | some d =>
      rw [hk] at q
      cases q
      exact h.clock _ hk
  unfold goStep
  rw [command_bits]
  by_cases c : (t.s + 8 - t.a) % 8 < t.sent.length
  · rw [if_pos c]
    refine ⟨⟨h.side, h.win, ?_, h.a, h.r, hcl, h.sent, h.many, h.inbox, h.rows, h.wrong, fun _ => ?_, putBits_ok h.out⟩, ?_, h1⟩
    · show (t.s + 1) % 8 < 8
      omega
    · show ((t.s + 1) % 8 + 8 - t.a) % 8 ≤ t.sent.length
      omega
    · show ((t.s + 1) % 8 + 8 - t.a) % 8 = _
      omega
  · rw [if_neg c]
    have hk : (t.s + 8 - t.a) % 8 = t.sent.length := by omega
    have hwl : 0 < t.waits.length := by omega
    have hbm : b ∈ t.waits := by
      rw [hk, List.getElem?_append_right (Nat.le_refl _), Nat.sub_self] at hb
      exact List.mem_of_getElem? hb
    refine ⟨⟨h.side, h.win, ?_, h.a, h.r, hcl, ?_, ?_, h.inbox, fun x m => h.rows x ?_, h.wrong, fun _ => ?_, putBits_ok h.out⟩, ?_, h1⟩
    · show (t.s + 1) % 8 < 8
      omega
    · show (t.sent ++ [b]).length ≤ 7
      rw [List.length_append]
      simp
      omega
    · show (t.sent ++ [b]).length + (t.waits.drop 1).length ≤ 64
      rw [List.length_append, List.length_drop]
      simp
      omega
    · have m' : x ∈ (t.sent ++ [b]) ++ t.waits.drop 1 := m
      rcases List.mem_append.mp m' with m | m
      · rcases List.mem_append.mp m with m | m
        · exact List.mem_append_left _ m
        · rw [List.mem_singleton.mp m]
          exact List.mem_append_right _ hbm
      · exact List.mem_append_right _ (List.mem_of_mem_drop m)
    · show ((t.s + 1) % 8 + 8 - t.a) % 8 ≤ (t.sent ++ [b]).length
      rw [List.length_append]
      simp
      omega
    · show ((t.s + 1) % 8 + 8 - t.a) % 8 = _
      omega
theorem Ok.goes {n : Nat} : ∀ (f : Nat) {t : S}, Ok t → Ok (Sa72.goes f t n)
  | 0, _, h => h
  | f + 1, t, h => by
    cases hm : mayGo t with
    | false =>
      rw [goes_no hm]
      exact h
    | true =>
      have h5 := (of_decide_eq_true hm).2.2.2.2
      cases hb : (t.sent ++ t.waits)[(t.s + 8 - t.a) % 8]? with
      | none =>
        rw [List.getElem?_eq_none_iff, List.length_append] at hb
        omega
      | some b =>
        rw [goes_yes hm hb]
        exact Ok.goes f (h.go hm hb).1
theorem Ok.onward {t : S} (h : Ok t) (n : Nat) : Ok (Sa72.onward t n) := Ok.goes 8 h
theorem Ok.tick {t : S} (h : Ok t) (n : Nat) : Ok (Sa72.tick t n) := by
  unfold Sa72.tick
  split
  · exact h
  · have hu := h.outs (t.outs + 1) (some (n % 2 ^ 32)) (mod32 n)
    simp only
    split
    · split
      · exact hu.greet n
      · exact hu.down
    · split
      · exact hu.command _ _
      · split
        · exact hu.command _ _
        · exact (hu.polls true).command _ _
end LK
namespace LK
open PySem PySem.Spec PyProof.Rows L2
/-! # End: the greater ones -/
section
variable {K : PySem.W.Frag} {L : LA} {H H0 H1 : Hp} {e x dx : Addr} {A A0 : EA} {t : S} {n : Nat} {X : List Addr} {σ : L2.St} {ta tv tw : TE} {D : Ends} {fs fs' : List (Str × V)} {f : Str} {v : V}
/-! ## __init__ -/
theorem i_fld (T : Tx K L) (hv : Val tv σ H v) (h0 : σ[0]? = some (some (.ref x))) (ho : H x = some (.ins L.CE dx fs)) (hn : NoAttr K L.CE f) (hl : fs.length < 1000) (hf : putF f v fs = fs') (q : ∀ H2, H2 x = some (.ins L.CE dx fs') → KeepBut [x] H H2 → D.nx σ H2) : sFld K (tVar 0) tv f D σ H :=
  s_fld hv (val_var h0) ho T.cl_E hn hl (q _ (by rw [upd_same, hf]) ((KeepBut.refl _ _).at mem1))
theorem i_fldN (T : Tx K L) (h0 : σ[0]? = some (some (.ref x))) (ho : H x = some (.ins L.CE dx fs)) (hn : NoAttr K L.CE f) (hl : fs.length < 1000) (q : ∀ H2 p, H p = none → H2 p = some (.lst []) → H2 x = some (.ins L.CE dx (putF f (.ref p) fs)) → KeepBut [x] H H2 → D.nx σ H2) : sFld K (tVar 0) (tLst tNil) f D σ H :=
  s_fldN h0 ho T.cl_E hn hl fun p hp => q _ p hp (by rw [upd_ne (ne_of_none ho hp).symm, upd_same]) upd_same (((KeepBut.refl _ _).new hp).at mem1)
theorem KeepBut.trans {M : List Addr} {H H1 H2 : Hp} (a : KeepBut M H H1) (b : KeepBut M H1 H2) : KeepBut M H H2 := fun c o h hn => b c o (a c o h hn) hn
theorem KeepBut.none {M : List Addr} {H H1 : Hp} (a : KeepBut M H H1) {p : Addr} (h : H1 p = none) (hn : p ∉ M) : H p = none := by
  cases q : H p with
  | none => rfl
  | some o =>
    rw [a _ _ q hn] at h
    cases h
end
theorem pure_E_init {K : PySem.W.Frag} {L : LA} (T : Tx K L) {vs : List V} {H : Hp} {Q : VK} {E : XK} (h : sp_E_init K L vs H Q E) : t_E_init K L { nx := fun _ H' => Q .non H', rt := Q } (start N_E_init vs) H := by
  obtain ⟨x, dx, i, j, k', l', sd, w, p, n, rfl, ⟨rfl, rfl, rfl, rfl⟩, hsd, hx, k⟩ := h
  refine i_fld T (v_is (v_add val_c (v_mul val_c (val_var rfl) (by decide))) (y := .int (if sd = 0 then 1 else 3)) (congrArg V.int (by split <;> omega))) rfl hx T.n_E_commands_out (by show 0 < 1000; decide) rfl fun H1 o1 k1 => ?_
  refine i_fld T (v_is (v_sub val_c (v_mul val_c (val_var rfl) (by decide))) (y := .int (if sd = 0 then 3 else 1)) (congrArg V.int (by split <;> omega))) rfl o1 T.n_E_answers_out (by show 1 < 1000; decide) rfl fun H2 o2 k2 => ?_
  refine i_fld T (val_var rfl) rfl o2 T.n_E_window (by show 2 < 1000; decide) rfl fun H3 o3 k3 => ?_
  refine i_fld T (val_var rfl) rfl o3 T.n_E_patience (by show 3 < 1000; decide) rfl fun H4 o4 k4 => ?_
  refine i_fld T (val_var rfl) rfl o4 T.n_E_tries (by show 4 < 1000; decide) rfl fun H5 o5 k5 => ?_
  refine i_fld T val_c rfl o5 T.n_E_stage (by show 5 < 1000; decide) rfl fun H6 o6 k6 => ?_
  have z6 := ((((k1.trans k2).trans k3).trans k4).trans k5).trans k6
  clear k1 k2 k3 k4 k5 k6 o1 o2 o3 o4 o5
  refine i_fldN T rfl o6 T.n_E_sent (by show 6 < 1000; decide) fun H7 p1 n1 c1 o7 k7 => ?_
  refine i_fldN T rfl o7 T.n_E_unsent (by show 7 < 1000; decide) fun H8 p2 n2 c2 o8 k8 => ?_
  refine i_fldN T rfl o8 T.n_E_come (by show 8 < 1000; decide) fun H9 p3 n3 c3 o9 k9 => ?_
  refine i_fldN T rfl o9 T.n_E_wrong (by show 9 < 1000; decide) fun H10 p4 n4 c4 o10 k10 => ?_
  have x2 : p2 ≠ x := ne_of c2 o8 (by intro z; cases z)
  have x3 : p3 ≠ x := ne_of c3 o9 (by intro z; cases z)
  have x4 : p4 ≠ x := ne_of c4 o10 (by intro z; cases z)
  have z9 := z6.trans (k7.trans (k8.trans k9))
  have z10 := z9.trans k10
  have e2 := k10 _ _ (k9 _ _ c2 (notin1 x2)) (notin1 x2)
  have e3 := k10 _ _ c3 (notin1 x3)
  have n23 : p2 ≠ p3 := ne_of_none c2 n3
  have n24 : p2 ≠ p4 := ne_of_none (k9 _ _ c2 (notin1 x2)) n4
  have n34 : p3 ≠ p4 := ne_of_none c3 n4
  have m2 : H p2 = none := (z6.trans k7).none n2 (notin1 x2)
  have m3 : H p3 = none := (z6.trans (k7.trans k8)).none n3 (notin1 x3)
  have m4 : H p4 = none := z9.none n4 (notin1 x4)
  clear n1 c1 n2 n3 n4 c2 c3 z6 z9 k7 k8 k9 k10 o6 o7 o8 o9
  -- listener = Listener()
  intro l dl nl ndl nel
  have xl : l ≠ x := (ne_of_none o10 nl).symm
  have sL : Same H10 (upd (upd H10 dl (.own l)) l (.ins L.CI dl [])) := same_new (same_upd ndl) nl
  refine ⟨l, dl, rfl, upd_same, fun H11 kp I11 k11 nkp => ⟨rfl, ?_⟩⟩
  have s11 : Same H10 H11 := fun b o hb => k11 b o (sL b o hb) (notin1 (ne_of_none hb nl))
  refine ⟨_, rfl, x, L.CE, dx, _, rfl, s11 _ _ o10, T.cl_E, T.n_E_listener, (by show 10 < 1000; decide), ?_⟩
  have kl : kp ≠ l := I11.ne
  have nkp10 : H10 kp = none := sL.free nkp
  have n2l : p2 ≠ l := ne_of_none e2 nl
  have n3l : p3 ≠ l := ne_of_none e3 nl
  have n4l : p4 ≠ l := ne_of_none c4 nl
  have n2k : p2 ≠ kp := ne_of_none e2 nkp10
  have n3k : p3 ≠ kp := ne_of_none e3 nkp10
  have n4k : p4 ≠ kp := ne_of_none c4 nkp10
  have xk : kp ≠ x := (ne_of_none o10 nkp10).symm
  have ml : H l = none := z10.none nl (notin1 xl)
  have mk : H kp = none := z10.none nkp10 (notin1 xk)
  have z12 : KeepBut [x] H (upd H11 x (.ins L.CE dx (putF "listener" (.ref l) (putF "wrong" (.ref p4) (putF "come" (.ref p3) (putF "unsent" (.ref p2) (putF "sent" (.ref p1) (putF "stage" (.int 0) (putF "tries" (.int (n : Nat)) (putF "patience" (.int (p : Nat)) (putF "window" (.int (w : Nat)) (putF "answers_out" (.int (if sd = 0 then 3 else 1)) (putF "commands_out" (.int (if sd = 0 then 1 else 3)) []))))))))))))) := (z10.trans (KeepBut.same s11)).at mem1
  show tSeq _ _ _ _ (upd H11 x (.ins L.CE dx (putF "listener" (.ref l) (putF "wrong" (.ref p4) (putF "come" (.ref p3) (putF "unsent" (.ref p2) (putF "sent" (.ref p1) (putF "stage" (.int 0) (putF "tries" (.int (n : Nat)) (putF "patience" (.int (p : Nat)) (putF "window" (.int (w : Nat)) (putF "answers_out" (.int (if sd = 0 then 3 else 1)) (putF "commands_out" (.int (if sd = 0 then 1 else 3)) [])))))))))))))
  generalize hH12 : upd H11 x (.ins L.CE dx (putF "listener" (.ref l) (putF "wrong" (.ref p4) (putF "come" (.ref p3) (putF "unsent" (.ref p2) (putF "sent" (.ref p1) (putF "stage" (.int 0) (putF "tries" (.int (n : Nat)) (putF "patience" (.int (p : Nat)) (putF "window" (.int (w : Nat)) (putF "answers_out" (.int (if sd = 0 then 3 else 1)) (putF "commands_out" (.int (if sd = 0 then 1 else 3)) [])))))))))))) = H12 at z12
  have o12 : H12 x = some (.ins L.CE dx (putF "listener" (.ref l) (putF "wrong" (.ref p4) (putF "come" (.ref p3) (putF "unsent" (.ref p2) (putF "sent" (.ref p1) (putF "stage" (.int 0) (putF "tries" (.int (n : Nat)) (putF "patience" (.int (p : Nat)) (putF "window" (.int (w : Nat)) (putF "answers_out" (.int (if sd = 0 then 3 else 1)) (putF "commands_out" (.int (if sd = 0 then 1 else 3)) [])))))))))))) := by rw [← hH12, upd_same]
  have s12 : ∀ b, b ≠ x → H12 b = H11 b := fun b hb => by rw [← hH12, upd_ne hb]
  have f2 : H12 p2 = some (.lst []) := (s12 _ x2).trans (s11 _ _ e2)
  have f3 : H12 p3 = some (.lst []) := (s12 _ x3).trans (s11 _ _ e3)
  have f4 : H12 p4 = some (.lst []) := (s12 _ x4).trans (s11 _ _ c4)
  have fl := (s12 _ xl).trans I11.obj
  have fk := (s12 _ xk).trans I11.kept
  clear hH12 s12 e2 e3 c4 sL k11 s11 z10 o10
  -- waiting = Waiting()
  intro wa dw nwa ndw new
  have xw : wa ≠ x := (ne_of_none o12 nwa).symm
  have sW : Same H12 (upd (upd H12 dw (.own wa)) wa (.ins L.CW dw [])) := same_new (same_upd ndw) nwa
  refine ⟨wa, dw, rfl, upd_same, fun H13 bt I13 k13 nbt => ⟨rfl, ?_⟩⟩
  have s13 : Same H12 H13 := fun b o hb => k13 b o (sW b o hb) (notin1 (ne_of_none hb nwa))
  have nbt12 : H12 bt = none := sW.free nbt
  have xb : bt ≠ x := (ne_of_none o12 nbt12).symm
  have wb : wa ≠ bt := ne_of I13.obj I13.bits (by intro z; cases z)
  refine ⟨_, rfl, x, L.CE, dx, _, rfl, s13 _ _ o12, T.cl_E, T.n_E_waiting, (by show 11 < 1000; decide), ?_⟩
  have z13 := z12.trans (KeepBut.same s13)
  refine i_fld T val_c rfl upd_same T.n_E_now (by show 12 < 1000; decide) rfl fun H15 o15 k15 => ?_
  have z15 : KeepBut [x] H13 H15 := ((KeepBut.refl _ _).at mem1).trans k15
  have y15 := z13.trans z15
  have hw : ∀ {b o}, H13 b = some o → b ≠ x → H15 b = some o := fun hb hn => z15 _ _ hb (notin1 hn)
  refine ⟨_, rfl, x, dx, _, rfl, o15, by kernel_rfl, x, dx, _, rfl, o15, by show 13 ≤ 100; decide, fun H16 p5 n5 o16 c5 k16 => ?_⟩
  have x5 : p5 ≠ x := (ne_of_none o15 n5).symm
  have g2 := hw (s13 _ _ f2) x2
  have g3 := hw (s13 _ _ f3) x3
  have g4 := hw (s13 _ _ f4) x4
  have gl := hw (s13 _ _ fl) xl
  have gk := hw (s13 _ _ fk) xk
  have gw := hw I13.obj xw
  have gb := hw I13.bits xb
  have m5 : H p5 = none := y15.none n5 (notin1 x5)
  have mw : H wa = none := z12.none nwa (notin1 xw)
  have mb : H bt = none := z12.none nbt12 (notin1 xb)
  have nb : ∀ {b o}, H15 b = some o → b ≠ x → H16 b = some o := fun hb hn => k16 _ _ hb (notin1 hn)
  refine k H16 { dx := dx, sent := p5, unsent := p2, come := p3, wrong := p4, li := l, wa := wa, dl := dl, kept := kp, dw := dw, bits := bt, sm := [], um := [], cm := [], bz := false, ls := ⟨true, [], 0⟩ } ?_ (y15.trans k16) ?_
  · refine { obj := o16.trans (congrArg (fun q => some (HO.ins L.CE dx q)) (by kernel_rfl)), sent := c5, unsent := nb g2 x2, come := nb g3 x3, wrong := nb g4 x4, lis := ⟨nb gl xl, nb gk xk⟩, wai := ⟨nb gw xw, nb gb xb⟩, rs := .nil, ru := .nil, rc := .nil, nd := nes_iff.mpr ?_, im := ?_, lr := LisRel.lost (n := 0), bz := fun _ => rfl, nn := by decide }
    · exact ⟨x5.symm, x2.symm, x3.symm, xl.symm, xk.symm, xw.symm, xb.symm, (ne_of_none g2 n5).symm, (ne_of_none g3 n5).symm, (ne_of_none gl n5).symm, (ne_of_none gk n5).symm, (ne_of_none gw n5).symm, (ne_of_none gb n5).symm,
        n23, n2l, n2k, ne_of_none f2 nwa, ne_of_none f2 nbt12, n3l, n3k, ne_of_none f3 nwa, ne_of_none f3 nbt12, kl.symm, ne_of_none fl nwa, ne_of_none fl nbt12, ne_of_none fk nwa, ne_of_none fk nbt12, wb⟩
    · intro q hq
      have hq' : q = p4 := by simpa using hq
      subst hq'
      simp only [List.mem_cons, List.not_mem_nil, or_false, not_or]
      exact ⟨x4, ne_of_none g4 n5, n24.symm, n34.symm, n4l, n4k, ne_of_none f4 nwa, ne_of_none f4 nbt12⟩
  · intro b hb
    have hb' : b = x ∨ b = p5 ∨ b = p2 ∨ b = p3 ∨ b = l ∨ b = kp ∨ b = wa ∨ b = bt ∨ b = p4 := by simpa using hb
    rcases hb' with rfl | rfl | rfl | rfl | rfl | rfl | rfl | rfl | rfl
    · exact .inl rfl
    · exact .inr m5
    · exact .inr m2
    · exact .inr m3
    · exact .inr ml
    · exact .inr mk
    · exact .inr mw
    · exact .inr mb
    · exact .inr m4
end LK
namespace LK
open PySem PySem.Spec PyProof.Rows L2
section
variable {K : PySem.W.Frag} {L : LA} {H H0 H1 : Hp} {e : Addr} {A A0 : EA} {t : S} {n : Nat} {X : List Addr} {σ : L2.St} {ta tv tw : TE} {D : Ends}
theorem cut_refs {l : List Addr} {j : Nat} : cutV (l.map V.ref) (some (j : Int)) none = (l.drop j).map V.ref := by
  unfold cutV
  rw [HT.sIx_nat, HT.sIx_none, lenR, ← List.map_drop, ← List.map_take]
  congr 1
  rcases Nat.le_total j l.length with c | c
  · rw [Nat.min_eq_left c, List.take_of_length_le (by rw [List.length_drop]; omega)]
  · rw [Nat.min_eq_right c, List.drop_eq_nil_of_le (Nat.le_refl _), List.drop_eq_nil_of_le c, List.take_nil]
/-- self.sent = a new list -/
theorem w_sentP {p : Addr} {ps : List Addr} {rs : List (List Nat)} (J : Run L e A0 X H0 A t n H) (T : Tx K L) (hp : H p = none) (hr : Rows H ps rs) (hs : ∀ x ∈ ps, x ∈ A.sm) (h0 : σ[0]? = some (some (.ref e))) (k : ∀ H1 A1, Run L e A0 X H0 A1 (sSent t rs) n H1 → D.nx σ H1) :
    (tVar 0) σ (upd H p (.lst (ps.map V.ref))) (fun x H2 => ∃ a C dx fs, x = .ref a ∧ H2 a = some (.ins C dx fs) ∧ Cls K C ∧ NoAttr K C "sent" ∧ fs.length < 1000 ∧ D.nx σ (upd H2 a (.ins C dx (putF "sent" (.ref p) fs)))) := by
  have ne : e ≠ p := ne_of_none J.I.obj hp
  refine ⟨_, h0, e, L.CE, A.dx, _, rfl, by rw [upd_ne ne]; exact J.I.obj, T.cl_E, T.n_E_sent, eF_len _, ?_⟩
  refine k _ { A with sent := p, sm := ps, bz := A.bz } (J.newSent (t' := { t with sent := rs }) (b := A.bz) hp ?_ ?_ ?_ hr hs rfl rfl rfl rfl rfl J.I.bz)
  · rw [upd_same]
    exact congrArg (fun q => some (HO.ins L.CE A.dx q)) (eP_sent _ _)
  · rw [upd_ne ne.symm, upd_same]
  · exact ((KeepBut.refl _ _).new hp).at mem1
theorem w_sentNil (J : Run L e A0 X H0 A t n H) (T : Tx K L) (h0 : σ[0]? = some (some (.ref e))) (k : ∀ H1 A1, Run L e A0 X H0 A1 (sSent t []) n H1 → D.nx σ H1) : sFld K (tVar 0) (tLst tNil) "sent" D σ H :=
  ⟨Nat.zero_le _, fun _ hp => w_sentP (ps := []) J T hp .nil (fun _ h => by cases h) h0 k⟩
theorem w_sentCut {m : Nat} (J : Run L e A0 X H0 A t n H) (T : Tx K L) (hv : Val tv σ H (.int (m : Nat))) (h0 : σ[0]? = some (some (.ref e))) (k : ∀ H1 A1, Run L e A0 X H0 A1 (sSent t (t.sent.drop m)) n H1 → D.nx σ H1) : sFld K (tVar 0) (tSl (rSlL K) (tFld K (tVar 0) "sent") (tPart tv) tNoPart) "sent" D σ H := by
  show (tSl (rSlL K) (tFld K (tVar 0) "sent") (tPart tv) tNoPart) _ _ _
  refine (ef_sent J.I T (val_var h0)) _ ?_
  refine hv _ ?_
  refine ⟨_, rfl, A.sent, _, rfl, SqL.of J.I.sent, fun p hp => ?_⟩
  rw [cut_refs]
  exact w_sentP J T hp (J.I.rs.drop m) (fun x h => List.mem_of_mem_drop h) h0 k
end
theorem seq0 {n : Nat} (h : 0 < n) : seqIndex? 0 n = some 0 := (ixN_seq (by
  unfold ixN
  rw [if_pos (by decide), if_pos (by omega)] <;> rfl)).1
theorem pure_E_answered_up_to {K : PySem.W.Frag} {L : LA} (T : Tx K L) {vs : List V} {H : Hp} {Q : VK} {E : XK} (h : sp_E_answered_up_to K L vs H Q E) : t_E_answered_up_to K L { nx := fun _ H' => Q .non H', rt := Q } (start N_E_answered_up_to vs) H := by
  obtain ⟨e, A, t, t', n, k', z, rfl, hz, hk, ha, hs, hl, ht, I, k⟩ := h
  subst hz
  have hm : ((k' : Int) - (t.a : Int)) % 8 = (((k' + 8 - t.a) % 8 : Nat) : Int) := by omega
  refine s_asg (v_is (v_mod (v_sub (val_var rfl) (ef_a I T (val_var rfl))) val_c (by decide)) (congrArg V.int hm)) ?_
  generalize hmm : (k' + 8 - t.a) % 8 = m
  -- behind the first if
  have fin : ∀ (t1 : S) (H1 : Hp) (A1 : EA), Run L e A [] H A1 t1 n H1 → t1 = { t with s := if m ≤ (t.s + 8 - t.a) % 8 then t.s else k' } →
      (tSeq (sFld K (tVar 0) (tVar 1) "a") (tSeq (sFld K (tVar 0) (tSl (rSlL K) (tFld K (tVar 0) "sent") (tPart (tVar 2)) tNoPart) "sent")
        (tIfS (tTest (tOp kGt (tVar 2) (tC (.int (0))))) (tSeq (sFld K (tVar 0) (tC (.int (0))) "out") (tSeq (sFld K (tVar 0) (tC .non) "since")
          (tIfS (tTest (tOp kGt (tCB (kLen K) (tCons (tFld K (tVar 0) "sent") tNil)) (tC (.int (0))))) (tDrop (tMeth L.CE "run_clock" (sp_E_run_clock K L) [] E0 (tVar 0) tNil)) tNext))) tNext)))
        { nx := fun _ H' => Q .non H', rt := Q } [some (.ref e), some (.int (k' : Nat)), some (.int (m : Nat))] H1 := by
    intro t1 H1 A1 J1 e1
    refine w_a (m := k') J1 T (val_var rfl) rfl (val_var rfl) fun H2 J2 => ?_
    refine w_sentCut J2 T (val_var rfl) rfl fun H3 A3 J3 => ?_
    unfold Sa72.answered at ht
    simp only [hmm] at ht
    split at ht
    · cases ht
    · refine s_if (t_of (v_gt (val_var rfl) val_c)) (fun q => ?_) (fun q => ?_)
      · rw [decide_eq_true_eq] at q
        rw [if_neg (by omega)] at ht
        have ht' := Option.some.inj ht
        refine w_out (m := 0) J3 T val_c rfl (val_var rfl) fun H4 J4 => ?_
        refine w_since (c := none) J4 T val_c rfl (val_var rfl) fun H5 J5 => ?_
        refine s_if (t_of (v_gt (v_len (ef_sent J5.I T (val_var rfl)) J5.I.sent) val_c)) (fun q2 => ?_) (fun q2 => ?_)
        · rw [decide_eq_true_eq, lenR, lenS J5.I] at q2
          refine c_run J5 rfl fun H6 A6 J6 => k _ _ (J6.eq ?_).I J6.F
          rw [← ht', e1]
          have q3 : ¬ t.sent.drop m = [] := fun z => by
            have q4 : (0 : Int) < (((t1.sent.drop m).length : Nat) : Int) := q2
            rw [e1] at q4
            have q5 : (0 : Int) < (((t.sent.drop m).length : Nat) : Int) := q4
            rw [z] at q5
            exact absurd q5 (by decide)
          have q6 : (if t.sent.drop m = [] then none else some (n % 2 ^ 32)) = some (n % 2 ^ 32) := if_neg q3
          rw [q6] <;> rfl
        · rw [decide_eq_false_iff_not, lenR, lenS J5.I] at q2
          refine k _ _ (J5.eq ?_).I J5.F
          rw [← ht', e1]
          have q3 : t.sent.drop m = [] := by
            have q4 : ¬ (0 : Int) < (((t1.sent.drop m).length : Nat) : Int) := q2
            rw [e1] at q4
            have q5 : ¬ (0 : Int) < (((t.sent.drop m).length : Nat) : Int) := q4
            exact List.length_eq_zero_iff.mp (by omega)
          have q6 : (if t.sent.drop m = [] then none else some (n % 2 ^ 32)) = none := if_pos q3
          rw [q6] <;> rfl
      · rw [decide_eq_false_iff_not] at q
        have m0 : m = 0 := by omega
        rw [if_pos m0] at ht
        have ht' := Option.some.inj ht
        refine k _ _ (J3.eq ?_).I J3.F
        rw [← ht', e1, m0]
        have ek : k' = t.a := by omega
        rw [ek]
        cases t
        rfl
  refine s_if (t_of (v_lt (v_far I T ha (val_var rfl)) (val_var rfl))) (fun q => ?_) (fun q => ?_)
  · rw [decide_eq_true_eq] at q
    refine w_s (m := k') I.run T (val_var rfl) rfl (val_var rfl) fun H1 J1 => ?_
    refine fin _ H1 _ J1 ?_
    rw [if_neg (by omega)] <;> rfl
  · rw [decide_eq_false_iff_not] at q
    refine fin t H _ I.run ?_
    rw [if_pos (by omega)]
theorem pure_E_get_stuck {K : PySem.W.Frag} {L : LA} (T : Tx K L) {vs : List V} {H : Hp} {Q : VK} {E : XK} (h : sp_E_get_stuck K L vs H Q E) : t_E_get_stuck K L { nx := fun _ H' => Q .non H', rt := Q } (start N_E_get_stuck vs) H := by
  obtain ⟨e, A, t, n, c, y, z1, z2, z3, rfl, ⟨rfl, rfl, rfl⟩, hc, hy, hs, hr, I, k⟩ := h
  have hv : (32 : Int) * (t.r : Nat) + 2 * (t.s : Nat) = ((32 * t.r + 2 * t.s : Nat) : Int) := by omega
  refine ⟨_, rfl, ?_⟩
  refine (v_is (v_add (v_mul val_c (ef_r I T (val_var rfl)) (by decide)) (v_mul val_c (ef_s I T (val_var rfl)) (by decide))) (congrArg V.int hv)) _ ?_
  refine ⟨_, rfl, by show 3 ≤ sizeLine; decide, fun p hp => ?_⟩
  have ne : e ≠ p := ne_of_none I.obj hp
  refine ⟨_, rfl, e, L.CE, A.dx, _, rfl, by rw [upd_ne ne]; exact I.obj, T.cl_E, T.n_E_wrong, eF_len _, ?_⟩
  have J1 : Run L e A [] H { A with wrong := p } (sWrong t [c, 32 * t.r + 2 * t.s, y]) n (upd (upd H p (.lst [.int (c : Nat), .int ((32 * t.r + 2 * t.s : Nat) : Int), .int (y : Nat)])) e (.ins L.CE A.dx (putF "wrong" (.ref p) (eF (ev A t n))))) := by
    refine I.run.newWrong (t' := { t with wrong := [c, 32 * t.r + 2 * t.s, y] }) hp ?_ ?_ ?_ rfl rfl rfl rfl rfl I.bz
    · rw [upd_same]
      exact congrArg (fun q => some (HO.ins L.CE A.dx q)) (eP_wrong _ _)
    · rw [upd_ne ne.symm, upd_same] <;> rfl
    · exact ((KeepBut.refl _ _).new hp).at mem1
  show tSeq _ _ _ _ (upd (upd H p (.lst [.int (c : Nat), .int ((32 * t.r + 2 * t.s : Nat) : Int), .int (y : Nat)])) e (.ins L.CE A.dx (putF "wrong" (.ref p) (eF (ev A t n)))))
  generalize upd (upd H p (.lst [.int (c : Nat), .int ((32 * t.r + 2 * t.s : Nat) : Int), .int (y : Nat)])) e (.ins L.CE A.dx (putF "wrong" (.ref p) (eF (ev A t n)))) = H1 at J1
  have hpf : Sa72.pf c ≤ 1 := by
    unfold Sa72.pf
    omega
  refine ⟨_, rfl, e, A.dx, _, rfl, J1.I.obj, eF_say_wrong _, _, rfl, e, _, _, n, Sa72.pf c, _, rfl, rfl, hpf, ⟨Nat.le_refl _, B8.cons hc (B8.cons (by omega) (B8.cons hy B8.nil))⟩, J1.I, J1.post fun H2 A2 J2 => ?_⟩
  refine w_stage (g := .stuck) J2 T val_c (val_var rfl) (fun q => by cases q) fun H3 J3 => ?_
  refine w_since (c := none) J3 T val_c rfl (val_var rfl) fun H4 J4 => ?_
  refine w_sentNil J4 T rfl fun H5 A5 J5 => k _ _ (J5.eq ?_).I J5.F
  unfold Sa72.refuse
  simp only
  rw [answer_bits, answer_bits] <;> rfl
theorem pure_E_see_to_clock {K : PySem.W.Frag} {L : LA} (T : Tx K L) {vs : List V} {H : Hp} {Q : VK} {E : XK} (h : sp_E_see_to_clock K L vs H Q E) : t_E_see_to_clock K L { nx := fun _ H' => Q .non H', rt := Q } (start N_E_see_to_clock vs) H := by
  obtain ⟨e, A, t, n, rfl, I, ok, k⟩ := h
  unfold Sa72.tick at k
  refine s_if (t_not (t_val (v_isout I ok.clock rfl))) (fun q => ?_) (fun q => ?_)
  · have q' : Sa72.late t n = false := by simpa using q
    rw [if_pos q'] at k
    exact k _ _ I (Fr.refl _ _ _ _)
  · have q' : ¬ Sa72.late t n = false := by
      intro z
      rw [z] at q
      cases q
    rw [if_neg q'] at k
    simp only at k
    refine ⟨_, rfl, e, L.CE, A.dx, _, _, rfl, I.obj, T.cl_E, T.n_E_out, eF_out _, ((t.outs : Nat) : Int), 1, rfl, rfl, A.dx, _, I.obj, eF_len _, ?_⟩
    have J1 : Run L e A [] H A (sOut t (t.outs + 1)) n (upd H e (.ins L.CE A.dx (putF "out" (.int (((t.outs : Nat) : Int) + 1)) (eF (ev A t n))))) :=
      I.run.fw A.bz { t with outs := t.outs + 1 } n (eP_out _ _) ⟨rfl, rfl, rfl, rfl, rfl, rfl⟩ I.bz I.nn
    show tSeq _ _ _ _ (upd H e (.ins L.CE A.dx (putF "out" (.int (((t.outs : Nat) : Int) + 1)) (eF (ev A t n)))))
    generalize upd H e (.ins L.CE A.dx (putF "out" (.int (((t.outs : Nat) : Int) + 1)) (eF (ev A t n)))) = H1 at J1
    refine s_if (t_of (v_gt (ef_out J1.I T (val_var rfl)) (ef_tries J1.I T (val_var rfl)))) (fun q2 => ?_) (fun q2 => ?_)
    · rw [decide_eq_true_eq] at q2
      have q3 : ((t.tries : Nat) : Int) < ((t.outs + 1 : Nat) : Int) := q2
      rw [if_pos (by omega)] at k
      refine s_if (t_of (v_eq (ef_stage J1.I T (val_var rfl)) val_c)) (fun q4 => ?_) (fun q4 => ?_)
      · have q5 : t.stage = .up := of_decide_eq_true ((stage_int t.stage .up).symm.trans q4)
        rw [if_pos q5] at k
        refine c_greet J1 rfl fun H2 A2 J2 => ?_
        exact k _ _ (J2.eq rfl).I J2.F
      · have q5 : ¬ t.stage = .up := of_decide_eq_false ((stage_int t.stage .up).symm.trans q4)
        rw [if_neg q5] at k
        refine c_down J1 rfl fun H2 A2 J2 => ?_
        exact k _ _ (J2.eq rfl).I J2.F
    · rw [decide_eq_false_iff_not] at q2
      have q3 : ¬ ((t.tries : Nat) : Int) < ((t.outs + 1 : Nat) : Int) := q2
      rw [if_neg (by omega)] at k
      refine c_run J1 rfl fun H2 A2 J2 => ?_
      refine s_if (t_of (v_eq (ef_stage J2.I T (val_var rfl)) val_c)) (fun q4 => ?_) (fun q4 => ?_)
      · have q5 : t.stage = .greeting := of_decide_eq_true ((stage_int t.stage .greeting).symm.trans q4)
        rw [if_pos q5] at k
        exact c_cmd (c := 63) J2 rfl (v_add val_c val_c) rfl (by decide) fun H3 A3 J3 => k _ _ J3.I J3.F
      · have q5 : ¬ t.stage = .greeting := of_decide_eq_false ((stage_int t.stage .greeting).symm.trans q4)
        rw [if_neg q5] at k
        refine s_if (t_of (v_eq (ef_stage J2.I T (val_var rfl)) val_c)) (fun q6 => ?_) (fun q6 => ?_)
        · have q7 : t.stage = .ending := of_decide_eq_true ((stage_int t.stage .ending).symm.trans q6)
          rw [if_pos q7] at k
          exact c_cmd (c := 83) J2 rfl (v_add val_c val_c) rfl (by decide) fun H3 A3 J3 => k _ _ J3.I J3.F
        · have q7 : ¬ t.stage = .ending := of_decide_eq_false ((stage_int t.stage .ending).symm.trans q6)
          rw [if_neg q7] at k
          refine w_polls J2 T val_c (val_var rfl) fun H3 J3 => ?_
          have hr := ok.r
          refine c_cmd (c := Sa72.own t + 16) J3 rfl (v_own J3.I rfl val_c) ?_ ?_ fun H4 A4 J4 => k _ _ J4.I J4.F
          · show (((Sa72.own t : Nat) : Int) + 16 * 1) = ((Sa72.own t + 16 : Nat) : Int)
            omega
          · have := own_lt hr (b := 1) (by decide)
            unfold Sa72.PF at this
            omega
theorem pure_E_go_out {K : PySem.W.Frag} {L : LA} (T : Tx K L) {vs : List V} {H : Hp} {Q : VK} {E : XK} (h : sp_E_go_out K L vs H Q E) : t_E_go_out K L { nx := fun _ H' => Q .non H', rt := Q } (start N_E_go_out vs) H := by
  obtain ⟨e, A, t, n, rfl, I, ok, k⟩ := h
  refine ⟨fun m σ H' => ∃ A' t', (∃ v, σ = [some (.ref e), v]) ∧ Run L e A [] H A' t' n H' ∧ Ok t' ∧ Sa72.goes m t' n = Sa72.onward t n ∧ (mayGo t' = true → 8 ≤ m + (t'.s + 8 - t'.a) % 8), ⟨8, A, t, ⟨none, rfl⟩, I.run, ok, rfl, fun _ => by omega⟩, ?_⟩
  rintro m σ H' ⟨A1, t1, ⟨v, rfl⟩, J1, ok1, hg, hm⟩
  refine (t_val (v_may J1.I ok1.a rfl)) _ ?_
  cases hmay : mayGo t1 with
  | false =>
    refine iteF ?_
    rw [goes_no hmay] at hg
    exact k _ _ (J1.eq hg).I J1.F
  | true =>
    refine iteT ?_
    have hm' := hm hmay
    obtain ⟨h1, h2, h3, h4, h5⟩ := of_decide_eq_true hmay
    have hw := ok1.win
    have hf := ok1.far h1
    have hs8 := ok1.s
    have hr8 := ok1.r
    obtain ⟨m1, rfl⟩ : ∃ m1, m = m1 + 1 := ⟨m - 1, by omega⟩
    cases hb : (t1.sent ++ t1.waits)[(t1.s + 8 - t1.a) % 8]? with
    | none =>
      rw [List.getElem?_eq_none_iff, List.length_append] at hb
      omega
    | some b =>
      obtain ⟨ok2, hfar, hup⟩ := ok1.go (n := n) hmay hb
      rw [goes_yes hmay hb] at hg
      refine ⟨fun σ' H'' => ∃ A2, (∃ v, σ' = [some (.ref e), v]) ∧ Run L e A [] H A2 (goStep t1 b n) n H'', ?_, ?_⟩
      · rintro σ' H'' ⟨A2, hσ, J2⟩
        exact ⟨m1, by omega, A2, _, hσ, J2, ok2, hg, fun _ => by omega⟩
      have hbm := List.mem_of_getElem? hb
      have hrow := ok1.rows b hbm
      refine s_asg (v_far J1.I T ok1.a (val_var rfl)) ?_
      generalize hk : (t1.s + 8 - t1.a) % 8 = kk at *
      -- behind the first if
      have fin : ∀ (t2 : S) (H2 : Hp) (A2 : EA), Run L e A [] H A2 t2 n H2 → t2 = (if kk < t1.sent.length then t1 else { t1 with sent := t1.sent ++ [b], waits := t1.waits.drop 1 }) → t2.sent[kk]? = some b →
          (tSeq (tDrop (tMeth L.CE "command" (sp_E_command K L) [] E0 (tVar 0) (tCons (tCall (sp_d_numbered_control K L) [] E0 (tCons (tFld K (tVar 0) "s") (tCons (tFld K (tVar 0) "r") tNil))) (tCons (tOp (rIxL K) (tFld K (tVar 0) "sent") (tVar 1)) tNil))))
            (tSeq (sFld K (tVar 0) (tOp kMod (tOp kAdd (tFld K (tVar 0) "s") (tC (.int (1)))) (tC (.int (8)))) "s")
            (tIfS (tTest (tOp kIsN (tFld K (tVar 0) "since") (tC .non))) (tDrop (tMeth L.CE "run_clock" (sp_E_run_clock K L) [] E0 (tVar 0) tNil)) tNext)))
            { nx := fun σ' H'' => ∃ A2, (∃ v, σ' = [some (.ref e), v]) ∧ Run L e A [] H A2 (goStep t1 b n) n H'', rt := Q, bk := fun _ H' => Q .non H', ct := fun σ' H'' => ∃ A2, (∃ v, σ' = [some (.ref e), v]) ∧ Run L e A [] H A2 (goStep t1 b n) n H'' } [some (.ref e), some (.int (kk : Nat))] H2 := by
        intro t2 H2 A2 J2 e2 hb2
        have es : t2.s = t1.s := by rw [e2]; split <;> rfl
        have er : t2.r = t1.r := by rw [e2]; split <;> rfl
        have ec : t2.clock = t1.clock := by rw [e2]; split <;> rfl
        obtain ⟨pa, hpa, hpr⟩ := J2.I.rs.get hb2
        refine c_cmdL (c := 2 * t1.s + 32 * t1.r) J2 rfl (v_nctl (ef_s J2.I T (val_var rfl)) (ef_r J2.I T (val_var rfl))) (by rw [es, er]; omega) (by omega) (v_ix (k := kk) (ef_sent J2.I T (val_var rfl)) J2.I.sent (val_var rfl) rfl (by rw [List.getElem?_map, hpa] <;> rfl)) hpr hrow.2 hrow.1 fun H3 A3 J3 => ?_
        have es3 : (t2.command (2 * t1.s + 32 * t1.r) b).s = t1.s := by rw [command_bits]; exact es
        have ec3 : (t2.command (2 * t1.s + 32 * t1.r) b).clock = t1.clock := by rw [command_bits]; exact ec
        refine w_s (m := (t1.s + 1) % 8) J3 T (v_mod (v_add (ef_s J3.I T (val_var rfl)) val_c) val_c (by decide)) (by rw [es3]; omega) (val_var rfl) fun H4 J4 => ?_
        refine s_if (t_of (v_isN (ef_since J4.I T (val_var rfl)))) (fun q => ?_) (fun q => ?_)
        · rw [decide_eq_true_eq] at q
          have hc : t1.clock = none := by
            have q' : clockV (t2.command (2 * t1.s + 32 * t1.r) b).clock = .non := q
            rw [ec3] at q'
            cases hcl : t1.clock with
            | none => rfl
            | some c =>
              rw [hcl] at q'
              cases q'
          refine c_run J4 rfl fun H5 A5 J5 => ⟨A5, ⟨_, rfl⟩, J5.eq ?_⟩
          unfold goStep
          simp only [hk]
          rw [← e2, command_bits, command_bits, hc] <;> rfl
        · rw [decide_eq_false_iff_not] at q
          refine ⟨_, ⟨_, rfl⟩, J4.eq ?_⟩
          obtain ⟨c, hcl⟩ : ∃ c, t1.clock = some c := by
            cases hq : t1.clock with
            | none => exact absurd (show clockV (t2.command (2 * t1.s + 32 * t1.r) b).clock = .non by rw [ec3, hq] <;> rfl) q
            | some c => exact ⟨c, rfl⟩
          have hc2 : t2.clock = some c := ec.trans hcl
          unfold goStep
          simp only [hk]
          rw [← e2, hcl]
          show _ = ({ t2 with s := (t1.s + 1) % 8, clock := some c } : S).command _ _
          rw [← hc2, command_bits, command_bits] <;> rfl
      refine s_if (t_of (v_eq (val_var rfl) (v_len (ef_sent J1.I T (val_var rfl)) J1.I.sent))) (fun q => ?_) (fun q => ?_)
      · rw [decide_eq_true_eq, lenR, lenS J1.I] at q
        have hkl : kk = t1.sent.length := by omega
        have hwb : t1.waits = b :: t1.waits.drop 1 := by
          rw [hkl, List.getElem?_append_right (Nat.le_refl _), Nat.sub_self] at hb
          cases hww : t1.waits with
          | nil =>
            rw [hww] at hb
            cases hb
          | cons y ys =>
            rw [hww] at hb
            have : y = b := Option.some.inj hb
            rw [this] <;> rfl
        have ru := J1.I.ru
        rw [hwb] at ru
        obtain ⟨um, hum, pb, hpb, hru⟩ : ∃ um, ∃ (hum : Rows H' um (t1.waits.drop 1)), ∃ pb, A1.um = pb :: um ∧ H' pb = some (.lst (nts b)) := by
          revert ru
          generalize A1.um = qs
          intro ru
          cases ru with
          | cons h r => exact ⟨_, r, _, rfl, h⟩
        have N := nes_iff.mp J1.I.nd
        refine ⟨_, rfl, e, L.CE, A1.dx, _, _, rfl, J1.I.obj, T.cl_E, T.n_E_sent, eF_sent _, .inl ⟨rfl, _, SqL.of J1.I.sent⟩, _, rfl, e, L.CE, A1.dx, _, _, rfl, J1.I.obj, T.cl_E, T.n_E_unsent, eF_unsent _, .inl ⟨rfl, _, SqL.of J1.I.unsent⟩, ?_⟩
        refine ⟨A1.unsent, A1.um.map V.ref, 0, 0, .ref pb, rfl, rfl, J1.I.unsent, by decide, by decide, seq0 (by rw [hpb]; exact Nat.succ_pos _), by rw [hpb]; rfl, ?_⟩
        refine ⟨A1.sent, A1.sm.map V.ref, .ref pb, rfl, rfl, by rw [upd_ne N.su]; exact J1.I.sent, by rw [lenR, lenS J1.I]; exact szl (by omega), ?_⟩
        have J2 : Run L e A [] H { A1 with sm := A1.sm ++ [pb], um := um, cm := A1.cm } (sMsgs t1 (t1.sent ++ [b]) (t1.waits.drop 1) t1.inbox) n (upd (upd H' A1.unsent (.lst ((A1.um.map V.ref).eraseIdx 0))) A1.sent (.lst (A1.sm.map V.ref ++ [.ref pb]))) := by
          refine J1.newMsgs ?_ ?_ ?_ (J1.I.rs.app (.cons hru .nil)) hum J1.I.rc (fun p hp => .inl ?_) ?_
          · rw [upd_same, List.map_append] <;> rfl
          · rw [upd_ne N.su.symm, upd_same, hpb] <;> rfl
          · rw [upd_ne N.sc.symm, upd_ne N.uc.symm]
            exact J1.I.come
          · have hp' : p ∈ A1.sm ∨ p = pb ∨ p ∈ um ∨ p ∈ A1.cm := by
              simp only [List.mem_append, List.mem_cons, List.not_mem_nil, or_false] at hp
              rcases hp with (hp | hp) | hp | hp
              · exact .inl hp
              · exact .inr (.inl hp)
              · exact .inr (.inr (.inl hp))
              · exact .inr (.inr (.inr hp))
            rcases hp' with hp | hp | hp | hp
            · exact imm_s _ hp
            · exact imm_u _ (by rw [hpb, hp]; exact List.mem_cons_self ..)
            · exact imm_u _ (by rw [hpb]; exact List.mem_cons_of_mem _ hp)
            · exact imm_c _ hp
          · exact ((KeepBut.refl _ _).at (by simp)).at (by simp)
        refine fin _ _ _ J2 ?_ ?_
        · rw [if_neg (by omega)] <;> rfl
        · show (t1.sent ++ [b])[kk]? = some b
          rw [hkl, List.getElem?_append_right (Nat.le_refl _), Nat.sub_self] <;> rfl
      · rw [decide_eq_false_iff_not, lenR, lenS J1.I] at q
        refine fin t1 H' A1 J1 ?_ ?_
        · rw [if_pos (by omega)]
        · rw [List.getElem?_append_left (by omega)] at hb
          exact hb
end LK
namespace LK
open PySem PySem.Spec PyProof.Rows L2
/-! # The listener's attributes are the specification's -/
theorem row_six {kb : List Nat} {n : Nat} : (⟨false, kb ++ [1], n⟩ : Ls).row = Sa72.frameOf (kb.take (kb.length - 6)) := by
  have hl : (kb ++ [1]).length - 7 = kb.length - 6 := by
    rw [List.length_append]
    simp
  have ht : (kb ++ [1]).take ((kb ++ [1]).length - 7) = kb.take (kb.length - 6) := by
    rw [hl, List.take_append_of_le_length (by omega)]
  have lt : (kb.take (kb.length - 6)).length = kb.length - 6 := by
    rw [List.length_take]
    omega
  have hr : rowOf (kb ++ [1]) = Sa72.bytesOf ((kb.length - 6 + 7) / 8) (kb.take (kb.length - 6)) := by
    unfold rowOf
    rw [ht, hl]
  unfold Ls.row Ls.bad
  simp only [Bool.false_or]
  rw [hr, hl, bytes_len]
  unfold Sa72.frameOf
  simp only [lt]
  have hlen : (kb ++ [1]).length = kb.length + 1 := by simp
  rw [hlen]
  generalize hd : kb.take (kb.length - 6) = l at *
  by_cases c : (kb.length - 6) % 8 = 0 ∧ 4 ≤ (kb.length - 6) / 8 ∧ (kb.length - 6) / 8 ≤ 1028
  · obtain ⟨c1, c2, c3⟩ := c
    have hn : (kb.length - 6 + 7) / 8 = (kb.length - 6) / 8 := by omega
    rw [hn, if_neg (by
      simp only [Bool.or_eq_true, decide_eq_true_eq]
      omega)]
    by_cases q : sumOf ((Sa72.bytesOf ((kb.length - 6) / 8) l).take ((kb.length - 6) / 8 - 2)) = (Sa72.bytesOf ((kb.length - 6) / 8) l).drop ((kb.length - 6) / 8 - 2)
    · rw [if_pos q, if_pos ⟨c1, c2, c3, q.symm⟩]
    · rw [if_neg q, if_neg fun z => q z.2.2.2.symm]
  · rw [if_pos (by
      simp only [Bool.or_eq_true, decide_eq_true_eq]
      omega), if_neg fun z => c ⟨z.1, z.2.1, z.2.2.1⟩]
theorem keep_def (s : Ls) (b : Nat) : s.keep b = if s.lost = true then (if 8231 < s.kb.length then s.lose else s) else (if 8231 < s.kb.length + 1 then { s with lost := true, kb := [] } else { s with kb := s.kb ++ [b] }) := by
  unfold Ls.keep
  simp only
  by_cases c : s.lost = true
  · rw [if_pos c, if_pos c]
  · rw [if_neg c, if_neg c]
    have e : (s.kb ++ [b]).length = s.kb.length + 1 := by simp
    by_cases d : 8231 < s.kb.length + 1
    · rw [if_pos (by rw [e]; exact d), if_pos d] <;> rfl
    · rw [if_neg (by rw [e]; exact d), if_neg d]
theorem lis_step {s : Ls} {g : Sa72.Got} {b : Nat} (h : LisRel s g) (hb : b ≤ 1) : LisRel (s.take b).1 (Sa72.bit g b).1 ∧ (s.take b).2 = (Sa72.bit g b).2 := by
  rcases Nat.le_one_iff_eq_zero_or_eq_one.mp hb with rfl | rfl
  · -- a 0
    unfold Ls.take Sa72.bit
    rw [if_neg (show ¬ (0 : Nat) = 1 by decide), if_neg (show ¬ (0 : Nat) = 1 by decide)]
    cases h with
    | @live kb n h1 h2 h3 =>
      simp only
      rw [if_neg (show ¬ n = 6 by omega), if_neg (show ¬ n = 6 by omega)]
      by_cases c : n = 5
      · subst c
        rw [if_neg (show ¬ ((5 : Nat) ≠ 5) by decide), if_pos rfl]
        exact ⟨.live h1 (by decide) h3, rfl⟩
      · rw [if_pos c, if_neg c, keep_def]
        simp only [Bool.false_eq_true, if_false, true_and, if_true]
        by_cases d : 8224 + 6 < kb.length + 1
        · rw [if_pos d, if_neg (by omega)]
          refine ⟨.full (B1.app h1 (B1.cons (by decide) B1.nil)) (by decide) ?_, rfl⟩
          simp
          omega
        · rw [if_neg d, if_neg (by omega)]
          refine ⟨.live (B1.app h1 (B1.cons (by decide) B1.nil)) (by decide) ?_, rfl⟩
          simp
          omega
    | @six kb h1 h3 =>
      simp only [if_true]
      exact ⟨.live (n := 0) B1.nil (show 0 ≤ 5 by decide) (show 0 ≤ 8230 by decide), row_six⟩
    | @lost n =>
      simp only
      by_cases c : n = 6
      · subst c
        rw [if_pos rfl, if_pos (show min 6 7 = 6 by decide)]
        exact ⟨.live B1.nil (by decide) (by decide), rfl⟩
      · rw [if_neg c, if_neg (show ¬ min n 7 = 6 by omega)]
        by_cases d : n = 5
        · subst d
          rw [if_neg (show ¬ ((5 : Nat) ≠ 5) by decide), if_pos (show min 5 7 = 5 by decide)]
          exact ⟨.lost (n := 0), by first | rfl | trivial⟩
        · rw [if_pos d, if_neg (show ¬ min n 7 = 5 by omega), keep_def]
          simp only [if_true, List.length_nil, Bool.false_eq_true, false_and, if_false]
          rw [if_neg (show ¬ 8231 < 0 by decide)]
          exact ⟨.lost (n := 0), by first | rfl | trivial⟩
    | @full kb n h1 h2 h3 =>
      simp only
      rw [if_neg (show ¬ n = 6 by omega), if_neg (show ¬ n = 6 by omega)]
      by_cases c : n = 5
      · subst c
        rw [if_neg (show ¬ ((5 : Nat) ≠ 5) by decide), if_pos rfl]
        exact ⟨.full h1 (by decide) h3, rfl⟩
      · rw [if_pos c, if_neg c, keep_def]
        simp only [Bool.false_eq_true, if_false, false_and]
        rw [if_pos (show 8231 < kb.length + 1 by omega)]
        exact ⟨.lost (n := 0), by first | rfl | trivial⟩
  · -- a 1
    unfold Ls.take Sa72.bit
    rw [if_pos rfl, if_pos rfl]
    simp only
    cases h with
    | @live kb n h1 h2 h3 =>
      rw [keep_def]
      simp only [Bool.false_eq_true, if_false, true_and, if_true]
      rw [if_neg (show ¬ 6 ≤ n by omega)]
      by_cases c : n = 5
      · subst c
        rw [if_neg (show ¬ 8231 < kb.length + 1 by omega), if_pos rfl]
        simp only
        rw [if_neg (show ¬ 6 < 5 + 1 by decide)]
        exact ⟨.six h1 h3, trivial⟩
      · rw [if_neg (show ¬ 8231 < kb.length + 1 by omega), if_neg c]
        simp only
        rw [if_neg (show ¬ 6 < n + 1 by omega)]
        by_cases d : 8224 + 6 < kb.length + 1
        · rw [if_pos d]
          refine ⟨.full (B1.app h1 (B1.cons (by decide) B1.nil)) (by omega) ?_, rfl⟩
          simp
          omega
        · rw [if_neg d]
          refine ⟨.live (B1.app h1 (B1.cons (by decide) B1.nil)) (by omega) ?_, rfl⟩
          simp
          omega
    | @six kb h1 h3 =>
      have ho : ∀ s : Ls, s.ones = 7 → (if 6 < s.ones then s.lose else s) = s.lose := fun s q => if_pos (by omega)
      have hk := (keep_len (s := ⟨false, kb ++ [1], 6 + 1⟩) (b := 1) (by simp; omega)).2
      rw [ho _ hk]
      simp only
      rw [if_pos (show 6 ≤ 6 by decide)]
      refine ⟨?_, rfl⟩
      have e : ((⟨false, kb ++ [1], 6 + 1⟩ : Ls).keep 1).lose = ⟨true, [], 7⟩ := by
        unfold Ls.lose
        rw [hk]
      rw [e]
      exact .lost (n := 7)
    | @lost n =>
      rw [keep_def]
      simp only [if_true, List.length_nil, Bool.false_eq_true, false_and, if_false]
      rw [if_neg (show ¬ 8231 < 0 by decide)]
      simp only
      by_cases c : 6 ≤ n
      · rw [if_pos (show 6 < n + 1 by omega), if_pos (show 6 ≤ min n 7 by omega)]
        refine ⟨?_, rfl⟩
        have q := LisRel.lost (n := n + 1)
        rw [show min (n + 1) 7 = 7 by omega] at q
        exact q
      · rw [if_neg (show ¬ 6 < n + 1 by omega), if_neg (show ¬ 6 ≤ min n 7 by omega)]
        have q := LisRel.lost (n := n + 1)
        rw [show min (n + 1) 7 = n + 1 by omega] at q
        by_cases d : n = 5
        · subst d
          rw [if_pos (show min 5 7 = 5 by decide)]
          exact ⟨q, rfl⟩
        · rw [if_neg (show ¬ min n 7 = 5 by omega), show min n 7 = n by omega]
          exact ⟨q, rfl⟩
    | @full kb n h1 h2 h3 =>
      rw [keep_def]
      simp only [Bool.false_eq_true, if_false, false_and]
      rw [if_pos (show 8231 < kb.length + 1 by omega), if_neg (show ¬ 6 ≤ n by omega)]
      simp only
      rw [if_neg (show ¬ 6 < n + 1 by omega)]
      have q := LisRel.lost (n := n + 1)
      rw [show min (n + 1) 7 = n + 1 by omega] at q
      by_cases c : n = 5
      · subst c
        rw [if_pos rfl]
        exact ⟨q, rfl⟩
      · rw [if_neg c]
        exact ⟨q, rfl⟩
theorem frame_ok {l r : List Nat} (h : Sa72.frameOf l = some r) (hb : B1 l) : 2 ≤ r.length ∧ r.length ≤ 1026 ∧ B8 r := by
  unfold Sa72.frameOf at h
  simp only at h
  split at h
  · rename_i c
    have e := Option.some.inj h
    subst e
    rw [List.length_take, bytes_len]
    refine ⟨by omega, by omega, fun x m => bytes_b8 _ _ hb x (List.mem_of_mem_take m)⟩
  · cases h
theorem bit_frame {s : Ls} {g : Sa72.Got} {b : Nat} {r : List Nat} (h : LisRel s g) (e : (Sa72.bit g b).2 = some r) : 2 ≤ r.length ∧ r.length ≤ 1026 ∧ B8 r := by
  have hb : B1 g.bits := by
    cases h with
    | live h1 _ _ => exact h1
    | six h1 _ => exact h1
    | lost => exact B1.nil
    | full _ _ _ => exact B1.nil
  unfold Sa72.bit at e
  split at e
  · split at e
    · cases e
    · split at e
      · cases e
      · split at e
        · cases e
        · cases e
  · split at e
    · have e' : (if g.live = true then Sa72.frameOf (g.bits.take (g.bits.length - 6)) else none) = some r := e
      split at e'
      · exact frame_ok e' fun x m => hb x (List.mem_of_mem_take m)
      · cases e'
    · split at e
      · cases e
      · split at e
        · cases e
        · cases e
end LK
namespace LK
open PySem PySem.Spec PyProof.Rows L2
/-! # What's done with frames -/
section
variable {K : PySem.W.Frag} {L : LA} {H H0 H1 : Hp} {e f la : Addr} {A A0 : EA} {t : S} {n c : Nat} {X : List Addr} {σ : L2.St} {ta tv tw : TE} {D : Ends} {ic : Bool} {load : List Nat}
theorem vf_bit (I : FrO L H f la ic c load) (h : Val ta σ H (.ref f)) : Val (tMeth L.CF "bit" (sp_F_bit K L) [] E0 ta tNil) σ H (.int ((Sa72.pf c : Nat) : Int)) := fun Q q => by
  obtain ⟨dx, ho⟩ := I.obj
  exact h _ ⟨f, dx, _, rfl, ho, fF_m_bit _ _ _, f, la, ic, c, load, rfl, I, q⟩
theorem vf_num (I : FrO L H f la ic c load) (h : Val ta σ H (.ref f)) : Val (tMeth L.CF "own_number" (sp_F_own_number K L) [] E0 ta tNil) σ H (.int ((c / 2 % 8 : Nat) : Int)) := fun Q q => by
  obtain ⟨dx, ho⟩ := I.obj
  exact h _ ⟨f, dx, _, rfl, ho, fF_m_own_number _ _ _, f, la, ic, c, load, rfl, I, q⟩
theorem vf_aw (I : FrO L H f la ic c load) (h : Val ta σ H (.ref f)) : Val (tMeth L.CF "awaited" (sp_F_awaited K L) [] E0 ta tNil) σ H (.int ((Sa72.next c : Nat) : Int)) := fun Q q => by
  obtain ⟨dx, ho⟩ := I.obj
  exact h _ ⟨f, dx, _, rfl, ho, fF_m_awaited _ _ _, f, la, ic, c, load, rfl, I, q⟩
theorem vf_kind (I : FrO L H f la ic c load) (hc : c < 256) (h : Val ta σ H (.ref f)) : Val (tMeth L.CF "kind" (sp_F_kind K L) [] E0 ta tNil) σ H (.int (kindOf c)) := fun Q q => by
  obtain ⟨dx, ho⟩ := I.obj
  exact h _ ⟨f, dx, _, rfl, ho, fF_m_kind _ _ _, f, la, ic, c, load, rfl, I, hc, q⟩
/-- x = frame.fault() -/
theorem s_fault {i : Nat} (I : FrO L H f la ic c load) (hc : c < 256) (h : Val ta σ H (.ref f)) (k : ∀ H1, Same H H1 → D.nx (σ.set i (some (.int ((faultOf ic c load.length : Nat) : Int)))) H1) : tAsg (tMeth L.CF "fault" (sp_F_fault K L) [] E0 ta tNil) (gName i) D σ H := by
  obtain ⟨dx, ho⟩ := I.obj
  exact h _ ⟨f, dx, _, rfl, ho, fF_m_fault _ _ _, f, la, ic, c, load, rfl, I, hc, fun H1 s1 => k H1 s1⟩
theorem FrO.same {H' : Hp} (I : FrO L H f la ic c load) (s : Same H H') : FrO L H' f la ic c load := by
  obtain ⟨dx, ho⟩ := I.obj
  exact ⟨⟨dx, s _ _ ho⟩, s _ _ I.load⟩
/-- a frame's object through what happens to the end -/
theorem Run.fro (J : Run L e A0 X H0 A t n H) (I : FrO L H0 f la ic c load) (hf : f ∉ Own e A0) (hl : la ∉ Own e A0) : FrO L H f la ic c load ∧ f ∉ Own e A ∧ la ∉ Own e A := by
  obtain ⟨dx, ho⟩ := I.obj
  obtain ⟨h1, h2⟩ := J.F.keepRow ho hf
  obtain ⟨h3, h4⟩ := J.F.keepRow I.load hl
  exact ⟨⟨⟨dx, h1⟩, h3⟩, h2, h4⟩
theorem v_can {z : Int} {k : Nat} (I : EndAt L H e A t n) (ha : t.a < 8) (h0 : σ[0]? = some (some (.ref e))) (hv : Val tv σ H (.int z)) (hz : z = (k : Int)) : Val (tMeth L.CE "can_be_answered" (sp_E_can_be_answered K L) [] E0 (tVar 0) (tCons tv tNil)) σ H (.bl (decide ((k + 8 - t.a) % 8 ≤ t.sent.length))) := fun Q q =>
  ⟨_, h0, e, A.dx, _, rfl, I.obj, eF_can_be_answered _, hv _ ⟨e, A, t, n, k, z, rfl, hz, ha, I, q⟩⟩
theorem c_stuck {y : Nat} {z1 z2 z3 : Int} {tx : TE} (J : Run L e A0 X H0 A t n H) (ok : Ok t) (h0 : σ[0]? = some (some (.ref e))) (h1 : Val tv σ H (.int z1)) (h2 : Val tw σ H (.int z2)) (h3 : Val tx σ H (.int z3)) (e1 : z1 = (c : Int)) (e2 : z2 = ((Sa72.pf c : Nat) : Int)) (e3 : z3 = (y : Int)) (hc : c < 256) (hy : y < 256)
    (k : ∀ H1 A1, Run L e A0 X H0 A1 (Sa72.refuse t c y) n H1 → D.nx σ H1) : tDrop (tMeth L.CE "get_stuck" (sp_E_get_stuck K L) [] E0 (tVar 0) (tCons tv (tCons tw (tCons tx tNil)))) D σ H :=
  ⟨_, h0, e, A.dx, _, rfl, J.I.obj, eF_get_stuck _, h1 _ (h2 _ (h3 _ ⟨e, A, t, n, c, y, z1, z2, z3, rfl, ⟨e1, e2, e3⟩, hc, hy, ok.s, ok.r, J.I, J.post k⟩))⟩
theorem c_tell {b : Nat} {z : Int} (J : Run L e A0 X H0 A t n H) (hr : t.r < 8) (h0 : σ[0]? = some (some (.ref e))) (hv : Val tv σ H (.int z)) (hz : z = (b : Int)) (hb : b ≤ 1) (k : ∀ H1 A1, Run L e A0 X H0 A1 (t.answer (Sa72.own t + b * Sa72.PF) []) n H1 → D.nx σ H1) : tDrop (tMeth L.CE "tell_state" (sp_E_tell_state K L) [] E0 (tVar 0) (tCons tv tNil)) D σ H :=
  ⟨_, h0, e, A.dx, _, rfl, J.I.obj, eF_tell_state _, hv _ ⟨e, A, t, n, b, z, rfl, hz, hb, hr, J.I, J.post k⟩⟩
theorem c_again {b : Nat} {z : Int} (J : Run L e A0 X H0 A t n H) (hr : t.r < 8) (h0 : σ[0]? = some (some (.ref e))) (hv : Val tv σ H (.int z)) (hz : z = (b : Int)) (hb : b ≤ 1) (k : ∀ H1 A1, Run L e A0 X H0 A1 (({ t with asked := true } : S).answer (9 + 32 * t.r + b * Sa72.PF) []) n H1 → D.nx σ H1) : tDrop (tMeth L.CE "ask_again" (sp_E_ask_again K L) [] E0 (tVar 0) (tCons tv tNil)) D σ H :=
  ⟨_, h0, e, A.dx, _, rfl, J.I.obj, eF_ask_again _, hv _ ⟨e, A, t, n, b, z, rfl, hz, hb, hr, J.I, J.post k⟩⟩
theorem c_wrong {b : Nat} {z : Int} (J : Run L e A0 X H0 A t n H) (hw : t.wrong.length ≤ 3 ∧ B8 t.wrong) (h0 : σ[0]? = some (some (.ref e))) (hv : Val tv σ H (.int z)) (hz : z = (b : Int)) (hb : b ≤ 1) (k : ∀ H1 A1, Run L e A0 X H0 A1 (t.answer (0x87 + b * Sa72.PF) t.wrong) n H1 → D.nx σ H1) : tDrop (tMeth L.CE "say_wrong" (sp_E_say_wrong K L) [] E0 (tVar 0) (tCons tv tNil)) D σ H :=
  ⟨_, h0, e, A.dx, _, rfl, J.I.obj, eF_say_wrong _, hv _ ⟨e, A, t, n, b, z, rfl, hz, hb, hw, J.I, J.post k⟩⟩
theorem c_goout (J : Run L e A0 X H0 A t n H) (ok : Ok t) (h0 : σ[0]? = some (some (.ref e))) (k : ∀ H1 A1, Run L e A0 X H0 A1 (Sa72.onward t n) n H1 → D.nx σ H1) : tDrop (tMeth L.CE "go_out" (sp_E_go_out K L) [] E0 (tVar 0) tNil) D σ H :=
  ⟨_, h0, e, A.dx, _, rfl, J.I.obj, eF_go_out _, e, A, t, n, rfl, J.I, ok, J.post k⟩
theorem stage_is {g : Sa72.Stage} {z : Int} (h : z = ((Sa72.stageNumber g : Nat) : Int)) : decide (((Sa72.stageNumber t.stage : Nat) : Int) = z) = decide (t.stage = g) := by
  rw [h]
  exact stage_int t.stage g
theorem v_stage {g : Sa72.Stage} {z : Int} (I : EndAt L H e A t n) (T : Tx K L) (h0 : σ[0]? = some (some (.ref e))) (h : z = ((Sa72.stageNumber g : Nat) : Int)) : Val (tOp rEq (tFld K (tVar 0) "stage") (tC (.int z))) σ H (.bl (decide (t.stage = g))) :=
  v_is (v_eq (ef_stage I T (val_var h0)) val_c) (congrArg V.bl (stage_is h))
theorem v_stageN {g : Sa72.Stage} {z : Int} (I : EndAt L H e A t n) (T : Tx K L) (h0 : σ[0]? = some (some (.ref e))) (h : z = ((Sa72.stageNumber g : Nat) : Int)) : Val (tOp rNe (tFld K (tVar 0) "stage") (tC (.int z))) σ H (.bl (!decide (t.stage = g))) :=
  v_is (v_ne (ef_stage I T (val_var h0)) val_c) (congrArg V.bl (congrArg (!·) (stage_is h)))
/-- if not hear_awaited(end, frame): .. -/
theorem s_awaited {u1 u2 : TS} (J : Run L e A0 X H0 A t n H) (I : FrO L H f la ic c load) (hf : f ∉ Own e A) (hl : la ∉ Own e A) (hc : c < 256) (ok : Ok t) (h0 : σ[0]? = some (some (.ref e))) (h1 : σ[1]? = some (some (.ref f)))
    (k0 : Sa72.answered t (Sa72.next c) n = none → ∀ H1 A1, Run L e A0 X H0 A1 (Sa72.refuse t c 8) n H1 → u1 D σ H1) (k1 : ∀ t', Sa72.answered t (Sa72.next c) n = some t' → ∀ H1 A1, Run L e A0 X H0 A1 t' n H1 → u2 D σ H1) :
    tIfS (tNot (tB (tCall (sp_d_hear_awaited K L) [] E0 (tCons (tVar 0) (tCons (tVar 1) tNil))))) u1 u2 D σ H :=
  ⟨_, h0, _, h1, e, f, la, A, t, n, c, ic, load, rfl, I, hf, hl, hc, ok, J.I, fun hn => J.post fun H1 A1 J1 => ⟨false, rfl, iteT (k0 hn H1 A1 J1)⟩, fun t' ht => J.post fun H1 A1 J1 => ⟨true, rfl, iteF (k1 t' ht H1 A1 J1)⟩⟩
end
theorem pf_le (c : Nat) : Sa72.pf c ≤ 1 := by
  unfold Sa72.pf
  omega
theorem next_lt {c : Nat} (h : c < 256) : Sa72.next c < 8 := by
  unfold Sa72.next
  omega
theorem pure_d_hear_hello {K : PySem.W.Frag} {L : LA} (T : Tx K L) {vs : List V} {H : Hp} {Q : VK} {E : XK} (h : sp_d_hear_hello K L vs H Q E) : t_d_hear_hello K L { nx := fun _ H' => Q .non H', rt := Q } (start N_d_hear_hello vs) H := by
  obtain ⟨e, A, t, n, b, z, rfl, rfl, hb, I, k⟩ := h
  unfold mHello at k
  refine s_if (t_of (v_stage (g := .ending) I T rfl rfl)) (fun q => ?_) (fun q => ?_)
  · rw [if_pos (of_decide_eq_true q)] at k
    exact c_ans (c := 0x0F + b * Sa72.PF) I.run rfl (v_add val_c (v_mul val_c (val_var rfl) (by decide))) (by unfold Sa72.PF; omega) (by unfold Sa72.PF; omega) fun H1 A1 J1 => k _ _ J1.I J1.F
  · rw [if_neg (of_decide_eq_false q)] at k
    refine c_ans (c := 0x63 + b * Sa72.PF) I.run rfl (v_add val_c (v_mul val_c (val_var rfl) (by decide))) (by unfold Sa72.PF; omega) (by unfold Sa72.PF; omega) fun H1 A1 J1 => ?_
    refine c_up J1 rfl fun H2 A2 J2 => k _ _ (J2.eq ?_).I J2.F
    rw [answer_bits, answer_bits] <;> rfl
theorem pure_d_hear_finish {K : PySem.W.Frag} {L : LA} (T : Tx K L) {vs : List V} {H : Hp} {Q : VK} {E : XK} (h : sp_d_hear_finish K L vs H Q E) : t_d_hear_finish K L { nx := fun _ H' => Q .non H', rt := Q } (start N_d_hear_finish vs) H := by
  obtain ⟨e, A, t, n, b, z, rfl, rfl, hb, I, k⟩ := h
  unfold mFinish at k
  refine s_if (t_or (t_of (v_stage (g := .up) I T rfl rfl)) fun _ => t_of (v_stage (g := .stuck) I T rfl rfl)) (fun q => ?_) (fun q => ?_)
  · rw [Bool.or_eq_true, decide_eq_true_eq, decide_eq_true_eq] at q
    rw [if_pos q] at k
    refine c_ans (c := 0x63 + b * Sa72.PF) I.run rfl (v_add val_c (v_mul val_c (val_var rfl) (by decide))) (by unfold Sa72.PF; omega) (by unfold Sa72.PF; omega) fun H1 A1 J1 => ?_
    refine c_down J1 rfl fun H2 A2 J2 => k _ _ (J2.eq ?_).I J2.F
    rw [answer_bits, answer_bits] <;> rfl
  · rw [Bool.or_eq_false_iff, decide_eq_false_iff_not, decide_eq_false_iff_not] at q
    rw [if_neg (fun z => z.elim q.1 q.2)] at k
    refine c_ans (c := 0x0F + b * Sa72.PF) I.run rfl (v_add val_c (v_mul val_c (val_var rfl) (by decide))) (by unfold Sa72.PF; omega) (by unfold Sa72.PF; omega) fun H1 A1 J1 => ?_
    have es : (t.answer (0x0F + b * Sa72.PF) []).stage = t.stage := by
      rw [answer_bits] <;> rfl
    refine s_if (t_of (v_stage (g := .greeting) J1.I T rfl rfl)) (fun q2 => ?_) (fun q2 => ?_)
    · rw [decide_eq_true_eq, es] at q2
      rw [if_pos q2] at k
      refine c_down J1 rfl fun H2 A2 J2 => k _ _ (J2.eq ?_).I J2.F
      rw [answer_bits, answer_bits] <;> rfl
    · rw [decide_eq_false_iff_not, es] at q2
      rw [if_neg q2] at k
      exact k _ _ J1.I J1.F
theorem pure_d_hear_yes {K : PySem.W.Frag} {L : LA} (T : Tx K L) {vs : List V} {H : Hp} {Q : VK} {E : XK} (h : sp_d_hear_yes K L vs H Q E) : t_d_hear_yes K L { nx := fun _ H' => Q .non H', rt := Q } (start N_d_hear_yes vs) H := by
  obtain ⟨e, A, t, n, rfl, I, k⟩ := h
  unfold mYes at k
  refine s_if (t_of (v_stage (g := .greeting) I T rfl rfl)) (fun q => ?_) (fun q => ?_)
  · rw [if_pos (of_decide_eq_true q)] at k
    exact c_up I.run rfl fun H1 A1 J1 => k _ _ J1.I J1.F
  · rw [if_neg (of_decide_eq_false q)] at k
    refine s_if (t_of (v_stage (g := .ending) I T rfl rfl)) (fun q2 => ?_) (fun q2 => ?_)
    · rw [if_pos (of_decide_eq_true q2)] at k
      exact c_down I.run rfl fun H1 A1 J1 => k _ _ J1.I J1.F
    · rw [if_neg (of_decide_eq_false q2)] at k
      exact k _ _ I (Fr.refl _ _ _ _)
theorem answered_none {t : S} {k n : Nat} : Sa72.answered t k n = none ↔ t.sent.length < (k + 8 - t.a) % 8 := by
  unfold Sa72.answered
  simp only
  split
  · rename_i h
    exact ⟨fun _ => h, fun _ => rfl⟩
  · rename_i h
    split
    · exact ⟨fun z => (by cases z), fun z => absurd z h⟩
    · exact ⟨fun z => (by cases z), fun z => absurd z h⟩
theorem pure_d_hear_awaited {K : PySem.W.Frag} {L : LA} (T : Tx K L) {vs : List V} {H : Hp} {Q : VK} {E : XK} (h : sp_d_hear_awaited K L vs H Q E) : t_d_hear_awaited K L { nx := fun _ H' => Q .non H', rt := Q } (start N_d_hear_awaited vs) H := by
  obtain ⟨e, f, la, A, t, n, c, ic, load, rfl, IF, hf, hl, hc, ok, I, k0, k1⟩ := h
  refine s_if (t_not (t_val (v_can (k := Sa72.next c) I ok.a rfl (vf_aw IF (val_var rfl)) rfl))) (fun q => ?_) (fun q => ?_)
  · rw [Bool.not_eq_true', decide_eq_false_iff_not] at q
    have hn : Sa72.answered t (Sa72.next c) n = none := answered_none.mpr (by omega)
    refine c_stuck (c := c) (y := 8) I.run ok rfl (ff_control IF T (val_var rfl)) (vf_bit IF (val_var rfl)) val_c rfl rfl rfl hc (by decide) fun H1 A1 J1 => ?_
    exact k0 hn _ _ J1.I J1.F
  · rw [Bool.not_eq_false', decide_eq_true_eq] at q
    cases ha : Sa72.answered t (Sa72.next c) n with
    | none =>
      have := answered_none.mp ha
      omega
    | some t' =>
      refine ⟨_, rfl, e, A.dx, _, rfl, I.obj, eF_answered_up_to _, ?_⟩
      refine (vf_aw IF (val_var rfl)) _ ?_
      refine ⟨e, A, t, t', n, Sa72.next c, _, rfl, rfl, next_lt hc, ok.a, ok.s, by have := ok.sent; omega, ha, I, I.run.post fun H1 A1 J1 => ?_⟩
      exact k1 t' ha _ _ J1.I J1.F
end LK
namespace LK
open PySem PySem.Spec PyProof.Rows L2
theorem Run.busyAny {L : LA} {e : Addr} {A A0 : EA} {X : List Addr} {H H0 : Hp} {t : S} {n : Nat} (J : Run L e A0 X H0 A t n H) (h : t.stage ≠ .up) (b : Bool) : Run L e A0 X H0 A (sBusy t b) n H :=
  ⟨⟨J.I.obj, J.I.sent, J.I.unsent, J.I.come, J.I.wrong, J.I.lis, J.I.wai, J.I.rs, J.I.ru, J.I.rc, J.I.nd, J.I.im, J.I.lr, fun q => absurd q h, J.I.nn⟩, J.F⟩
theorem refuse_bits (t : S) (c y : Nat) : Sa72.refuse t c y = sBits (sWrong (sSent (sClk (sStage t .stuck) none) []) [c, 32 * t.r + 2 * t.s, y]) (putBits t.out ((if t.side = 0 then 3 else 1) :: (0x87 + c / 16 % 2 * Sa72.PF) :: [c, 32 * t.r + 2 * t.s, y])) := by
  unfold Sa72.refuse
  simp only
  rw [answer_bits] <;> rfl
theorem refuse_stage (t : S) (c y : Nat) : (Sa72.refuse t c y).stage ≠ .up := by
  rw [refuse_bits]
  intro z
  cases z
theorem pure_d_hear_numbered {K : PySem.W.Frag} {L : LA} (T : Tx K L) {vs : List V} {H : Hp} {Q : VK} {E : XK} (h : sp_d_hear_numbered K L vs H Q E) : t_d_hear_numbered K L { nx := fun _ H' => Q .non H', rt := Q } (start N_d_hear_numbered vs) H := by
  obtain ⟨e, f, la, A, t, n, c, ic, load, rfl, IF, hf, hl, hc, ok, I, k⟩ := h
  unfold mNumbered at k
  refine s_awaited (I.runX [la]) IF hf hl hc ok rfl rfl (fun hn H1 A1 J1 => ?_) (fun v hv H1 A1 J1 => ?_)
  · rw [hn] at k
    exact k _ _ J1.I J1.F
  · rw [hv] at k
    simp only at k
    obtain ⟨okv, _⟩ := ok.answered (next_lt hc) hv
    obtain ⟨IF1, hf1, hl1⟩ := J1.fro IF hf hl
    have hr := okv.r
    have hi := okv.inbox.1
    refine s_asg (vf_bit IF1 (val_var rfl)) ?_
    refine s_if (t_and (t_of (v_eq (vf_num IF1 (val_var rfl)) (ef_r J1.I T (val_var rfl)))) fun _ => t_of (v_lt (v_len (ef_come J1.I T (val_var rfl)) J1.I.come) val_c)) (fun q => ?_) (fun q => ?_)
    · rw [Bool.and_eq_true, decide_eq_true_eq, decide_eq_true_eq, lenR, lenC J1.I] at q
      rw [if_pos (by omega), if_pos (by omega)] at k
      refine s_app (ef_come J1.I T (val_var rfl)) J1.I.come (ff_load IF1 T (val_var rfl)) (by rw [lenR, lenC J1.I]; exact szl (by omega)) ?_
      have N := nes_iff.mp J1.I.nd
      have J2 : Run L e A [la] H { A1 with sm := A1.sm, um := A1.um, cm := A1.cm ++ [la] } (sMsgs v v.sent v.waits (v.inbox ++ [load])) n (upd H1 A1.come (.lst (A1.cm.map V.ref ++ [.ref la]))) := by
        refine J1.newMsgs ?_ ?_ ?_ J1.I.rs J1.I.ru (J1.I.rc.app (.cons IF1.load .nil)) (fun p hp => ?_) ((KeepBut.refl _ _).at (by simp))
        · rw [upd_ne N.sc]
          exact J1.I.sent
        · rw [upd_ne N.uc]
          exact J1.I.unsent
        · rw [upd_same, List.map_append] <;> rfl
        · have hp' : p ∈ A1.sm ∨ p ∈ A1.um ∨ p ∈ A1.cm ∨ p = la := by simpa using hp
          rcases hp' with hp | hp | hp | hp
          · exact .inl (imm_s _ hp)
          · exact .inl (imm_u _ hp)
          · exact .inl (imm_c _ hp)
          · exact .inr ⟨by rw [hp]; exact mem1, by rw [hp]; exact hl1⟩
      generalize upd H1 A1.come (.lst (A1.cm.map V.ref ++ [.ref la])) = H2 at J2
      refine w_r (m := (v.r + 1) % 8) J2 T (v_mod (v_add (ef_r J2.I T (val_var rfl)) val_c) val_c (by decide)) (by show (((v.r : Nat) : Int) + 1) % 8 = _; omega) (val_var rfl) fun H3 J3 => ?_
      refine w_asked J3 T val_c (val_var rfl) fun H4 J4 => ?_
      refine c_tell (b := Sa72.pf c) J4 (by show (v.r + 1) % 8 < 8; omega) rfl (val_var rfl) rfl (pf_le c) fun H5 A5 J5 => ?_
      exact k _ _ (J5.eq rfl).I J5.F
    · refine s_if (t_of (v_eq (vf_num IF1 (val_var rfl)) (ef_r J1.I T (val_var rfl)))) (fun q2 => ?_) (fun q2 => ?_)
      · rw [decide_eq_true_eq] at q2
        rw [Bool.and_eq_false_iff, decide_eq_false_iff_not, decide_eq_false_iff_not, lenR, lenC J1.I] at q
        rw [if_pos (by omega), if_neg (by omega)] at k
        refine c_ans (c := 5 + 32 * v.r + Sa72.pf c * Sa72.PF) J1 rfl (v_sctl val_c (val_var rfl) (ef_r J1.I T (val_var rfl))) (by unfold Sa72.PF; omega) (by have := pf_le c; unfold Sa72.PF; omega) fun H2 A2 J2 => k _ _ J2.I J2.F
      · rw [decide_eq_false_iff_not] at q2
        rw [if_neg (by omega)] at k
        refine s_if (t_not (t_val (ef_asked_again J1.I T (val_var rfl)))) (fun q3 => ?_) (fun q3 => ?_)
        · rw [Bool.not_eq_true'] at q3
          rw [if_pos q3] at k
          exact c_again (b := Sa72.pf c) J1 hr rfl (val_var rfl) rfl (pf_le c) fun H2 A2 J2 => k _ _ J2.I J2.F
        · rw [Bool.not_eq_false'] at q3
          rw [if_neg (by rw [q3]; decide)] at k
          refine s_if (t_of (v_eq (val_var rfl) val_c)) (fun q4 => ?_) (fun q4 => ?_)
          · rw [decide_eq_true_eq] at q4
            rw [if_pos (by omega)] at k
            refine c_tell (b := 1) J1 hr rfl val_c rfl (by decide) fun H2 A2 J2 => k _ _ (J2.eq ?_).I J2.F
            rw [Nat.one_mul]
          · rw [decide_eq_false_iff_not] at q4
            rw [if_neg (by omega)] at k
            exact k _ _ J1.I J1.F
theorem kind_super {c : Nat} (h : c % 16 = 1 ∨ c % 16 = 5 ∨ c % 16 = 9) : kindOf c = ((c % 16 : Nat) : Int) := by
  unfold kindOf
  rw [if_neg (by omega), if_pos h]
theorem pure_d_hear_state {K : PySem.W.Frag} {L : LA} (T : Tx K L) {vs : List V} {H : Hp} {Q : VK} {E : XK} (h : sp_d_hear_state K L vs H Q E) : t_d_hear_state K L { nx := fun _ H' => Q .non H', rt := Q } (start N_d_hear_state vs) H := by
  obtain ⟨e, f, la, A, t, n, c, ic, load, rfl, IF, hf, hl, hc, ok, hup, hsup, I, k⟩ := h
  have hk := kind_super hsup
  have hb5 : decide (kindOf c = 5) = (c % 16 == 5) := by
    rw [hk, Bool.beq_eq_decide_eq]
    exact decide_eq_decide.mpr (by omega)
  refine w_busy (b := c % 16 == 5) I.run T (v_is (v_eq (vf_kind IF hc (val_var rfl)) val_c) (congrArg V.bl hb5)) (val_var rfl) fun H1 J1 => ?_
  obtain ⟨IF1, hf1, hl1⟩ := J1.fro IF hf hl
  have ok1 : Ok (sBusy t (c % 16 == 5)) := ok.busy _
  unfold mState Sa72.supervised at k
  refine s_awaited J1 IF1 hf1 hl1 hc ok1 rfl rfl (fun hn H2 A2 J2 => ?_) (fun v hv H2 A2 J2 => ?_)
  · have hn' : Sa72.answered { t with busy := c % 16 == 5 } (Sa72.next c) n = none := hn
    rw [hn'] at k
    have J3 := J2.busyAny (refuse_stage _ _ _) (Sa72.refuse t c 8).busy
    refine k _ _ (J3.eq ?_).I J3.F
    rw [refuse_bits, refuse_bits] <;> rfl
  · have hv' : Sa72.answered { t with busy := c % 16 == 5 } (Sa72.next c) n = some v := hv
    rw [hv'] at k
    simp only at k
    obtain ⟨okv, hva, hvs, _⟩ := ok1.answered (next_lt hc) hv
    obtain ⟨IF2, hf2, hl2⟩ := J2.fro IF hf hl
    have hnx := next_lt hc
    refine s_asg (v_andV (v_notV (ff_is_command IF2 T (val_var rfl))) fun _ => v_eq (vf_bit IF2 (val_var rfl)) val_c) ?_
    have h9 : decide (kindOf c = 9) = decide (c % 16 = 9) := by
      rw [hk]
      exact decide_eq_decide.mpr (by omega)
    have h1 : decide (((Sa72.pf c : Nat) : Int) = 1) = decide (Sa72.pf c = 1) := decide_eq_decide.mpr (by omega)
    rw [h1]
    -- behind the if that moves s
    have fin : ∀ (w : S) (H3 : Hp) (A3 : EA), Run L e A [] H A3 w n H3 → w = (if c % 16 = 9 ∨ (ic = false ∧ Sa72.pf c = 1 ∧ v.polls = true) then Sa72.fromThere v c else v) →
        (tSeq (tIfS (tB (tVar 2)) (sFld K (tVar 0) (tC (.bl false)) "polls") tNext)
          (tIfS (tAnd (tB (tFld K (tVar 1) "is_command")) (tTest (tOp rEq (tMeth L.CF "bit" (sp_F_bit K L) [] E0 (tVar 1) tNil) (tC (.int (1)))))) (tDrop (tMeth L.CE "tell_state" (sp_E_tell_state K L) [] E0 (tVar 0) (tCons (tC (.int (1))) tNil))) tNext))
          { nx := fun _ H' => Q .non H', rt := Q } [some (.ref e), some (.ref f), some (.bl (!ic && decide (Sa72.pf c = 1)))] H3 := by
      intro w H3 A3 J3 e3
      obtain ⟨IF3, hf3, hl3⟩ := J3.fro IF hf hl
      have hwr : w.r < 8 := by
        rw [e3]
        split <;> exact okv.r
      cases ic with
      | true =>
        rw [if_pos rfl] at k
        refine s_if (t_val (val_var rfl)) (fun q => by cases q) (fun _ => ?_)
        have ew : w = (if c % 16 = 9 then Sa72.fromThere v c else v) := by
          rw [e3]
          by_cases q : c % 16 = 9
          · rw [if_pos (.inl q), if_pos q]
          · rw [if_neg (by rintro (z | z); exact q z; cases z.1), if_neg q]
        rw [← ew] at k
        refine s_if (t_and (t_val (ff_is_command IF3 T (val_var rfl))) fun _ => t_is (t_of (v_eq (vf_bit IF3 (val_var rfl)) val_c)) h1) (fun q => ?_) (fun q => ?_)
        · rw [Bool.true_and, decide_eq_true_eq] at q
          rw [if_pos q] at k
          refine c_tell (b := 1) J3 hwr rfl val_c rfl (by decide) fun H4 A4 J4 => k _ _ (J4.eq ?_).I J4.F
          rw [Nat.one_mul]
        · rw [Bool.true_and, decide_eq_false_iff_not] at q
          rw [if_neg q] at k
          exact k _ _ J3.I J3.F
      | false =>
        rw [if_neg Bool.false_ne_true] at k
        have ew : w = (if c % 16 = 9 ∨ (Sa72.pf c = 1 ∧ v.polls = true) then Sa72.fromThere v c else v) := by
          rw [e3]
          by_cases q : c % 16 = 9 ∨ (Sa72.pf c = 1 ∧ v.polls = true)
          · rw [if_pos q, if_pos (q.imp id fun z => ⟨rfl, z⟩)]
          · rw [if_neg q, if_neg (fun z => q (z.imp id fun y => y.2))]
        rw [← ew] at k
        refine s_if (t_val (val_var rfl)) (fun q => ?_) (fun q => ?_)
        · have q' : Sa72.pf c = 1 := of_decide_eq_true q
          rw [if_pos q'] at k
          refine w_polls J3 T val_c (val_var rfl) fun H4 J4 => ?_
          obtain ⟨IF4, _, _⟩ := J4.fro IF hf hl
          refine s_if (t_and (y := false) (t_val (ff_is_command IF4 T (val_var rfl))) fun z => by cases z) (fun q => by cases q) (fun _ => ?_)
          exact k _ _ J4.I J4.F
        · have q' : ¬ Sa72.pf c = 1 := of_decide_eq_false q
          rw [if_neg q'] at k
          refine s_if (t_and (y := false) (t_val (ff_is_command IF3 T (val_var rfl))) fun z => by cases z) (fun q => by cases q) (fun _ => ?_)
          exact k _ _ J3.I J3.F
    refine s_if (t_or (t_is (t_of (v_eq (vf_kind IF2 hc (val_var rfl)) val_c)) h9) fun _ => t_and (t_val (val_var rfl)) fun _ => t_val (ef_polls J2.I T (val_var rfl))) (fun q => ?_) (fun q => ?_)
    · have q' : c % 16 = 9 ∨ (ic = false ∧ Sa72.pf c = 1 ∧ v.polls = true) := by
        simpa [and_assoc] using q
      refine w_s (m := Sa72.next c) J2 T (vf_aw IF2 (val_var rfl)) rfl (val_var rfl) fun H3 J3 => ?_
      refine fin _ _ _ J3 ?_
      rw [if_pos q'] <;> rfl
    · have q' : ¬ (c % 16 = 9 ∨ (ic = false ∧ Sa72.pf c = 1 ∧ v.polls = true)) := by
        intro z
        have : (decide (c % 16 = 9) || ((!ic && decide (Sa72.pf c = 1)) && v.polls)) = true := by
          simpa [and_assoc] using z
        rw [this] at q
        cases q
      refine fin _ _ _ J2 ?_
      rw [if_neg q']
end LK
namespace LK
open PySem PySem.Spec PyProof.Rows L2
/-! # What a frame is -/
theorem kind_cases (c : Nat) : (c % 2 = 0 ∧ kindOf c = 0) ∨ ((c % 16 = 1 ∨ c % 16 = 5 ∨ c % 16 = 9) ∧ kindOf c = ((c % 16 : Nat) : Int)) ∨
    (c % 2 = 1 ∧ ¬ (c % 16 = 1 ∨ c % 16 = 5 ∨ c % 16 = 9) ∧ (Sa72.plainOf c = 47 ∨ Sa72.plainOf c = 67 ∨ Sa72.plainOf c = 99 ∨ Sa72.plainOf c = 15 ∨ Sa72.plainOf c = 135) ∧ kindOf c = ((Sa72.plainOf c : Nat) : Int)) ∨
    (c % 2 = 1 ∧ ¬ (c % 16 = 1 ∨ c % 16 = 5 ∨ c % 16 = 9) ∧ ¬ (Sa72.plainOf c = 47 ∨ Sa72.plainOf c = 67 ∨ Sa72.plainOf c = 99 ∨ Sa72.plainOf c = 15 ∨ Sa72.plainOf c = 135) ∧ kindOf c = -1) := by
  have hp : Sa72.plainOf c = c - c / 16 % 2 * 16 := rfl
  unfold kindOf
  rw [hp]
  by_cases a : c % 2 = 0
  · exact .inl ⟨a, if_pos a⟩
  · rw [if_neg a]
    by_cases b : c % 16 = 1 ∨ c % 16 = 5 ∨ c % 16 = 9
    · exact .inr (.inl ⟨b, if_pos b⟩)
    · rw [if_neg b]
      by_cases d : c - c / 16 % 2 * 16 = 47 ∨ c - c / 16 % 2 * 16 = 67 ∨ c - c / 16 % 2 * 16 = 99 ∨ c - c / 16 % 2 * 16 = 15 ∨ c - c / 16 % 2 * 16 = 135
      · exact .inr (.inr (.inl ⟨by omega, b, d, if_pos d⟩))
      · exact .inr (.inr (.inr ⟨by omega, b, d, if_neg d⟩))
theorem plain_16 (c : Nat) : Sa72.plainOf c % 16 = c % 16 := by
  unfold Sa72.plainOf Sa72.pf Sa72.PF
  omega
theorem numbered_iff (c : Nat) : Sa72.numbered c = decide (c % 2 = 0) := by
  unfold Sa72.numbered
  exact Bool.beq_eq_decide_eq _ _
theorem super_iff (c : Nat) : Sa72.super c = decide (c % 16 = 1 ∨ c % 16 = 5 ∨ c % 16 = 9) := by
  unfold Sa72.super
  rw [Bool.beq_eq_decide_eq, Bool.beq_eq_decide_eq, Bool.beq_eq_decide_eq, ← Bool.decide_or, ← Bool.decide_or]
theorem fault_of {ic : Bool} {c n : Nat} {z : Int} (hz : kindOf c = z) : faultOf ic c n = if ((ic && !isCmdKind z) || (!ic && !isAnsKind z)) = true then 1 else if z = 0 ∧ 1024 < n then 4 else if (n : Int) ≠ (if z = 0 then (if (n : Int) > 1 then (n : Int) else 1) else if z = 135 then 3 else 0) then 3 else 0 := by
  unfold faultOf
  rw [hz]
theorem fault_le (ic : Bool) (c n : Nat) : faultOf ic c n < 256 := by
  unfold faultOf
  repeat' split
  all_goals decide
theorem nil_iff {l : List Nat} : l = [] ↔ l.length = 0 := List.length_eq_zero_iff.symm
/-- a command, as the program goes through it -/
def mCommand (t : S) (c : Nat) (b : List Nat) (now : Nat) : S :=
  if faultOf true c b.length = 0 ∧ kindOf c = 47 then mHello t (Sa72.pf c)
  else if faultOf true c b.length = 0 ∧ kindOf c = 67 then mFinish t (Sa72.pf c)
  else if t.stage = .stuck then (if Sa72.pf c = 1 then t.answer (0x87 + Sa72.PF) t.wrong else t)
  else if t.stage ≠ .up then (if Sa72.pf c = 1 then t.answer (0x0F + Sa72.PF) [] else t)
  else if faultOf true c b.length ≠ 0 then Sa72.refuse t c (faultOf true c b.length)
  else if kindOf c = 0 then mNumbered t c b now else mState true t c now
theorem cmd_tree {α : Type} {u n F : Nat} {k : Int} {p q N W : Prop} [Decidable p] [Decidable q] [Decidable N] [Decidable W] {x1 x2 x3 x4 xn xs : α} {R : Nat → α}
    (h : (N ∧ ¬ W ∧ u ≠ 47 ∧ u ≠ 67 ∧ k = 0 ∧ (1024 < n → F = 4) ∧ (n = 0 → F = 3) ∧ (n ≠ 0 → ¬ 1024 < n → F = 0)) ∨ (¬ N ∧ W ∧ u ≠ 47 ∧ u ≠ 67 ∧ (k = 1 ∨ k = 5 ∨ k = 9) ∧ (n = 0 → F = 0) ∧ (n ≠ 0 → F = 3)) ∨
      (¬ N ∧ ¬ W ∧ (u = 47 ∨ u = 67) ∧ k = u ∧ (n = 0 → F = 0) ∧ (n ≠ 0 → F = 3)) ∨ (¬ N ∧ ¬ W ∧ u ≠ 47 ∧ u ≠ 67 ∧ F = 1)) :
    (if u = 47 ∧ n = 0 then x1 else if u = 67 ∧ n = 0 then x2 else if p then x3 else if q then x4 else if N then (if n = 0 then R 3 else if 1024 < n then R 4 else xn) else if W then (if ¬ n = 0 then R 3 else xs) else R (if u = 47 ∨ u = 67 then 3 else 1)) =
    (if F = 0 ∧ k = 47 then x1 else if F = 0 ∧ k = 67 then x2 else if p then x3 else if q then x4 else if ¬ F = 0 then R F else if k = 0 then xn else xs) := by
  rcases h with ⟨hN, hW, h1, h2, h3, h4, h5, h6⟩ | ⟨hN, hW, h1, h2, h3, h4, h5⟩ | ⟨hN, hW, h1, h2, h3, h4⟩ | ⟨hN, hW, h1, h2, h3⟩
  · rw [if_pos hN]
    repeat' split
    all_goals first | rfl | (exfalso; omega) | exact congrArg R (by omega)
  · rw [if_neg hN, if_pos hW]
    repeat' split
    all_goals first | rfl | (exfalso; omega) | exact congrArg R (by omega)
  · rw [if_neg hN, if_neg hW]
    repeat' split
    all_goals first | rfl | (exfalso; omega) | exact congrArg R (by omega)
  · rw [if_neg hN, if_neg hW]
    repeat' split
    all_goals first | rfl | (exfalso; omega) | exact congrArg R (by omega)
theorem ans_tree {α : Type} {u n F : Nat} {k : Int} {p W : Prop} [Decidable p] [Decidable W] {x1 x2 x g xs : α} {R : Nat → α}
    (h : (¬ W ∧ u ≠ 99 ∧ u ≠ 15 ∧ u ≠ 135 ∧ F = 1) ∨ (W ∧ u ≠ 99 ∧ u ≠ 15 ∧ u ≠ 135 ∧ (k = 1 ∨ k = 5 ∨ k = 9) ∧ (n = 0 → F = 0) ∧ (n ≠ 0 → F = 3)) ∨
      (¬ W ∧ (u = 99 ∨ u = 15) ∧ k = u ∧ (n = 0 → F = 0) ∧ (n ≠ 0 → F = 3)) ∨ (¬ W ∧ u = 135 ∧ k = u ∧ (n = 3 → F = 0) ∧ (n ≠ 3 → F = 3))) :
    (if u = 99 ∧ n = 0 then x1 else if u = 15 ∧ n = 0 then x2 else if u = 135 ∧ n = 3 then (if p then g else x) else if ¬ p then x else if W then (if ¬ n = 0 then R 3 else xs) else R (if u = 99 ∨ u = 15 ∨ u = 135 then 3 else 1)) =
    (if ¬ F = 0 then (if p then R F else x) else if k = 99 then x1 else if k = 15 then x2 else if p ∧ k = 135 then g else if p ∧ W then xs else x) := by
  by_cases hp : p
  · simp only [hp, not_true, true_and, if_true, if_false]
    rcases h with ⟨hW, h1, h2, h3, h4⟩ | ⟨hW, h1, h2, h3, h4, h5, h6⟩ | ⟨hW, h1, h2, h3, h4⟩ | ⟨hW, h1, h2, h3, h4⟩
    · rw [if_neg hW, if_neg hW]
      repeat' split
      all_goals first | rfl | (exfalso; omega) | exact congrArg R (by omega)
    · rw [if_pos hW, if_pos hW]
      repeat' split
      all_goals first | rfl | (exfalso; omega) | exact congrArg R (by omega)
    · rw [if_neg hW, if_neg hW]
      repeat' split
      all_goals first | rfl | (exfalso; omega) | exact congrArg R (by omega)
    · rw [if_neg hW, if_neg hW]
      repeat' split
      all_goals first | rfl | (exfalso; omega) | exact congrArg R (by omega)
  · simp only [hp, not_false_eq_true, false_and, if_true, if_false]
    rcases h with ⟨hW, h1, h2, h3, h4⟩ | ⟨hW, h1, h2, h3, h4, h5, h6⟩ | ⟨hW, h1, h2, h3, h4⟩ | ⟨hW, h1, h2, h3, h4⟩
    all_goals
      repeat' split
      all_goals first | rfl | (exfalso; omega)
theorem fault_num {ic : Bool} {c n : Nat} (hk : kindOf c = 0) : (ic = true → ((1024 < n → faultOf ic c n = 4) ∧ (n = 0 → faultOf ic c n = 3) ∧ (n ≠ 0 → ¬ 1024 < n → faultOf ic c n = 0))) ∧ (ic = false → faultOf ic c n = 1) := by
  rw [fault_of hk]
  refine ⟨fun q => ?_, fun q => ?_⟩
  · subst q
    have e : ((true && !isCmdKind 0) || (!true && !isAnsKind 0)) = false := by decide
    rw [e, if_neg Bool.false_ne_true]
    refine ⟨fun h => if_pos ⟨rfl, h⟩, fun h => ?_, fun h h2 => ?_⟩
    · rw [if_neg (fun z => by omega), if_pos rfl, if_pos]
      rw [if_neg (by omega)]
      omega
    · rw [if_neg (fun z => h2 z.2), if_pos rfl, if_neg]
      by_cases q : (n : Int) > 1
      · rw [if_pos q]
        exact fun z => z rfl
      · rw [if_neg q]
        omega
  · subst q
    have e : ((false && !isCmdKind 0) || (!false && !isAnsKind 0)) = true := by decide
    rw [e, if_pos rfl]
theorem fault_zero {ic : Bool} {c n : Nat} {z : Int} (hk : kindOf c = z) (h0 : z ≠ 0) (h135 : z ≠ 135) (hg : ((ic && !isCmdKind z) || (!ic && !isAnsKind z)) = false) : (n = 0 → faultOf ic c n = 0) ∧ (n ≠ 0 → faultOf ic c n = 3) := by
  rw [fault_of hk, hg, if_neg Bool.false_ne_true, if_neg (fun q => h0 q.1), if_neg h0, if_neg h135]
  refine ⟨fun h => if_neg ?_, fun h => if_pos ?_⟩
  · rw [h]
    exact fun q => q rfl
  · omega
theorem fault_bad {ic : Bool} {c n : Nat} {z : Int} (hk : kindOf c = z) (hg : ((ic && !isCmdKind z) || (!ic && !isAnsKind z)) = true) : faultOf ic c n = 1 := by
  rw [fault_of hk, if_pos hg]
theorem commanded_is (t : S) (c : Nat) (b : List Nat) (now : Nat) : Sa72.commanded t c b now = mCommand t c b now := by
  have p16 := plain_16 c
  unfold Sa72.commanded mCommand
  simp only [nil_iff, ne_eq]
  rw [numbered_iff, super_iff]
  simp only [decide_eq_true_eq]
  refine cmd_tree (xn := mNumbered t c b now) (xs := mState true t c now) (R := Sa72.refuse t c) (k := kindOf c) (F := faultOf true c b.length) ?_
  generalize b.length = n
  rcases kind_cases c with ⟨h1, hk⟩ | ⟨h1, hk⟩ | ⟨h0, h1, h2, hk⟩ | ⟨h0, h1, h2, hk⟩
  · obtain ⟨a1, a2, a3⟩ := (fault_num (ic := true) (n := n) hk).1 rfl
    exact .inl ⟨h1, by omega, by omega, by omega, hk, a1, a2, a3⟩
  · have hc : isCmdKind ((c % 16 : Nat) : Int) = true := decide_eq_true (by omega)
    obtain ⟨a1, a2⟩ := fault_zero (ic := true) (n := n) hk (by omega) (by omega) (by rw [hc] <;> rfl)
    exact .inr (.inl ⟨by omega, h1, by omega, by omega, by omega, a1, a2⟩)
  · by_cases d : Sa72.plainOf c = 47 ∨ Sa72.plainOf c = 67
    · have hc : isCmdKind ((Sa72.plainOf c : Nat) : Int) = true := decide_eq_true (by omega)
      obtain ⟨a1, a2⟩ := fault_zero (ic := true) (n := n) hk (by omega) (by omega) (by rw [hc] <;> rfl)
      exact .inr (.inr (.inl ⟨by omega, h1, d, hk, a1, a2⟩))
    · have hc : isCmdKind ((Sa72.plainOf c : Nat) : Int) = false := decide_eq_false (by omega)
      have a1 := fault_bad (ic := true) (n := n) hk (by rw [hc] <;> rfl)
      exact .inr (.inr (.inr ⟨by omega, h1, fun z => d (.inl z), fun z => d (.inr z), a1⟩))
  · have a1 := fault_bad (ic := true) (n := n) hk (by decide)
    exact .inr (.inr (.inr ⟨by omega, h1, fun z => h2 (.inl z), fun z => h2 (.inr (.inl z)), a1⟩))
/-- an answer, as the program goes through it -/
def mAnswer (t : S) (c : Nat) (b : List Nat) (now : Nat) : S :=
  if faultOf false c b.length ≠ 0 then (if t.stage = .up then Sa72.refuse t c (faultOf false c b.length) else t)
  else if kindOf c = 99 then mYes t
  else if kindOf c = 15 then (if t.stage = .down then t else Sa72.downNow t)
  else if t.stage = .up ∧ kindOf c = 135 then Sa72.greet t now
  else if t.stage = .up ∧ (c % 16 = 1 ∨ c % 16 = 5 ∨ c % 16 = 9) then mState false t c now else t
theorem answering_is (t : S) (c : Nat) (b : List Nat) (now : Nat) : Sa72.answering t c b now = mAnswer t c b now := by
  have p16 := plain_16 c
  unfold Sa72.answering mAnswer
  simp only [nil_iff, ne_eq]
  rw [numbered_iff, super_iff]
  have hW : (decide (c % 2 = 0) = false ∧ decide (c % 16 = 1 ∨ c % 16 = 5 ∨ c % 16 = 9) = true) ↔ (c % 16 = 1 ∨ c % 16 = 5 ∨ c % 16 = 9) := by
    rw [decide_eq_false_iff_not, decide_eq_true_eq]
    omega
  simp only [hW]
  refine ans_tree (xs := mState false t c now) (R := Sa72.refuse t c) (x1 := mYes t) (k := kindOf c) (F := faultOf false c b.length) ?_
  generalize b.length = n
  rcases kind_cases c with ⟨h1, hk⟩ | ⟨h1, hk⟩ | ⟨h0, h1, h2, hk⟩ | ⟨h0, h1, h2, hk⟩
  · have a1 := (fault_num (ic := false) (n := n) hk).2 rfl
    exact .inl ⟨by omega, by omega, by omega, by omega, a1⟩
  · have hc : isAnsKind ((c % 16 : Nat) : Int) = true := decide_eq_true (by omega)
    obtain ⟨a1, a2⟩ := fault_zero (ic := false) (n := n) hk (by omega) (by omega) (by rw [hc] <;> rfl)
    exact .inr (.inl ⟨h1, by omega, by omega, by omega, by omega, a1, a2⟩)
  · by_cases d : Sa72.plainOf c = 99 ∨ Sa72.plainOf c = 15
    · have hc : isAnsKind ((Sa72.plainOf c : Nat) : Int) = true := decide_eq_true (by omega)
      obtain ⟨a1, a2⟩ := fault_zero (ic := false) (n := n) hk (by omega) (by omega) (by rw [hc] <;> rfl)
      exact .inr (.inr (.inl ⟨h1, d, hk, a1, a2⟩))
    · by_cases d2 : Sa72.plainOf c = 135
      · rw [d2] at hk
        have hf : (n = 3 → faultOf false c n = 0) ∧ (n ≠ 3 → faultOf false c n = 3) := by
          have e : ((false && !isCmdKind ((135 : Nat) : Int)) || (!false && !isAnsKind ((135 : Nat) : Int))) = false := by decide
          rw [fault_of hk, e, if_neg Bool.false_ne_true, if_neg (fun q => absurd q.1 (by decide)), if_neg (show ¬ ((135 : Nat) : Int) = 0 by decide), if_pos (show ((135 : Nat) : Int) = 135 by decide)]
          refine ⟨fun h => if_neg ?_, fun h => if_pos ?_⟩
          · rw [h]
            exact fun q => q rfl
          · omega
        exact .inr (.inr (.inr ⟨h1, d2, by rw [hk, d2], hf.1, hf.2⟩))
      · have hc : isAnsKind ((Sa72.plainOf c : Nat) : Int) = false := decide_eq_false (by omega)
        have a1 := fault_bad (ic := false) (n := n) hk (by rw [hc] <;> rfl)
        exact .inl ⟨h1, fun z => d (.inl z), fun z => d (.inr z), d2, a1⟩
  · have a1 := fault_bad (ic := false) (n := n) hk (by decide)
    exact .inl ⟨h1, fun z => h2 (.inr (.inr (.inl z))), fun z => h2 (.inr (.inr (.inr (.inl z)))), fun z => h2 (.inr (.inr (.inr (.inr z)))), a1⟩
/-! ## the invariant through them -/
theorem Ok.hello {t : S} (h : Ok t) (p : Nat) : Ok (mHello t p) := by
  unfold mHello
  split
  · exact h.answer _ _
  · exact h.up.answer _ _
theorem Ok.finish {t : S} (h : Ok t) (p : Nat) : Ok (mFinish t p) := by
  unfold mFinish
  split
  · exact h.down.answer _ _
  · split
    · exact h.down.answer _ _
    · exact h.answer _ _
theorem Ok.numbered {t : S} (h : Ok t) {c : Nat} (hc : c < 256) (b : List Nat) (hb : b.length ≤ 1024) (n : Nat) : Ok (mNumbered t c b n) := by
  unfold mNumbered
  cases hv : Sa72.answered t (Sa72.next c) n with
  | none => exact h.refuse hc (by decide)
  | some v =>
    obtain ⟨ok, _⟩ := h.answered (next_lt hc) hv
    have hi := ok.inbox.1
    simp only
    split
    · split
      · rename_i hlt
        refine Ok.answer (t := { v with inbox := v.inbox ++ [b], r := (v.r + 1) % 8, asked := false }) ⟨ok.side, ok.win, ok.s, ok.a, ?_, ok.clock, ok.sent, ok.many, ?_, ok.rows, ok.wrong, ok.far, ok.out⟩ _ _
        · show (v.r + 1) % 8 < 8
          omega
        · refine ⟨?_, fun x hx => ?_⟩
          · show (v.inbox ++ [b]).length ≤ 64
            rw [List.length_append]
            simp
            omega
          · have hx' : x ∈ v.inbox ++ [b] := hx
            rcases List.mem_append.mp hx' with z | z
            · exact ok.inbox.2 x z
            · rw [List.mem_singleton.mp z]
              exact hb
      · exact ok.answer _ _
    · split
      · exact (ok.asked true).answer _ _
      · split
        · exact ok.answer _ _
        · exact ok
theorem Ok.from {t : S} (h : Ok t) {c : Nat} (hc : c < 256) (ha : t.a = Sa72.next c) : Ok (Sa72.fromThere t c) :=
  ⟨h.side, h.win, next_lt hc, h.a, h.r, h.clock, h.sent, h.many, h.inbox, h.rows, h.wrong, fun _ => by
    show (Sa72.next c + 8 - t.a) % 8 ≤ _
    have := next_lt hc
    rw [ha]
    omega, h.out⟩
theorem Ok.state {t : S} (h : Ok t) {c : Nat} (hc : c < 256) (ic : Bool) (n : Nat) : Ok (mState ic t c n) := by
  unfold mState Sa72.supervised
  cases hv : Sa72.answered { t with busy := c % 16 == 5 } (Sa72.next c) n with
  | none => exact h.refuse hc (by decide)
  | some v =>
    obtain ⟨ok, ha, _⟩ := (h.busy (c % 16 == 5)).answered (next_lt hc) hv
    simp only
    have hw : ∀ (p : Prop) [Decidable p], Ok (if p then Sa72.fromThere v c else v) := fun p _ => by
      split
      · exact ok.from hc ha
      · exact ok
    cases ic with
    | true =>
      rw [if_pos rfl]
      by_cases q : Sa72.pf c = 1
      · rw [if_pos q]
        exact (hw _).answer _ _
      · rw [if_neg q]
        exact hw _
    | false =>
      rw [if_neg Bool.false_ne_true]
      by_cases q : Sa72.pf c = 1
      · rw [if_pos q]
        exact (hw _).polls false
      · rw [if_neg q]
        exact hw _
theorem Ok.commanded {t : S} (h : Ok t) {c : Nat} (hc : c < 256) (b : List Nat) (n : Nat) : Ok (Sa72.commanded t c b n) := by
  rw [commanded_is]
  unfold mCommand
  split
  · exact h.hello _
  split
  · exact h.finish _
  split
  · split
    · exact h.answer _ _
    · exact h
  split
  · split
    · exact h.answer _ _
    · exact h
  split
  · exact h.refuse hc (fault_le _ _ _)
  rename_i hF
  split
  · rename_i hk
    refine h.numbered hc _ ?_ _
    have q := (fault_num (ic := true) (n := b.length) hk).1 rfl
    by_cases z : 1024 < b.length
    · have := q.1 z
      omega
    · omega
  · exact h.state hc _ _
theorem Ok.answering {t : S} (h : Ok t) {c : Nat} (hc : c < 256) (b : List Nat) (n : Nat) : Ok (Sa72.answering t c b n) := by
  rw [answering_is]
  unfold mAnswer
  split
  · split
    · exact h.refuse hc (fault_le _ _ _)
    · exact h
  split
  · unfold mYes
    split
    · exact h.up
    · split
      · exact h.down
      · exact h
  split
  · split
    · exact h
    · exact h.down
  split
  · exact h.greet _
  split
  · exact h.state hc _ _
  · exact h
theorem Ok.frame {t : S} (h : Ok t) {b : List Nat} (hb : B8 b) (n : Nat) : Ok (Sa72.frame t b n) := by
  unfold Sa72.frame
  match b, hb with
  | [], _ => exact h
  | [_], _ => exact h
  | a :: c :: r, hb =>
    have hc : c < 256 := hb c (by simp)
    simp only
    repeat' split
    all_goals first | exact (h.commanded hc _ _).onward _ | exact (h.answering hc _ _).onward _ | exact h
end LK
namespace LK
open PySem PySem.Spec PyProof.Rows L2
theorem fault_cmd {c n : Nat} (h : faultOf true c n = 0) : isCmdKind (kindOf c) = true := by
  unfold faultOf at h
  cases hq : isCmdKind (kindOf c) with
  | true => rfl
  | false =>
    rw [hq, if_pos (by rfl)] at h
    cases h
theorem cmd_sup {c : Nat} (h : isCmdKind (kindOf c) = true) (h0 : kindOf c ≠ 0) (h1 : kindOf c ≠ 47) (h2 : kindOf c ≠ 67) : c % 16 = 1 ∨ c % 16 = 5 ∨ c % 16 = 9 := by
  unfold isCmdKind at h
  rw [decide_eq_true_eq] at h
  rcases kind_cases c with ⟨_, hk⟩ | ⟨q, _⟩ | ⟨_, _, q, hk⟩ | ⟨_, _, _, hk⟩
  · exact absurd hk h0
  · exact q
  · omega
  · omega
theorem pure_d_hear_command {K : PySem.W.Frag} {L : LA} (T : Tx K L) {vs : List V} {H : Hp} {Q : VK} {E : XK} (h : sp_d_hear_command K L vs H Q E) : t_d_hear_command K L { nx := fun _ H' => Q .non H', rt := Q } (start N_d_hear_command vs) H := by
  obtain ⟨e, f, la, A, t, n, c, load, rfl, IF, hf, hl, hc, ok, I, k⟩ := h
  rw [commanded_is] at k
  unfold mCommand at k
  refine s_fault IF hc (val_var rfl) fun H1 s1 => ?_
  have J1 := (I.runX [la]).same s1
  obtain ⟨IF1, hf1, hl1⟩ := J1.fro IF hf hl
  have hcmd := fault_cmd (c := c) (n := load.length)
  have hle := fault_le true c load.length
  generalize faultOf true c load.length = F at k hcmd hle ⊢
  refine s_if (t_and (t_of (v_eq (val_var rfl) val_c)) fun _ => t_of (v_eq (vf_kind IF1 hc (val_var rfl)) val_c)) (fun q => ?_) (fun q => ?_)
  · rw [Bool.and_eq_true, decide_eq_true_eq, decide_eq_true_eq] at q
    rw [if_pos ⟨by omega, q.2⟩] at k
    exact ⟨_, rfl, vf_bit IF1 (val_var rfl) _ ⟨e, A, t, n, Sa72.pf c, _, rfl, rfl, pf_le c, J1.I, J1.post fun H2 A2 J2 => k _ _ J2.I J2.F⟩⟩
  rw [Bool.and_eq_false_iff, decide_eq_false_iff_not, decide_eq_false_iff_not] at q
  rw [if_neg (by omega)] at k
  refine s_if (t_and (t_of (v_eq (val_var rfl) val_c)) fun _ => t_of (v_eq (vf_kind IF1 hc (val_var rfl)) val_c)) (fun q2 => ?_) (fun q2 => ?_)
  · rw [Bool.and_eq_true, decide_eq_true_eq, decide_eq_true_eq] at q2
    rw [if_pos ⟨by omega, q2.2⟩] at k
    exact ⟨_, rfl, vf_bit IF1 (val_var rfl) _ ⟨e, A, t, n, Sa72.pf c, _, rfl, rfl, pf_le c, J1.I, J1.post fun H2 A2 J2 => k _ _ J2.I J2.F⟩⟩
  rw [Bool.and_eq_false_iff, decide_eq_false_iff_not, decide_eq_false_iff_not] at q2
  rw [if_neg (by omega)] at k
  have hb1 : decide (((Sa72.pf c : Nat) : Int) = 1) = decide (Sa72.pf c = 1) := decide_eq_decide.mpr (by omega)
  refine s_if (t_of (v_stage (g := .stuck) J1.I T rfl rfl)) (fun q3 => ?_) (fun q3 => ?_)
  · rw [if_pos (of_decide_eq_true q3)] at k
    refine s_if (t_is (t_of (v_eq (vf_bit IF1 (val_var rfl)) val_c)) hb1) (fun q4 => ?_) (fun q4 => ?_)
    · rw [if_pos (of_decide_eq_true q4)] at k
      refine c_wrong (b := 1) J1 ok.wrong rfl val_c rfl (by decide) fun H2 A2 J2 => k _ _ (J2.eq ?_).I J2.F
      rw [Nat.one_mul]
    · rw [if_neg (of_decide_eq_false q4)] at k
      exact k _ _ J1.I J1.F
  rw [if_neg (of_decide_eq_false q3)] at k
  refine s_if (t_of (v_stageN (g := .up) J1.I T rfl rfl)) (fun q4 => ?_) (fun q4 => ?_)
  · rw [Bool.not_eq_true', decide_eq_false_iff_not] at q4
    rw [if_pos q4] at k
    refine s_if (t_is (t_of (v_eq (vf_bit IF1 (val_var rfl)) val_c)) hb1) (fun q5 => ?_) (fun q5 => ?_)
    · rw [if_pos (of_decide_eq_true q5)] at k
      exact c_ans (c := 0x0F + Sa72.PF) J1 rfl (v_add val_c val_c) rfl (by decide) fun H2 A2 J2 => k _ _ J2.I J2.F
    · rw [if_neg (of_decide_eq_false q5)] at k
      exact k _ _ J1.I J1.F
  rw [Bool.not_eq_false', decide_eq_true_eq] at q4
  rw [if_neg (fun z => z q4)] at k
  refine s_if (t_of (v_ne (val_var rfl) val_c)) (fun q5 => ?_) (fun q5 => ?_)
  · rw [Bool.not_eq_true', decide_eq_false_iff_not] at q5
    rw [if_pos (by omega)] at k
    exact c_stuck (c := c) (y := F) J1 ok rfl (ff_control IF1 T (val_var rfl)) (vf_bit IF1 (val_var rfl)) (val_var rfl) rfl rfl rfl hc hle fun H2 A2 J2 => k _ _ J2.I J2.F
  rw [Bool.not_eq_false', decide_eq_true_eq] at q5
  have hF : F = 0 := by omega
  rw [if_neg (by omega)] at k
  refine s_if (t_of (v_eq (vf_kind IF1 hc (val_var rfl)) val_c)) (fun q6 => ?_) (fun q6 => ?_)
  · rw [if_pos (of_decide_eq_true q6)] at k
    exact ⟨_, rfl, _, rfl, e, f, la, A, t, n, c, true, load, rfl, IF1, hf1, hl1, hc, ok, J1.I, J1.postX fun H2 A2 J2 => k _ _ J2.I J2.F⟩
  · have q6' := of_decide_eq_false q6
    rw [if_neg q6'] at k
    exact ⟨_, rfl, _, rfl, e, f, la, A, t, n, c, true, load, rfl, IF1, hf1, hl1, hc, ok, q4, cmd_sup (hcmd hF) q6' (by omega) (by omega), J1.I, J1.post fun H2 A2 J2 => k _ _ J2.I J2.F⟩
theorem in_states (c : Nat) : decide (kindOf c ∈ ([1, 5, 9] : List Int)) = decide (c % 16 = 1 ∨ c % 16 = 5 ∨ c % 16 = 9) := by
  refine decide_eq_decide.mpr ?_
  simp only [List.mem_cons, List.not_mem_nil, or_false]
  have hp : Sa72.plainOf c = c - c / 16 % 2 * 16 := rfl
  rcases kind_cases c with ⟨q, hk⟩ | ⟨q, hk⟩ | ⟨_, q, q2, hk⟩ | ⟨_, q, _, hk⟩
  · rw [hk]
    omega
  · rw [hk]
    omega
  · rw [hk]
    omega
  · rw [hk]
    omega
theorem pure_d_hear_answer {K : PySem.W.Frag} {L : LA} (T : Tx K L) {vs : List V} {H : Hp} {Q : VK} {E : XK} (h : sp_d_hear_answer K L vs H Q E) : t_d_hear_answer K L { nx := fun _ H' => Q .non H', rt := Q } (start N_d_hear_answer vs) H := by
  obtain ⟨e, f, la, A, t, n, c, load, rfl, IF, hf, hl, hc, ok, I, k⟩ := h
  rw [answering_is] at k
  unfold mAnswer at k
  refine s_fault IF hc (val_var rfl) fun H1 s1 => ?_
  have J1 := I.run.same s1
  obtain ⟨IF1, hf1, hl1⟩ := J1.fro IF hf hl
  refine s_asg (vf_kind IF1 hc (val_var rfl)) ?_
  have hle := fault_le false c load.length
  generalize faultOf false c load.length = F at k hle ⊢
  refine s_if (t_of (v_ne (val_var rfl) val_c)) (fun q => ?_) (fun q => ?_)
  · rw [Bool.not_eq_true', decide_eq_false_iff_not] at q
    rw [if_pos (by omega)] at k
    refine s_if (t_of (v_stage (g := .up) J1.I T rfl rfl)) (fun q2 => ?_) (fun q2 => ?_)
    · rw [if_pos (of_decide_eq_true q2)] at k
      exact c_stuck (c := c) (y := F) J1 ok rfl (ff_control IF1 T (val_var rfl)) (vf_bit IF1 (val_var rfl)) (val_var rfl) rfl rfl rfl hc hle fun H2 A2 J2 => k _ _ J2.I J2.F
    · rw [if_neg (of_decide_eq_false q2)] at k
      exact k _ _ J1.I J1.F
  rw [Bool.not_eq_false', decide_eq_true_eq] at q
  rw [if_neg (by omega)] at k
  refine s_if (t_of (v_eq (val_var rfl) val_c)) (fun q2 => ?_) (fun q2 => ?_)
  · rw [if_pos (of_decide_eq_true q2)] at k
    exact ⟨_, rfl, e, A, t, n, rfl, J1.I, J1.post fun H2 A2 J2 => k _ _ J2.I J2.F⟩
  rw [if_neg (of_decide_eq_false q2)] at k
  refine s_if (t_of (v_eq (val_var rfl) val_c)) (fun q3 => ?_) (fun q3 => ?_)
  · rw [if_pos (of_decide_eq_true q3)] at k
    refine s_if (t_of (v_stageN (g := .down) J1.I T rfl rfl)) (fun q4 => ?_) (fun q4 => ?_)
    · rw [Bool.not_eq_true', decide_eq_false_iff_not] at q4
      rw [if_neg q4] at k
      exact c_down J1 rfl fun H2 A2 J2 => k _ _ J2.I J2.F
    · rw [Bool.not_eq_false', decide_eq_true_eq] at q4
      rw [if_pos q4] at k
      exact k _ _ J1.I J1.F
  rw [if_neg (of_decide_eq_false q3)] at k
  refine s_if (t_and (t_of (v_stage (g := .up) J1.I T rfl rfl)) fun _ => t_of (v_eq (val_var rfl) val_c)) (fun q4 => ?_) (fun q4 => ?_)
  · rw [Bool.and_eq_true, decide_eq_true_eq, decide_eq_true_eq] at q4
    rw [if_pos q4] at k
    exact c_greet J1 rfl fun H2 A2 J2 => k _ _ J2.I J2.F
  rw [Bool.and_eq_false_iff, decide_eq_false_iff_not, decide_eq_false_iff_not] at q4
  rw [if_neg (fun z => q4.elim (fun y => y z.1) fun y => y z.2)] at k
  refine s_if (t_and (t_of (v_stage (g := .up) J1.I T rfl rfl)) fun _ => t_is (t_of (v_inT (val_var rfl) val_c (T.s_STATES H1) rfl (flat_zts _))) ((if_neg Bool.false_ne_true).trans ((inV_zts _ _).trans (in_states c)))) (fun q5 => ?_) (fun q5 => ?_)
  · rw [Bool.and_eq_true, decide_eq_true_eq, decide_eq_true_eq] at q5
    rw [if_pos q5] at k
    exact ⟨_, rfl, _, rfl, e, f, la, A, t, n, c, false, load, rfl, IF1, hf1, hl1, hc, ok, q5.1, q5.2, J1.I, J1.post fun H2 A2 J2 => k _ _ J2.I J2.F⟩
  · rw [Bool.and_eq_false_iff, decide_eq_false_iff_not, decide_eq_false_iff_not] at q5
    rw [if_neg (fun z => q5.elim (fun y => y z.1) fun y => y z.2)] at k
    exact k _ _ J1.I J1.F
end LK
namespace LK
open PySem PySem.Spec PyProof.Rows L2
theorem mk_frame {K : PySem.W.Frag} {L : LA} {σ : L2.St} {H : Hp} {Q : VK} {ra : Addr} {a c : Nat} {r : List Nat} (b : Bool) (h1 : σ[1]? = some (some (.ref ra))) (hr : H ra = some (.lst (nts (a :: c :: r))))
    (k : ∀ H1 f la, Same H H1 → H f = none → H la = none → FrO L H1 f la b c r → Q (.ref f) H1) :
    tMake L.CF (sp_F_init K L) [] E0 (tCons (tC (.bl b)) (tCons (tOp (rIxL K) (tVar 1) (tC (.int (1)))) (tCons (tSl (rSlL K) (tVar 1) (tPart (tC (.int (2)))) tNoPart) tNil))) σ H Q := by
  refine (v_ix (k := 1) (v := .int (c : Int)) (val_var h1) hr val_c rfl rfl) _ ?_
  refine ⟨_, h1, 2, rfl, ra, _, rfl, SqL.of hr, fun p hp x dx hx hdx hne => ?_⟩
  have ec : cutV (nts (a :: c :: r)) (some ((2 : Nat) : Int)) none = nts r := cut_from
  rw [show cutV (nts (a :: c :: r)) (some 2) none = nts r from ec] at hx hdx ⊢
  have s0 : Same H (upd H p (.lst (nts r))) := same_upd hp
  have s1 : Same H (upd (upd H p (.lst (nts r))) dx (.own x)) := same_new s0 (s0.free hdx)
  have hx1 : upd (upd H p (.lst (nts r))) dx (.own x) x = none := by
    rw [upd_ne (Ne.symm hne)]
    exact hx
  have s2 : Same H (upd (upd (upd H p (.lst (nts r))) dx (.own x)) x (.ins L.CF dx [])) := same_new s1 (s1.free hx1)
  have hpx : p ≠ x := ne_of_none upd_same hx
  have hpd : p ≠ dx := ne_of_none upd_same hdx
  refine ⟨x, dx, p, b, (c : Int), rfl, upd_same, fun H' ho kb => ⟨rfl, k H' x p (fun q o hq => kb q o (s2 q o hq) (notin1 (ne_of_none hq (s0.free hx)))) (s0.free hx) hp ⟨⟨dx, ho⟩, kb _ _ ?_ (notin1 hpx)⟩⟩⟩
  rw [upd_ne hpx, upd_ne hpd, upd_same]
theorem pure_d_hear {K : PySem.W.Frag} {L : LA} (T : Tx K L) {vs : List V} {H : Hp} {Q : VK} {E : XK} (h : sp_d_hear K L vs H Q E) : t_d_hear K L { nx := fun _ H' => Q .non H', rt := Q } (start N_d_hear vs) H := by
  obtain ⟨e, ra, A, t, n, row, rfl, hr, hra, h2, hle, hb, ok, I, k⟩ := h
  match row, hr, h2, hle, hb, k with
  | a :: c :: r, hr, h2, hle, hb, k =>
    have hc : c < 256 := hb c (by simp)
    have ea : decide ((a : Int) = if t.side = 0 then 3 else 1) = decide (a = if t.side = 0 then 3 else 1) := decide_eq_decide.mpr (by split <;> omega)
    have ec : decide ((a : Int) = if t.side = 0 then 1 else 3) = decide (a = if t.side = 0 then 1 else 3) := decide_eq_decide.mpr (by split <;> omega)
    have ix : ∀ {σ : L2.St}, σ[1]? = some (some (.ref ra)) → Val (tOp (rIxL K) (tVar 1) (tC (.int (0)))) σ H (.int (a : Int)) := fun h1 => v_ix (k := 0) (val_var h1) hr val_c rfl rfl
    unfold Sa72.frame at k
    simp only at k
    have fin : ∀ {la : Addr} {t' : S} {H3 : Hp} {A3 : EA}, H la = none → Run L e A [la] H A3 t' n H3 → Run L e A [] H A3 t' n H3 := fun hn J => ⟨J.I, J.F.keep, J.F.own, fun b hb => (J.F.foot b hb).elim .inl fun z => z.elim (fun q => .inr (.inr (by rw [List.mem_singleton.mp q]; exact hn))) fun z => .inr (.inr z)⟩
    refine s_if (t_is (t_of (v_eq (ix rfl) (ef_answers_out I T (val_var rfl)))) ea) (fun q => ?_) (fun q => ?_)
    · rw [if_pos (of_decide_eq_true q)] at k
      refine ⟨_, rfl, mk_frame true rfl hr fun H1 f la s1 nf nl IF => ?_⟩
      refine ⟨e, f, la, A, t, n, c, r, rfl, IF, I.own_new nf, I.own_new nl, hc, ok, I.same s1, ((I.runX [la]).same s1).postX fun H2 A2 J2 => ?_⟩
      refine c_goout J2 (ok.commanded hc _ _) rfl fun H3 A3 J3 => ?_
      exact k _ _ (fin nl J3).I (fin nl J3).F
    · rw [if_neg (of_decide_eq_false q)] at k
      refine s_if (t_is (t_of (v_eq (ix rfl) (ef_commands_out I T (val_var rfl)))) ec) (fun q2 => ?_) (fun q2 => ?_)
      · rw [if_pos (of_decide_eq_true q2)] at k
        refine ⟨_, rfl, mk_frame false rfl hr fun H1 f la s1 nf nl IF => ?_⟩
        refine ⟨e, f, la, A, t, n, c, r, rfl, IF, I.own_new nf, I.own_new nl, hc, ok, I.same s1, (I.run.same s1).post fun H2 A2 J2 => ?_⟩
        refine c_goout J2 (ok.answering hc _ _) rfl fun H3 A3 J3 => ?_
        exact k _ _ J3.I J3.F
      · rw [if_neg (of_decide_eq_false q2)] at k
        exact k _ _ I (Fr.refl _ _ _ _)
theorem Ok.gotS {t : S} (h : Ok t) (g : Sa72.Got) : Ok (sGot t g) := ⟨h.side, h.win, h.s, h.a, h.r, h.clock, h.sent, h.many, h.inbox, h.rows, h.wrong, h.far, h.out⟩
theorem line_got (t : S) (b : List Nat) : (t.line b).got = t.got := by
  rw [line_bits] <;> rfl
theorem command_got (t : S) (c : Nat) (b : List Nat) : (t.command c b).got = t.got := line_got t _
theorem answer_got (t : S) (c : Nat) (b : List Nat) : (t.answer c b).got = t.got := line_got t _
theorem goes_got : ∀ (f : Nat) (t : S) (n : Nat), (Sa72.goes f t n).got = t.got
  | 0, _, _ => rfl
  | f + 1, t, n => by
    unfold Sa72.goes
    simp only
    split
    · rfl
    · split
      · rfl
      · rw [goes_got f, command_got]
        show (if _ then t else _ : S).got = t.got
        split <;> rfl
theorem onward_got (t : S) (n : Nat) : (Sa72.onward t n).got = t.got := goes_got 8 t n
theorem refuse_got (t : S) (c y : Nat) : (Sa72.refuse t c y).got = t.got := by
  rw [refuse_bits] <;> rfl
theorem answered_got {t v : S} {k n : Nat} (h : Sa72.answered t k n = some v) : v.got = t.got := by
  unfold Sa72.answered at h
  simp only at h
  split at h
  · cases h
  · split at h
    · cases h
      rfl
    · cases h
      rfl
theorem greet_got (t : S) (n : Nat) : (Sa72.greet t n).got = t.got := command_got _ _ _
theorem numbered_got (t : S) (c : Nat) (b : List Nat) (n : Nat) : (mNumbered t c b n).got = t.got := by
  unfold mNumbered
  cases hv : Sa72.answered t (Sa72.next c) n with
  | none => exact refuse_got _ _ _
  | some v =>
    have e := answered_got hv
    simp only
    repeat' split
    all_goals first | exact (answer_got _ _ _).trans e | exact e
theorem state_got (ic : Bool) (t : S) (c : Nat) (n : Nat) : (mState ic t c n).got = t.got := by
  unfold mState Sa72.supervised
  cases hv : Sa72.answered { t with busy := c % 16 == 5 } (Sa72.next c) n with
  | none => exact refuse_got _ _ _
  | some v =>
    have e0 := answered_got hv
    have e : v.got = t.got := e0
    have hw : ∀ (p : Prop) [Decidable p], (if p then Sa72.fromThere v c else v).got = t.got := fun p _ => by
      split
      · exact e
      · exact e
    simp only
    cases ic with
    | true =>
      rw [if_pos rfl]
      by_cases q : Sa72.pf c = 1
      · rw [if_pos q, answer_got]
        exact hw _
      · rw [if_neg q]
        exact hw _
    | false =>
      rw [if_neg Bool.false_ne_true]
      by_cases q : Sa72.pf c = 1
      · rw [if_pos q]
        exact hw _
      · rw [if_neg q]
        exact hw _
theorem commanded_got (t : S) (c : Nat) (b : List Nat) (n : Nat) : (Sa72.commanded t c b n).got = t.got := by
  rw [commanded_is]
  unfold mCommand mHello mFinish
  split
  · split <;> exact answer_got _ _ _
  split
  · split
    · exact answer_got _ _ _
    · rw [answer_got]
      split <;> rfl
  split
  · split
    · exact answer_got _ _ _
    · rfl
  split
  · split
    · exact answer_got _ _ _
    · rfl
  split
  · exact refuse_got _ _ _
  split
  · exact numbered_got _ _ _ _
  · exact state_got _ _ _ _
theorem answering_got (t : S) (c : Nat) (b : List Nat) (n : Nat) : (Sa72.answering t c b n).got = t.got := by
  rw [answering_is]
  unfold mAnswer mYes
  split
  · split
    · exact refuse_got _ _ _
    · rfl
  split
  · split
    · rfl
    · split <;> rfl
  split
  · split <;> rfl
  split
  · exact greet_got _ _
  split
  · exact state_got _ _ _ _
  · rfl
theorem frame_got (t : S) (b : List Nat) (n : Nat) : (Sa72.frame t b n).got = t.got := by
  unfold Sa72.frame
  match b with
  | [] => rfl
  | [_] => rfl
  | a :: c :: r =>
    simp only
    repeat' split
    all_goals first | exact (onward_got _ _).trans (commanded_got _ _ _ _) | exact (onward_got _ _).trans (answering_got _ _ _ _) | rfl
/-- one bit -/
def feed1 (t : S) (c n : Nat) : S := match (Sa72.bit t.got c).2 with
  | some b => Sa72.frame (sGot t (Sa72.bit t.got c).1) b n
  | none => sGot t (Sa72.bit t.got c).1
theorem feed_cons (c : Nat) (r : List Nat) (t : S) (n : Nat) : Sa72.feed (c :: r) t n = Sa72.feed r (feed1 t c n) n := rfl
theorem feed1_got (t : S) (c n : Nat) : (feed1 t c n).got = (Sa72.bit t.got c).1 := by
  unfold feed1
  split
  · exact frame_got _ _ _
  · rfl
theorem Ok.feed1 {t : S} (h : Ok t) {s : Ls} (r : LisRel s t.got) (c n : Nat) : Ok (feed1 t c n) := by
  unfold LK.feed1
  split
  · rename_i b hb
    exact (h.gotS _).frame (bit_frame r hb).2.2 _
  · exact h.gotS _
theorem Ok.feed : ∀ {l : List Nat} {t : S} {s : Ls}, Ok t → LisRel s t.got → B1 l → ∀ n, Ok (Sa72.feed l t n)
  | [], _, _, h, _, _, _ => h
  | c :: l, t, s, h, r, b, n => by
    rw [feed_cons]
    refine Ok.feed (s := (s.take c).1) (h.feed1 r c n) ?_ (fun x m => b x (List.mem_cons_of_mem _ m)) n
    rw [feed1_got]
    exact (lis_step r (b c (List.mem_cons_self ..))).1
theorem pure_d_take_bits {K : PySem.W.Frag} {L : LA} (T : Tx K L) {vs : List V} {H : Hp} {Q : VK} {E : XK} (h : sp_d_take_bits K L vs H Q E) : t_d_take_bits K L { nx := fun _ H' => Q .non H', rt := Q } (start N_d_take_bits vs) H := by
  obtain ⟨e, ra, A, t, n, row, rfl, hr, hra, hb, ok, I, k⟩ := h
  refine ⟨_, rfl, ra, rfl, ⟨_, SqL.of hr⟩, for_list (K := K) (a := ra) (xs := nts row) (fun i σ H' => ∃ v2 v3 A' t', σ = [some (.ref e), some (.ref ra), v2, v3] ∧ Run L e A [] H A' t' n H' ∧ Ok t' ∧ Sa72.feed (row.drop i) t' n = Sa72.feed row t n)
    ⟨none, none, A, t, rfl, I.run, ok, by rw [List.drop_zero]⟩ (fun i σ H' _ ⟨_, _, A', t', _, J, _, _⟩ => SqL.of (J.F.keepRow hr hra).1) ?_ ?_⟩
  · rintro i x σ H' hi ⟨v2, v3, A1, t1, rfl, J1, ok1, ef⟩
    obtain ⟨b, hbx, rfl⟩ := nts_get hi
    have hb1 : b ≤ 1 := hb b (List.mem_of_getElem? hbx)
    have ed : row.drop i = b :: row.drop (i + 1) := by
      obtain ⟨z, q⟩ := List.getElem?_eq_some_iff.mp hbx
      rw [List.drop_eq_getElem_cons z, q]
    rw [ed, feed_cons] at ef
    obtain ⟨hl1, hl2⟩ := lis_len J1.I.lr
    obtain ⟨r1, r2⟩ := lis_step J1.I.lr hb1
    refine ⟨_, rfl, e, L.CE, A1.dx, _, _, rfl, J1.I.obj, T.cl_E, T.n_E_listener, eF_listener _, A1.li, A1.dl, _, rfl, J1.I.lis.obj, lF_m_take _ _ _, _, rfl, ?_⟩
    refine ⟨A1.li, A1.dl, A1.kept, A1.ls, _, b, rfl, rfl, hb1, J1.I.lis, hl1, hl2, fun H2 kp hl kb hk => ?_⟩
    have J2 := J1.newLis hl r1 kb hk
    rw [r2]
    have okf := ok1.feed1 J1.I.lr b n
    unfold LK.feed1 at ef okf
    refine ⟨fun hn => ?_, fun r p hs hp hq hne => ?_⟩
    · rw [hn] at ef okf
      refine s_if (b := false) (t_is (t_of (v_notN (x := .non) (val_var rfl))) (by simp)) (fun q => by cases q) fun _ => ?_
      exact ⟨_, _, _, _, rfl, J2, okf, ef⟩
    · rw [hs] at ef okf
      refine s_if (b := true) (t_is (t_of (v_notN (x := .ref p) (val_var rfl))) (by simp)) (fun _ => ?_) fun q => by cases q
      obtain ⟨f2, f3, f8⟩ := bit_frame J1.I.lr hs
      refine ⟨_, rfl, _, rfl, e, p, _, _, n, r, rfl, hq, ?_, f2, f3, f8, ok1.gotS _, J2.I, J2.post fun H3 A3 J3 => ?_⟩
      · intro z
        have np := J1.I.own_new hp
        simp only [List.mem_cons, List.not_mem_nil, or_false, not_or] at np z
        obtain ⟨p1, p2, p3, p4, p5, p6, p7, p8⟩ := np
        rcases z with z | z | z | z | z | z | z | z
        · exact p1 z
        · exact p2 z
        · exact p3 z
        · exact p4 z
        · exact p5 z
        · exact hne z
        · exact p7 z
        · exact p8 z
      · exact ⟨_, _, _, _, rfl, J3, okf, ef⟩
  · rintro σ H' ⟨v2, v3, A1, t1, rfl, J1, ok1, ef⟩
    rw [nts_len, List.drop_length] at ef
    have e1 : t1 = Sa72.feed row t n := ef
    exact k _ _ (J1.eq e1).I J1.F
end LK
namespace LK
open PySem PySem.Spec PyProof.Rows L2
/-! # Calls -/
theorem pure_X_init {K : PySem.W.Frag} {L : LA} (T : Tx K L) {vs : List V} {H : Hp} {Q : VK} {E : XK} (h : sp_X_init K L vs H Q E) : t_X_init K L { nx := fun _ H' => Q .non H', rt := Q } (start N_X_init vs) H := by
  obtain ⟨a, n, rfl, ha, k⟩ := h
  exact ⟨_, rfl, _, rfl, a, L.CX, rfl, T.ox, T.nX_number, .inl ⟨ha, fun dx hd hn => k dx hd hn⟩⟩
theorem pure_d_ask {K : PySem.W.Frag} {L : LA} (T : Tx K L) {vs : List V} {H : Hp} {Q : VK} {E : XK} (h : sp_d_ask K L vs H Q E) : t_d_ask K L E { nx := fun _ H' => Q .non H', rt := Q } (start N_d_ask vs) H := by
  obtain ⟨g, n, rfl, k1, k0⟩ := h
  refine s_if (t_not (t_val (val_var rfl))) (fun q => ?_) (fun q => ?_)
  · have q' : g = false := by simpa using q
    refine ⟨_, rfl, by show 1 ≤ 1000; decide, fun a ha => ⟨a, n, rfl, upd_same, fun dx hd hne => ⟨rfl, dx, [("number", .int n)], upd_same, ?_, ?_, ?_⟩⟩⟩
    · rw [upd_ne hne, upd_same]
    · rw [upd_ne hne] at hd
      exact hd
    · rw [upd_ne hne] at hd
      have e : upd (del (upd (upd (upd H a (exo a L.CX none)) dx (exd dx [("number", .int n)])) a (exo a L.CX (some dx))) a) dx (.xd [("number", .int n)]) = upd H dx (.xd [("number", .int n)]) := by
        funext b
        by_cases hb : b = dx
        · rw [hb, upd_same, upd_same]
        · rw [upd_ne hb, upd_ne hb]
          unfold del
          by_cases hba : b = a
          · rw [if_pos hba, hba, ha]
          · rw [if_neg hba, upd_ne hba, upd_ne hb, upd_ne hba]
      rw [e]
      exact k0 q' H dx (Same.refl _) hd
  · have q' : g = true := by simpa using q
    exact k1 q'
section
variable {K : PySem.W.Frag} {L : LA} {H H0 : Hp} {e : Addr} {A A0 : EA} {t : S} {n : Nat} {X : List Addr} {σ : L2.St} {D : Ends} {E : XK}
theorem s_ask {g : Bool} {i m : Int} {tg : TE} (hg : Val tg σ H (.bl g)) (hn : -i = m) (k0 : g = false → ErrP L H m E) (k1 : g = true → D.nx σ H) : tDrop (tCallS (sp_d_ask K L) (WE (wE E)) (tCons tg (tCons (tUn kNeg (tC (.int i))) tNil))) D σ H :=
  hg _ ⟨i, rfl, g, -i, rfl, k1, by rw [hn]; exact k0⟩
/-- a new address is none of those that stood and stand -/
theorem Run.fresh (J : Run L e A0 X H0 A t n H) {p : Addr} (hp : H p = none) : ∀ b o, H0 b = some o → b ∉ Own e A0 → p ≠ b := fun b o hb hn z => by
  rw [z, J.F.keep b o hb hn] at hp
  cases hp
/-- return [0] -/
theorem r_nought {Q : VK} {nx bk ct : L2.St → Hp → Prop} (J : Run L e A0 X H0 A t n H) (k : PostR L H0 e A0 X t [0] Q) : tRet (tLst (tCons (tC (.int (0))) tNil)) { nx := nx, rt := Q, bk := bk, ct := ct } [] H := by
  refine ⟨by show 1 ≤ sizeLine; decide, fun p hp => ?_⟩
  have J1 := J.new (o := .lst (zts [0])) hp
  exact k _ A n p J1.I J1.F upd_same (J.I.foot_new hp) (J.fresh hp)
theorem zts_nat (l : List Nat) : zts (l.map fun (x : Nat) => (x : Int)) = nts l := by
  show (l.map fun (x : Nat) => (x : Int)).map V.int = l.map fun (n : Nat) => V.int (n : Int)
  rw [List.map_map] <;> rfl
/-- return [len(found)] + found -/
theorem r_counted {Q : VK} {nx bk ct : L2.St → Hp → Prop} {p : Addr} {l : List Nat} (J : Run L e A0 X H0 A t n H) (h2 : σ[2]? = some (some (.ref p))) (hp : H p = some (.lst (nts l))) (hl : l.length ≤ 100000) (k : PostR L H0 e A0 X t ((l.length : Int) :: l.map fun (x : Nat) => (x : Int)) Q) :
    tRet (tOp rCat (tLst (tCons (tCB (kLen K) (tCons (tVar 2) tNil)) tNil)) (tVar 2)) { nx := nx, rt := Q, bk := bk, ct := ct } σ H := by
  refine (v_len (val_var h2) hp) _ ⟨by show 1 ≤ sizeLine; decide, fun q hq => ⟨_, h2, q, p, _, nts l, rfl, rfl, upd_same, ?_, by rw [nts_len]; exact sz (by show 1 + _ ≤ _; omega), fun r hr => ?_⟩⟩
  · rw [upd_ne (ne_of_none hp hq)]
    exact hp
  · have J1 := J.new (o := .lst [.int (((nts l).length : Nat) : Int)]) hq
    refine k _ A n r (J1.new hr).I (J1.new hr).F ?_ (J1.I.foot_new hr) (J1.fresh hr)
    rw [upd_same, nts_len]
    show some (HO.lst (V.int (l.length : Nat) :: nts l)) = some (HO.lst (V.int (l.length : Nat) :: zts (l.map fun (x : Nat) => (x : Int))))
    rw [zts_nat]
end
section
variable {K : PySem.W.Frag} {H : Hp} {σ : L2.St} {D : Ends} {to te : TE} {ta : TA}
theorem s_pop0 {l : Addr} {xs : List V} {y : V} {k : Nat} (ho : Val to σ H (.ref l)) (h : H l = some (.lst (y :: xs))) (q : D.nx (σ.set k (some y)) (upd H l (.lst xs))) : tAsg (tBM K "list" rPopAt to (tCons (tC (.int (0))) tNil)) (gName k) D σ H :=
  ho _ ⟨.inl ⟨rfl, _, SqL.of h⟩, l, y :: xs, 0, 0, y, rfl, rfl, h, by decide, by decide, by unfold seqIndex?; simp, rfl, q⟩
def Vas (ta : TA) (σ : L2.St) (H : Hp) (vs : List V) : Prop := ∀ Q : List V → Hp → Prop, Q vs H → ta σ H Q
theorem a_nil : Vas tNil σ H [] := fun _ q => q
theorem a_cons {v : V} {vs : List V} (h : Val te σ H v) (k : Vas ta σ H vs) : Vas (tCons te ta) σ H (v :: vs) := fun _ q => h _ (k _ q)
theorem r_lst {vs : List V} (h : Vas ta σ H vs) (l : vs.length ≤ sizeLine) (k : ∀ p, H p = none → D.rt (.ref p) (upd H p (.lst vs))) : tRet (tLst ta) D σ H := h _ ⟨l, k⟩
end
theorem within_is (z lo hi : Int) : Sa72.within z lo hi = (decide (lo ≤ z) && decide (z ≤ hi)) := rfl
theorem pure_d_begun {K : PySem.W.Frag} {L : LA} (T : Tx K L) {vs : List V} {H : Hp} {Q : VK} {E : XK} (h : sp_d_begun K L vs H Q E) : t_d_begun K L E { nx := fun _ H' => Q .non H', rt := Q } (start N_d_begun vs) H := by
  obtain ⟨a, sd, w, p, n, rfl, ha, k0, k1⟩ := h
  refine ⟨_, rfl, a, _, rfl, SqL.of ha, rfl, _, _, rfl, _, _, rfl, _, _, rfl, _, _, rfl, rfl, ?_⟩
  have hp0 : decide ((0 : Int) < p) = decide (1 ≤ p) := decide_eq_decide.mpr (by omega)
  refine s_ask (g := okBegin sd w p n) (m := -2) (v_is (v_andV (v_lele val_c (val_var rfl) val_c) fun _ => v_andV (v_lele val_c (val_var rfl) val_c) fun _ => v_andV (v_gt (val_var rfl) val_c) fun _ => v_lele val_c (val_var rfl) val_c) (congrArg V.bl (by rw [hp0] <;> rfl))) rfl k0 fun hg => ?_
  have hg' := hg
  unfold okBegin at hg'
  simp only [within_is, Bool.and_eq_true, decide_eq_true_eq] at hg'
  obtain ⟨⟨g1, g2⟩, ⟨g3, g4⟩, g5, g6, g7⟩ := hg'
  refine ⟨_, rfl, _, rfl, _, rfl, _, rfl, fun x dx hx hdx hne => ⟨x, dx, sd, w, p, n, sd.toNat, w.toNat, p.toNat, n.toNat, rfl, ⟨by omega, by omega, by omega, by omega⟩, by omega, upd_same, fun H' A' I kb hf => ⟨rfl, ?_⟩⟩⟩
  have s1 : Same H (upd H dx (.own x)) := same_upd hdx
  have hx1 : upd H dx (.own x) x = none := by
    rw [upd_ne (Ne.symm hne)]
    exact hx
  have s2 : Same H (upd (upd H dx (.own x)) x (.ins L.CE dx [])) := same_new s1 hx
  refine k1 hg H' x A' I (fun b o hb => kb b o (s2 b o hb) (notin1 (ne_of_none hb hx))) fun b hb => ?_
  rcases hf b hb with z | z
  · rw [z]
    exact hx
  · exact s2.free z
theorem pure_d_connect {K : PySem.W.Frag} {L : LA} (T : Tx K L) {vs : List V} {H : Hp} {Q : VK} {E : XK} (h : sp_d_connect K L vs H Q E) : t_d_connect K L E { nx := fun _ H' => Q .non H', rt := Q } (start N_d_connect vs) H := by
  obtain ⟨e, A, t, n, now, rfl, hn, ok, I, k0, k1⟩ := h
  have hd : Sa72.does (some t) (.connect now) = if t.stage ≠ .down then (some t, Sa72.ok (-3)) else (some (Sa72.greet t now), Sa72.ok 0) := rfl
  rw [hd] at k0 k1
  refine s_ask (m := -3) (v_stage (g := .down) I T rfl rfl) rfl (fun q => ?_) (fun q => ?_)
  · rw [if_pos (of_decide_eq_false q)] at k0
    exact k0 (show (-3 : Int) < 0 by decide)
  · rw [if_neg (fun z => z (of_decide_eq_true q))] at k1
    refine w_now I.run T (val_var rfl) rfl hn (val_var rfl) fun H1 J1 => ?_
    refine c_greet J1 rfl fun H2 A2 J2 => ?_
    exact r_nought J2 (k1 (show (0 : Int) ≤ 0 by decide) _ rfl)
theorem pure_d_finish {K : PySem.W.Frag} {L : LA} (T : Tx K L) {vs : List V} {H : Hp} {Q : VK} {E : XK} (h : sp_d_finish K L vs H Q E) : t_d_finish K L E { nx := fun _ H' => Q .non H', rt := Q } (start N_d_finish vs) H := by
  obtain ⟨e, A, t, n, now, rfl, hn, ok, I, k0, k1⟩ := h
  have hd : Sa72.does (some t) (.end_ now) = if t.stage ≠ .up then (some t, Sa72.ok (-3)) else (some (({ Sa72.afresh t with stage := .ending, clock := some (now % 2 ^ 32) } : S).command (0x43 + Sa72.PF) []), Sa72.ok 0) := rfl
  rw [hd] at k0 k1
  refine s_ask (m := -3) (v_stage (g := .up) I T rfl rfl) rfl (fun q => ?_) (fun q => ?_)
  · rw [if_pos (of_decide_eq_false q)] at k0
    exact k0 (show (-3 : Int) < 0 by decide)
  · rw [if_neg (fun z => z (of_decide_eq_true q))] at k1
    refine w_now I.run T (val_var rfl) rfl hn (val_var rfl) fun H1 J1 => ?_
    refine ⟨_, rfl, e, _, _, rfl, J1.I.obj, eF_finish _, e, _, t, now, rfl, J1.I, J1.post fun H2 A2 J2 => ?_⟩
    exact r_nought J2 (k1 (show (0 : Int) ≤ 0 by decide) _ rfl)
theorem pure_d_send {K : PySem.W.Frag} {L : LA} (T : Tx K L) {vs : List V} {H : Hp} {Q : VK} {E : XK} (h : sp_d_send K L vs H Q E) : t_d_send K L E { nx := fun _ H' => Q .non H', rt := Q } (start N_d_send vs) H := by
  obtain ⟨e, ra, A, t, n, now, row, rfl, hr, hra, hb8, hn, ok, I, k0, k1⟩ := h
  have hd : Sa72.does (some t) (.send row row.length now) = if Sa72.within row.length 1 1024 = false then (some t, Sa72.ok (-2)) else if 64 ≤ t.sent.length + t.waits.length then (some t, Sa72.ok (-4)) else (some (Sa72.onward { t with waits := t.waits ++ [row] } now), Sa72.ok 0) := rfl
  rw [hd] at k0 k1
  refine s_ask (g := Sa72.within row.length 1 1024) (m := -2) (v_is (v_lele val_c (v_len (val_var rfl) hr) val_c) (congrArg V.bl (by rw [nts_len] <;> rfl))) rfl (fun q => ?_) (fun q => ?_)
  · rw [if_pos q] at k0
    exact k0 (show (-2 : Int) < 0 by decide)
  rw [if_neg (by rw [q]; decide)] at k0 k1
  rw [within_is, Bool.and_eq_true, decide_eq_true_eq, decide_eq_true_eq] at q
  refine s_ask (m := -4) (v_lt (v_many I rfl) val_c) rfl (fun q2 => ?_) (fun q2 => ?_)
  · rw [decide_eq_false_iff_not] at q2
    rw [if_pos (by omega)] at k0
    exact k0 (show (-4 : Int) < 0 by decide)
  rw [decide_eq_true_eq] at q2
  rw [if_neg (by omega)] at k1
  refine w_now (I.runX [ra]) T (val_var rfl) rfl hn (val_var rfl) fun H1 J1 => ?_
  obtain ⟨hr1, hra1⟩ := J1.F.keepRow hr hra
  refine s_app (ef_unsent J1.I T (val_var rfl)) J1.I.unsent (val_var rfl) (by rw [lenR, lenU J1.I]; exact szl (by omega)) ?_
  have N := nes_iff.mp J1.I.nd
  have J2 : Run L e A [ra] H { A with sm := A.sm, um := A.um ++ [ra], cm := A.cm } (sMsgs t t.sent (t.waits ++ [row]) t.inbox) now (upd H1 A.unsent (.lst (A.um.map V.ref ++ [.ref ra]))) := by
    refine J1.newMsgs ?_ ?_ ?_ J1.I.rs (J1.I.ru.app (.cons hr1 .nil)) J1.I.rc (fun p hp => ?_) ((KeepBut.refl _ _).at (by simp))
    · rw [upd_ne N.su]
      exact J1.I.sent
    · rw [upd_same, List.map_append] <;> rfl
    · rw [upd_ne N.uc.symm]
      exact J1.I.come
    · have hp' : p ∈ A.sm ∨ p ∈ A.um ∨ p = ra ∨ p ∈ A.cm := by simpa using hp
      rcases hp' with hp | hp | hp | hp
      · exact .inl (imm_s _ hp)
      · exact .inl (imm_u _ hp)
      · exact .inr ⟨by rw [hp]; exact mem1, by rw [hp]; exact hra1⟩
      · exact .inl (imm_c _ hp)
  have ok2 : Ok (sMsgs t t.sent (t.waits ++ [row]) t.inbox) := by
    refine ⟨ok.side, ok.win, ok.s, ok.a, ok.r, ok.clock, ok.sent, ?_, ok.inbox, fun b hb => ?_, ok.wrong, ok.far, ok.out⟩
    · show t.sent.length + (t.waits ++ [row]).length ≤ 64
      rw [List.length_append]
      simp
      omega
    · have hb' : b ∈ t.sent ++ (t.waits ++ [row]) := hb
      rw [← List.append_assoc] at hb'
      rcases List.mem_append.mp hb' with z | z
      · exact ok.rows b z
      · rw [List.mem_singleton.mp z]
        exact ⟨by omega, hb8⟩
  refine c_goout J2 ok2 rfl fun H3 A3 J3 => ?_
  exact r_nought J3 (k1 (show (0 : Int) ≤ 0 by decide) _ rfl)
theorem bits_b1 (l : List Nat) : B1 (Sa72.bitsOf l) := fun x hx => by
  unfold Sa72.bitsOf at hx
  obtain ⟨c, _, h⟩ := List.mem_flatMap.mp hx
  obtain ⟨k, _, rfl⟩ := List.mem_map.mp h
  omega
theorem pure_d_bits {K : PySem.W.Frag} {L : LA} (T : Tx K L) {vs : List V} {H : Hp} {Q : VK} {E : XK} (h : sp_d_bits K L vs H Q E) : t_d_bits K L E { nx := fun _ H' => Q .non H', rt := Q } (start N_d_bits vs) H := by
  obtain ⟨e, ra, A, t, n, now, m, row, rfl, hr, hra, hl, hn, ok, I, k0, k1⟩ := h
  have hd : Sa72.does (some t) (.bits row m now) = if Sa72.within m 0 524280 = false then (some t, Sa72.ok (-2)) else (some (Sa72.feed ((Sa72.bitsOf row).take m.toNat) t now), Sa72.ok 0) := rfl
  rw [hd] at k0 k1
  refine s_ask (g := Sa72.within m 0 524280) (m := -2) (v_lele val_c (val_var rfl) val_c) rfl (fun q => ?_) (fun q => ?_)
  · rw [if_pos q] at k0
    exact k0 (show (-2 : Int) < 0 by decide)
  rw [if_neg (by rw [q]; decide)] at k1
  rw [within_is, Bool.and_eq_true, decide_eq_true_eq, decide_eq_true_eq] at q
  obtain ⟨j, hj⟩ := Int.eq_ofNat_of_zero_le q.1
  refine w_now I.run T (val_var rfl) rfl hn (val_var rfl) fun H1 J1 => ?_
  obtain ⟨hr1, hra1⟩ := J1.F.keepRow hr hra
  refine ⟨_, rfl, _, rfl, ra, row, rfl, hr1, by omega, fun H2 p s2 hp h2 => ?_⟩
  refine ⟨_, rfl, m, rfl, p, _, rfl, SqL.of h2, fun q hq => ?_⟩
  have ec : cutV (nts (Sa72.bitsOf row)) none (some m) = nts ((Sa72.bitsOf row).take m.toNat) := by
    rw [hj]
    exact cut_to
  rw [ec]
  have J3 := (J1.same s2).new (o := .lst (nts ((Sa72.bitsOf row).take m.toNat))) hq
  refine ⟨e, q, _, t, now, (Sa72.bitsOf row).take m.toNat, rfl, upd_same, (J1.same s2).I.own_new hq, fun x hx => bits_b1 row x (List.mem_of_mem_take hx), ok, J3.I, J3.post fun H4 A4 J4 => ?_⟩
  exact r_nought J4 (k1 (show (0 : Int) ≤ 0 by decide) _ rfl)
theorem pure_d_tick {K : PySem.W.Frag} {L : LA} (T : Tx K L) {vs : List V} {H : Hp} {Q : VK} {E : XK} (h : sp_d_tick K L vs H Q E) : t_d_tick K L { nx := fun _ H' => Q .non H', rt := Q } (start N_d_tick vs) H := by
  obtain ⟨e, A, t, n, now, rfl, hn, ok, I, k⟩ := h
  refine w_now I.run T (val_var rfl) rfl hn (val_var rfl) fun H1 J1 => ?_
  refine ⟨_, rfl, e, _, _, rfl, J1.I.obj, eF_see_to_clock _, e, _, t, now, rfl, J1.I, ok, J1.post fun H2 A2 J2 => ?_⟩
  exact r_nought J2 k
theorem pure_d_output {K : PySem.W.Frag} {L : LA} (T : Tx K L) {vs : List V} {H : Hp} {Q : VK} {E : XK} (h : sp_d_output K L vs H Q E) : t_d_output K L E { nx := fun _ H' => Q .non H', rt := Q } (start N_d_output vs) H := by
  obtain ⟨e, A, t, n, m, rfl, ok, I, k0, k1⟩ := h
  have hd : Sa72.does (some t) (.output m) = if Sa72.within m 0 65536 = false then (some t, Sa72.ok (-2)) else (some { t with out := (Sa72.outgoing t.out m.toNat).2 }, ⟨(Sa72.outgoing t.out m.toNat).1.length, (Sa72.outgoing t.out m.toNat).1⟩) := rfl
  rw [hd] at k0 k1
  refine s_ask (g := Sa72.within m 0 65536) (m := -2) (v_lele val_c (val_var rfl) val_c) rfl (fun q => ?_) (fun q => ?_)
  · rw [if_pos q] at k0
    exact k0 (show (-2 : Int) < 0 by decide)
  rw [if_neg (by rw [q]; decide)] at k1
  rw [within_is, Bool.and_eq_true, decide_eq_true_eq, decide_eq_true_eq] at q
  refine ⟨_, rfl, e, L.CE, A.dx, _, _, rfl, I.obj, T.cl_E, T.n_E_waiting, eF_waiting _, A.wa, A.dw, _, rfl, I.wai.obj, wF_m_take _, _, rfl, A.wa, A.dw, A.bits, t.out, m, m.toNat, rfl, by omega, by omega, I.wai, ok.out.1, fun H1 bt p W1 kb hbt hp hq hne => ?_⟩
  have J1 := I.run.newWait W1 kb hbt
  have hlen : (Sa72.outgoing t.out m.toNat).1.length ≤ 100000 := by
    unfold Sa72.outgoing
    simp only
    rw [bytes_len]
    omega
  exact r_counted J1 rfl hq hlen (k1 (show (0 : Int) ≤ ((Sa72.outgoing t.out m.toNat).1.length : Nat) from Int.natCast_nonneg _) _ rfl)
theorem pure_d_take {K : PySem.W.Frag} {L : LA} (T : Tx K L) {vs : List V} {H : Hp} {Q : VK} {E : XK} (h : sp_d_take K L vs H Q E) : t_d_take K L E { nx := fun _ H' => Q .non H', rt := Q } (start N_d_take vs) H := by
  obtain ⟨e, A, t, n, m, rfl, ok, I, k0, k1⟩ := h
  have hd : Sa72.does (some t) (.take m) = if m < 0 then (some t, Sa72.ok (-2)) else (match t.inbox with
    | [] => (some t, Sa72.ok 0)
    | b :: l => if m < (b.length : Int) then (some t, Sa72.ok (-1)) else (some { t with inbox := l }, ⟨b.length, b⟩)) := rfl
  rw [hd] at k0 k1
  refine s_ask (m := -2) (v_ge (val_var rfl) val_c) rfl (fun q => ?_) (fun q => ?_)
  · rw [decide_eq_false_iff_not] at q
    rw [if_pos (by omega)] at k0
    exact k0 (show (-2 : Int) < 0 by decide)
  rw [decide_eq_true_eq] at q
  rw [if_neg (by omega)] at k0 k1
  refine s_if (t_of (v_eq (v_len (ef_come I T (val_var rfl)) I.come) val_c)) (fun q2 => ?_) (fun q2 => ?_)
  · rw [decide_eq_true_eq, lenR, lenC I] at q2
    have hi : t.inbox = [] := List.length_eq_zero_iff.mp (by omega)
    rw [hi] at k1
    exact r_nought I.run (k1 (show (0 : Int) ≤ 0 by decide) _ rfl)
  · rw [decide_eq_false_iff_not, lenR, lenC I] at q2
    match hin : t.inbox, q2 with
    | b :: l, _ =>
      rw [hin] at k0 k1
      simp only at k0 k1
      have rc := I.rc
      rw [hin] at rc
      match hcm : A.cm, rc with
      | p :: ps, .cons hp hps =>
        have hcome := I.come
        rw [hcm] at hcome
        have bl : b.length ≤ 100000 := by
          have := ok.inbox.2 b (by rw [hin]; exact List.mem_cons_self ..)
          omega
        refine s_ask (m := -1) (v_le (v_len (v_ix (k := 0) (v := .ref p) (ef_come I T (val_var rfl)) hcome val_c rfl rfl) hp) (val_var rfl)) rfl (fun q3 => ?_) (fun q3 => ?_)
        · rw [decide_eq_false_iff_not, nts_len] at q3
          rw [if_pos (by omega)] at k0
          exact k0 (show (-1 : Int) < 0 by decide)
        · rw [decide_eq_true_eq, nts_len] at q3
          rw [if_neg (by omega)] at k1
          have N := nes_iff.mp I.nd
          have J1 : Run L e A [] H { A with sm := A.sm, um := A.um, cm := ps } (sMsgs t t.sent t.waits l) n (upd H A.come (.lst (ps.map V.ref))) := by
            refine I.run.newMsgs ?_ ?_ upd_same I.rs I.ru hps (fun x hx => ?_) ((KeepBut.refl _ _).at (by simp))
            · rw [upd_ne N.sc]
              exact I.sent
            · rw [upd_ne N.uc]
              exact I.unsent
            · have hx' : x ∈ A.sm ∨ x ∈ A.um ∨ x ∈ ps := by simpa using hx
              rcases hx' with hx | hx | hx
              · exact .inl (imm_s _ hx)
              · exact .inl (imm_u _ hx)
              · exact .inl (imm_c _ (by rw [hcm]; exact List.mem_cons_of_mem _ hx))
          have hpo : p ∉ Own e A := I.im _ (imm_c _ (by rw [hcm]; exact List.mem_cons_self ..))
          obtain ⟨hp1, _⟩ := J1.F.keepRow hp hpo
          refine s_pop0 (xs := ps.map V.ref) (ef_come I T (val_var rfl)) hcome ?_
          exact r_counted J1 rfl hp1 bl (k1 (show (0 : Int) ≤ (b.length : Nat) from Int.natCast_nonneg _) _ rfl)
theorem pure_d_told {K : PySem.W.Frag} {L : LA} (T : Tx K L) {vs : List V} {H : Hp} {Q : VK} {E : XK} (h : sp_d_told K L vs H Q E) : t_d_told K L { nx := fun _ H' => Q .non H', rt := Q } (start N_d_told vs) H := by
  obtain ⟨e, A, t, n, rfl, I, k⟩ := h
  have hc : Val (tCB (kLen K) (tCons (tFld K (tVar 0) "come") tNil)) (start N_d_told [.ref e]) H (.int ((t.inbox.length : Nat) : Int)) := v_is (v_len (ef_come I T (val_var rfl)) I.come) (by rw [lenR, lenC I])
  refine r_lst (a_cons val_c (a_cons (ef_stage I T (val_var rfl)) (a_cons (ef_s I T (val_var rfl)) (a_cons (ef_a I T (val_var rfl)) (a_cons (ef_r I T (val_var rfl)) (a_cons (v_many I rfl) (a_cons hc a_nil))))))) (by show 7 ≤ sizeLine; decide) fun p hp => ?_
  have J1 := I.run.new (o := .lst (zts (ansOf (Sa72.does (some t) .told).2))) hp
  exact k _ A n p J1.I J1.F upd_same (I.foot_new hp) (I.run.fresh hp)
end LK
namespace LK
open PySem PySem.Spec PyProof.Rows L2
/-! # What a call leaves -/
theorem Ok.waits {t : S} (ok : Ok t) {row : List Nat} (hl : row.length ≤ 1024) (hb : B8 row) (hm : t.sent.length + t.waits.length < 64) : Ok { t with waits := t.waits ++ [row] } := by
  refine ⟨ok.side, ok.win, ok.s, ok.a, ok.r, ok.clock, ok.sent, ?_, ok.inbox, fun b h => ?_, ok.wrong, ok.far, ok.out⟩
  · show t.sent.length + (t.waits ++ [row]).length ≤ 64
    rw [List.length_append]
    simp
    omega
  · have h' : b ∈ t.sent ++ (t.waits ++ [row]) := h
    rw [← List.append_assoc] at h'
    rcases List.mem_append.mp h' with z | z
    · exact ok.rows b z
    · rw [List.mem_singleton.mp z]
      exact ⟨hl, hb⟩
theorem Ok.begun {sd w p n : Nat} (h1 : sd ≤ 1) (h2 : 1 ≤ w) (h3 : w ≤ 7) : Ok (Sa72.begun sd w p n) :=
  ⟨h1, ⟨h2, h3⟩, (by show 0 < 8; decide), (by show 0 < 8; decide), (by show 0 < 8; decide), fun _ q => (by cases q), Nat.zero_le _, Nat.zero_le _, ⟨Nat.zero_le _, fun _ q => (by cases q)⟩, fun _ q => (by cases q), ⟨Nat.zero_le _, B8.nil⟩, fun q => (by cases q), ⟨Nat.zero_le _, B1.nil⟩⟩
theorem Ok.does {t t' : S} {row : List Nat} {c : Int} {xs : List Int} {x : Sa72.Call} (h : Ok t) {s : Ls} (r : LisRel s t.got) (hb : B8 row) (hx : CallIs row c xs x) (e : (Sa72.does (some t) x).1 = some t') : Ok t' := by
  cases hx with
  | @connect now _ =>
    have hd : Sa72.does (some t) (.connect now) = if t.stage ≠ .down then (some t, Sa72.ok (-3)) else (some (Sa72.greet t now), Sa72.ok 0) := rfl
    rw [hd] at e
    split at e
    · cases e
      exact h
    · cases e
      exact h.greet _
  | @finish now _ =>
    have hd : Sa72.does (some t) (.end_ now) = if t.stage ≠ .up then (some t, Sa72.ok (-3)) else (some (({ Sa72.afresh t with stage := .ending, clock := some (now % 2 ^ 32) } : S).command (0x43 + Sa72.PF) []), Sa72.ok 0) := rfl
    rw [hd] at e
    split at e
    · cases e
      exact h
    · cases e
      exact (h.afreshS _ _ (mod32 now)).command _ _
  | @send now _ =>
    have hd : Sa72.does (some t) (.send row row.length now) = if Sa72.within row.length 1 1024 = false then (some t, Sa72.ok (-2)) else if 64 ≤ t.sent.length + t.waits.length then (some t, Sa72.ok (-4)) else (some (Sa72.onward { t with waits := t.waits ++ [row] } now), Sa72.ok 0) := rfl
    rw [hd] at e
    split at e
    · cases e
      exact h
    · rename_i q
      rw [Bool.not_eq_false, within_is, Bool.and_eq_true, decide_eq_true_eq, decide_eq_true_eq] at q
      split at e
      · cases e
        exact h
      · cases e
        exact (h.waits (by omega) hb (by omega)).onward _
  | @bits m now _ =>
    have hd : Sa72.does (some t) (.bits row m now) = if Sa72.within m 0 524280 = false then (some t, Sa72.ok (-2)) else (some (Sa72.feed ((Sa72.bitsOf row).take m.toNat) t now), Sa72.ok 0) := rfl
    rw [hd] at e
    split at e
    · cases e
      exact h
    · cases e
      exact Ok.feed h r (fun x hx => bits_b1 row x (List.mem_of_mem_take hx)) _
  | @tick now _ =>
    have e' : some (Sa72.tick t now) = some t' := e
    cases e'
    exact h.tick _
  | @output m =>
    have hd : Sa72.does (some t) (.output m) = if Sa72.within m 0 65536 = false then (some t, Sa72.ok (-2)) else (some { t with out := (Sa72.outgoing t.out m.toNat).2 }, ⟨(Sa72.outgoing t.out m.toNat).1.length, (Sa72.outgoing t.out m.toNat).1⟩) := rfl
    rw [hd] at e
    split at e
    · cases e
      exact h
    · cases e
      refine ⟨h.side, h.win, h.s, h.a, h.r, h.clock, h.sent, h.many, h.inbox, h.rows, h.wrong, h.far, ?_, ?_⟩
      · have := h.out.1
        show (t.out.drop _).length ≤ 1048576
        rw [List.length_drop]
        omega
      · exact fun x hx => h.out.2 x (List.mem_of_mem_drop hx)
  | @take m =>
    have hd : Sa72.does (some t) (.take m) = if m < 0 then (some t, Sa72.ok (-2)) else (match t.inbox with
      | [] => (some t, Sa72.ok 0)
      | b :: l => if m < (b.length : Int) then (some t, Sa72.ok (-1)) else (some { t with inbox := l }, ⟨b.length, b⟩)) := rfl
    rw [hd] at e
    split at e
    · cases e
      exact h
    · split at e
      · cases e
        exact h
      · rename_i b l hin
        split at e
        · cases e
          exact h
        · cases e
          refine ⟨h.side, h.win, h.s, h.a, h.r, h.clock, h.sent, h.many, ⟨?_, fun x hx => h.inbox.2 x (by rw [hin]; exact List.mem_cons_of_mem _ hx)⟩, h.rows, h.wrong, h.far, h.out⟩
          have := h.inbox.1
          rw [hin] at this
          show l.length ≤ 64
          simp at this
          omega
  | told =>
    have e' : some t = some t' := e
    cases e'
    exact h
theorem does_refused (a : Option S) (x : Sa72.Call) : (Sa72.does a x).2.v < 0 → (Sa72.does a x).1 = a ∧ (Sa72.does a x).2.l = [] := by
  have z : ¬ (Sa72.ok 0).v < 0 := by decide
  have zn : ∀ n : Nat, ¬ (n : Int) < 0 := fun n => by omega
  cases x with
  | begin_ sd w p n =>
    cases a <;>
    · unfold Sa72.does
      simp only
      split
      · exact fun _ => ⟨rfl, rfl⟩
      · exact fun h => absurd h z
  | _ =>
    cases a with
    | none => exact fun _ => ⟨rfl, rfl⟩
    | some t =>
      unfold Sa72.does
      simp only
      repeat' split
      all_goals first | exact fun _ => ⟨rfl, rfl⟩ | exact fun h => absurd h z | exact fun h => absurd h (zn _)
/-! ## answer_of -/
section
variable {K : PySem.W.Frag} {L : LA} {H H1 : Hp} {e : Addr} {A : EA} {t : S} {σ : L2.St} {D : Ends} {X : List Addr}
theorem s_skip {i j : Int} {k : Nat} {u : TS} (h : σ[k]? = some (some (.int i))) (hne : i ≠ j) (q : D.nx σ H) : tIfS (tTest (tOp rEq (tVar k) (tC (.int j)))) u tNext D σ H :=
  s_if (t_of (v_eq (val_var h) val_c)) (fun z => absurd (of_decide_eq_true z) hne) fun _ => q
theorem s_take {i j : Int} {k : Nat} {u v : TS} (h : σ[k]? = some (some (.int i))) (he : i = j) (q : u D σ H) : tIfS (tTest (tOp rEq (tVar k) (tC (.int j)))) u v D σ H :=
  s_if (t_of (v_eq (val_var h) val_c)) (fun _ => q) fun z => absurd he (of_decide_eq_false z)
theorem CallP.mono {c : Sa72.Call} {Q : VK} {E : XK} (k : CallP L H e A X t c Q E) : CallP L H e A [] t c Q E := ⟨k.1, fun h t' q H' A' n' p I F => k.2 h t' q H' A' n' p I F.mono⟩
theorem PostR.mono {Q : VK} {t' : S} {ans : List Int} (k : PostR L H e A X t' ans Q) : PostR L H e A [] t' ans Q := fun H' A' n' p I F => k H' A' n' p I F.mono
theorem ErrP.same {n : Int} {E : XK} (k : ErrP L H n E) (s : Same H H1) : ErrP L H1 n E := fun H' d s' hd => k H' d (s.trans s') hd
end
theorem pure_d_answer_of {K : PySem.W.Frag} {L : LA} (T : Tx K L) {vs : List V} {H : Hp} {Q : VK} {E : XK} (h : sp_d_answer_of K L vs H Q E) : t_d_answer_of K L E { nx := fun _ H' => Q .non H', rt := Q } (start N_d_answer_of vs) H := by
  obtain ⟨e, a, ra, A, t, n, c, xs, row, x, rfl, ha, hr, hra, hb, hl, hx, ok, I, k⟩ := h
  cases hx with
  | @connect now hn =>
    refine s_take rfl rfl ?_
    exact ⟨_, rfl, v_ix (k := 0) (v := .int (now : Int)) (val_var rfl) ha val_c rfl rfl _ ⟨e, A, t, n, now, rfl, hn, ok, I, k.mono⟩⟩
  | @finish now hn =>
    refine s_skip rfl (by decide) ?_
    refine s_take rfl rfl ?_
    exact ⟨_, rfl, v_ix (k := 0) (v := .int (now : Int)) (val_var rfl) ha val_c rfl rfl _ ⟨e, A, t, n, now, rfl, hn, ok, I, k.mono⟩⟩
  | @send now hn =>
    refine s_skip rfl (by decide) ?_
    refine s_skip rfl (by decide) ?_
    refine s_take rfl rfl ?_
    exact ⟨_, rfl, v_ix (k := 0) (v := .int (now : Int)) (val_var rfl) ha val_c rfl rfl _ ⟨_, rfl, e, ra, A, t, n, now, row, rfl, hr, hra, hb, hn, ok, I, k⟩⟩
  | @bits m now hn =>
    refine s_skip rfl (by decide) ?_
    refine s_skip rfl (by decide) ?_
    refine s_skip rfl (by decide) ?_
    refine s_take rfl rfl ?_
    exact ⟨_, rfl, v_ix (k := 0) (v := .int m) (val_var rfl) ha val_c rfl rfl _ (v_ix (k := 1) (v := .int (now : Int)) (val_var rfl) ha val_c rfl rfl _ ⟨_, rfl, e, ra, A, t, n, now, m, row, rfl, hr, hra, hl, hn, ok, I, k.mono⟩)⟩
  | @tick now hn =>
    refine s_skip rfl (by decide) ?_
    refine s_skip rfl (by decide) ?_
    refine s_skip rfl (by decide) ?_
    refine s_skip rfl (by decide) ?_
    refine s_take rfl rfl ?_
    exact ⟨_, rfl, v_ix (k := 0) (v := .int (now : Int)) (val_var rfl) ha val_c rfl rfl _ ⟨e, A, t, n, now, rfl, hn, ok, I, (k.2 (show (0 : Int) ≤ 0 by decide) _ rfl).mono⟩⟩
  | @output m =>
    refine s_skip rfl (by decide) ?_
    refine s_skip rfl (by decide) ?_
    refine s_skip rfl (by decide) ?_
    refine s_skip rfl (by decide) ?_
    refine s_skip rfl (by decide) ?_
    refine s_take rfl rfl ?_
    exact ⟨_, rfl, v_ix (k := 0) (v := .int m) (val_var rfl) ha val_c rfl rfl _ ⟨e, A, t, n, m, rfl, ok, I, k.mono⟩⟩
  | @take m =>
    refine s_skip rfl (by decide) ?_
    refine s_skip rfl (by decide) ?_
    refine s_skip rfl (by decide) ?_
    refine s_skip rfl (by decide) ?_
    refine s_skip rfl (by decide) ?_
    refine s_skip rfl (by decide) ?_
    refine s_take rfl rfl ?_
    exact ⟨_, rfl, v_ix (k := 0) (v := .int m) (val_var rfl) ha val_c rfl rfl _ ⟨e, A, t, n, m, rfl, ok, I, k.mono⟩⟩
  | told =>
    refine s_skip rfl (by decide) ?_
    refine s_skip rfl (by decide) ?_
    refine s_skip rfl (by decide) ?_
    refine s_skip rfl (by decide) ?_
    refine s_skip rfl (by decide) ?_
    refine s_skip rfl (by decide) ?_
    refine s_skip rfl (by decide) ?_
    exact ⟨_, rfl, e, A, t, n, rfl, I, (k.2 (show (0 : Int) ≤ 0 by decide) _ rfl).mono⟩
end LK
namespace LK
open PySem PySem.Spec PyProof.Rows L2
/-! # Two ends -/
section
variable {K : PySem.W.Frag} {L : LA} {H H' : Hp} {e ae ra : Addr} {A : EA} {t : S} {n : Nat} {v : V} {F O : List Addr} {s : Option S}
theorem Rows.kept (k : ∀ b o, H b = some o → b ∈ F → H' b = some o) : ∀ {ps : List Addr} {rs : List (List Nat)}, (∀ p ∈ ps, p ∈ F) → Rows H ps rs → Rows H' ps rs
  | _, _, _, .nil => .nil
  | _, _, hp, .cons h r => .cons (k _ _ h (hp _ (List.mem_cons_self ..))) (Rows.kept k (fun p q => hp p (List.mem_cons_of_mem _ q)) r)
theorem EndAt.keep (I : EndAt L H e A t n) (k : ∀ b o, H b = some o → b ∈ Foot e A → H' b = some o) : EndAt L H' e A t n := by
  have ko : ∀ {b o}, b ∈ Own e A → H b = some o → H' b = some o := fun h q => k _ _ q (own_foot h)
  have ki : ∀ p ∈ Imm A, p ∈ Foot e A := fun p h => List.mem_append_right _ h
  exact { obj := ko (by simp) I.obj, sent := ko (by simp) I.sent, unsent := ko (by simp) I.unsent, come := ko (by simp) I.come, wrong := k _ _ I.wrong (ki _ imm_w), lis := ⟨ko (by simp) I.lis.obj, ko (by simp) I.lis.kept⟩, wai := ⟨ko (by simp) I.wai.obj, ko (by simp) I.wai.bits⟩, rs := I.rs.kept k fun p h => ki _ (imm_s _ h), ru := I.ru.kept k fun p h => ki _ (imm_u _ h), rc := I.rc.kept k fun p h => ki _ (imm_c _ h), nd := I.nd, im := I.im, lr := I.lr, bz := I.bz, nn := I.nn }
theorem AtE.keep (a : AtE L H v F O s) (k : ∀ b o, H b = some o → b ∈ F → H' b = some o) : AtE L H' v F O s := by
  cases a with
  | non => exact .non
  | «at» I ok => exact .at (I.keep k) ok
theorem AtE.some (a : AtE L H v F O s) {b : Addr} (h : b ∈ F) : ∃ o, H b = some o := by
  cases a with
  | non => cases h
  | «at» I ok => exact I.foot_some h
theorem AtE.own (a : AtE L H v F O s) {b : Addr} (h : b ∈ O) : b ∈ F := by
  cases a with
  | non => cases h
  | «at» I ok => exact own_foot h
/-- the one that's called, and what stands when it has become another -/
theorem Two.pick {s : Option S × Option S} (two : Two L H ae F O s) {i : Nat} (hi : i ≤ 1) : ∃ vs v Fe Oe, H ae = some (.lst vs) ∧ vs.length = 2 ∧ vs[i]? = some v ∧ AtE L H v Fe Oe (if (i : Int) = 0 then s.1 else s.2) ∧ (∀ b ∈ Fe, b ∈ F) ∧ (∀ b ∈ Oe, b ∈ O) ∧ ae ∉ F ∧
    ∀ (H' : Hp) (v' : V) (Fe' Oe' : List Addr) (se' : Option S) (ra : Addr), H' ae = some (.lst (vs.set i v')) → AtE L H' v' Fe' Oe' se' → (∀ b o, H b = some o → b ≠ ae → b ∉ Oe → H' b = some o) → (∀ b ∈ Fe', b ∈ Fe ∨ b = ra ∨ H b = none) → (∀ b ∈ Oe', b ∈ Oe ∨ H b = none) → ra ∉ F → ra ≠ ae →
      ∃ F' O', Two L H' ae F' O' (if (i : Int) = 0 then (se', s.2) else (s.1, se')) ∧ ∀ b ∈ F', b ∈ Fe' ∨ (b ∈ F ∧ b ∉ Oe ∧ ∃ o, H b = some o) := by
  obtain ⟨v0, v1, F0, F1, O0, O1, hae, a0, a1, rfl, rfl, haF, h01, h10⟩ := two.ex
  have haF0 : ae ∉ F0 := fun z => haF (List.mem_append_left _ z)
  have haF1 : ae ∉ F1 := fun z => haF (List.mem_append_right _ z)
  rcases Nat.le_one_iff_eq_zero_or_eq_one.mp hi with rfl | rfl
  · refine ⟨_, v0, F0, O0, hae, rfl, rfl, by simpa using a0, fun b h => List.mem_append_left _ h, fun b h => List.mem_append_left _ h, haF, fun H' v' Fe' Oe' se' ra h1 at' kp hf ho hrF hra => ?_⟩
    refine ⟨Fe' ++ F1, Oe' ++ O1, ⟨v', v1, Fe', F1, Oe', O1, h1, by simpa using at', (by simpa using a1.keep fun b o q h => kp b o q (fun z => haF1 (z ▸ h)) (h10 b h)), rfl, rfl, fun z => ?_, fun b hb z => ?_, fun b hb z => ?_⟩, fun b hb => ?_⟩
    · rcases List.mem_append.mp z with z | z
      · rcases hf _ z with q | q | q
        · exact haF0 q
        · exact hra q.symm
        · rw [hae] at q
          cases q
      · exact haF1 z
    · obtain ⟨o, ho1⟩ := a1.some (a1.own z)
      rcases hf _ hb with q | q | q
      · exact h01 b q z
      · exact hrF (List.mem_append_right _ (by rw [← q]; exact a1.own z))
      · rw [ho1] at q
        cases q
    · obtain ⟨o, ho1⟩ := a1.some hb
      rcases ho _ z with q | q
      · exact h10 b hb q
      · rw [ho1] at q
        cases q
    · rcases List.mem_append.mp hb with q | q
      · exact .inl q
      · exact .inr ⟨List.mem_append_right _ q, h10 b q, a1.some q⟩
  · refine ⟨_, v1, F1, O1, hae, rfl, rfl, by simpa using a1, fun b h => List.mem_append_right _ h, fun b h => List.mem_append_right _ h, haF, fun H' v' Fe' Oe' se' ra h1 at' kp hf ho hrF hra => ?_⟩
    refine ⟨F0 ++ Fe', O0 ++ Oe', ⟨v0, v', F0, Fe', O0, Oe', h1, (by simpa using a0.keep fun b o q h => kp b o q (fun z => haF0 (z ▸ h)) (h01 b h)), by simpa using at', rfl, rfl, fun z => ?_, fun b hb z => ?_, fun b hb z => ?_⟩, fun b hb => ?_⟩
    · rcases List.mem_append.mp z with z | z
      · exact haF0 z
      · rcases hf _ z with q | q | q
        · exact haF1 q
        · exact hra q.symm
        · rw [hae] at q
          cases q
    · obtain ⟨o, ho1⟩ := a0.some hb
      rcases ho _ z with q | q
      · exact h01 b hb q
      · rw [ho1] at q
        cases q
    · obtain ⟨o, ho1⟩ := a0.some (a0.own z)
      rcases hf _ hb with q | q | q
      · exact h10 b q z
      · exact hrF (List.mem_append_left _ (by rw [← q]; exact a0.own z))
      · rw [ho1] at q
        cases q
    · rcases List.mem_append.mp hb with q | q
      · exact .inr ⟨List.mem_append_left _ q, h01 b q, a0.some q⟩
      · exact .inl q
end
theorem cut_fromV {l : List V} {j : Nat} : cutV l (some (j : Int)) none = l.drop j := by
  unfold cutV
  rw [HT.sIx_nat, HT.sIx_none]
  rcases Nat.le_total j l.length with c | c
  · rw [Nat.min_eq_left c, List.take_of_length_le (by rw [List.length_drop]; omega)]
  · rw [Nat.min_eq_right c, List.drop_eq_nil_of_le (Nat.le_refl _), List.drop_eq_nil_of_le c, List.take_nil]
theorem does_begin (a : Option S) (sd w : Int) (p : Nat) (n : Int) : Sa72.does a (.begin_ sd w p n) = if (Sa72.within sd 0 1 && (Sa72.within w 1 7 && (decide (1 ≤ p) && Sa72.within n 1 100))) = false then (a, Sa72.ok (-2)) else (some (Sa72.begun sd.toNat w.toNat p n.toNat), Sa72.ok 0) := by
  cases a <;> rfl
theorem begin_ok {sd w p n : Int} (hp : 0 ≤ p) : (Sa72.within sd 0 1 && (Sa72.within w 1 7 && (decide (1 ≤ p.toNat) && Sa72.within n 1 100))) = okBegin sd w p n := by
  have : decide (1 ≤ p.toNat) = decide (1 ≤ p) := decide_eq_decide.mpr (by omega)
  rw [this] <;> rfl
theorem list_set_self {v : V} : ∀ {vs : List V} {i : Nat}, vs[i]? = some v → vs.set i v = vs
  | [], _, h => by cases h
  | x :: xs, 0, h => by
    cases h
    rfl
  | x :: xs, i + 1, h => congrArg (x :: ·) (list_set_self (i := i) h)
theorem pure_d_answer_to {K : PySem.W.Frag} {L : LA} (T : Tx K L) {vs : List V} {H : Hp} {Q : VK} {E : XK} (h : sp_d_answer_to K L vs H Q E) : t_d_answer_to K L E { nx := fun _ H' => Q .non H', rt := Q } (start N_d_answer_to vs) H := by
  obtain ⟨ae, a, ra, F, O, c, xs, row, x, s, rfl, ha, hr, hrF, hrae, hb, hl, hs, two, k0, k1⟩ := h
  cases hs with
  | @begun i sd w p n hi hp0 hp1 =>
    obtain ⟨ws, v, Fe, Oe, hae, hwl, hwi, at0, hFe, hOe, haF, mk⟩ := two.pick hi
    have es : stepOf s ((i : Int), Sa72.Call.begin_ sd w p.toNat n) = (if (i : Int) = 0 then ((if okBegin sd w p n = false then (if (i : Int) = 0 then s.1 else s.2) else some (Sa72.begun sd.toNat w.toNat p.toNat n.toNat)), s.2) else (s.1, (if okBegin sd w p n = false then (if (i : Int) = 0 then s.1 else s.2) else some (Sa72.begun sd.toNat w.toNat p.toNat n.toNat))), if okBegin sd w p n = false then Sa72.ok (-2) else Sa72.ok 0) := by
      unfold stepOf
      simp only
      rw [does_begin, begin_ok hp0]
      cases okBegin sd w p n <;> rfl
    rw [es] at k0 k1
    refine s_asg (v_ix (k := 0) (v := .int (i : Int)) (val_var rfl) ha val_c rfl rfl) ?_
    refine s_take rfl rfl ?_
    refine ⟨_, rfl, 1, rfl, a, _, rfl, SqL.of ha, fun q hq => ?_⟩
    have ec : cutV (zts [(i : Int), sd, w, p, n]) (some ((1 : Nat) : Int)) none = [.int sd, .int w, .int p, .int n] := cut_fromV
    rw [show cutV (zts [(i : Int), sd, w, p, n]) (some 1) none = [.int sd, .int w, .int p, .int n] from ec]
    have s1 : Same H (upd H q (.lst [.int sd, .int w, .int p, .int n])) := same_upd hq
    refine ⟨q, sd, w, p, n, rfl, upd_same, fun hg => ?_, fun hg H2 y A I2 s2 hf => ?_⟩
    · rw [if_pos hg, if_pos hg] at k0
      exact (k0 (show (-2 : Int) < 0 by decide)).same s1
    · have s02 : Same H H2 := s1.trans s2
      have hg' := hg
      unfold okBegin at hg'
      simp only [within_is, Bool.and_eq_true, decide_eq_true_eq] at hg'
      obtain ⟨⟨g1, g2⟩, ⟨g3, g4⟩, g5, g6, g7⟩ := hg'
      have gne : ¬ okBegin sd w p n = false := by
        rw [hg]
        decide
      rw [if_neg gne, if_neg gne] at k1
      refine ⟨_, rfl, _, rfl, ae, ws, (i : Int), i, rfl, rfl, s02 _ _ hae, ?_, by show 1 ≤ sizeLine; decide, fun r hr2 => ?_⟩
      · unfold ixN
        rw [if_pos (Int.natCast_nonneg _), if_pos (by omega)]
        rfl
      · have hyF : ∀ b ∈ Foot y A, H b = none := fun b hb => s1.free (hf b hb)
        have nae : ∀ b ∈ Foot y A, b ≠ ae := fun b hb z => by
          have := hyF b hb
          rw [z, hae] at this
          cases this
        have nr : ∀ {b o}, upd H2 ae (.lst (ws.set i (.ref y))) b = some o → b ≠ r := fun q => ne_of_none q hr2
        have I3 : EndAt L (upd (upd H2 ae (.lst (ws.set i (.ref y)))) r (.lst (zts [0]))) y A (Sa72.begun sd.toNat w.toNat p.toNat n.toNat) 0 := I2.keep fun b o q hb => by
          have e1 : upd H2 ae (.lst (ws.set i (.ref y))) b = some o := by
            rw [upd_ne (nae b hb)]
            exact q
          rw [upd_ne (nr e1)]
          exact e1
        have rae : ae ≠ r := nr upd_same
        have kp : ∀ b o, H b = some o → b ≠ ae → upd (upd H2 ae (.lst (ws.set i (.ref y)))) r (.lst (zts [0])) b = some o := fun b o q z => by
          have e1 : upd H2 ae (.lst (ws.set i (.ref y))) b = some o := by
            rw [upd_ne z]
            exact s02 _ _ q
          rw [upd_ne (nr e1)]
          exact e1
        obtain ⟨F', O', two', hF'⟩ := mk (upd (upd H2 ae (.lst (ws.set i (.ref y)))) r (.lst (zts [0]))) (.ref y) _ _ _ ra (by rw [upd_ne rae, upd_same]) (.at I3 (Ok.begun (by omega) (by omega) (by omega))) (fun b o q z _ => kp b o q z) (fun b hb => .inr (.inr (hyF b hb))) (fun b hb => .inr (hyF b (own_foot hb))) hrF hrae
        have hrn : H r = none := by
          cases z : H r with
          | none => rfl
          | some o =>
            rw [upd_ne (Ne.symm rae), s02 _ _ z] at hr2
            cases hr2
        refine k1 (show (0 : Int) ≤ 0 by decide) _ F' O' r two' (fun b o q z => kp b o q fun w => z (by rw [w]; exact List.mem_cons_self ..)) (fun b hb => ?_) upd_same ?_ (Ne.symm rae) fun b o q _ z => ?_
        · rcases hF' b hb with z | z
          · exact .inr (.inr (hyF b z))
          · exact .inl z.1
        · intro z
          rcases hF' r z with q | ⟨_, _, o, q⟩
          · obtain ⟨o, q2⟩ := I2.foot_some q
            rw [upd_ne (Ne.symm rae), q2] at hr2
            cases hr2
          · rw [hrn] at q
            cases q
        · rw [← z, hrn] at q
          cases q
  | @other i c xs x hi hx =>
    obtain ⟨ws, v, Fe, Oe, hae, hwl, hwi, at0, hFe, hOe, haF, mk⟩ := two.pick hi
    have hc0 : c ≠ 0 := by
      cases hx <;> decide
    have hix : i < ws.length := by omega
    have es : stepOf s ((i : Int), x) = ((if (i : Int) = 0 then ((Sa72.does (if (i : Int) = 0 then s.1 else s.2) x).1, s.2) else (s.1, (Sa72.does (if (i : Int) = 0 then s.1 else s.2) x).1)), (Sa72.does (if (i : Int) = 0 then s.1 else s.2) x).2) := rfl
    rw [es] at k0 k1
    refine s_asg (v_ix (k := 0) (v := .int (i : Int)) (val_var rfl) ha val_c rfl rfl) ?_
    refine s_skip rfl hc0 ?_
    generalize (if (i : Int) = 0 then s.1 else s.2) = se at at0 k0 k1
    have hv : ∀ {σ : L2.St}, σ[0]? = some (some (.ref ae)) → σ[4]? = some (some (.int (i : Int))) → Val (tOp (rIxL K) (tVar 0) (tVar 4)) σ H v := fun h0 h4 => v_ix (k := i) (val_var h0) hae (val_var h4) rfl hwi
    cases at0 with
    | non =>
      refine s_ask (m := -9) (g := false) (v_is (v_notN (hv rfl rfl)) (by simp)) rfl (fun _ => ?_) fun q => by cases q
      have ed : (Sa72.does none x).2 = Sa72.ok (-9) := by
        cases hx <;> rfl
      rw [ed] at k0
      exact k0 (show (-9 : Int) < 0 by decide)
    | @«at» e A t n I ok =>
      refine s_ask (m := -9) (g := true) (v_is (v_notN (hv rfl rfl)) (by simp)) rfl (fun q => by cases q) fun _ => ?_
      refine hv rfl rfl _ ⟨_, rfl, _, rfl, 1, rfl, a, _, rfl, SqL.of ha, fun q hq => ⟨_, rfl, ?_⟩⟩
      have ec : cutV (zts ((i : Int) :: xs)) (some ((1 : Nat) : Int)) none = zts xs := cut_fromV
      rw [show cutV (zts ((i : Int) :: xs)) (some 1) none = zts xs from ec]
      have s1 : Same H (upd H q (.lst (zts xs))) := same_upd hq
      have hrO : ra ∉ Own e A := fun z => hrF (hFe _ (own_foot z))
      refine ⟨e, q, ra, A, t, n, c, xs, row, x, rfl, upd_same, s1 _ _ hr, hrO, hb, hl, hx, ok, I.same s1, fun hv0 => (k0 hv0).same s1, fun hv0 t' ht' H2 A2 n2 p I2 F2 hp hpF hfr => ?_⟩
      have haO : ae ∉ Own e A := fun z => haF (hFe _ (own_foot z))
      have hae2 := F2.keep _ _ (s1 _ _ hae) haO
      have kp : ∀ b o, H b = some o → b ∉ Own e A → H2 b = some o := fun b o z w => F2.keep _ _ (s1 _ _ z) w
      rw [ht'] at k1
      obtain ⟨F', O', two', hF'⟩ := mk H2 (.ref e) _ _ _ ra (by rw [list_set_self hwi]; exact hae2) (.at I2 (ok.does I.lr hb hx ht')) (fun b o z _ w => kp b o z w) (fun b hb => (F2.foot b hb).imp id fun z => z.imp List.mem_singleton.mp fun w => s1.free w) (fun b hb => (F2.own b hb).imp id fun z => s1.free z) hrF hrae
      refine k1 hv0 _ F' O' p two' (fun b o z w => kp b o z fun y => w (List.mem_cons_of_mem _ (hOe _ y))) (fun b hb => ?_) hp ?_ (hfr _ _ (s1 _ _ hae) haO) fun b o z w => hfr _ _ (s1 _ _ z) fun y => w (List.mem_cons_of_mem _ (hOe _ y))
      · rcases hF' b hb with z | z
        · rcases F2.foot b z with y | y | y
          · exact .inl (hFe _ y)
          · exact .inr (.inl y)
          · exact .inr (.inr (s1.free y))
        · exact .inl z.1
      · intro z
        rcases hF' p z with y | ⟨_, y, o, y2⟩
        · exact hpF y
        · exact hfr _ _ (s1 _ _ y2) y rfl
theorem pure_d_answered {K : PySem.W.Frag} {L : LA} (T : Tx K L) {vs : List V} {H : Hp} {Q : VK} {E : XK} (h : sp_d_answered K L vs H Q E) : t_d_answered K L { nx := fun _ H' => Q .non H', rt := Q } (start N_d_answered vs) H := by
  obtain ⟨ae, a, ra, F, O, c, xs, row, x, s, rfl, ha, hr, hrF, hrae, hb, hl, hs, two, k⟩ := h
  refine ⟨_, rfl, _, rfl, _, rfl, _, rfl, ae, a, ra, F, O, c, xs, row, x, s, rfl, ha, hr, hrF, hrae, hb, hl, hs, two, fun hv H1 d s1 hd => ?_, fun _ => k⟩
  refine ⟨true, T.te, fun _ y hy => ?_, fun z => by cases z⟩
  refine ⟨_, rfl, rfl, rfl, d, _, _, rfl, upd_same, rfl, by show 1 ≤ sizeLine; decide, fun p hp => ?_⟩
  obtain ⟨q1, q2⟩ := does_refused (if x.1 = 0 then s.1 else s.2) x.2 hv
  have e1 : (stepOf s x).1 = s := by
    unfold stepOf
    simp only
    rw [q1]
    split <;> rfl
  have e2 : ansOf (stepOf s x).2 = [(stepOf s x).2.v] := by
    unfold ansOf
    rw [show (stepOf s x).2.l = [] from q2] <;> rfl
  rw [e1, e2] at k
  have s3 : Same H (upd (upd H1 d (.xd [("number", .int (stepOf s x).2.v)])) p (.lst [.int (stepOf s x).2.v])) := same_new (same_new s1 (s1.free hd)) ((same_new s1 (s1.free hd)).free hp)
  have hpn : H p = none := (same_new s1 (s1.free hd)).free hp
  obtain ⟨v0, v1, F0, F1, O0, O1, hae, a0, a1, rfl, rfl, haF, h01, h10⟩ := two.ex
  refine k _ (F0 ++ F1) (O0 ++ O1) p ⟨v0, v1, F0, F1, O0, O1, s3 _ _ hae, a0.keep fun b o q _ => s3 _ _ q, a1.keep fun b o q _ => s3 _ _ q, rfl, rfl, haF, h01, h10⟩ (KeepBut.same s3) (fun b hb => .inl hb) upd_same (fun z => ?_) (fun z => ?_) fun b o q _ z => ?_
  · obtain ⟨o, q⟩ : ∃ o, H p = some o := (List.mem_append.mp z).elim a0.some a1.some
    rw [hpn] at q
    cases q
  · rw [z, hae] at hpn
    cases hpn
  · rw [← z, hpn] at q
    cases q
end LK
namespace LK
open PySem PySem.Spec PyProof.Rows L2
/-! # The list of numbers is calls -/
abbrev ofN (l : List Nat) : List Int := l.map fun (x : Nat) => (x : Int)
theorem ofN_toNat : ∀ {b : List Int}, (b.all fun (z : Int) => Sa72Neutral.natural z 8) = true → ofN (Sa72Neutral.nats b) = b ∧ B8 (Sa72Neutral.nats b)
  | [], _ => ⟨rfl, B8.nil⟩
  | z :: b, h => by
    rw [List.all_cons, Bool.and_eq_true] at h
    obtain ⟨h1, h2⟩ := h
    obtain ⟨e, k⟩ := ofN_toNat h2
    have hz : (decide (0 ≤ z) && decide (z < 2 ^ 8)) = true := h1
    rw [Bool.and_eq_true, decide_eq_true_eq, decide_eq_true_eq] at hz
    refine ⟨?_, B8.cons (by omega) k⟩
    show ((z.toNat : Nat) : Int) :: ofN (Sa72Neutral.nats b) = z :: b
    rw [e, Int.toNat_of_nonneg hz.1]
theorem nat1 {e : Int} (h : Sa72Neutral.natural e 1 = true) : ∃ i : Nat, i ≤ 1 ∧ e = (i : Int) := by
  have hz : (decide (0 ≤ e) && decide (e < 2 ^ 1)) = true := h
  rw [Bool.and_eq_true, decide_eq_true_eq, decide_eq_true_eq] at hz
  exact ⟨e.toNat, by omega, by omega⟩
theorem nat32 {e : Int} (h : Sa72Neutral.natural e 32 = true) : ∃ i : Nat, i < 2 ^ 32 ∧ e = (i : Int) := by
  have hz : (decide (0 ≤ e) && decide (e < 2 ^ 32)) = true := h
  rw [Bool.and_eq_true, decide_eq_true_eq, decide_eq_true_eq] at hz
  exact ⟨e.toNat, by omega, by omega⟩
theorem row_cases {l x s : List Int} (h : PyFlat.row l = some (x, s)) : l = (x.length : Int) :: (x ++ s) := by
  cases l with
  | nil => cases h
  | cons n r =>
    unfold PyFlat.row at h
    simp only at h
    split at h
    · rename_i c
      cases h
      rw [List.take_append_drop, List.length_take, Nat.min_eq_left c.2, Int.toNat_of_nonneg c.1]
    · cases h
/-- one call of the list: its number, its numbers, its row -/
structure CallAt (l : List Int) (c : List (List Int)) (t : List Int) (p : Int) (j : Nat) (xs : List Int) (row : List Nat) (x : Int × Sa72.Call) : Prop where
  num : p = (j : Int)
  many : ([5, 2, 2, 2, 3, 2, 2, 2, 1] : List Int)[j]? = some (xs.length : Int)
  split : l = p :: (xs ++ (if p = 3 ∨ p = 4 then (row.length : Int) :: (ofN row ++ t) else t))
  none : ¬ (p = 3 ∨ p = 4) → row = []
  b8 : B8 row
  step : StepIs row p xs x
  does : ∀ s, Sa72Neutral.step s (PySa72.whole c) = ((stepOf s x).1, ansOf (stepOf s x).2)
theorem call_shape {p : Int} {r t : List Int} {c : List (List Int)} {n k : Nat} (hs : PySa72.shape p = some (n, k)) (h : PyFlat.call PySa72.shape (p :: r) = some (c, t)) : n ≤ r.length ∧ ∃ xs, PyFlat.rows k (r.drop n) = some (xs, t) ∧ c = (p :: r.take n) :: xs := by
  unfold PyFlat.call at h
  simp only at h
  rw [hs] at h
  simp only at h
  split at h
  · cases h
  · rename_i hl
    split at h
    · cases h
    · rename_i xs t' e
      cases h
      exact ⟨by omega, xs, e, rfl⟩
theorem call_cases {l t : List Int} {c : List (List Int)} (h : PyFlat.call PySa72.shape l = some (c, t)) (ha : Sa72Neutral.asked1 (PySa72.whole c) = true) : ∃ p j xs row x, CallAt l c t p j xs row x := by
  cases l with
  | nil => cases h
  | cons p r =>
    have hp : p = 0 ∨ p = 1 ∨ p = 2 ∨ p = 3 ∨ p = 4 ∨ p = 5 ∨ p = 6 ∨ p = 7 ∨ p = 8 := by
      by_cases q : p = 0 ∨ p = 1 ∨ p = 2 ∨ p = 3 ∨ p = 4 ∨ p = 5 ∨ p = 6 ∨ p = 7 ∨ p = 8
      · exact q
      · exfalso
        have hs : PySa72.shape p = none := by
          unfold PySa72.shape
          simp only [not_or] at q
          obtain ⟨q0, q1, q2, q3, q4, q5, q6, q7, q8⟩ := q
          rw [if_neg q0, if_neg q1, if_neg q2, if_neg q3, if_neg q4, if_neg q5, if_neg q6, if_neg q7, if_neg q8]
        unfold PyFlat.call at h
        simp only at h
        rw [hs] at h
        cases h
    rcases hp with rfl | rfl | rfl | rfl | rfl | rfl | rfl | rfl | rfl
    · obtain ⟨hl, ys, hr, rfl⟩ := call_shape (n := 5) (k := 0) rfl h
      cases hr
      match r, hl with
      | e :: sd :: w :: pt :: tr :: r', _ =>
        have ha' : (Sa72Neutral.natural e 1 && (Sa72Neutral.whole32 sd && (Sa72Neutral.whole32 w && (Sa72Neutral.natural pt 32 && (Sa72Neutral.whole32 tr))))) = true := ha
        simp only [Bool.and_eq_true] at ha'
        obtain ⟨i, hi, rfl⟩ := nat1 ha'.1
        obtain ⟨m, hm, rfl⟩ := nat32 ha'.2.2.2.1
        exact ⟨0, 0, [(i : Int), sd, w, (m : Int), tr], [], ((i : Int), .begin_ sd w m tr), rfl, rfl, rfl, fun _ => rfl, B8.nil, .begun (p := (m : Int)) hi (by omega) (by omega), fun s => rfl⟩
    · obtain ⟨hl, ys, hr, rfl⟩ := call_shape (n := 2) (k := 0) rfl h
      cases hr
      match r, hl with
      | e :: now :: r', _ =>
        have ha' : (Sa72Neutral.natural e 1 && Sa72Neutral.natural now 32) = true := ha
        simp only [Bool.and_eq_true] at ha'
        obtain ⟨i, hi, rfl⟩ := nat1 ha'.1
        obtain ⟨m, hm, rfl⟩ := nat32 ha'.2
        exact ⟨1, 1, [(i : Int), (m : Int)], [], ((i : Int), .connect m), rfl, rfl, rfl, fun _ => rfl, B8.nil, .other hi (.connect hm), fun s => rfl⟩
    · obtain ⟨hl, ys, hr, rfl⟩ := call_shape (n := 2) (k := 0) rfl h
      cases hr
      match r, hl with
      | e :: now :: r', _ =>
        have ha' : (Sa72Neutral.natural e 1 && Sa72Neutral.natural now 32) = true := ha
        simp only [Bool.and_eq_true] at ha'
        obtain ⟨i, hi, rfl⟩ := nat1 ha'.1
        obtain ⟨m, hm, rfl⟩ := nat32 ha'.2
        exact ⟨2, 2, [(i : Int), (m : Int)], [], ((i : Int), .end_ m), rfl, rfl, rfl, fun _ => rfl, B8.nil, .other hi (.finish hm), fun s => rfl⟩
    · obtain ⟨hl, ys, hr, rfl⟩ := call_shape (n := 2) (k := 1) rfl h
      match r, hl with
      | e :: now :: r', _ =>
        unfold PyFlat.rows at hr
        simp only at hr
        split at hr
        · cases hr
        · rename_i b s' er
          cases hr
          have er' := row_cases er
          have er'' : r' = (b.length : Int) :: (b ++ t) := er'
          have ha' : (Sa72Neutral.natural e 1 && (Sa72Neutral.whole32 (b.length : Int) && (Sa72Neutral.natural now 32 && (b.all (fun (z : Int) => Sa72Neutral.natural z 8) && (decide ((b.length : Int) = if 1 ≤ (b.length : Int) ∧ (b.length : Int) ≤ 1024 then (b.length : Int) else 0)))))) = true := ha
          simp only [Bool.and_eq_true] at ha'
          obtain ⟨i, hi, rfl⟩ := nat1 ha'.1
          obtain ⟨m, hm, rfl⟩ := nat32 ha'.2.2.1
          obtain ⟨eb, kb⟩ := ofN_toNat ha'.2.2.2.1
          have el : (Sa72Neutral.nats b).length = b.length := List.length_map ..
          refine ⟨3, 3, [(i : Int), (m : Int)], Sa72Neutral.nats b, ((i : Int), .send (Sa72Neutral.nats b) (Sa72Neutral.nats b).length m), rfl, rfl, ?_, fun q => absurd (.inl rfl) q, kb, .other hi (.send hm), fun s => ?_⟩
          · rw [if_pos (.inl rfl), el, eb, er''] <;> rfl
          · rw [el] <;> rfl
    · obtain ⟨hl, ys, hr, rfl⟩ := call_shape (n := 3) (k := 1) rfl h
      match r, hl with
      | e :: n :: now :: r', _ =>
        unfold PyFlat.rows at hr
        simp only at hr
        split at hr
        · cases hr
        · rename_i b s' er
          cases hr
          have er' := row_cases er
          have er'' : r' = (b.length : Int) :: (b ++ t) := er'
          have ha' : (Sa72Neutral.natural e 1 && (Sa72Neutral.whole32 n && (Sa72Neutral.natural now 32 && (b.all (fun (z : Int) => Sa72Neutral.natural z 8) && (decide ((b.length : Int) = if 0 ≤ n ∧ n ≤ 524280 then (n + 7) / 8 else 0)))))) = true := ha
          simp only [Bool.and_eq_true] at ha'
          obtain ⟨i, hi, rfl⟩ := nat1 ha'.1
          obtain ⟨m, hm, rfl⟩ := nat32 ha'.2.2.1
          obtain ⟨eb, kb⟩ := ofN_toNat ha'.2.2.2.1
          have el : (Sa72Neutral.nats b).length = b.length := List.length_map ..
          refine ⟨4, 4, [(i : Int), n, (m : Int)], Sa72Neutral.nats b, ((i : Int), .bits (Sa72Neutral.nats b) n m), rfl, rfl, ?_, fun q => absurd (.inr rfl) q, kb, .other hi (.bits hm), fun s => rfl⟩
          rw [if_pos (.inr rfl), el, eb, er''] <;> rfl
    · obtain ⟨hl, ys, hr, rfl⟩ := call_shape (n := 2) (k := 0) rfl h
      cases hr
      match r, hl with
      | e :: now :: r', _ =>
        have ha' : (Sa72Neutral.natural e 1 && Sa72Neutral.natural now 32) = true := ha
        simp only [Bool.and_eq_true] at ha'
        obtain ⟨i, hi, rfl⟩ := nat1 ha'.1
        obtain ⟨m, hm, rfl⟩ := nat32 ha'.2
        exact ⟨5, 5, [(i : Int), (m : Int)], [], ((i : Int), .tick m), rfl, rfl, rfl, fun _ => rfl, B8.nil, .other hi (.tick hm), fun s => rfl⟩
    · obtain ⟨hl, ys, hr, rfl⟩ := call_shape (n := 2) (k := 0) rfl h
      cases hr
      match r, hl with
      | e :: m :: r', _ =>
        have ha' : (Sa72Neutral.natural e 1 && Sa72Neutral.whole32 m) = true := ha
        simp only [Bool.and_eq_true] at ha'
        obtain ⟨i, hi, rfl⟩ := nat1 ha'.1
        exact ⟨6, 6, [(i : Int), m], [], ((i : Int), .output m), rfl, rfl, rfl, fun _ => rfl, B8.nil, .other hi .output, fun s => rfl⟩
    · obtain ⟨hl, ys, hr, rfl⟩ := call_shape (n := 2) (k := 0) rfl h
      cases hr
      match r, hl with
      | e :: m :: r', _ =>
        have ha' : (Sa72Neutral.natural e 1 && Sa72Neutral.whole32 m) = true := ha
        simp only [Bool.and_eq_true] at ha'
        obtain ⟨i, hi, rfl⟩ := nat1 ha'.1
        exact ⟨7, 7, [(i : Int), m], [], ((i : Int), .take m), rfl, rfl, rfl, fun _ => rfl, B8.nil, .other hi .take, fun s => rfl⟩
    · obtain ⟨hl, ys, hr, rfl⟩ := call_shape (n := 1) (k := 0) rfl h
      cases hr
      match r, hl with
      | e :: r', _ =>
        have ha' : Sa72Neutral.natural e 1 = true := ha
        obtain ⟨i, hi, rfl⟩ := nat1 ha'
        exact ⟨8, 8, [(i : Int)], [], ((i : Int), .told), rfl, rfl, rfl, fun _ => rfl, B8.nil, .other hi .told, fun s => rfl⟩
end LK
namespace LK
open PySem PySem.Spec PyProof.Rows L2
/-! # answers -/
section
variable {K : PySem.W.Frag} {L : LA} {H H' : Hp} {σ : L2.St} {D : Ends} {ta tb to tl th : TE}
theorem v_ixS {p : Addr} {xs : List V} {v : V} {k : Nat} {i : Int} (a : Val ta σ H (.ref p)) (h : SqL K H p xs) (b : Val tb σ H (.int i)) (e : i = (k : Int)) (g : xs[k]? = some v) : Val (tOp (rIxL K) ta tb) σ H v := val_op a b fun Q q => ⟨p, xs, i, v, rfl, rfl, h, by rw [e]; exact atI_nat g, q⟩
theorem v_ixT {p : Addr} {xs : List V} {v : V} {k : Nat} {i : Int} (a : Val ta σ H (.ref p)) (h : SqT K H p xs) (b : Val tb σ H (.int i)) (e : i = (k : Int)) (g : xs[k]? = some v) : Val (tOp (rIxT K) ta tb) σ H v := val_op a b fun Q q => ⟨p, xs, i, v, rfl, rfl, h, by rw [e]; exact atI_nat g, q⟩
theorem v_lenS {p : Addr} {xs : List V} (a : Val ta σ H (.ref p)) (h : SqL K H p xs) : Val (tCB (kLen K) (tCons ta tNil)) σ H (.int (xs.length : Nat)) := fun Q q => a _ ⟨p, xs, rfl, .inl h, q⟩
theorem sql_ext {a : Addr} {xs : List V} (h : SqL K H a xs) (s : Same H H') : SqL K H' a xs :=
  h.elim (fun h => .inl (h.elim (fun h => .inl (s _ _ h)) fun ⟨o, h⟩ => .inr ⟨o, s _ _ h⟩)) fun h => .inr h
theorem s_slice {a : Addr} {xs : List V} {i j : Int} {m : Nat} (ho : Val to σ H (.ref a)) (h : SqL K H a xs) (hl : Val tl σ H (.int i)) (hh : Val th σ H (.int j)) (k : ∀ p, H p = none → D.nx (σ.set m (some (.ref p))) (upd H p (.lst (cutV xs (some i) (some j))))) : tAsg (tSl (rSlL K) to (tPart tl) (tPart th)) (gName m) D σ H :=
  ho _ (hl _ ⟨i, rfl, hh _ ⟨j, rfl, a, _, rfl, h, k⟩⟩)
theorem cut_mid {l : List V} {i j : Int} {m n : Nat} (hi : i = (m : Int)) (hj : j = ((m + n : Nat) : Int)) (h : m + n ≤ l.length) : cutV l (some i) (some j) = (l.drop m).take n := by
  subst hi hj
  unfold cutV
  rw [HT.sIx_nat, HT.sIx_nat, Nat.min_eq_left h, Nat.min_eq_left (by omega), Nat.add_sub_cancel_left]
theorem Two.keep {ae : Addr} {F O : List Addr} {s : Option S × Option S} (two : Two L H ae F O s) (k : ∀ b o, H b = some o → b ∈ ae :: F → H' b = some o) : Two L H' ae F O s := by
  obtain ⟨v0, v1, F0, F1, O0, O1, hae, a0, a1, rfl, rfl, haF, h01, h10⟩ := two.ex
  exact ⟨v0, v1, F0, F1, O0, O1, k _ _ hae (List.mem_cons_self ..), a0.keep fun b o q h => k b o q (List.mem_cons_of_mem _ (List.mem_append_left _ h)), a1.keep fun b o q h => k b o q (List.mem_cons_of_mem _ (List.mem_append_right _ h)), rfl, rfl, haF, h01, h10⟩
theorem Two.own {ae : Addr} {F O : List Addr} {s : Option S × Option S} (two : Two L H ae F O s) {b : Addr} (h : b ∈ O) : b ∈ F := by
  obtain ⟨v0, v1, F0, F1, O0, O1, hae, a0, a1, rfl, rfl, haF, h01, h10⟩ := two.ex
  exact (List.mem_append.mp h).elim (fun z => List.mem_append_left _ (a0.own z)) fun z => List.mem_append_right _ (a1.own z)
theorem Two.aeF {ae : Addr} {F O : List Addr} {s : Option S × Option S} (two : Two L H ae F O s) : ae ∉ F ∧ ∃ o, H ae = some o := by
  obtain ⟨v0, v1, F0, F1, O0, O1, hae, a0, a1, rfl, rfl, haF, h01, h10⟩ := two.ex
  exact ⟨haF, _, hae⟩
end
/-- where the loop stands -/
structure AI (L : LA) (H : Hp) (ns : List Int) (ae fa : Addr) (F O : List Addr) (s : Option S × Option S) (i : Nat) (done : List Int) (f : Nat) (cs : List (List (List Int))) (H' : Hp) : Prop where
  le : i ≤ ns.length
  calls : PyFlat.calls PySa72.shape f (ns.drop i) = some cs
  ask : ∀ c ∈ cs, Sa72Neutral.asked1 (PySa72.whole c) = true
  ans : done ++ PyFlat.told (PyFlat.played Sa72Neutral.step s (cs.map PySa72.whole)) = PySa72.answers ns
  same : Same H H'
  two : Two L H' ae F O s
  fnd : H' fa = some (.lst (zts done))
  faF : fa ∉ F
  fae : fa ≠ ae
  nf : H fa = none
  nae : H ae = none
  nF : ∀ b ∈ F, H b = none
theorem drop_cons {l Y : List Int} {i : Nat} {p : Int} (h : l.drop i = p :: Y) : l[i]? = some p ∧ l.drop (i + 1) = Y ∧ i < l.length := by
  have hi : i < l.length := by
    rcases Nat.lt_or_ge i l.length with z | z
    · exact z
    · rw [List.drop_eq_nil_of_le z] at h
      cases h
  rw [List.drop_eq_getElem_cons hi] at h
  injection h with h1 h2
  exact ⟨by rw [List.getElem?_eq_getElem hi, h1], h2, hi⟩
theorem drop_app {l X Y : List Int} {i : Nat} (h : l.drop i = X ++ Y) : l.drop (i + X.length) = Y := by
  rw [← List.drop_drop, h, List.drop_left]
theorem calls_step {f : Nat} {l : List Int} {cs : List (List (List Int))} (h : PyFlat.calls PySa72.shape f l = some cs) (hl : l ≠ []) : ∃ f' c t cs', cs = c :: cs' ∧ PyFlat.call PySa72.shape l = some (c, t) ∧ PyFlat.calls PySa72.shape f' t = some cs' := by
  cases l with
  | nil => exact absurd rfl hl
  | cons p r =>
    cases f with
    | zero => cases h
    | succ f =>
      unfold PyFlat.calls at h
      split at h
      · cases h
      · rename_i c t e
        split at h
        · cases h
        · rename_i cs' e2
          cases h
          exact ⟨f, c, t, cs', rfl, e, e2⟩
theorem zts_app (l m : List Int) : zts (l ++ m) = zts l ++ zts m := List.map_append
theorem zts_len (l : List Int) : (zts l).length = l.length := List.length_map ..
theorem zts_drop (l : List Int) (n : Nat) : (zts l).drop n = zts (l.drop n) := List.map_drop.symm
theorem zts_take (l : List Int) (n : Nat) : (zts l).take n = zts (l.take n) := List.map_take.symm
theorem zts_get {l : List Int} {i : Nat} {z : Int} (h : l[i]? = some z) : (zts l)[i]? = some (.int z) := by
  show (l.map V.int)[i]? = _
  rw [List.getElem?_map, h] <;> rfl
def mu (ns : List Int) (σ : L2.St) : Nat := match (σ[3]? : Option (Option V)) with
  | some (some (V.int i)) => ns.length - i.toNat
  | _ => 0
theorem pure_d_answers {K : PySem.W.Frag} {L : LA} (T : Tx K L) {vs : List V} {H : Hp} {Q : VK} {E : XK} (h : sp_d_answers K L vs H Q E) : t_d_answers K L { nx := fun _ H' => Q .non H', rt := Q } (start N_d_answers vs) H := by
  obtain ⟨a, ns, rfl, hsq, hO, hask, hlen, k⟩ := h
  obtain ⟨raw, hraw, hask1, hshort⟩ : ∃ raw, PyFlat.calls PySa72.shape ns.length ns = some raw ∧ (∀ c ∈ raw, Sa72Neutral.asked1 (PySa72.whole c) = true) ∧ (PySa72.answers ns).length ≤ 10000000 := by
    unfold PySa72.answers_asked at hask
    split at hask
    · cases hask
    · rename_i raw hr
      simp only [Bool.and_eq_true] at hask
      refine ⟨raw, hr, fun c hc => ?_, of_decide_eq_true hask.2⟩
      have h2 := hask.1.2
      unfold Sa72Neutral.asked at h2
      rw [Bool.and_eq_true] at h2
      exact List.all_eq_true.mp h2.1 _ (List.mem_map_of_mem hc)
  have hans : PyFlat.told (PyFlat.played Sa72Neutral.step (none, none) (raw.map PySa72.whole)) = PySa72.answers ns := by
    unfold PySa72.answers PySa72.calls
    rw [hraw] <;> rfl
  -- ends, found, at
  refine ⟨by show 1 ≤ sizeLine; decide, fun q hq => ⟨q, 2, [.non], rfl, rfl, upd_same, by decide, by decide, by decide, fun ae hae => ?_⟩⟩
  refine ⟨Nat.zero_le _, fun fa hfa => ?_⟩
  have sA : Same H (upd H q (.lst [.non])) := same_upd hq
  have sB := same_new (o := .lst (List.replicate ((2 : Int)).toNat [V.non]).flatten) sA (sA.free hae)
  have sC := same_new (o := .lst []) sB (sB.free hfa)
  have naf : ae ≠ fa := ne_of_none upd_same hfa
  show tSeq (tAsg (tC (.int 0)) (gName 3)) _ _ _ _
  refine s_asg (te := tC (.int 0)) (k := 3) val_c ?_
  refine while_by (fun σ H' => ∃ ae fa F O s i done f cs v4 v5 v6 v7 v8, σ = [some (.ref a), some (.ref ae), some (.ref fa), some (.int (i : Nat)), v4, v5, v6, v7, v8] ∧ AI L H ns ae fa F O s i done f cs H') (fun σ _ => mu ns σ)
    ⟨ae, fa, [], [], (none, none), 0, [], ns.length, raw, none, none, none, none, none, rfl, ⟨Nat.zero_le _, hraw, hask1, hans, sC, ⟨.non, .non, [], [], [], [], by rw [upd_ne naf, upd_same] <;> rfl, .non, .non, rfl, rfl, fun z => (by cases z), fun _ z => (by cases z), fun _ z => (by cases z)⟩, upd_same, fun z => (by cases z), Ne.symm naf, sB.free hfa, sA.free hae, fun _ z => (by cases z)⟩⟩ ?_ ?_
  · rintro σ H1 ⟨ae, fa, F, O, s, i, done, f, cs, v4, v5, v6, v7, v8, rfl, I⟩
    have hsq1 : ∀ {H2}, Same H1 H2 → SqL K H2 a (zts ns) := fun s2 => sql_ext hsq (I.same.trans s2)
    refine (t_is (t_of (v_lt (val_var rfl) (v_lenS (val_var rfl) (hsq1 (Same.refl _))))) (y := decide (i < ns.length)) ?_) _ ?_
    · rw [zts_len]
      exact decide_eq_decide.mpr (by omega)
    by_cases hi : i < ns.length
    · rw [if_pos (decide_eq_true hi)]
      have hne : ns.drop i ≠ [] := fun z => by
        have := congrArg List.length z
        rw [List.length_drop] at this
        simp at this
        omega
      obtain ⟨f', c, t, cs', rfl, hc, hcs'⟩ := calls_step I.calls hne
      obtain ⟨p, j, xs, row, x, CA⟩ := call_cases hc (I.ask c (List.mem_cons_self ..))
      obtain ⟨g0, d0, _⟩ := drop_cons CA.split
      have d1 := drop_app d0
      have hlen1 : xs.length + (i + 1) ≤ ns.length := by
        have := congrArg List.length d0
        rw [List.length_drop, List.length_append] at this
        omega
      have hans2 := I.ans
      rw [List.map_cons] at hans2
      have e1 : PyFlat.played Sa72Neutral.step s (PySa72.whole c :: cs'.map PySa72.whole) = (Sa72Neutral.step s (PySa72.whole c)).2 :: PyFlat.played Sa72Neutral.step (Sa72Neutral.step s (PySa72.whole c)).1 (cs'.map PySa72.whole) := rfl
      have e2 : ∀ (y : List Int) (z : List (List Int)), PyFlat.told (y :: z) = ((y.length : Int) :: y) ++ PyFlat.told z := fun y z => rfl
      rw [e1, e2, CA.does s] at hans2
      simp only at hans2
      generalize hA : ansOf (stepOf s x).2 = A at hans2
      have hsz := congrArg List.length hans2
      rw [List.length_append, List.length_append, List.length_cons] at hsz
      obtain ⟨haeF, oae, hoae⟩ := I.two.aeF
      -- behind the if: the call
      have fin : ∀ (H5 : Hp) (q6 ra : Addr) (i' : Nat), Same H1 H5 → H5 q6 = some (.lst (zts xs)) → H5 ra = some (.lst (nts row)) → H1 ra = none → i < i' → i' ≤ ns.length → ns.drop i' = t → row.length ≤ 30000 →
          (tSeq (tAsg (tVar 5) (gName 3)) (tSeq (tAsg (tCall (sp_d_answered K L) [] E0 (tCons (tVar 1) (tCons (tVar 4) (tCons (tVar 6) (tCons (tVar 7) tNil))))) (gName 8))
            (tSeq (tDrop (tBM K "list" rAppend (tVar 2) (tCons (tCB (kLen K) (tCons (tVar 8) tNil)) tNil))) (tDrop (tBM K "list" rExtend (tVar 2) (tCons (tVar 8) tNil))))))
            { nx := fun σ' H' => (∃ ae fa F O s i done f cs v4 v5 v6 v7 v8, σ' = [some (.ref a), some (.ref ae), some (.ref fa), some (.int (i : Nat)), v4, v5, v6, v7, v8] ∧ AI L H ns ae fa F O s i done f cs H') ∧ mu ns σ' < mu ns [some (.ref a), some (.ref ae), some (.ref fa), some (.int (i : Nat)), v4, v5, v6, v7, v8], rt := Q,
              ct := fun σ' H' => (∃ ae fa F O s i done f cs v4 v5 v6 v7 v8, σ' = [some (.ref a), some (.ref ae), some (.ref fa), some (.int (i : Nat)), v4, v5, v6, v7, v8] ∧ AI L H ns ae fa F O s i done f cs H') ∧ mu ns σ' < mu ns [some (.ref a), some (.ref ae), some (.ref fa), some (.int (i : Nat)), v4, v5, v6, v7, v8],
              bk := fun σ' H' => tRet (tVar 2) { nx := fun _ H' => Q .non H', rt := Q } σ' H' }
            [some (.ref a), some (.ref ae), some (.ref fa), some (.int (i : Nat)), some (.int p), some (.int (i' : Nat)), some (.ref q6), some (.ref ra), v8] H5 := by
        intro H5 q6 ra i' s5 h6 hra nra hi1 hi2 hd hrl
        have two5 : Two L H5 ae F O s := I.two.keep fun b o q _ => s5 _ _ q
        have hraF : ra ∉ F := fun z => by
          obtain ⟨v0, v1, F0, F1, O0, O1, _, a0, a1, rfl, rfl, _, _, _⟩ := I.two.ex
          obtain ⟨o, q⟩ : ∃ o, H1 ra = some o := (List.mem_append.mp z).elim a0.some a1.some
          rw [nra] at q
          cases q
        have hrae : ra ≠ ae := fun z => by
          rw [z, hoae] at nra
          cases nra
        have hraf : fa ≠ ra := fun z => by
          rw [← z, I.fnd] at nra
          cases nra
        refine s_asg (val_var rfl) ?_
        refine ⟨_, rfl, _, rfl, _, rfl, _, rfl, ae, q6, ra, F, O, p, xs, row, x, s, rfl, h6, hra, hraF, hrae, CA.b8, hrl, CA.step, two5, ?_⟩
        rw [hA]
        intro H6 F' O' r two' kb hF' hr hrF' hrae' hfr
        have hfaO : fa ∉ ae :: O := fun z => by
          rcases List.mem_cons.mp z with z | z
          · exact I.fae z
          · exact I.faF (I.two.own z)
        have hf6 := kb _ _ (s5 _ _ I.fnd) hfaO
        have hrf : r ≠ fa := hfr _ _ (s5 _ _ I.fnd) hfaO
        have hfaF' : fa ∉ F' := fun z => by
          rcases hF' _ z with y | y | y
          · exact I.faF y
          · exact hraf (List.mem_singleton.mp y)
          · rw [s5 _ _ I.fnd] at y
            cases y
        refine s_app (val_var rfl) hf6 (v_len (val_var rfl) hr) (by rw [zts_len]; exact szl (by omega)) ?_
        refine s_ext (val_var rfl) upd_same (val_var rfl) (by rw [upd_ne hrf]; exact hr) (by rw [List.length_append, zts_len, zts_len]; exact sz (by show done.length + 1 + _ ≤ _; omega)) ?_
        have hk : ∀ b o, H6 b = some o → b ≠ fa → upd (upd H6 fa (.lst (zts done ++ [.int (((zts A).length : Nat) : Int)]))) fa (.lst (zts done ++ [.int (((zts A).length : Nat) : Int)] ++ zts A)) b = some o := fun b o q z => by
          rw [upd_ne z, upd_ne z]
          exact q
        have sH5 : Same H H5 := I.same.trans s5
        refine ⟨⟨ae, fa, F', O', (stepOf s x).1, i', done ++ ((A.length : Int) :: A), f', cs', _, _, _, _, _, rfl, ⟨hi2, by rw [hd]; exact hcs', fun c' h => I.ask c' (List.mem_cons_of_mem _ h), ?_, fun b o q => ?_, two'.keep fun b o q z => hk b o q fun w => ?_, ?_, hfaF', I.fae, I.nf, I.nae, fun b z => ?_⟩⟩, ?_⟩
        · rw [← hans2, List.append_assoc]
        · refine hk b o (kb b o (sH5 b o q) fun z => ?_) (ne_of_none q I.nf)
          rcases List.mem_cons.mp z with z | z
          · rw [z, I.nae] at q
            cases q
          · rw [I.nF _ (I.two.own z)] at q
            cases q
        · rcases List.mem_cons.mp z with z | z
          · exact I.fae (w.symm.trans z)
          · exact hfaF' (w ▸ z)
        · rw [upd_same, zts_len, zts_app, List.append_assoc] <;> rfl
        · rcases hF' _ z with y | y | y
          · exact I.nF _ y
          · rw [List.mem_singleton.mp y]
            exact I.same.free nra
          · exact sH5.free y
        · show ns.length - ((i' : Nat) : Int).toNat < ns.length - ((i : Nat) : Int).toNat
          rw [Int.toNat_natCast, Int.toNat_natCast]
          omega
      refine s_asg (v_ixS (k := i) (val_var rfl) (hsq1 (Same.refl _)) (val_var rfl) rfl (zts_get g0)) ?_
      refine s_asg (v_is (v_add (v_add (val_var rfl) val_c) (v_ixT (k := j) val_c (T.s_MANY_NUMBERS H1) (val_var rfl) CA.num (zts_get CA.many))) (y := .int ((i + 1 + xs.length : Nat) : Int)) (congrArg V.int (by omega))) ?_
      refine s_slice (val_var rfl) (hsq1 (Same.refl _)) (v_add (val_var rfl) val_c) (val_var rfl) fun q6 hq6 => ?_
      have c6 : cutV (zts ns) (some (((i : Nat) : Int) + 1)) (some (((i + 1 + xs.length : Nat)) : Int)) = zts xs := by
        rw [cut_mid (m := i + 1) (n := xs.length) (by omega) rfl (by rw [zts_len]; omega), zts_drop, zts_take, d0, List.take_left]
      rw [c6]
      have s2 : Same H1 (upd H1 q6 (.lst (zts xs))) := same_upd hq6
      refine ⟨Nat.zero_le _, fun q7 hq7 => ?_⟩
      have s3 := same_new (o := .lst []) s2 (s2.free hq7)
      have h67 : q6 ≠ q7 := ne_of_none upd_same hq7
      have h63 : upd (upd H1 q6 (.lst (zts xs))) q7 (.lst []) q6 = some (.lst (zts xs)) := by
        rw [upd_ne h67, upd_same]
      have h73 : upd (upd H1 q6 (.lst (zts xs))) q7 (.lst []) q7 = some (.lst []) := upd_same
      have n7 : H1 q7 = none := s2.free hq7
      generalize upd (upd H1 q6 (.lst (zts xs))) q7 (.lst []) = H3 at s3 h63 h73
      refine ⟨_, rfl, by show 2 ≤ sizeLine; decide, fun pt hpt => ⟨pt, zts [3, 4], rfl, .inr (SqT.of upd_same), rfl, rfl, _, rfl, ?_⟩⟩
      have s4 := same_new (o := .tup (zts [3, 4])) s3 (s3.free hpt)
      have s34 : Same H3 (upd H3 pt (.tup (zts [3, 4]))) := same_upd hpt
      have hin : (if false = true then !inV (.int p) (zts [3, 4]) else inV (.int p) (zts [3, 4])) = decide (p = 3 ∨ p = 4) := by
        rw [if_neg Bool.false_ne_true, inV_zts]
        exact decide_eq_decide.mpr (by simp)
      rw [hin]
      have h64 := s34 _ _ h63
      have h74 := s34 _ _ h73
      by_cases hp : p = 3 ∨ p = 4
      · rw [decide_eq_true hp]
        refine iteT ?_
        rw [if_pos hp] at d1
        obtain ⟨g1, d2, _⟩ := drop_cons d1
        have d3 := drop_app d2
        have elen : (ofN row).length = row.length := List.length_map ..
        have hlen2 : row.length + (i + 1 + xs.length + 1) ≤ ns.length := by
          have := congrArg List.length d2
          rw [List.length_drop, List.length_append, elen] at this
          omega
        have ixb : ∀ {σ : L2.St} {H9 : Hp}, Same H1 H9 → σ[0]? = some (some (.ref a)) → σ[5]? = some (some (.int ((i + 1 + xs.length : Nat) : Int))) → Val (tOp (rIxL K) (tVar 0) (tVar 5)) σ H9 (.int (row.length : Int)) := fun s9 h0 h5 => v_ixS (k := i + 1 + xs.length) (val_var h0) (hsq1 s9) (val_var h5) rfl (zts_get g1)
        refine s_slice (val_var rfl) (hsq1 s4) (v_add (val_var rfl) val_c) (v_add (v_add (val_var rfl) val_c) (ixb s4 rfl rfl)) fun ra hra => ?_
        have c7 : cutV (zts ns) (some (((i + 1 + xs.length : Nat) : Int) + 1)) (some (((i + 1 + xs.length : Nat) : Int) + 1 + (row.length : Int))) = nts row := by
          rw [cut_mid (m := i + 1 + xs.length + 1) (n := row.length) (by omega) (by omega) (by rw [zts_len]; omega), zts_drop, zts_take, d2, ← elen, List.take_left]
          exact zts_nat row
        rw [c7]
        have s5 := same_new (o := .lst (nts row)) s4 (s4.free hra)
        refine ⟨_, rfl, (v_add val_c (ixb s5 rfl rfl)) _ ⟨_, _, rfl, rfl, ?_⟩⟩
        have e5 : (((i + 1 + xs.length : Nat) : Int) + (1 + (row.length : Int))) = ((i + 1 + xs.length + 1 + row.length : Nat) : Int) := by omega
        have hgo := fin _ q6 ra (i + 1 + xs.length + 1 + row.length) s5 (by rw [upd_ne (ne_of_none h64 hra)]; exact h64) upd_same (s4.free hra) (by omega) (by omega) (by rw [← elen]; exact d3) (by omega)
        rw [← e5] at hgo
        exact hgo
      · rw [decide_eq_false hp]
        refine iteF ?_
        rw [if_neg hp] at d1
        have hr0 := CA.none hp
        exact fin _ q6 q7 (i + 1 + xs.length) s4 h64 (by rw [hr0]; exact h74) n7 (by omega) (by omega) d1 (by rw [hr0]; exact Nat.zero_le _)
    · rw [if_neg (by rw [decide_eq_true_eq]; exact hi)]
      have hd : ns.drop i = [] := List.drop_eq_nil_of_le (by omega)
      have hcs := I.calls
      rw [hd] at hcs
      have hn : cs = [] := by
        have e : PyFlat.calls PySa72.shape f [] = some [] := by cases f <;> rfl
        rw [e] at hcs
        exact (Option.some.inj hcs).symm
      have hans2 := I.ans
      rw [hn] at hans2
      have e : done = PySa72.answers ns := by
        rw [← hans2]
        exact (List.append_nil _).symm
      refine ⟨_, rfl, ?_⟩
      exact k _ _ (by rw [← e]; exact I.fnd)
  · rintro σ H Q Q' h ⟨v3, h3, v0, h0, p, ys, e, hs, i, j, e1, e2, b, e3, q⟩
    exact ⟨v3, h3, v0, h0, p, ys, e, hs, i, j, e1, e2, b, e3, h _ _ q⟩
end LK
namespace LK
open PySem PySem.Spec PyProof.Rows L2
theorem sc_F_init : FnScope N_F_init ["self", "is_command", "control", "load"] (defScope s_F_init) := ⟨rfl, rfl, rfl, by decide +kernel, rfl, by decide +kernel, by decide +kernel⟩
theorem sc_F_kind : FnScope N_F_kind ["self"] (defScope s_F_kind) := ⟨rfl, rfl, rfl, by decide +kernel, rfl, by decide +kernel, by decide +kernel⟩
theorem sc_F_bit : FnScope N_F_bit ["self"] (defScope s_F_bit) := ⟨rfl, rfl, rfl, by decide +kernel, rfl, by decide +kernel, by decide +kernel⟩
theorem sc_F_own_number : FnScope N_F_own_number ["self"] (defScope s_F_own_number) := ⟨rfl, rfl, rfl, by decide +kernel, rfl, by decide +kernel, by decide +kernel⟩
theorem sc_F_awaited : FnScope N_F_awaited ["self"] (defScope s_F_awaited) := ⟨rfl, rfl, rfl, by decide +kernel, rfl, by decide +kernel, by decide +kernel⟩
theorem sc_F_fault : FnScope N_F_fault ["self"] (defScope s_F_fault) := ⟨rfl, rfl, rfl, by decide +kernel, rfl, by decide +kernel, by decide +kernel⟩
theorem sc_d_numbered_control : FnScope N_d_numbered_control ["number", "awaited"] (defScope s_d_numbered_control) := ⟨rfl, rfl, rfl, by decide +kernel, rfl, by decide +kernel, by decide +kernel⟩
theorem sc_d_state_control : FnScope N_d_state_control ["kind", "bit", "awaited"] (defScope s_d_state_control) := ⟨rfl, rfl, rfl, by decide +kernel, rfl, by decide +kernel, by decide +kernel⟩
theorem sc_d_bits_of : FnScope N_d_bits_of ["row"] (defScope s_d_bits_of) := ⟨rfl, rfl, rfl, by decide +kernel, rfl, by decide +kernel, by decide +kernel⟩
theorem sc_d_bytes_of : FnScope N_d_bytes_of ["bits"] (defScope s_d_bytes_of) := ⟨rfl, rfl, rfl, by decide +kernel, rfl, by decide +kernel, by decide +kernel⟩
theorem sc_d_sum_of : FnScope N_d_sum_of ["row"] (defScope s_d_sum_of) := ⟨rfl, rfl, rfl, by decide +kernel, rfl, by decide +kernel, by decide +kernel⟩
theorem sc_d_with_noughts : FnScope N_d_with_noughts ["bits"] (defScope s_d_with_noughts) := ⟨rfl, rfl, rfl, by decide +kernel, rfl, by decide +kernel, by decide +kernel⟩
theorem sc_d_frame_bits : FnScope N_d_frame_bits ["row"] (defScope s_d_frame_bits) := ⟨rfl, rfl, rfl, by decide +kernel, rfl, by decide +kernel, by decide +kernel⟩
theorem sc_I_init : FnScope N_I_init ["self"] (defScope s_I_init) := ⟨rfl, rfl, rfl, by decide +kernel, rfl, by decide +kernel, by decide +kernel⟩
theorem sc_I_lose : FnScope N_I_lose ["self"] (defScope s_I_lose) := ⟨rfl, rfl, rfl, by decide +kernel, rfl, by decide +kernel, by decide +kernel⟩
theorem sc_I_keep : FnScope N_I_keep ["self", "bit"] (defScope s_I_keep) := ⟨rfl, rfl, rfl, by decide +kernel, rfl, by decide +kernel, by decide +kernel⟩
theorem sc_I_whole : FnScope N_I_whole ["self"] (defScope s_I_whole) := ⟨rfl, rfl, rfl, by decide +kernel, rfl, by decide +kernel, by decide +kernel⟩
theorem sc_I_take : FnScope N_I_take ["self", "bit"] (defScope s_I_take) := ⟨rfl, rfl, rfl, by decide +kernel, rfl, by decide +kernel, by decide +kernel⟩
theorem sc_W_init : FnScope N_W_init ["self"] (defScope s_W_init) := ⟨rfl, rfl, rfl, by decide +kernel, rfl, by decide +kernel, by decide +kernel⟩
theorem sc_W_put : FnScope N_W_put ["self", "row"] (defScope s_W_put) := ⟨rfl, rfl, rfl, by decide +kernel, rfl, by decide +kernel, by decide +kernel⟩
theorem sc_W_take : FnScope N_W_take ["self", "most"] (defScope s_W_take) := ⟨rfl, rfl, rfl, by decide +kernel, rfl, by decide +kernel, by decide +kernel⟩
theorem sc_E_init : FnScope N_E_init ["self", "side", "window", "patience", "tries"] (defScope s_E_init) := ⟨rfl, rfl, rfl, by decide +kernel, rfl, by decide +kernel, by decide +kernel⟩
theorem sc_E_afresh : FnScope N_E_afresh ["self"] (defScope s_E_afresh) := ⟨rfl, rfl, rfl, by decide +kernel, rfl, by decide +kernel, by decide +kernel⟩
theorem sc_E_command : FnScope N_E_command ["self", "control", "load"] (defScope s_E_command) := ⟨rfl, rfl, rfl, by decide +kernel, rfl, by decide +kernel, by decide +kernel⟩
theorem sc_E_answer : FnScope N_E_answer ["self", "control", "load"] (defScope s_E_answer) := ⟨rfl, rfl, rfl, by decide +kernel, rfl, by decide +kernel, by decide +kernel⟩
theorem sc_E_run_clock : FnScope N_E_run_clock ["self"] (defScope s_E_run_clock) := ⟨rfl, rfl, rfl, by decide +kernel, rfl, by decide +kernel, by decide +kernel⟩
theorem sc_E_greet : FnScope N_E_greet ["self"] (defScope s_E_greet) := ⟨rfl, rfl, rfl, by decide +kernel, rfl, by decide +kernel, by decide +kernel⟩
theorem sc_E_finish : FnScope N_E_finish ["self"] (defScope s_E_finish) := ⟨rfl, rfl, rfl, by decide +kernel, rfl, by decide +kernel, by decide +kernel⟩
theorem sc_E_go_up : FnScope N_E_go_up ["self"] (defScope s_E_go_up) := ⟨rfl, rfl, rfl, by decide +kernel, rfl, by decide +kernel, by decide +kernel⟩
theorem sc_E_go_down : FnScope N_E_go_down ["self"] (defScope s_E_go_down) := ⟨rfl, rfl, rfl, by decide +kernel, rfl, by decide +kernel, by decide +kernel⟩
theorem sc_E_own_state : FnScope N_E_own_state ["self", "bit"] (defScope s_E_own_state) := ⟨rfl, rfl, rfl, by decide +kernel, rfl, by decide +kernel, by decide +kernel⟩
theorem sc_E_tell_state : FnScope N_E_tell_state ["self", "bit"] (defScope s_E_tell_state) := ⟨rfl, rfl, rfl, by decide +kernel, rfl, by decide +kernel, by decide +kernel⟩
theorem sc_E_ask_again : FnScope N_E_ask_again ["self", "bit"] (defScope s_E_ask_again) := ⟨rfl, rfl, rfl, by decide +kernel, rfl, by decide +kernel, by decide +kernel⟩
theorem sc_E_many_out : FnScope N_E_many_out ["self"] (defScope s_E_many_out) := ⟨rfl, rfl, rfl, by decide +kernel, rfl, by decide +kernel, by decide +kernel⟩
theorem sc_E_may_go_out : FnScope N_E_may_go_out ["self"] (defScope s_E_may_go_out) := ⟨rfl, rfl, rfl, by decide +kernel, rfl, by decide +kernel, by decide +kernel⟩
theorem sc_E_go_out : FnScope N_E_go_out ["self"] (defScope s_E_go_out) := ⟨rfl, rfl, rfl, by decide +kernel, rfl, by decide +kernel, by decide +kernel⟩
theorem sc_E_can_be_answered : FnScope N_E_can_be_answered ["self", "k"] (defScope s_E_can_be_answered) := ⟨rfl, rfl, rfl, by decide +kernel, rfl, by decide +kernel, by decide +kernel⟩
theorem sc_E_answered_up_to : FnScope N_E_answered_up_to ["self", "k"] (defScope s_E_answered_up_to) := ⟨rfl, rfl, rfl, by decide +kernel, rfl, by decide +kernel, by decide +kernel⟩
theorem sc_E_say_wrong : FnScope N_E_say_wrong ["self", "bit"] (defScope s_E_say_wrong) := ⟨rfl, rfl, rfl, by decide +kernel, rfl, by decide +kernel, by decide +kernel⟩
theorem sc_E_get_stuck : FnScope N_E_get_stuck ["self", "control", "bit", "reason"] (defScope s_E_get_stuck) := ⟨rfl, rfl, rfl, by decide +kernel, rfl, by decide +kernel, by decide +kernel⟩
theorem sc_E_is_out : FnScope N_E_is_out ["self"] (defScope s_E_is_out) := ⟨rfl, rfl, rfl, by decide +kernel, rfl, by decide +kernel, by decide +kernel⟩
theorem sc_E_see_to_clock : FnScope N_E_see_to_clock ["self"] (defScope s_E_see_to_clock) := ⟨rfl, rfl, rfl, by decide +kernel, rfl, by decide +kernel, by decide +kernel⟩
theorem sc_d_hear_hello : FnScope N_d_hear_hello ["end", "bit"] (defScope s_d_hear_hello) := ⟨rfl, rfl, rfl, by decide +kernel, rfl, by decide +kernel, by decide +kernel⟩
theorem sc_d_hear_finish : FnScope N_d_hear_finish ["end", "bit"] (defScope s_d_hear_finish) := ⟨rfl, rfl, rfl, by decide +kernel, rfl, by decide +kernel, by decide +kernel⟩
theorem sc_d_hear_awaited : FnScope N_d_hear_awaited ["end", "frame"] (defScope s_d_hear_awaited) := ⟨rfl, rfl, rfl, by decide +kernel, rfl, by decide +kernel, by decide +kernel⟩
theorem sc_d_hear_numbered : FnScope N_d_hear_numbered ["end", "frame"] (defScope s_d_hear_numbered) := ⟨rfl, rfl, rfl, by decide +kernel, rfl, by decide +kernel, by decide +kernel⟩
theorem sc_d_hear_state : FnScope N_d_hear_state ["end", "frame"] (defScope s_d_hear_state) := ⟨rfl, rfl, rfl, by decide +kernel, rfl, by decide +kernel, by decide +kernel⟩
theorem sc_d_hear_command : FnScope N_d_hear_command ["end", "frame"] (defScope s_d_hear_command) := ⟨rfl, rfl, rfl, by decide +kernel, rfl, by decide +kernel, by decide +kernel⟩
theorem sc_d_hear_yes : FnScope N_d_hear_yes ["end"] (defScope s_d_hear_yes) := ⟨rfl, rfl, rfl, by decide +kernel, rfl, by decide +kernel, by decide +kernel⟩
theorem sc_d_hear_answer : FnScope N_d_hear_answer ["end", "frame"] (defScope s_d_hear_answer) := ⟨rfl, rfl, rfl, by decide +kernel, rfl, by decide +kernel, by decide +kernel⟩
theorem sc_d_hear : FnScope N_d_hear ["end", "row"] (defScope s_d_hear) := ⟨rfl, rfl, rfl, by decide +kernel, rfl, by decide +kernel, by decide +kernel⟩
theorem sc_d_take_bits : FnScope N_d_take_bits ["end", "bits"] (defScope s_d_take_bits) := ⟨rfl, rfl, rfl, by decide +kernel, rfl, by decide +kernel, by decide +kernel⟩
theorem sc_X_init : FnScope N_X_init ["self", "number"] (defScope s_X_init) := ⟨rfl, rfl, rfl, by decide +kernel, rfl, by decide +kernel, by decide +kernel⟩
theorem sc_d_ask : FnScope N_d_ask ["good", "number"] (defScope s_d_ask) := ⟨rfl, rfl, rfl, by decide +kernel, rfl, by decide +kernel, by decide +kernel⟩
theorem sc_d_begun : FnScope N_d_begun ["numbers"] (defScope s_d_begun) := ⟨rfl, rfl, rfl, by decide +kernel, rfl, by decide +kernel, by decide +kernel⟩
theorem sc_d_connect : FnScope N_d_connect ["end", "now"] (defScope s_d_connect) := ⟨rfl, rfl, rfl, by decide +kernel, rfl, by decide +kernel, by decide +kernel⟩
theorem sc_d_finish : FnScope N_d_finish ["end", "now"] (defScope s_d_finish) := ⟨rfl, rfl, rfl, by decide +kernel, rfl, by decide +kernel, by decide +kernel⟩
theorem sc_d_send : FnScope N_d_send ["end", "now", "row"] (defScope s_d_send) := ⟨rfl, rfl, rfl, by decide +kernel, rfl, by decide +kernel, by decide +kernel⟩
theorem sc_d_bits : FnScope N_d_bits ["end", "n", "now", "row"] (defScope s_d_bits) := ⟨rfl, rfl, rfl, by decide +kernel, rfl, by decide +kernel, by decide +kernel⟩
theorem sc_d_tick : FnScope N_d_tick ["end", "now"] (defScope s_d_tick) := ⟨rfl, rfl, rfl, by decide +kernel, rfl, by decide +kernel, by decide +kernel⟩
theorem sc_d_output : FnScope N_d_output ["end", "most"] (defScope s_d_output) := ⟨rfl, rfl, rfl, by decide +kernel, rfl, by decide +kernel, by decide +kernel⟩
theorem sc_d_take : FnScope N_d_take ["end", "most"] (defScope s_d_take) := ⟨rfl, rfl, rfl, by decide +kernel, rfl, by decide +kernel, by decide +kernel⟩
theorem sc_d_told : FnScope N_d_told ["end"] (defScope s_d_told) := ⟨rfl, rfl, rfl, by decide +kernel, rfl, by decide +kernel, by decide +kernel⟩
theorem sc_d_answer_of : FnScope N_d_answer_of ["end", "call", "numbers", "row"] (defScope s_d_answer_of) := ⟨rfl, rfl, rfl, by decide +kernel, rfl, by decide +kernel, by decide +kernel⟩
theorem sc_d_answer_to : FnScope N_d_answer_to ["ends", "call", "numbers", "row"] (defScope s_d_answer_to) := ⟨rfl, rfl, rfl, by decide +kernel, rfl, by decide +kernel, by decide +kernel⟩
theorem sc_d_answered : FnScope N_d_answered ["ends", "call", "numbers", "row"] (defScope s_d_answered) := ⟨rfl, rfl, rfl, by decide +kernel, rfl, by decide +kernel, by decide +kernel⟩
theorem sc_d_answers : FnScope N_d_answers ["calls"] (defScope s_d_answers) := ⟨rfl, rfl, rfl, by decide +kernel, rfl, by decide +kernel, by decide +kernel⟩
end LK
namespace LK
open PySem PySem.Spec PyProof.Rows L2
section
variable {P : Program} {w : World} {K : PySem.W.Frag} {mg : Str → Option Value} {base : Heap} {L : LA} {f : FA}
theorem ok_F_init (T : Txt K mg L f) : FnOk P w K mg base CX0 1 f.F_init f.fd_F_init ["self", "is_command", "control", "load"] (sp_F_init K L) := by
  refine T.F_F_init.ok sc_F_init (fun vs H Q E h => len_F_init h) (fun cdv A outer s H vs Q E hr h => ⟨t_F_init K L, ?_, pure_F_init T.toTx h⟩)
  exact (pss_cons (ps_fld (pv 0) (pv 1) rfl)
    (pss_cons (ps_fld (pv 0) (pv 2) rfl)
    (pss_one (ps_fld (pv 0) (pv 3) rfl))))
theorem ok_F_kind (T : Txt K mg L f) : FnOk P w K mg base CX0 1 f.F_kind f.fd_F_kind ["self"] (sp_F_kind K L) := by
  refine T.F_F_kind.ok sc_F_kind (fun vs H Q E h => len_F_kind h) (fun cdv A outer s H vs Q E hr h => ⟨t_F_kind K L, ?_, pure_F_kind T.toTx h⟩)
  exact (pss_cons (ps_if (pt_cmpR op_eq (pe_op op_and (pe_fld (pv 0) rfl) pe_int) pe_int (nomark _)) (pss_one (ps_ret (pe_g T.c_NUMBERED))) pss_nil)
    (pss_cons (ps_if (pt_cmpR op_in_seq (pe_op op_and (pe_fld (pv 0) rfl) pe_int) (pe_g T.c_STATES) (by rfl)) (pss_one (ps_ret (pe_op op_and (pe_fld (pv 0) rfl) pe_int))) pss_nil)
    (pss_cons (ps_set (i := 1) sc_F_kind.nd rfl (Or.inl rfl) (pe_op op_sub (pe_fld (pv 0) rfl) (pe_op op_and (pe_fld (pv 0) rfl) (pe_g T.c_BIT))))
    (pss_cons (ps_if (pt_cmpR op_in_seq (pv 1) (pe_g T.c_PLAIN) (by rfl)) (pss_one (ps_ret (pv 1))) pss_nil)
    (pss_one (ps_ret (pe_g T.c_UNKNOWN)))))))
theorem ok_F_bit (T : Txt K mg L f) : FnOk P w K mg base CX0 1 f.F_bit f.fd_F_bit ["self"] (sp_F_bit K L) := by
  refine T.F_F_bit.ok sc_F_bit (fun vs H Q E h => len_F_bit h) (fun cdv A outer s H vs Q E hr h => ⟨t_F_bit K L, ?_, pure_F_bit T.toTx h⟩)
  exact (pss_one (ps_ret (pe_op op_and (pe_op op_shr (pe_fld (pv 0) rfl) pe_int) pe_int)))
theorem ok_F_own_number (T : Txt K mg L f) : FnOk P w K mg base CX0 1 f.F_own_number f.fd_F_own_number ["self"] (sp_F_own_number K L) := by
  refine T.F_F_own_number.ok sc_F_own_number (fun vs H Q E h => len_F_own_number h) (fun cdv A outer s H vs Q E hr h => ⟨t_F_own_number K L, ?_, pure_F_own_number T.toTx h⟩)
  exact (pss_one (ps_ret (pe_op op_and (pe_op op_shr (pe_fld (pv 0) rfl) pe_int) pe_int)))
theorem ok_F_awaited (T : Txt K mg L f) : FnOk P w K mg base CX0 1 f.F_awaited f.fd_F_awaited ["self"] (sp_F_awaited K L) := by
  refine T.F_F_awaited.ok sc_F_awaited (fun vs H Q E h => len_F_awaited h) (fun cdv A outer s H vs Q E hr h => ⟨t_F_awaited K L, ?_, pure_F_awaited T.toTx h⟩)
  exact (pss_one (ps_ret (pe_op op_shr (pe_fld (pv 0) rfl) pe_int)))
theorem ok_F_fault (T : Txt K mg L f) : FnOk P w K mg base CX0 2 f.F_fault f.fd_F_fault ["self"] (sp_F_fault K L) := by
  refine T.F_F_fault.ok sc_F_fault (fun vs H Q E h => len_F_fault h) (fun cdv A outer s H vs Q E hr h => ⟨t_F_fault K L, ?_, pure_F_fault T.toTx h⟩)
  exact (pss_cons (ps_set (i := 1) sc_F_fault.nd rfl (Or.inl rfl) (pe_meth0 (pv 0) T.cl_F T.m_F_kind (ok_F_kind T) (hr.mono (by decide)) T.b_F_kind .nil pass0))
    (pss_cons (ps_if (PW.pt (pw_or (PW.pt (pw_and (pt_val (pe_fld (pv 0) rfl)) (pw_and1 (pt_cmpR op_notIn_seq (pv 1) (pe_g T.c_COMMANDS) (by rfl))))) (pw_or1 (PW.pt (pw_and (pt_not (pt_val (pe_fld (pv 0) rfl))) (pw_and1 (pt_cmpR op_notIn_seq (pv 1) (pe_g T.c_ANSWERS) (by rfl)))))))) (pss_one (ps_ret (pe_g T.c_NOT_KNOWN))) pss_nil)
    (pss_cons (ps_if (PW.pt (pw_and (pt_cmpR op_eq (pv 1) (pe_g T.c_NUMBERED) (nomark _)) (pw_and1 (pt_cmpR op_gt (pe_callB call_len_seq (by rfl) T.n_len PySem.boot_len (pa_cons (pe_fld (pv 0) rfl) pa_nil)) (pe_g T.c_MOST_LOAD) (nomark _))))) (pss_one (ps_ret (pe_g T.c_TOO_MANY))) pss_nil)
    (pss_cons (ps_set (i := 2) sc_F_fault.nd rfl (Or.inl rfl) (pe_disp (pps_cons (pe_g T.c_NUMBERED) (pe_callB (call_max2 rfl) (by rfl) T.n_max (by decide +kernel) (pa_cons pe_int (pa_cons (pe_callB call_len_seq (by rfl) T.n_len PySem.boot_len (pa_cons (pe_fld (pv 0) rfl) pa_nil)) pa_nil))) (pps_cons (pe_g T.c_WRONG) (pe_g T.c_WRONG_BYTES) pps_nil)) (by rfl) (by rfl) (fun z => by cases z) (by decide)))
    (pss_cons (ps_if (pt_cmpR op_ne (pe_callB call_len_seq (by rfl) T.n_len PySem.boot_len (pa_cons (pe_fld (pv 0) rfl) pa_nil)) (pe_dget2 (hu_of hr) (pv 2) (pv 1) pe_int ⟨rfl, rfl, rfl, rfl⟩) (nomark _)) (pss_one (ps_ret (pe_g T.c_BYTES))) pss_nil)
    (pss_one (ps_ret (pe_g T.c_GOOD))))))))
theorem ok_d_numbered_control (T : Txt K mg L f) : FnOk P w K mg base CX0 1 f.d_numbered_control f.fd_d_numbered_control ["number", "awaited"] (sp_d_numbered_control K L) := by
  refine T.F_d_numbered_control.ok sc_d_numbered_control (fun vs H Q E h => len_d_numbered_control h) (fun cdv A outer s H vs Q E hr h => ⟨t_d_numbered_control K L, ?_, pure_d_numbered_control T.toTx h⟩)
  exact (pss_one (ps_ret (pe_op op_add (pe_op op_mul pe_int (pv 0)) (pe_op op_mul pe_int (pv 1)))))
theorem ok_d_state_control (T : Txt K mg L f) : FnOk P w K mg base CX0 1 f.d_state_control f.fd_d_state_control ["kind", "bit", "awaited"] (sp_d_state_control K L) := by
  refine T.F_d_state_control.ok sc_d_state_control (fun vs H Q E h => len_d_state_control h) (fun cdv A outer s H vs Q E hr h => ⟨t_d_state_control K L, ?_, pure_d_state_control T.toTx h⟩)
  exact (pss_one (ps_ret (pe_op op_add (pe_op op_add (pv 0) (pe_op op_mul (pe_g T.c_BIT) (pv 1))) (pe_op op_mul pe_int (pv 2)))))
theorem ok_d_bits_of (T : Txt K mg L f) : FnOk P w K mg base CX0 1 f.d_bits_of f.fd_d_bits_of ["row"] (sp_d_bits_of K L) := by
  refine T.F_d_bits_of.ok sc_d_bits_of (fun vs H Q E h => len_d_bits_of h) (fun cdv A outer s H vs Q E hr h => ⟨t_d_bits_of K L, ?_, pure_d_bits_of T.toTx h⟩)
  exact (pss_cons (ps_set (i := 1) sc_d_bits_of.nd rfl (Or.inl rfl) (pe_lst pa_nil))
    (pss_cons (ps_for PassesOwn.never rfl (pi_list (pv 0)) (pg_name (i := 2) sc_d_bits_of.nd rfl (Or.inr rfl)) (pss_one (ps_expr (pe_bm PySem.F.plainAttrs_list PySem.F.slot_list_extend PySem.F.type_list_extend mt_extend (pv 1) (pa_cons (pe_lc (own := [("k", 3)]) (g := gName 3) (by rfl) sc_d_bits_of.nd (pi_range1 rfl T.n_range (pa_cons pe_int pa_nil)) (blkOk_by (own := [("k", 3)]) (N := N_d_bits_of) (sc := defScope s_d_bits_of) (by decide +kernel)) (fun _ _ _ _ _ => pg_name (i := 3) sc_d_bits_of.nd rfl (Or.inl rfl)) (fun _ _ _ _ _ => pts_nil) (fun _ _ _ _ _ => (pe_op op_and (pe_op op_shr (pv 2) (pv 3)) pe_int))) pa_nil)))))
    (pss_one (ps_ret (pv 1)))))
theorem ok_d_bytes_of (T : Txt K mg L f) : FnOk P w K mg base CX0 1 f.d_bytes_of f.fd_d_bytes_of ["bits"] (sp_d_bytes_of K L) := by
  refine T.F_d_bytes_of.ok sc_d_bytes_of (fun vs H Q E h => len_d_bytes_of h) (fun cdv A outer s H vs Q E hr h => ⟨t_d_bytes_of K L, ?_, pure_d_bytes_of T.toTx h⟩)
  exact (pss_cons (ps_set (i := 1) sc_d_bytes_of.nd rfl (Or.inl rfl) (pe_lst pa_nil))
    (pss_cons (ps_for PassesOwn.never rfl (pi_range3 rfl T.n_range (pa_cons pe_int (pa_cons (pe_callB call_len_seq (by rfl) T.n_len PySem.boot_len (pa_cons (pv 0) pa_nil)) (pa_cons pe_int pa_nil)))) (pg_name (i := 2) sc_d_bytes_of.nd rfl (Or.inl rfl)) (pss_cons (ps_set (i := 3) sc_d_bytes_of.nd rfl (Or.inl rfl) pe_int)
    (pss_cons (ps_for PassesOwn.never rfl (pi_reversed rfl T.n_reversed (pa_cons (pe_slice sl_list (pv 0) (po_some (pv 2)) (po_some (pe_op op_add (pv 2) pe_int))) pa_nil)) (pg_name (i := 4) sc_d_bytes_of.nd rfl (Or.inl rfl)) (pss_one (ps_set (i := 3) sc_d_bytes_of.nd rfl (Or.inl rfl) (pe_op op_add (pe_op op_mul pe_int (pv 3)) (pv 4)))))
    (pss_one (ps_expr (pe_bm PySem.F.plainAttrs_list PySem.F.slot_list_append PySem.F.type_list_append mt_append (pv 1) (pa_cons (pv 3) pa_nil)))))))
    (pss_one (ps_ret (pv 1)))))
theorem ok_d_sum_of (T : Txt K mg L f) : FnOk P w K mg base CX0 1 f.d_sum_of f.fd_d_sum_of ["row"] (sp_d_sum_of K L) := by
  refine T.F_d_sum_of.ok sc_d_sum_of (fun vs H Q E h => len_d_sum_of h) (fun cdv A outer s H vs Q E hr h => ⟨t_d_sum_of K L, ?_, pure_d_sum_of T.toTx h⟩)
  exact (pss_cons (ps_set (i := 1) sc_d_sum_of.nd rfl (Or.inl rfl) (pe_g T.c_SUM_BEGIN))
    (pss_cons (ps_for PassesOwn.never rfl (pi_list (pv 0)) (pg_name (i := 2) sc_d_sum_of.nd rfl (Or.inl rfl)) (pss_cons (ps_set (i := 1) sc_d_sum_of.nd rfl (Or.inl rfl) (pe_op op_xor (pv 1) (pv 2)))
    (pss_one (ps_for PassesOwn.never rfl (pi_range1 rfl T.n_range (pa_cons pe_int pa_nil)) (pg_name (i := 3) sc_d_sum_of.nd rfl (Or.inl rfl)) (pss_one (ps_if (pt_cmpR op_eq (pe_op op_and (pv 1) pe_int) pe_int (nomark _)) (pss_one (ps_set (i := 1) sc_d_sum_of.nd rfl (Or.inl rfl) (pe_op op_xor (pe_op op_shr (pv 1) pe_int) (pe_g T.c_SUM_PARTS)))) (pss_one (ps_set (i := 1) sc_d_sum_of.nd rfl (Or.inl rfl) (pe_op op_shr (pv 1) pe_int)))))))))
    (pss_cons (ps_set (i := 1) sc_d_sum_of.nd rfl (Or.inl rfl) (pe_op op_sub (pe_g T.c_SUM_BEGIN) (pv 1)))
    (pss_one (ps_ret (pe_lst (pa_cons (pe_op op_mod (pv 1) pe_int) (pa_cons (pe_op op_fdiv (pv 1) pe_int) pa_nil))))))))
theorem ok_d_with_noughts (T : Txt K mg L f) : FnOk P w K mg base CX0 1 f.d_with_noughts f.fd_d_with_noughts ["bits"] (sp_d_with_noughts K L) := by
  refine T.F_d_with_noughts.ok sc_d_with_noughts (fun vs H Q E h => len_d_with_noughts h) (fun cdv A outer s H vs Q E hr h => ⟨t_d_with_noughts K L, ?_, pure_d_with_noughts T.toTx h⟩)
  exact (pss_cons (ps_set (i := 1) sc_d_with_noughts.nd rfl (Or.inl rfl) (pe_lst pa_nil))
    (pss_cons (ps_set (i := 2) sc_d_with_noughts.nd rfl (Or.inl rfl) pe_int)
    (pss_cons (ps_for PassesOwn.never rfl (pi_list (pv 0)) (pg_name (i := 3) sc_d_with_noughts.nd rfl (Or.inl rfl)) (pss_cons (ps_expr (pe_bm PySem.F.plainAttrs_list PySem.F.slot_list_append PySem.F.type_list_append mt_append (pv 1) (pa_cons (pv 3) pa_nil)))
    (pss_cons (ps_set (i := 2) sc_d_with_noughts.nd rfl (Or.inl rfl) (pe_op op_mul (pe_op op_add (pv 2) pe_int) (pv 3)))
    (pss_one (ps_if (pt_cmpR op_eq (pv 2) pe_int (nomark _)) (pss_cons (ps_expr (pe_bm PySem.F.plainAttrs_list PySem.F.slot_list_append PySem.F.type_list_append mt_append (pv 1) (pa_cons pe_int pa_nil)))
    (pss_one (ps_set (i := 2) sc_d_with_noughts.nd rfl (Or.inl rfl) pe_int))) pss_nil)))))
    (pss_one (ps_ret (pv 1))))))
theorem ok_d_frame_bits (T : Txt K mg L f) : FnOk P w K mg base CX0 2 f.d_frame_bits f.fd_d_frame_bits ["row"] (sp_d_frame_bits K L) := by
  refine T.F_d_frame_bits.ok sc_d_frame_bits (fun vs H Q E h => len_d_frame_bits h) (fun cdv A outer s H vs Q E hr h => ⟨t_d_frame_bits K L, ?_, pure_d_frame_bits T.toTx h⟩)
  exact (pss_one (ps_ret (pe_op op_cat (pe_op op_cat (pe_callTy call_list_of (by rfl) T.n_list (by decide +kernel) (pa_cons (pe_g T.c_FLAG) pa_nil)) (pe_call (ok_d_with_noughts T) (hr.mono (by decide)) rfl T.g_d_with_noughts T.F_d_with_noughts.kp T.b_d_with_noughts .nil pass0 (by exact (pa_cons (pe_call (ok_d_bits_of T) (hr.mono (by decide)) rfl T.g_d_bits_of T.F_d_bits_of.kp T.b_d_bits_of .nil pass0 (by exact (pa_cons (pe_op op_cat (pv 0) (pe_call (ok_d_sum_of T) (hr.mono (by decide)) rfl T.g_d_sum_of T.F_d_sum_of.kp T.b_d_sum_of .nil pass0 (by exact (pa_cons (pv 0) pa_nil)))) pa_nil))) pa_nil)))) (pe_callTy call_list_of (by rfl) T.n_list (by decide +kernel) (pa_cons (pe_g T.c_FLAG) pa_nil)))))
theorem ok_I_init (T : Txt K mg L f) : FnOk P w K mg base CX0 1 f.I_init f.fd_I_init ["self"] (sp_I_init K L) := by
  refine T.F_I_init.ok sc_I_init (fun vs H Q E h => len_I_init h) (fun cdv A outer s H vs Q E hr h => ⟨t_I_init K L, ?_, pure_I_init T.toTx h⟩)
  exact (pss_cons (ps_fld (pv 0) pe_bl rfl)
    (pss_cons (ps_fld (pv 0) (pe_lst pa_nil) rfl)
    (pss_one (ps_fld (pv 0) pe_int rfl))))
theorem ok_I_lose (T : Txt K mg L f) : FnOk P w K mg base CX0 1 f.I_lose f.fd_I_lose ["self"] (sp_I_lose K L) := by
  refine T.F_I_lose.ok sc_I_lose (fun vs H Q E h => len_I_lose h) (fun cdv A outer s H vs Q E hr h => ⟨t_I_lose K L, ?_, pure_I_lose T.toTx h⟩)
  exact (pss_cons (ps_fld (pv 0) pe_bl rfl)
    (pss_one (ps_fld (pv 0) (pe_lst pa_nil) rfl)))
theorem ok_I_keep (T : Txt K mg L f) : FnOk P w K mg base CX0 2 f.I_keep f.fd_I_keep ["self", "bit"] (sp_I_keep K L) := by
  refine T.F_I_keep.ok sc_I_keep (fun vs H Q E h => len_I_keep h) (fun cdv A outer s H vs Q E hr h => ⟨t_I_keep K L, ?_, pure_I_keep T.toTx h⟩)
  exact (pss_cons (ps_if (pt_not (pt_val (pe_fld (pv 0) rfl))) (pss_one (ps_expr (pe_bm PySem.F.plainAttrs_list PySem.F.slot_list_append PySem.F.type_list_append mt_append (pe_fld (pv 0) rfl) (pa_cons (pv 1) pa_nil)))) pss_nil)
    (pss_one (ps_if (pt_cmpR op_gt (pe_callB call_len_seq (by rfl) T.n_len PySem.boot_len (pa_cons (pe_fld (pv 0) rfl) pa_nil)) (pe_g T.c_MOST_KEPT) (nomark _)) (pss_one (ps_expr (pe_meth0 (pv 0) T.cl_I T.m_I_lose (ok_I_lose T) (hr.mono (by decide)) T.b_I_lose .nil pass0))) pss_nil)))
theorem ok_I_whole (T : Txt K mg L f) : FnOk P w K mg base CX0 2 f.I_whole f.fd_I_whole ["self"] (sp_I_whole K L) := by
  refine T.F_I_whole.ok sc_I_whole (fun vs H Q E h => len_I_whole h) (fun cdv A outer s H vs Q E hr h => ⟨t_I_whole K L, ?_, pure_I_whole T.toTx h⟩)
  exact (pss_cons (ps_set (i := 1) sc_I_whole.nd rfl (Or.inl rfl) (pe_slice sl_list (pe_fld (pv 0) rfl) po_none (po_some (pe_callB (call_max2 rfl) (by rfl) T.n_max (by decide +kernel) (pa_cons pe_int (pa_cons (pe_op op_sub (pe_callB call_len_seq (by rfl) T.n_len PySem.boot_len (pa_cons (pe_fld (pv 0) rfl) pa_nil)) (pe_g T.c_FLAG_KEPT)) pa_nil))))))
    (pss_cons (ps_set (i := 2) sc_I_whole.nd rfl (Or.inl rfl) (pe_or (pe_fld (pv 0) rfl) (pe_one (pe_cmpR op_lt (pe_callB call_len_seq (by rfl) T.n_len PySem.boot_len (pa_cons (pe_fld (pv 0) rfl) pa_nil)) (pe_g T.c_FLAG_KEPT) (nomark _)))))
    (pss_cons (ps_fld (pv 0) pe_bl rfl)
    (pss_cons (ps_fld (pv 0) (pe_lst pa_nil) rfl)
    (pss_cons (ps_set (i := 3) sc_I_whole.nd rfl (Or.inl rfl) (pe_call (ok_d_bytes_of T) (hr.mono (by decide)) rfl T.g_d_bytes_of T.F_d_bytes_of.kp T.b_d_bytes_of .nil pass0 (by exact (pa_cons (pv 1) pa_nil))))
    (pss_cons (ps_if (PW.pt (pw_or (pt_val (pv 2)) (pw_or (pt_cmpR op_gt (pe_op op_mod (pe_callB call_len_seq (by rfl) T.n_len PySem.boot_len (pa_cons (pv 1) pa_nil)) pe_int) pe_int (nomark _)) (pw_or (pt_cmpR op_lt (pe_callB call_len_seq (by rfl) T.n_len PySem.boot_len (pa_cons (pv 3) pa_nil)) (pe_g T.c_LEAST_BYTES) (nomark _)) (pw_or1 (pt_cmpR op_gt (pe_callB call_len_seq (by rfl) T.n_len PySem.boot_len (pa_cons (pv 3) pa_nil)) (pe_g T.c_MOST_BYTES) (nomark _))))))) (pss_one (ps_ret pe_non)) pss_nil)
    (pss_cons (ps_if (pt_cmpR (op_neD hr.units) (pe_call (ok_d_sum_of T) (hr.mono (by decide)) rfl T.g_d_sum_of T.F_d_sum_of.kp T.b_d_sum_of .nil pass0 (by exact (pa_cons (pe_slice sl_list (pv 3) po_none (po_some (pe_un un_neg pe_int))) pa_nil))) (pe_slice sl_list (pv 3) (po_some (pe_un un_neg pe_int)) po_none) (nomark _)) (pss_one (ps_ret pe_non)) pss_nil)
    (pss_one (ps_ret (pe_slice sl_list (pv 3) po_none (po_some (pe_un un_neg pe_int))))))))))))
theorem ok_I_take (T : Txt K mg L f) : FnOk P w K mg base CX0 3 f.I_take f.fd_I_take ["self", "bit"] (sp_I_take K L) := by
  refine T.F_I_take.ok sc_I_take (fun vs H Q E h => len_I_take h) (fun cdv A outer s H vs Q E hr h => ⟨t_I_take K L, ?_, pure_I_take T.toTx h⟩)
  exact (pss_cons (ps_set (i := 2) sc_I_take.nd rfl (Or.inl rfl) (pe_fld (pv 0) rfl))
    (pss_cons (ps_if (pt_cmpR op_eq (pv 1) pe_int (nomark _)) (pss_cons (ps_fld (pv 0) (pe_op op_add (pv 2) pe_int) rfl)
    (pss_cons (ps_expr (pe_meth (pv 0) T.cl_I T.m_I_keep (ok_I_keep T) (hr.mono (by decide)) T.b_I_keep .nil pass0 (by exact (pa_cons pe_int pa_nil))))
    (pss_cons (ps_if (pt_cmpR op_gt (pe_fld (pv 0) rfl) pe_int (nomark _)) (pss_one (ps_expr (pe_meth0 (pv 0) T.cl_I T.m_I_lose (ok_I_lose T) (hr.mono (by decide)) T.b_I_lose .nil pass0))) pss_nil)
    (pss_one (ps_ret pe_non))))) pss_nil)
    (pss_cons (ps_fld (pv 0) pe_int rfl)
    (pss_cons (ps_if (pt_cmpR op_eq (pv 2) pe_int (nomark _)) (pss_one (ps_ret (pe_meth0 (pv 0) T.cl_I T.m_I_whole (ok_I_whole T) (hr.mono (by decide)) T.b_I_whole .nil pass0))) pss_nil)
    (pss_cons (ps_if (pt_cmpR op_ne (pv 2) pe_int (nomark _)) (pss_one (ps_expr (pe_meth (pv 0) T.cl_I T.m_I_keep (ok_I_keep T) (hr.mono (by decide)) T.b_I_keep .nil pass0 (by exact (pa_cons pe_int pa_nil))))) pss_nil)
    (pss_one (ps_ret pe_non)))))))
theorem ok_W_init (T : Txt K mg L f) : FnOk P w K mg base CX0 1 f.W_init f.fd_W_init ["self"] (sp_W_init K L) := by
  refine T.F_W_init.ok sc_W_init (fun vs H Q E h => len_W_init h) (fun cdv A outer s H vs Q E hr h => ⟨t_W_init K L, ?_, pure_W_init T.toTx h⟩)
  exact (pss_one (ps_fld (pv 0) (pe_lst pa_nil) rfl))
theorem ok_W_put (T : Txt K mg L f) : FnOk P w K mg base CX0 3 f.W_put f.fd_W_put ["self", "row"] (sp_W_put K L) := by
  refine T.F_W_put.ok sc_W_put (fun vs H Q E h => len_W_put h) (fun cdv A outer s H vs Q E hr h => ⟨t_W_put K L, ?_, pure_W_put T.toTx h⟩)
  exact (pss_cons (ps_set (i := 2) sc_W_put.nd rfl (Or.inl rfl) (pe_call (ok_d_frame_bits T) (hr.mono (by decide)) rfl T.g_d_frame_bits T.F_d_frame_bits.kp T.b_d_frame_bits .nil pass0 (by exact (pa_cons (pv 1) pa_nil))))
    (pss_one (ps_if (pt_cmpR op_le (pe_op op_add (pe_callB call_len_seq (by rfl) T.n_len PySem.boot_len (pa_cons (pe_fld (pv 0) rfl) pa_nil)) (pe_callB call_len_seq (by rfl) T.n_len PySem.boot_len (pa_cons (pv 2) pa_nil))) (pe_g T.c_MOST_WAITING) (nomark _)) (pss_one (ps_expr (pe_bm PySem.F.plainAttrs_list PySem.F.slot_list_extend PySem.F.type_list_extend mt_extend (pe_fld (pv 0) rfl) (pa_cons (pv 2) pa_nil)))) pss_nil)))
theorem ok_W_take (T : Txt K mg L f) : FnOk P w K mg base CX0 2 f.W_take f.fd_W_take ["self", "most"] (sp_W_take K L) := by
  refine T.F_W_take.ok sc_W_take (fun vs H Q E h => len_W_take h) (fun cdv A outer s H vs Q E hr h => ⟨t_W_take K L, ?_, pure_W_take T.toTx h⟩)
  exact (pss_cons (ps_set (i := 2) sc_W_take.nd rfl (Or.inl rfl) (pe_slice sl_list (pe_fld (pv 0) rfl) po_none (po_some (pe_op op_mul pe_int (pv 1)))))
    (pss_cons (ps_fld (pv 0) (pe_slice sl_list (pe_fld (pv 0) rfl) (po_some (pe_op op_mul pe_int (pv 1))) po_none) rfl)
    (pss_cons (ps_while PassesOwn.never (pt_cmpR op_gt (pe_op op_mod (pe_callB call_len_seq (by rfl) T.n_len PySem.boot_len (pa_cons (pv 2) pa_nil)) pe_int) pe_int (nomark _)) (pss_one (ps_expr (pe_bm PySem.F.plainAttrs_list PySem.F.slot_list_append PySem.F.type_list_append mt_append (pv 2) (pa_cons pe_int pa_nil)))))
    (pss_one (ps_ret (pe_call (ok_d_bytes_of T) (hr.mono (by decide)) rfl T.g_d_bytes_of T.F_d_bytes_of.kp T.b_d_bytes_of .nil pass0 (by exact (pa_cons (pv 2) pa_nil))))))))
theorem ok_E_afresh (T : Txt K mg L f) : FnOk P w K mg base CX0 1 f.E_afresh f.fd_E_afresh ["self"] (sp_E_afresh K L) := by
  refine T.F_E_afresh.ok sc_E_afresh (fun vs H Q E h => len_E_afresh h) (fun cdv A outer s H vs Q E hr h => ⟨t_E_afresh K L, ?_, pure_E_afresh T.toTx h⟩)
  exact (pss_cons (ps_fld (pv 0) pe_int rfl)
    (pss_cons (ps_fld (pv 0) pe_int rfl)
    (pss_cons (ps_fld (pv 0) pe_int rfl)
    (pss_cons (ps_fld (pv 0) pe_bl rfl)
    (pss_cons (ps_fld (pv 0) pe_bl rfl)
    (pss_cons (ps_fld (pv 0) pe_bl rfl)
    (pss_cons (ps_fld (pv 0) pe_non rfl)
    (pss_cons (ps_fld (pv 0) pe_int rfl)
    (pss_one (ps_fld (pv 0) (pe_lst pa_nil) rfl))))))))))
theorem ok_E_init (T : Txt K mg L f) : FnOk P w K mg base CX0 3 f.E_init f.fd_E_init ["self", "side", "window", "patience", "tries"] (sp_E_init K L) := by
  refine T.F_E_init.ok sc_E_init (fun vs H Q E h => len_E_init h) (fun cdv A outer s H vs Q E hr h => ⟨t_E_init K L, ?_, pure_E_init T.toTx h⟩)
  exact (pss_cons (ps_fld (pv 0) (pe_op op_add pe_int (pe_op op_mul pe_int (pv 1))) rfl)
    (pss_cons (ps_fld (pv 0) (pe_op op_sub pe_int (pe_op op_mul pe_int (pv 1))) rfl)
    (pss_cons (ps_fld (pv 0) (pv 2) rfl)
    (pss_cons (ps_fld (pv 0) (pv 3) rfl)
    (pss_cons (ps_fld (pv 0) (pv 4) rfl)
    (pss_cons (ps_fld (pv 0) (pe_g T.c_DOWN) rfl)
    (pss_cons (ps_fld (pv 0) (pe_lst pa_nil) rfl)
    (pss_cons (ps_fld (pv 0) (pe_lst pa_nil) rfl)
    (pss_cons (ps_fld (pv 0) (pe_lst pa_nil) rfl)
    (pss_cons (ps_fld (pv 0) (pe_lst pa_nil) rfl)
    (pss_cons (ps_fld (pv 0) (pe_make0 T.mk_I (ok_I_init T) (hr.mono (by decide)) rfl T.g_I T.b_I_init .nil pass0) rfl)
    (pss_cons (ps_fld (pv 0) (pe_make0 T.mk_W (ok_W_init T) (hr.mono (by decide)) rfl T.g_W T.b_W_init .nil pass0) rfl)
    (pss_cons (ps_fld (pv 0) pe_int rfl)
    (pss_one (ps_expr (pe_meth0 (pv 0) T.cl_E T.m_E_afresh (ok_E_afresh T) (hr.mono (by decide)) T.b_E_afresh .nil pass0))))))))))))))))
theorem ok_E_command (T : Txt K mg L f) : FnOk P w K mg base CX0 4 f.E_command f.fd_E_command ["self", "control", "load"] (sp_E_command K L) := by
  refine T.F_E_command.ok sc_E_command (fun vs H Q E h => len_E_command h) (fun cdv A outer s H vs Q E hr h => ⟨t_E_command K L, ?_, pure_E_command T.toTx h⟩)
  exact (pss_one (ps_expr (pe_meth (pe_fld (pv 0) rfl) T.cl_W T.m_W_put (ok_W_put T) (hr.mono (by decide)) T.b_W_put .nil pass0 (by exact (pa_cons (pe_op op_cat (pe_lst (pa_cons (pe_fld (pv 0) rfl) (pa_cons (pv 1) pa_nil))) (pv 2)) pa_nil)))))
theorem ok_E_answer (T : Txt K mg L f) : FnOk P w K mg base CX0 4 f.E_answer f.fd_E_answer ["self", "control", "load"] (sp_E_answer K L) := by
  refine T.F_E_answer.ok sc_E_answer (fun vs H Q E h => len_E_answer h) (fun cdv A outer s H vs Q E hr h => ⟨t_E_answer K L, ?_, pure_E_answer T.toTx h⟩)
  exact (pss_one (ps_expr (pe_meth (pe_fld (pv 0) rfl) T.cl_W T.m_W_put (ok_W_put T) (hr.mono (by decide)) T.b_W_put .nil pass0 (by exact (pa_cons (pe_op op_cat (pe_lst (pa_cons (pe_fld (pv 0) rfl) (pa_cons (pv 1) pa_nil))) (pv 2)) pa_nil)))))
theorem ok_E_run_clock (T : Txt K mg L f) : FnOk P w K mg base CX0 1 f.E_run_clock f.fd_E_run_clock ["self"] (sp_E_run_clock K L) := by
  refine T.F_E_run_clock.ok sc_E_run_clock (fun vs H Q E h => len_E_run_clock h) (fun cdv A outer s H vs Q E hr h => ⟨t_E_run_clock K L, ?_, pure_E_run_clock T.toTx h⟩)
  exact (pss_one (ps_fld (pv 0) (pe_fld (pv 0) rfl) rfl))
theorem ok_E_greet (T : Txt K mg L f) : FnOk P w K mg base CX0 5 f.E_greet f.fd_E_greet ["self"] (sp_E_greet K L) := by
  refine T.F_E_greet.ok sc_E_greet (fun vs H Q E h => len_E_greet h) (fun cdv A outer s H vs Q E hr h => ⟨t_E_greet K L, ?_, pure_E_greet T.toTx h⟩)
  exact (pss_cons (ps_expr (pe_meth0 (pv 0) T.cl_E T.m_E_afresh (ok_E_afresh T) (hr.mono (by decide)) T.b_E_afresh .nil pass0))
    (pss_cons (ps_fld (pv 0) (pe_g T.c_GREETING) rfl)
    (pss_cons (ps_expr (pe_meth (pv 0) T.cl_E T.m_E_command (ok_E_command T) (hr.mono (by decide)) T.b_E_command .nil pass0 (by exact (pa_cons (pe_op op_add (pe_g T.c_HELLO) (pe_g T.c_BIT)) (pa_cons (pe_lst pa_nil) pa_nil)))))
    (pss_one (ps_expr (pe_meth0 (pv 0) T.cl_E T.m_E_run_clock (ok_E_run_clock T) (hr.mono (by decide)) T.b_E_run_clock .nil pass0))))))
theorem ok_E_finish (T : Txt K mg L f) : FnOk P w K mg base CX0 5 f.E_finish f.fd_E_finish ["self"] (sp_E_finish K L) := by
  refine T.F_E_finish.ok sc_E_finish (fun vs H Q E h => len_E_finish h) (fun cdv A outer s H vs Q E hr h => ⟨t_E_finish K L, ?_, pure_E_finish T.toTx h⟩)
  exact (pss_cons (ps_fld (pv 0) (pe_g T.c_ENDING) rfl)
    (pss_cons (ps_expr (pe_meth (pv 0) T.cl_E T.m_E_command (ok_E_command T) (hr.mono (by decide)) T.b_E_command .nil pass0 (by exact (pa_cons (pe_op op_add (pe_g T.c_FINISH) (pe_g T.c_BIT)) (pa_cons (pe_lst pa_nil) pa_nil)))))
    (pss_cons (ps_expr (pe_meth0 (pv 0) T.cl_E T.m_E_afresh (ok_E_afresh T) (hr.mono (by decide)) T.b_E_afresh .nil pass0))
    (pss_one (ps_expr (pe_meth0 (pv 0) T.cl_E T.m_E_run_clock (ok_E_run_clock T) (hr.mono (by decide)) T.b_E_run_clock .nil pass0))))))
theorem ok_E_go_up (T : Txt K mg L f) : FnOk P w K mg base CX0 2 f.E_go_up f.fd_E_go_up ["self"] (sp_E_go_up K L) := by
  refine T.F_E_go_up.ok sc_E_go_up (fun vs H Q E h => len_E_go_up h) (fun cdv A outer s H vs Q E hr h => ⟨t_E_go_up K L, ?_, pure_E_go_up T.toTx h⟩)
  exact (pss_cons (ps_expr (pe_meth0 (pv 0) T.cl_E T.m_E_afresh (ok_E_afresh T) (hr.mono (by decide)) T.b_E_afresh .nil pass0))
    (pss_one (ps_fld (pv 0) (pe_g T.c_UP) rfl)))
theorem ok_E_go_down (T : Txt K mg L f) : FnOk P w K mg base CX0 1 f.E_go_down f.fd_E_go_down ["self"] (sp_E_go_down K L) := by
  refine T.F_E_go_down.ok sc_E_go_down (fun vs H Q E h => len_E_go_down h) (fun cdv A outer s H vs Q E hr h => ⟨t_E_go_down K L, ?_, pure_E_go_down T.toTx h⟩)
  exact (pss_cons (ps_fld (pv 0) (pe_g T.c_DOWN) rfl)
    (pss_one (ps_fld (pv 0) pe_non rfl)))
theorem ok_E_own_state (T : Txt K mg L f) : FnOk P w K mg base CX0 2 f.E_own_state f.fd_E_own_state ["self", "bit"] (sp_E_own_state K L) := by
  refine T.F_E_own_state.ok sc_E_own_state (fun vs H Q E h => len_E_own_state h) (fun cdv A outer s H vs Q E hr h => ⟨t_E_own_state K L, ?_, pure_E_own_state T.toTx h⟩)
  exact (pss_cons (ps_set (i := 2) sc_E_own_state.nd rfl (Or.inl rfl) (pe_g T.c_READY))
    (pss_cons (ps_if (pt_cmpR op_ge (pe_callB call_len_seq (by rfl) T.n_len PySem.boot_len (pa_cons (pe_fld (pv 0) rfl) pa_nil)) (pe_g T.c_MOST_MESSAGES) (nomark _)) (pss_one (ps_set (i := 2) sc_E_own_state.nd rfl (Or.inl rfl) (pe_g T.c_BUSY))) pss_nil)
    (pss_one (ps_ret (pe_call (ok_d_state_control T) (hr.mono (by decide)) rfl T.g_d_state_control T.F_d_state_control.kp T.b_d_state_control .nil pass0 (by exact (pa_cons (pv 2) (pa_cons (pv 1) (pa_cons (pe_fld (pv 0) rfl) pa_nil)))))))))
theorem ok_E_tell_state (T : Txt K mg L f) : FnOk P w K mg base CX0 5 f.E_tell_state f.fd_E_tell_state ["self", "bit"] (sp_E_tell_state K L) := by
  refine T.F_E_tell_state.ok sc_E_tell_state (fun vs H Q E h => len_E_tell_state h) (fun cdv A outer s H vs Q E hr h => ⟨t_E_tell_state K L, ?_, pure_E_tell_state T.toTx h⟩)
  exact (pss_one (ps_expr (pe_meth (pv 0) T.cl_E T.m_E_answer (ok_E_answer T) (hr.mono (by decide)) T.b_E_answer .nil pass0 (by exact (pa_cons (pe_meth (pv 0) T.cl_E T.m_E_own_state (ok_E_own_state T) (hr.mono (by decide)) T.b_E_own_state .nil pass0 (by exact (pa_cons (pv 1) pa_nil))) (pa_cons (pe_lst pa_nil) pa_nil))))))
theorem ok_E_ask_again (T : Txt K mg L f) : FnOk P w K mg base CX0 5 f.E_ask_again f.fd_E_ask_again ["self", "bit"] (sp_E_ask_again K L) := by
  refine T.F_E_ask_again.ok sc_E_ask_again (fun vs H Q E h => len_E_ask_again h) (fun cdv A outer s H vs Q E hr h => ⟨t_E_ask_again K L, ?_, pure_E_ask_again T.toTx h⟩)
  exact (pss_cons (ps_expr (pe_meth (pv 0) T.cl_E T.m_E_answer (ok_E_answer T) (hr.mono (by decide)) T.b_E_answer .nil pass0 (by exact (pa_cons (pe_call (ok_d_state_control T) (hr.mono (by decide)) rfl T.g_d_state_control T.F_d_state_control.kp T.b_d_state_control .nil pass0 (by exact (pa_cons (pe_g T.c_AGAIN) (pa_cons (pv 1) (pa_cons (pe_fld (pv 0) rfl) pa_nil))))) (pa_cons (pe_lst pa_nil) pa_nil)))))
    (pss_one (ps_fld (pv 0) pe_bl rfl)))
theorem ok_E_many_out (T : Txt K mg L f) : FnOk P w K mg base CX0 1 f.E_many_out f.fd_E_many_out ["self"] (sp_E_many_out K L) := by
  refine T.F_E_many_out.ok sc_E_many_out (fun vs H Q E h => len_E_many_out h) (fun cdv A outer s H vs Q E hr h => ⟨t_E_many_out K L, ?_, pure_E_many_out T.toTx h⟩)
  exact (pss_one (ps_ret (pe_op op_add (pe_callB call_len_seq (by rfl) T.n_len PySem.boot_len (pa_cons (pe_fld (pv 0) rfl) pa_nil)) (pe_callB call_len_seq (by rfl) T.n_len PySem.boot_len (pa_cons (pe_fld (pv 0) rfl) pa_nil)))))
theorem ok_E_may_go_out (T : Txt K mg L f) : FnOk P w K mg base CX0 2 f.E_may_go_out f.fd_E_may_go_out ["self"] (sp_E_may_go_out K L) := by
  refine T.F_E_may_go_out.ok sc_E_may_go_out (fun vs H Q E h => len_E_may_go_out h) (fun cdv A outer s H vs Q E hr h => ⟨t_E_may_go_out K L, ?_, pure_E_may_go_out T.toTx h⟩)
  exact (pss_cons (ps_set (i := 1) sc_E_may_go_out.nd rfl (Or.inl rfl) (pe_op op_mod (pe_op op_sub (pe_fld (pv 0) rfl) (pe_fld (pv 0) rfl)) (pe_g T.c_NUMBERS)))
    (pss_cons (ps_if (PW.pt (pw_or (pt_cmpR op_ne (pe_fld (pv 0) rfl) (pe_g T.c_UP) (nomark _)) (pw_or (pt_val (pe_fld (pv 0) rfl)) (pw_or (pt_val (pe_fld (pv 0) rfl)) (pw_or1 (pt_cmpR op_ge (pv 1) (pe_fld (pv 0) rfl) (nomark _))))))) (pss_one (ps_ret pe_bl)) pss_nil)
    (pss_one (ps_ret (pe_cmpR op_lt (pv 1) (pe_meth0 (pv 0) T.cl_E T.m_E_many_out (ok_E_many_out T) (hr.mono (by decide)) T.b_E_many_out .nil pass0) (nomark _))))))
theorem ok_E_go_out (T : Txt K mg L f) : FnOk P w K mg base CX0 5 f.E_go_out f.fd_E_go_out ["self"] (sp_E_go_out K L) := by
  refine T.F_E_go_out.ok sc_E_go_out (fun vs H Q E h => len_E_go_out h) (fun cdv A outer s H vs Q E hr h => ⟨t_E_go_out K L, ?_, pure_E_go_out T.toTx h⟩)
  exact (pss_one (ps_while PassesOwn.never (pt_val (pe_meth0 (pv 0) T.cl_E T.m_E_may_go_out (ok_E_may_go_out T) (hr.mono (by decide)) T.b_E_may_go_out .nil pass0)) (pss_cons (ps_set (i := 1) sc_E_go_out.nd rfl (Or.inl rfl) (pe_op op_mod (pe_op op_sub (pe_fld (pv 0) rfl) (pe_fld (pv 0) rfl)) (pe_g T.c_NUMBERS)))
    (pss_cons (ps_if (pt_cmpR op_eq (pv 1) (pe_callB call_len_seq (by rfl) T.n_len PySem.boot_len (pa_cons (pe_fld (pv 0) rfl) pa_nil)) (nomark _)) (pss_one (ps_expr (pe_bm PySem.F.plainAttrs_list PySem.F.slot_list_append PySem.F.type_list_append mt_append (pe_fld (pv 0) rfl) (pa_cons (pe_bm PySem.F.plainAttrs_list PySem.F.slot_list_pop PySem.F.type_list_pop mt_popAt (pe_fld (pv 0) rfl) (pa_cons pe_int pa_nil)) pa_nil)))) pss_nil)
    (pss_cons (ps_expr (pe_meth (pv 0) T.cl_E T.m_E_command (ok_E_command T) (hr.mono (by decide)) T.b_E_command .nil pass0 (by exact (pa_cons (pe_call (ok_d_numbered_control T) (hr.mono (by decide)) rfl T.g_d_numbered_control T.F_d_numbered_control.kp T.b_d_numbered_control .nil pass0 (by exact (pa_cons (pe_fld (pv 0) rfl) (pa_cons (pe_fld (pv 0) rfl) pa_nil)))) (pa_cons (pe_ix ix_list (pe_fld (pv 0) rfl) (pv 1) (fun _ _ => rfl)) pa_nil)))))
    (pss_cons (ps_fld (pv 0) (pe_op op_mod (pe_op op_add (pe_fld (pv 0) rfl) pe_int) (pe_g T.c_NUMBERS)) rfl)
    (pss_one (ps_if (pt_cmpR op_isN (pe_fld (pv 0) rfl) pe_non (nomark _)) (pss_one (ps_expr (pe_meth0 (pv 0) T.cl_E T.m_E_run_clock (ok_E_run_clock T) (hr.mono (by decide)) T.b_E_run_clock .nil pass0))) pss_nil))))))))
theorem ok_E_can_be_answered (T : Txt K mg L f) : FnOk P w K mg base CX0 1 f.E_can_be_answered f.fd_E_can_be_answered ["self", "k"] (sp_E_can_be_answered K L) := by
  refine T.F_E_can_be_answered.ok sc_E_can_be_answered (fun vs H Q E h => len_E_can_be_answered h) (fun cdv A outer s H vs Q E hr h => ⟨t_E_can_be_answered K L, ?_, pure_E_can_be_answered T.toTx h⟩)
  exact (pss_one (ps_ret (pe_cmpR op_le (pe_op op_mod (pe_op op_sub (pv 1) (pe_fld (pv 0) rfl)) (pe_g T.c_NUMBERS)) (pe_callB call_len_seq (by rfl) T.n_len PySem.boot_len (pa_cons (pe_fld (pv 0) rfl) pa_nil)) (nomark _))))
theorem ok_E_answered_up_to (T : Txt K mg L f) : FnOk P w K mg base CX0 2 f.E_answered_up_to f.fd_E_answered_up_to ["self", "k"] (sp_E_answered_up_to K L) := by
  refine T.F_E_answered_up_to.ok sc_E_answered_up_to (fun vs H Q E h => len_E_answered_up_to h) (fun cdv A outer s H vs Q E hr h => ⟨t_E_answered_up_to K L, ?_, pure_E_answered_up_to T.toTx h⟩)
  exact (pss_cons (ps_set (i := 2) sc_E_answered_up_to.nd rfl (Or.inl rfl) (pe_op op_mod (pe_op op_sub (pv 1) (pe_fld (pv 0) rfl)) (pe_g T.c_NUMBERS)))
    (pss_cons (ps_if (pt_cmpR op_lt (pe_op op_mod (pe_op op_sub (pe_fld (pv 0) rfl) (pe_fld (pv 0) rfl)) (pe_g T.c_NUMBERS)) (pv 2) (nomark _)) (pss_one (ps_fld (pv 0) (pv 1) rfl)) pss_nil)
    (pss_cons (ps_fld (pv 0) (pv 1) rfl)
    (pss_cons (ps_fld (pv 0) (pe_slice sl_list (pe_fld (pv 0) rfl) (po_some (pv 2)) po_none) rfl)
    (pss_one (ps_if (pt_cmpR op_gt (pv 2) pe_int (nomark _)) (pss_cons (ps_fld (pv 0) pe_int rfl)
    (pss_cons (ps_fld (pv 0) pe_non rfl)
    (pss_one (ps_if (pt_cmpR op_gt (pe_callB call_len_seq (by rfl) T.n_len PySem.boot_len (pa_cons (pe_fld (pv 0) rfl) pa_nil)) pe_int (nomark _)) (pss_one (ps_expr (pe_meth0 (pv 0) T.cl_E T.m_E_run_clock (ok_E_run_clock T) (hr.mono (by decide)) T.b_E_run_clock .nil pass0))) pss_nil)))) pss_nil))))))
theorem ok_E_say_wrong (T : Txt K mg L f) : FnOk P w K mg base CX0 5 f.E_say_wrong f.fd_E_say_wrong ["self", "bit"] (sp_E_say_wrong K L) := by
  refine T.F_E_say_wrong.ok sc_E_say_wrong (fun vs H Q E h => len_E_say_wrong h) (fun cdv A outer s H vs Q E hr h => ⟨t_E_say_wrong K L, ?_, pure_E_say_wrong T.toTx h⟩)
  exact (pss_one (ps_expr (pe_meth (pv 0) T.cl_E T.m_E_answer (ok_E_answer T) (hr.mono (by decide)) T.b_E_answer .nil pass0 (by exact (pa_cons (pe_op op_add (pe_g T.c_WRONG) (pe_op op_mul (pe_g T.c_BIT) (pv 1))) (pa_cons (pe_fld (pv 0) rfl) pa_nil))))))
theorem ok_E_get_stuck (T : Txt K mg L f) : FnOk P w K mg base CX0 6 f.E_get_stuck f.fd_E_get_stuck ["self", "control", "bit", "reason"] (sp_E_get_stuck K L) := by
  refine T.F_E_get_stuck.ok sc_E_get_stuck (fun vs H Q E h => len_E_get_stuck h) (fun cdv A outer s H vs Q E hr h => ⟨t_E_get_stuck K L, ?_, pure_E_get_stuck T.toTx h⟩)
  exact (pss_cons (ps_fld (pv 0) (pe_lst (pa_cons (pv 1) (pa_cons (pe_op op_add (pe_op op_mul pe_int (pe_fld (pv 0) rfl)) (pe_op op_mul pe_int (pe_fld (pv 0) rfl))) (pa_cons (pv 3) pa_nil)))) rfl)
    (pss_cons (ps_expr (pe_meth (pv 0) T.cl_E T.m_E_say_wrong (ok_E_say_wrong T) (hr.mono (by decide)) T.b_E_say_wrong .nil pass0 (by exact (pa_cons (pv 2) pa_nil))))
    (pss_cons (ps_fld (pv 0) (pe_g T.c_STUCK) rfl)
    (pss_cons (ps_fld (pv 0) pe_non rfl)
    (pss_one (ps_fld (pv 0) (pe_lst pa_nil) rfl))))))
theorem ok_E_is_out (T : Txt K mg L f) : FnOk P w K mg base CX0 1 f.E_is_out f.fd_E_is_out ["self"] (sp_E_is_out K L) := by
  refine T.F_E_is_out.ok sc_E_is_out (fun vs H Q E h => len_E_is_out h) (fun cdv A outer s H vs Q E hr h => ⟨t_E_is_out K L, ?_, pure_E_is_out T.toTx h⟩)
  exact (pss_one (ps_ret (pe_and (pe_cmpR op_notN (pe_fld (pv 0) rfl) pe_non (nomark _)) (pe_one (pe_cmpR op_ge (pe_op op_mod (pe_op op_sub (pe_fld (pv 0) rfl) (pe_fld (pv 0) rfl)) (pe_g T.c_WHOLE_TIME)) (pe_fld (pv 0) rfl) (nomark _))))))
theorem ok_E_see_to_clock (T : Txt K mg L f) : FnOk P w K mg base CX0 6 f.E_see_to_clock f.fd_E_see_to_clock ["self"] (sp_E_see_to_clock K L) := by
  refine T.F_E_see_to_clock.ok sc_E_see_to_clock (fun vs H Q E h => len_E_see_to_clock h) (fun cdv A outer s H vs Q E hr h => ⟨t_E_see_to_clock K L, ?_, pure_E_see_to_clock T.toTx h⟩)
  exact (pss_cons (ps_if (pt_not (pt_val (pe_meth0 (pv 0) T.cl_E T.m_E_is_out (ok_E_is_out T) (hr.mono (by decide)) T.b_E_is_out .nil pass0))) (pss_one ps_retN) pss_nil)
    (pss_cons (ps_fldaug (pv 0) pe_int in_add)
    (pss_cons (ps_if (pt_cmpR op_gt (pe_fld (pv 0) rfl) (pe_fld (pv 0) rfl) (nomark _)) (pss_cons (ps_if (pt_cmpR op_eq (pe_fld (pv 0) rfl) (pe_g T.c_UP) (nomark _)) (pss_one (ps_expr (pe_meth0 (pv 0) T.cl_E T.m_E_greet (ok_E_greet T) (hr.mono (by decide)) T.b_E_greet .nil pass0))) (pss_one (ps_expr (pe_meth0 (pv 0) T.cl_E T.m_E_go_down (ok_E_go_down T) (hr.mono (by decide)) T.b_E_go_down .nil pass0))))
    (pss_one ps_retN)) pss_nil)
    (pss_cons (ps_expr (pe_meth0 (pv 0) T.cl_E T.m_E_run_clock (ok_E_run_clock T) (hr.mono (by decide)) T.b_E_run_clock .nil pass0))
    (pss_one (ps_if (pt_cmpR op_eq (pe_fld (pv 0) rfl) (pe_g T.c_GREETING) (nomark _)) (pss_one (ps_expr (pe_meth (pv 0) T.cl_E T.m_E_command (ok_E_command T) (hr.mono (by decide)) T.b_E_command .nil pass0 (by exact (pa_cons (pe_op op_add (pe_g T.c_HELLO) (pe_g T.c_BIT)) (pa_cons (pe_lst pa_nil) pa_nil)))))) (pss_one (ps_if (pt_cmpR op_eq (pe_fld (pv 0) rfl) (pe_g T.c_ENDING) (nomark _)) (pss_one (ps_expr (pe_meth (pv 0) T.cl_E T.m_E_command (ok_E_command T) (hr.mono (by decide)) T.b_E_command .nil pass0 (by exact (pa_cons (pe_op op_add (pe_g T.c_FINISH) (pe_g T.c_BIT)) (pa_cons (pe_lst pa_nil) pa_nil)))))) (pss_cons (ps_fld (pv 0) pe_bl rfl)
    (pss_one (ps_expr (pe_meth (pv 0) T.cl_E T.m_E_command (ok_E_command T) (hr.mono (by decide)) T.b_E_command .nil pass0 (by exact (pa_cons (pe_meth (pv 0) T.cl_E T.m_E_own_state (ok_E_own_state T) (hr.mono (by decide)) T.b_E_own_state .nil pass0 (by exact (pa_cons pe_int pa_nil))) (pa_cons (pe_lst pa_nil) pa_nil)))))))))))))))
theorem ok_d_hear_hello (T : Txt K mg L f) : FnOk P w K mg base CX0 5 f.d_hear_hello f.fd_d_hear_hello ["end", "bit"] (sp_d_hear_hello K L) := by
  refine T.F_d_hear_hello.ok sc_d_hear_hello (fun vs H Q E h => len_d_hear_hello h) (fun cdv A outer s H vs Q E hr h => ⟨t_d_hear_hello K L, ?_, pure_d_hear_hello T.toTx h⟩)
  exact (pss_one (ps_if (pt_cmpR op_eq (pe_fld (pv 0) rfl) (pe_g T.c_ENDING) (nomark _)) (pss_one (ps_expr (pe_meth (pv 0) T.cl_E T.m_E_answer (ok_E_answer T) (hr.mono (by decide)) T.b_E_answer .nil pass0 (by exact (pa_cons (pe_op op_add (pe_g T.c_DOWN_ANSWER) (pe_op op_mul (pe_g T.c_BIT) (pv 1))) (pa_cons (pe_lst pa_nil) pa_nil)))))) (pss_cons (ps_expr (pe_meth (pv 0) T.cl_E T.m_E_answer (ok_E_answer T) (hr.mono (by decide)) T.b_E_answer .nil pass0 (by exact (pa_cons (pe_op op_add (pe_g T.c_YES) (pe_op op_mul (pe_g T.c_BIT) (pv 1))) (pa_cons (pe_lst pa_nil) pa_nil)))))
    (pss_one (ps_expr (pe_meth0 (pv 0) T.cl_E T.m_E_go_up (ok_E_go_up T) (hr.mono (by decide)) T.b_E_go_up .nil pass0))))))
theorem ok_d_hear_finish (T : Txt K mg L f) : FnOk P w K mg base CX0 5 f.d_hear_finish f.fd_d_hear_finish ["end", "bit"] (sp_d_hear_finish K L) := by
  refine T.F_d_hear_finish.ok sc_d_hear_finish (fun vs H Q E h => len_d_hear_finish h) (fun cdv A outer s H vs Q E hr h => ⟨t_d_hear_finish K L, ?_, pure_d_hear_finish T.toTx h⟩)
  exact (pss_one (ps_if (PW.pt (pw_or (pt_cmpR op_eq (pe_fld (pv 0) rfl) (pe_g T.c_UP) (nomark _)) (pw_or1 (pt_cmpR op_eq (pe_fld (pv 0) rfl) (pe_g T.c_STUCK) (nomark _))))) (pss_cons (ps_expr (pe_meth (pv 0) T.cl_E T.m_E_answer (ok_E_answer T) (hr.mono (by decide)) T.b_E_answer .nil pass0 (by exact (pa_cons (pe_op op_add (pe_g T.c_YES) (pe_op op_mul (pe_g T.c_BIT) (pv 1))) (pa_cons (pe_lst pa_nil) pa_nil)))))
    (pss_one (ps_expr (pe_meth0 (pv 0) T.cl_E T.m_E_go_down (ok_E_go_down T) (hr.mono (by decide)) T.b_E_go_down .nil pass0)))) (pss_cons (ps_expr (pe_meth (pv 0) T.cl_E T.m_E_answer (ok_E_answer T) (hr.mono (by decide)) T.b_E_answer .nil pass0 (by exact (pa_cons (pe_op op_add (pe_g T.c_DOWN_ANSWER) (pe_op op_mul (pe_g T.c_BIT) (pv 1))) (pa_cons (pe_lst pa_nil) pa_nil)))))
    (pss_one (ps_if (pt_cmpR op_eq (pe_fld (pv 0) rfl) (pe_g T.c_GREETING) (nomark _)) (pss_one (ps_expr (pe_meth0 (pv 0) T.cl_E T.m_E_go_down (ok_E_go_down T) (hr.mono (by decide)) T.b_E_go_down .nil pass0))) pss_nil)))))
theorem ok_d_hear_awaited (T : Txt K mg L f) : FnOk P w K mg base CX0 7 f.d_hear_awaited f.fd_d_hear_awaited ["end", "frame"] (sp_d_hear_awaited K L) := by
  refine T.F_d_hear_awaited.ok sc_d_hear_awaited (fun vs H Q E h => len_d_hear_awaited h) (fun cdv A outer s H vs Q E hr h => ⟨t_d_hear_awaited K L, ?_, pure_d_hear_awaited T.toTx h⟩)
  exact (pss_cons (ps_if (pt_not (pt_val (pe_meth (pv 0) T.cl_E T.m_E_can_be_answered (ok_E_can_be_answered T) (hr.mono (by decide)) T.b_E_can_be_answered .nil pass0 (by exact (pa_cons (pe_meth0 (pv 1) T.cl_F T.m_F_awaited (ok_F_awaited T) (hr.mono (by decide)) T.b_F_awaited .nil pass0) pa_nil))))) (pss_cons (ps_expr (pe_meth (pv 0) T.cl_E T.m_E_get_stuck (ok_E_get_stuck T) (hr.mono (by decide)) T.b_E_get_stuck .nil pass0 (by exact (pa_cons (pe_fld (pv 1) rfl) (pa_cons (pe_meth0 (pv 1) T.cl_F T.m_F_bit (ok_F_bit T) (hr.mono (by decide)) T.b_F_bit .nil pass0) (pa_cons (pe_g T.c_CANNOT_BE) pa_nil))))))
    (pss_one (ps_ret pe_bl))) pss_nil)
    (pss_cons (ps_expr (pe_meth (pv 0) T.cl_E T.m_E_answered_up_to (ok_E_answered_up_to T) (hr.mono (by decide)) T.b_E_answered_up_to .nil pass0 (by exact (pa_cons (pe_meth0 (pv 1) T.cl_F T.m_F_awaited (ok_F_awaited T) (hr.mono (by decide)) T.b_F_awaited .nil pass0) pa_nil))))
    (pss_one (ps_ret pe_bl))))
theorem ok_d_hear_numbered (T : Txt K mg L f) : FnOk P w K mg base CX0 8 f.d_hear_numbered f.fd_d_hear_numbered ["end", "frame"] (sp_d_hear_numbered K L) := by
  refine T.F_d_hear_numbered.ok sc_d_hear_numbered (fun vs H Q E h => len_d_hear_numbered h) (fun cdv A outer s H vs Q E hr h => ⟨t_d_hear_numbered K L, ?_, pure_d_hear_numbered T.toTx h⟩)
  exact (pss_cons (ps_if (pt_not (pt_val (pe_call (ok_d_hear_awaited T) (hr.mono (by decide)) rfl T.g_d_hear_awaited T.F_d_hear_awaited.kp T.b_d_hear_awaited .nil pass0 (by exact (pa_cons (pv 0) (pa_cons (pv 1) pa_nil)))))) (pss_one ps_retN) pss_nil)
    (pss_cons (ps_set (i := 2) sc_d_hear_numbered.nd rfl (Or.inl rfl) (pe_meth0 (pv 1) T.cl_F T.m_F_bit (ok_F_bit T) (hr.mono (by decide)) T.b_F_bit .nil pass0))
    (pss_one (ps_if (PW.pt (pw_and (pt_cmpR op_eq (pe_meth0 (pv 1) T.cl_F T.m_F_own_number (ok_F_own_number T) (hr.mono (by decide)) T.b_F_own_number .nil pass0) (pe_fld (pv 0) rfl) (nomark _)) (pw_and1 (pt_cmpR op_lt (pe_callB call_len_seq (by rfl) T.n_len PySem.boot_len (pa_cons (pe_fld (pv 0) rfl) pa_nil)) (pe_g T.c_MOST_MESSAGES) (nomark _))))) (pss_cons (ps_expr (pe_bm PySem.F.plainAttrs_list PySem.F.slot_list_append PySem.F.type_list_append mt_append (pe_fld (pv 0) rfl) (pa_cons (pe_fld (pv 1) rfl) pa_nil)))
    (pss_cons (ps_fld (pv 0) (pe_op op_mod (pe_op op_add (pe_fld (pv 0) rfl) pe_int) (pe_g T.c_NUMBERS)) rfl)
    (pss_cons (ps_fld (pv 0) pe_bl rfl)
    (pss_one (ps_expr (pe_meth (pv 0) T.cl_E T.m_E_tell_state (ok_E_tell_state T) (hr.mono (by decide)) T.b_E_tell_state .nil pass0 (by exact (pa_cons (pv 2) pa_nil)))))))) (pss_one (ps_if (pt_cmpR op_eq (pe_meth0 (pv 1) T.cl_F T.m_F_own_number (ok_F_own_number T) (hr.mono (by decide)) T.b_F_own_number .nil pass0) (pe_fld (pv 0) rfl) (nomark _)) (pss_one (ps_expr (pe_meth (pv 0) T.cl_E T.m_E_answer (ok_E_answer T) (hr.mono (by decide)) T.b_E_answer .nil pass0 (by exact (pa_cons (pe_call (ok_d_state_control T) (hr.mono (by decide)) rfl T.g_d_state_control T.F_d_state_control.kp T.b_d_state_control .nil pass0 (by exact (pa_cons (pe_g T.c_BUSY) (pa_cons (pv 2) (pa_cons (pe_fld (pv 0) rfl) pa_nil))))) (pa_cons (pe_lst pa_nil) pa_nil)))))) (pss_one (ps_if (pt_not (pt_val (pe_fld (pv 0) rfl))) (pss_one (ps_expr (pe_meth (pv 0) T.cl_E T.m_E_ask_again (ok_E_ask_again T) (hr.mono (by decide)) T.b_E_ask_again .nil pass0 (by exact (pa_cons (pv 2) pa_nil))))) (pss_one (ps_if (pt_cmpR op_eq (pv 2) pe_int (nomark _)) (pss_one (ps_expr (pe_meth (pv 0) T.cl_E T.m_E_tell_state (ok_E_tell_state T) (hr.mono (by decide)) T.b_E_tell_state .nil pass0 (by exact (pa_cons pe_int pa_nil))))) pss_nil))))))))))
theorem ok_d_hear_state (T : Txt K mg L f) : FnOk P w K mg base CX0 8 f.d_hear_state f.fd_d_hear_state ["end", "frame"] (sp_d_hear_state K L) := by
  refine T.F_d_hear_state.ok sc_d_hear_state (fun vs H Q E h => len_d_hear_state h) (fun cdv A outer s H vs Q E hr h => ⟨t_d_hear_state K L, ?_, pure_d_hear_state T.toTx h⟩)
  exact (pss_cons (ps_fld (pv 0) (pe_cmpR op_eq (pe_meth0 (pv 1) T.cl_F T.m_F_kind (ok_F_kind T) (hr.mono (by decide)) T.b_F_kind .nil pass0) (pe_g T.c_BUSY) (nomark _)) rfl)
    (pss_cons (ps_if (pt_not (pt_val (pe_call (ok_d_hear_awaited T) (hr.mono (by decide)) rfl T.g_d_hear_awaited T.F_d_hear_awaited.kp T.b_d_hear_awaited .nil pass0 (by exact (pa_cons (pv 0) (pa_cons (pv 1) pa_nil)))))) (pss_one ps_retN) pss_nil)
    (pss_cons (ps_set (i := 2) sc_d_hear_state.nd rfl (Or.inl rfl) (pe_and (pe_not (pe_fld (pv 1) rfl)) (pe_one (pe_cmpR op_eq (pe_meth0 (pv 1) T.cl_F T.m_F_bit (ok_F_bit T) (hr.mono (by decide)) T.b_F_bit .nil pass0) pe_int (nomark _)))))
    (pss_cons (ps_if (PW.pt (pw_or (pt_cmpR op_eq (pe_meth0 (pv 1) T.cl_F T.m_F_kind (ok_F_kind T) (hr.mono (by decide)) T.b_F_kind .nil pass0) (pe_g T.c_AGAIN) (nomark _)) (pw_or1 (PW.pt (pw_and (pt_val (pv 2)) (pw_and1 (pt_val (pe_fld (pv 0) rfl)))))))) (pss_one (ps_fld (pv 0) (pe_meth0 (pv 1) T.cl_F T.m_F_awaited (ok_F_awaited T) (hr.mono (by decide)) T.b_F_awaited .nil pass0) rfl)) pss_nil)
    (pss_cons (ps_if (pt_val (pv 2)) (pss_one (ps_fld (pv 0) pe_bl rfl)) pss_nil)
    (pss_one (ps_if (PW.pt (pw_and (pt_val (pe_fld (pv 1) rfl)) (pw_and1 (pt_cmpR op_eq (pe_meth0 (pv 1) T.cl_F T.m_F_bit (ok_F_bit T) (hr.mono (by decide)) T.b_F_bit .nil pass0) pe_int (nomark _))))) (pss_one (ps_expr (pe_meth (pv 0) T.cl_E T.m_E_tell_state (ok_E_tell_state T) (hr.mono (by decide)) T.b_E_tell_state .nil pass0 (by exact (pa_cons pe_int pa_nil))))) pss_nil)))))))
theorem ok_d_hear_command (T : Txt K mg L f) : FnOk P w K mg base CX0 9 f.d_hear_command f.fd_d_hear_command ["end", "frame"] (sp_d_hear_command K L) := by
  refine T.F_d_hear_command.ok sc_d_hear_command (fun vs H Q E h => len_d_hear_command h) (fun cdv A outer s H vs Q E hr h => ⟨t_d_hear_command K L, ?_, pure_d_hear_command T.toTx h⟩)
  exact (pss_cons (ps_set (i := 2) sc_d_hear_command.nd rfl (Or.inl rfl) (pe_meth0 (pv 1) T.cl_F T.m_F_fault (ok_F_fault T) (hr.mono (by decide)) T.b_F_fault .nil pass0))
    (pss_one (ps_if (PW.pt (pw_and (pt_cmpR op_eq (pv 2) (pe_g T.c_GOOD) (nomark _)) (pw_and1 (pt_cmpR op_eq (pe_meth0 (pv 1) T.cl_F T.m_F_kind (ok_F_kind T) (hr.mono (by decide)) T.b_F_kind .nil pass0) (pe_g T.c_HELLO) (nomark _))))) (pss_one (ps_expr (pe_call (ok_d_hear_hello T) (hr.mono (by decide)) rfl T.g_d_hear_hello T.F_d_hear_hello.kp T.b_d_hear_hello .nil pass0 (by exact (pa_cons (pv 0) (pa_cons (pe_meth0 (pv 1) T.cl_F T.m_F_bit (ok_F_bit T) (hr.mono (by decide)) T.b_F_bit .nil pass0) pa_nil)))))) (pss_one (ps_if (PW.pt (pw_and (pt_cmpR op_eq (pv 2) (pe_g T.c_GOOD) (nomark _)) (pw_and1 (pt_cmpR op_eq (pe_meth0 (pv 1) T.cl_F T.m_F_kind (ok_F_kind T) (hr.mono (by decide)) T.b_F_kind .nil pass0) (pe_g T.c_FINISH) (nomark _))))) (pss_one (ps_expr (pe_call (ok_d_hear_finish T) (hr.mono (by decide)) rfl T.g_d_hear_finish T.F_d_hear_finish.kp T.b_d_hear_finish .nil pass0 (by exact (pa_cons (pv 0) (pa_cons (pe_meth0 (pv 1) T.cl_F T.m_F_bit (ok_F_bit T) (hr.mono (by decide)) T.b_F_bit .nil pass0) pa_nil)))))) (pss_one (ps_if (pt_cmpR op_eq (pe_fld (pv 0) rfl) (pe_g T.c_STUCK) (nomark _)) (pss_one (ps_if (pt_cmpR op_eq (pe_meth0 (pv 1) T.cl_F T.m_F_bit (ok_F_bit T) (hr.mono (by decide)) T.b_F_bit .nil pass0) pe_int (nomark _)) (pss_one (ps_expr (pe_meth (pv 0) T.cl_E T.m_E_say_wrong (ok_E_say_wrong T) (hr.mono (by decide)) T.b_E_say_wrong .nil pass0 (by exact (pa_cons pe_int pa_nil))))) pss_nil)) (pss_one (ps_if (pt_cmpR op_ne (pe_fld (pv 0) rfl) (pe_g T.c_UP) (nomark _)) (pss_one (ps_if (pt_cmpR op_eq (pe_meth0 (pv 1) T.cl_F T.m_F_bit (ok_F_bit T) (hr.mono (by decide)) T.b_F_bit .nil pass0) pe_int (nomark _)) (pss_one (ps_expr (pe_meth (pv 0) T.cl_E T.m_E_answer (ok_E_answer T) (hr.mono (by decide)) T.b_E_answer .nil pass0 (by exact (pa_cons (pe_op op_add (pe_g T.c_DOWN_ANSWER) (pe_g T.c_BIT)) (pa_cons (pe_lst pa_nil) pa_nil)))))) pss_nil)) (pss_one (ps_if (pt_cmpR op_ne (pv 2) (pe_g T.c_GOOD) (nomark _)) (pss_one (ps_expr (pe_meth (pv 0) T.cl_E T.m_E_get_stuck (ok_E_get_stuck T) (hr.mono (by decide)) T.b_E_get_stuck .nil pass0 (by exact (pa_cons (pe_fld (pv 1) rfl) (pa_cons (pe_meth0 (pv 1) T.cl_F T.m_F_bit (ok_F_bit T) (hr.mono (by decide)) T.b_F_bit .nil pass0) (pa_cons (pv 2) pa_nil))))))) (pss_one (ps_if (pt_cmpR op_eq (pe_meth0 (pv 1) T.cl_F T.m_F_kind (ok_F_kind T) (hr.mono (by decide)) T.b_F_kind .nil pass0) (pe_g T.c_NUMBERED) (nomark _)) (pss_one (ps_expr (pe_call (ok_d_hear_numbered T) (hr.mono (by decide)) rfl T.g_d_hear_numbered T.F_d_hear_numbered.kp T.b_d_hear_numbered .nil pass0 (by exact (pa_cons (pv 0) (pa_cons (pv 1) pa_nil)))))) (pss_one (ps_expr (pe_call (ok_d_hear_state T) (hr.mono (by decide)) rfl T.g_d_hear_state T.F_d_hear_state.kp T.b_d_hear_state .nil pass0 (by exact (pa_cons (pv 0) (pa_cons (pv 1) pa_nil)))))))))))))))))))
theorem ok_d_hear_yes (T : Txt K mg L f) : FnOk P w K mg base CX0 3 f.d_hear_yes f.fd_d_hear_yes ["end"] (sp_d_hear_yes K L) := by
  refine T.F_d_hear_yes.ok sc_d_hear_yes (fun vs H Q E h => len_d_hear_yes h) (fun cdv A outer s H vs Q E hr h => ⟨t_d_hear_yes K L, ?_, pure_d_hear_yes T.toTx h⟩)
  exact (pss_one (ps_if (pt_cmpR op_eq (pe_fld (pv 0) rfl) (pe_g T.c_GREETING) (nomark _)) (pss_one (ps_expr (pe_meth0 (pv 0) T.cl_E T.m_E_go_up (ok_E_go_up T) (hr.mono (by decide)) T.b_E_go_up .nil pass0))) (pss_one (ps_if (pt_cmpR op_eq (pe_fld (pv 0) rfl) (pe_g T.c_ENDING) (nomark _)) (pss_one (ps_expr (pe_meth0 (pv 0) T.cl_E T.m_E_go_down (ok_E_go_down T) (hr.mono (by decide)) T.b_E_go_down .nil pass0))) pss_nil))))
theorem ok_d_hear_answer (T : Txt K mg L f) : FnOk P w K mg base CX0 9 f.d_hear_answer f.fd_d_hear_answer ["end", "frame"] (sp_d_hear_answer K L) := by
  refine T.F_d_hear_answer.ok sc_d_hear_answer (fun vs H Q E h => len_d_hear_answer h) (fun cdv A outer s H vs Q E hr h => ⟨t_d_hear_answer K L, ?_, pure_d_hear_answer T.toTx h⟩)
  exact (pss_cons (ps_set (i := 2) sc_d_hear_answer.nd rfl (Or.inl rfl) (pe_meth0 (pv 1) T.cl_F T.m_F_fault (ok_F_fault T) (hr.mono (by decide)) T.b_F_fault .nil pass0))
    (pss_cons (ps_set (i := 3) sc_d_hear_answer.nd rfl (Or.inl rfl) (pe_meth0 (pv 1) T.cl_F T.m_F_kind (ok_F_kind T) (hr.mono (by decide)) T.b_F_kind .nil pass0))
    (pss_one (ps_if (pt_cmpR op_ne (pv 2) (pe_g T.c_GOOD) (nomark _)) (pss_one (ps_if (pt_cmpR op_eq (pe_fld (pv 0) rfl) (pe_g T.c_UP) (nomark _)) (pss_one (ps_expr (pe_meth (pv 0) T.cl_E T.m_E_get_stuck (ok_E_get_stuck T) (hr.mono (by decide)) T.b_E_get_stuck .nil pass0 (by exact (pa_cons (pe_fld (pv 1) rfl) (pa_cons (pe_meth0 (pv 1) T.cl_F T.m_F_bit (ok_F_bit T) (hr.mono (by decide)) T.b_F_bit .nil pass0) (pa_cons (pv 2) pa_nil))))))) pss_nil)) (pss_one (ps_if (pt_cmpR op_eq (pv 3) (pe_g T.c_YES) (nomark _)) (pss_one (ps_expr (pe_call (ok_d_hear_yes T) (hr.mono (by decide)) rfl T.g_d_hear_yes T.F_d_hear_yes.kp T.b_d_hear_yes .nil pass0 (by exact (pa_cons (pv 0) pa_nil))))) (pss_one (ps_if (pt_cmpR op_eq (pv 3) (pe_g T.c_DOWN_ANSWER) (nomark _)) (pss_one (ps_if (pt_cmpR op_ne (pe_fld (pv 0) rfl) (pe_g T.c_DOWN) (nomark _)) (pss_one (ps_expr (pe_meth0 (pv 0) T.cl_E T.m_E_go_down (ok_E_go_down T) (hr.mono (by decide)) T.b_E_go_down .nil pass0))) pss_nil)) (pss_one (ps_if (PW.pt (pw_and (pt_cmpR op_eq (pe_fld (pv 0) rfl) (pe_g T.c_UP) (nomark _)) (pw_and1 (pt_cmpR op_eq (pv 3) (pe_g T.c_WRONG) (nomark _))))) (pss_one (ps_expr (pe_meth0 (pv 0) T.cl_E T.m_E_greet (ok_E_greet T) (hr.mono (by decide)) T.b_E_greet .nil pass0))) (pss_one (ps_if (PW.pt (pw_and (pt_cmpR op_eq (pe_fld (pv 0) rfl) (pe_g T.c_UP) (nomark _)) (pw_and1 (pt_cmpR op_in_seq (pv 3) (pe_g T.c_STATES) (by rfl))))) (pss_one (ps_expr (pe_call (ok_d_hear_state T) (hr.mono (by decide)) rfl T.g_d_hear_state T.F_d_hear_state.kp T.b_d_hear_state .nil pass0 (by exact (pa_cons (pv 0) (pa_cons (pv 1) pa_nil)))))) pss_nil))))))))))))
theorem ok_d_hear (T : Txt K mg L f) : FnOk P w K mg base CX0 10 f.d_hear f.fd_d_hear ["end", "row"] (sp_d_hear K L) := by
  refine T.F_d_hear.ok sc_d_hear (fun vs H Q E h => len_d_hear h) (fun cdv A outer s H vs Q E hr h => ⟨t_d_hear K L, ?_, pure_d_hear T.toTx h⟩)
  exact (pss_one (ps_if (pt_cmpR op_eq (pe_ix ix_list (pv 1) pe_int (fun _ _ => rfl)) (pe_fld (pv 0) rfl) (nomark _)) (pss_cons (ps_expr (pe_call (ok_d_hear_command T) (hr.mono (by decide)) rfl T.g_d_hear_command T.F_d_hear_command.kp T.b_d_hear_command .nil pass0 (by exact (pa_cons (pv 0) (pa_cons (pe_make T.mk_F (ok_F_init T) (hr.mono (by decide)) rfl T.g_F T.b_F_init .nil pass0 (by exact (pa_cons pe_bl (pa_cons (pe_ix ix_list (pv 1) pe_int (fun _ _ => rfl)) (pa_cons (pe_slice sl_list (pv 1) (po_some pe_int) po_none) pa_nil))))) pa_nil)))))
    (pss_one (ps_expr (pe_meth0 (pv 0) T.cl_E T.m_E_go_out (ok_E_go_out T) (hr.mono (by decide)) T.b_E_go_out .nil pass0)))) (pss_one (ps_if (pt_cmpR op_eq (pe_ix ix_list (pv 1) pe_int (fun _ _ => rfl)) (pe_fld (pv 0) rfl) (nomark _)) (pss_cons (ps_expr (pe_call (ok_d_hear_answer T) (hr.mono (by decide)) rfl T.g_d_hear_answer T.F_d_hear_answer.kp T.b_d_hear_answer .nil pass0 (by exact (pa_cons (pv 0) (pa_cons (pe_make T.mk_F (ok_F_init T) (hr.mono (by decide)) rfl T.g_F T.b_F_init .nil pass0 (by exact (pa_cons pe_bl (pa_cons (pe_ix ix_list (pv 1) pe_int (fun _ _ => rfl)) (pa_cons (pe_slice sl_list (pv 1) (po_some pe_int) po_none) pa_nil))))) pa_nil)))))
    (pss_one (ps_expr (pe_meth0 (pv 0) T.cl_E T.m_E_go_out (ok_E_go_out T) (hr.mono (by decide)) T.b_E_go_out .nil pass0)))) pss_nil))))
theorem ok_d_take_bits (T : Txt K mg L f) : FnOk P w K mg base CX0 11 f.d_take_bits f.fd_d_take_bits ["end", "bits"] (sp_d_take_bits K L) := by
  refine T.F_d_take_bits.ok sc_d_take_bits (fun vs H Q E h => len_d_take_bits h) (fun cdv A outer s H vs Q E hr h => ⟨t_d_take_bits K L, ?_, pure_d_take_bits T.toTx h⟩)
  exact (pss_one (ps_for PassesOwn.never rfl (pi_list (pv 1)) (pg_name (i := 2) sc_d_take_bits.nd rfl (Or.inl rfl)) (pss_cons (ps_set (i := 3) sc_d_take_bits.nd rfl (Or.inl rfl) (pe_meth (pe_fld (pv 0) rfl) T.cl_I T.m_I_take (ok_I_take T) (hr.mono (by decide)) T.b_I_take .nil pass0 (by exact (pa_cons (pv 2) pa_nil))))
    (pss_one (ps_if (pt_cmpR op_notN (pv 3) pe_non (nomark _)) (pss_one (ps_expr (pe_call (ok_d_hear T) (hr.mono (by decide)) rfl T.g_d_hear T.F_d_hear.kp T.b_d_hear .nil pass0 (by exact (pa_cons (pv 0) (pa_cons (pv 3) pa_nil)))))) pss_nil)))))
theorem ok_X_init (T : Txt K mg L f) : FnOk P w K mg base CX0 1 f.X_init f.fd_X_init ["self", "number"] (sp_X_init K L) := by
  refine T.F_X_init.ok sc_X_init (fun vs H Q E h => len_X_init h) (fun cdv A outer s H vs Q E hr h => ⟨t_X_init K L, ?_, pure_X_init T.toTx h⟩)
  exact (pss_one (ps_ost (pv 0) (pv 1)))
theorem ok_d_ask (T : Txt K mg L f) : FnOk P w K mg base (L2.CX P w) 3 f.d_ask f.fd_d_ask ["good", "number"] (sp_d_ask K L) := by
  refine T.F_d_ask.okX sc_d_ask (fun vs H Q E h => len_d_ask h) (fun cdv A outer s H vs Q E hr h => ⟨t_d_ask K L E, ?_, pure_d_ask T.toTx h⟩)
  exact (pss_one (ps_if (pt_not (pt_val (pv 0))) (pss_one (ps_raise rfl (takes_of rfl rfl rfl rfl) (pmk_oex T.ox T.iX T.tX (ok_X_init T) (hr.mono (by decide)) T.b_X_init .nil pass0 rfl T.g_X (by exact (pa_cons (pv 1) pa_nil))))) pss_nil))
theorem ok_d_begun (T : Txt K mg L f) : FnOk P w K mg base (L2.CX P w) 5 f.d_begun f.fd_d_begun ["numbers"] (sp_d_begun K L) := by
  refine T.F_d_begun.okX sc_d_begun (fun vs H Q E h => len_d_begun h) (fun cdv A outer s H vs Q E hr h => ⟨t_d_begun K L E, ?_, pure_d_begun T.toTx h⟩)
  exact (pss_cons (ps_asg (pv 0) (pg_lst rfl (pgs_cons (pg_name (i := 1) sc_d_begun.nd rfl (Or.inl rfl)) (pgs_cons (pg_name (i := 2) sc_d_begun.nd rfl (Or.inl rfl)) (pgs_cons (pg_name (i := 3) sc_d_begun.nd rfl (Or.inl rfl)) (pgs_cons (pg_name (i := 4) sc_d_begun.nd rfl (Or.inl rfl)) pgs_nil))))))
    (pss_cons (ps_expr (pe_callS (ok_d_ask T) (hr.mono (by decide)) rfl T.g_d_ask T.F_d_ask.kp T.b_d_ask (fun σ => passAt (takes_of rfl rfl rfl rfl) σ) (by exact (pa_cons (pe_and (pe_chain op_le op_le pe_int (pv 1) pe_int) (pe_and (pe_chain op_le op_le pe_int (pv 2) (pe_g T.c_MOST_WINDOW)) (pe_and (pe_cmpR op_gt (pv 3) pe_int (nomark _)) (pe_one (pe_chain op_le op_le pe_int (pv 4) (pe_g T.c_MOST_TRIES)))))) (pa_cons (pe_un un_neg pe_int) pa_nil)))))
    (pss_one (ps_ret (pe_make T.mk_E (ok_E_init T) (hr.mono (by decide)) rfl T.g_E T.b_E_init .nil pass0 (by exact (pa_cons (pv 1) (pa_cons (pv 2) (pa_cons (pv 3) (pa_cons (pv 4) pa_nil))))))))))
theorem ok_d_connect (T : Txt K mg L f) : FnOk P w K mg base (L2.CX P w) 6 f.d_connect f.fd_d_connect ["end", "now"] (sp_d_connect K L) := by
  refine T.F_d_connect.okX sc_d_connect (fun vs H Q E h => len_d_connect h) (fun cdv A outer s H vs Q E hr h => ⟨t_d_connect K L E, ?_, pure_d_connect T.toTx h⟩)
  exact (pss_cons (ps_expr (pe_callS (ok_d_ask T) (hr.mono (by decide)) rfl T.g_d_ask T.F_d_ask.kp T.b_d_ask (fun σ => passAt (takes_of rfl rfl rfl rfl) σ) (by exact (pa_cons (pe_cmpR op_eq (pe_fld (pv 0) rfl) (pe_g T.c_DOWN) (nomark _)) (pa_cons (pe_un un_neg pe_int) pa_nil)))))
    (pss_cons (ps_fld (pv 0) (pv 1) rfl)
    (pss_cons (ps_expr (pe_meth0 (pv 0) T.cl_E T.m_E_greet (ok_E_greet T) (hr.mono (by decide)) T.b_E_greet .nil pass0))
    (pss_one (ps_ret (pe_lst (pa_cons pe_int pa_nil)))))))
theorem ok_d_finish (T : Txt K mg L f) : FnOk P w K mg base (L2.CX P w) 6 f.d_finish f.fd_d_finish ["end", "now"] (sp_d_finish K L) := by
  refine T.F_d_finish.okX sc_d_finish (fun vs H Q E h => len_d_finish h) (fun cdv A outer s H vs Q E hr h => ⟨t_d_finish K L E, ?_, pure_d_finish T.toTx h⟩)
  exact (pss_cons (ps_expr (pe_callS (ok_d_ask T) (hr.mono (by decide)) rfl T.g_d_ask T.F_d_ask.kp T.b_d_ask (fun σ => passAt (takes_of rfl rfl rfl rfl) σ) (by exact (pa_cons (pe_cmpR op_eq (pe_fld (pv 0) rfl) (pe_g T.c_UP) (nomark _)) (pa_cons (pe_un un_neg pe_int) pa_nil)))))
    (pss_cons (ps_fld (pv 0) (pv 1) rfl)
    (pss_cons (ps_expr (pe_meth0 (pv 0) T.cl_E T.m_E_finish (ok_E_finish T) (hr.mono (by decide)) T.b_E_finish .nil pass0))
    (pss_one (ps_ret (pe_lst (pa_cons pe_int pa_nil)))))))
theorem ok_d_send (T : Txt K mg L f) : FnOk P w K mg base (L2.CX P w) 6 f.d_send f.fd_d_send ["end", "now", "row"] (sp_d_send K L) := by
  refine T.F_d_send.okX sc_d_send (fun vs H Q E h => len_d_send h) (fun cdv A outer s H vs Q E hr h => ⟨t_d_send K L E, ?_, pure_d_send T.toTx h⟩)
  exact (pss_cons (ps_expr (pe_callS (ok_d_ask T) (hr.mono (by decide)) rfl T.g_d_ask T.F_d_ask.kp T.b_d_ask (fun σ => passAt (takes_of rfl rfl rfl rfl) σ) (by exact (pa_cons (pe_chain op_le op_le pe_int (pe_callB call_len_seq (by rfl) T.n_len PySem.boot_len (pa_cons (pv 2) pa_nil)) (pe_g T.c_MOST_MESSAGE)) (pa_cons (pe_un un_neg pe_int) pa_nil)))))
    (pss_cons (ps_expr (pe_callS (ok_d_ask T) (hr.mono (by decide)) rfl T.g_d_ask T.F_d_ask.kp T.b_d_ask (fun σ => passAt (takes_of rfl rfl rfl rfl) σ) (by exact (pa_cons (pe_cmpR op_lt (pe_meth0 (pv 0) T.cl_E T.m_E_many_out (ok_E_many_out T) (hr.mono (by decide)) T.b_E_many_out .nil pass0) (pe_g T.c_MOST_MESSAGES) (nomark _)) (pa_cons (pe_un un_neg pe_int) pa_nil)))))
    (pss_cons (ps_fld (pv 0) (pv 1) rfl)
    (pss_cons (ps_expr (pe_bm PySem.F.plainAttrs_list PySem.F.slot_list_append PySem.F.type_list_append mt_append (pe_fld (pv 0) rfl) (pa_cons (pv 2) pa_nil)))
    (pss_cons (ps_expr (pe_meth0 (pv 0) T.cl_E T.m_E_go_out (ok_E_go_out T) (hr.mono (by decide)) T.b_E_go_out .nil pass0))
    (pss_one (ps_ret (pe_lst (pa_cons pe_int pa_nil)))))))))
theorem ok_d_bits (T : Txt K mg L f) : FnOk P w K mg base (L2.CX P w) 12 f.d_bits f.fd_d_bits ["end", "n", "now", "row"] (sp_d_bits K L) := by
  refine T.F_d_bits.okX sc_d_bits (fun vs H Q E h => len_d_bits h) (fun cdv A outer s H vs Q E hr h => ⟨t_d_bits K L E, ?_, pure_d_bits T.toTx h⟩)
  exact (pss_cons (ps_expr (pe_callS (ok_d_ask T) (hr.mono (by decide)) rfl T.g_d_ask T.F_d_ask.kp T.b_d_ask (fun σ => passAt (takes_of rfl rfl rfl rfl) σ) (by exact (pa_cons (pe_chain op_le op_le pe_int (pv 1) (pe_g T.c_MOST_BITS)) (pa_cons (pe_un un_neg pe_int) pa_nil)))))
    (pss_cons (ps_fld (pv 0) (pv 2) rfl)
    (pss_cons (ps_expr (pe_call (ok_d_take_bits T) (hr.mono (by decide)) rfl T.g_d_take_bits T.F_d_take_bits.kp T.b_d_take_bits .nil pass0 (by exact (pa_cons (pv 0) (pa_cons (pe_slice sl_list (pe_call (ok_d_bits_of T) (hr.mono (by decide)) rfl T.g_d_bits_of T.F_d_bits_of.kp T.b_d_bits_of .nil pass0 (by exact (pa_cons (pv 3) pa_nil))) po_none (po_some (pv 1))) pa_nil)))))
    (pss_one (ps_ret (pe_lst (pa_cons pe_int pa_nil)))))))
theorem ok_d_tick (T : Txt K mg L f) : FnOk P w K mg base CX0 7 f.d_tick f.fd_d_tick ["end", "now"] (sp_d_tick K L) := by
  refine T.F_d_tick.ok sc_d_tick (fun vs H Q E h => len_d_tick h) (fun cdv A outer s H vs Q E hr h => ⟨t_d_tick K L, ?_, pure_d_tick T.toTx h⟩)
  exact (pss_cons (ps_fld (pv 0) (pv 1) rfl)
    (pss_cons (ps_expr (pe_meth0 (pv 0) T.cl_E T.m_E_see_to_clock (ok_E_see_to_clock T) (hr.mono (by decide)) T.b_E_see_to_clock .nil pass0))
    (pss_one (ps_ret (pe_lst (pa_cons pe_int pa_nil))))))
theorem ok_d_output (T : Txt K mg L f) : FnOk P w K mg base (L2.CX P w) 4 f.d_output f.fd_d_output ["end", "most"] (sp_d_output K L) := by
  refine T.F_d_output.okX sc_d_output (fun vs H Q E h => len_d_output h) (fun cdv A outer s H vs Q E hr h => ⟨t_d_output K L E, ?_, pure_d_output T.toTx h⟩)
  exact (pss_cons (ps_expr (pe_callS (ok_d_ask T) (hr.mono (by decide)) rfl T.g_d_ask T.F_d_ask.kp T.b_d_ask (fun σ => passAt (takes_of rfl rfl rfl rfl) σ) (by exact (pa_cons (pe_chain op_le op_le pe_int (pv 1) (pe_g T.c_MOST_OUT)) (pa_cons (pe_un un_neg pe_int) pa_nil)))))
    (pss_cons (ps_set (i := 2) sc_d_output.nd rfl (Or.inl rfl) (pe_meth (pe_fld (pv 0) rfl) T.cl_W T.m_W_take (ok_W_take T) (hr.mono (by decide)) T.b_W_take .nil pass0 (by exact (pa_cons (pv 1) pa_nil))))
    (pss_one (ps_ret (pe_op op_cat (pe_lst (pa_cons (pe_callB call_len_seq (by rfl) T.n_len PySem.boot_len (pa_cons (pv 2) pa_nil)) pa_nil)) (pv 2))))))
theorem ok_d_take (T : Txt K mg L f) : FnOk P w K mg base (L2.CX P w) 4 f.d_take f.fd_d_take ["end", "most"] (sp_d_take K L) := by
  refine T.F_d_take.okX sc_d_take (fun vs H Q E h => len_d_take h) (fun cdv A outer s H vs Q E hr h => ⟨t_d_take K L E, ?_, pure_d_take T.toTx h⟩)
  exact (pss_cons (ps_expr (pe_callS (ok_d_ask T) (hr.mono (by decide)) rfl T.g_d_ask T.F_d_ask.kp T.b_d_ask (fun σ => passAt (takes_of rfl rfl rfl rfl) σ) (by exact (pa_cons (pe_cmpR op_ge (pv 1) pe_int (nomark _)) (pa_cons (pe_un un_neg pe_int) pa_nil)))))
    (pss_cons (ps_if (pt_cmpR op_eq (pe_callB call_len_seq (by rfl) T.n_len PySem.boot_len (pa_cons (pe_fld (pv 0) rfl) pa_nil)) pe_int (nomark _)) (pss_one (ps_ret (pe_lst (pa_cons pe_int pa_nil)))) pss_nil)
    (pss_cons (ps_expr (pe_callS (ok_d_ask T) (hr.mono (by decide)) rfl T.g_d_ask T.F_d_ask.kp T.b_d_ask (fun σ => passAt (takes_of rfl rfl rfl rfl) σ) (by exact (pa_cons (pe_cmpR op_le (pe_callB call_len_seq (by rfl) T.n_len PySem.boot_len (pa_cons (pe_ix ix_list (pe_fld (pv 0) rfl) pe_int (fun _ _ => rfl)) pa_nil)) (pv 1) (nomark _)) (pa_cons (pe_un un_neg pe_int) pa_nil)))))
    (pss_cons (ps_set (i := 2) sc_d_take.nd rfl (Or.inl rfl) (pe_bm PySem.F.plainAttrs_list PySem.F.slot_list_pop PySem.F.type_list_pop mt_popAt (pe_fld (pv 0) rfl) (pa_cons pe_int pa_nil)))
    (pss_one (ps_ret (pe_op op_cat (pe_lst (pa_cons (pe_callB call_len_seq (by rfl) T.n_len PySem.boot_len (pa_cons (pv 2) pa_nil)) pa_nil)) (pv 2))))))))
theorem ok_d_told (T : Txt K mg L f) : FnOk P w K mg base CX0 2 f.d_told f.fd_d_told ["end"] (sp_d_told K L) := by
  refine T.F_d_told.ok sc_d_told (fun vs H Q E h => len_d_told h) (fun cdv A outer s H vs Q E hr h => ⟨t_d_told K L, ?_, pure_d_told T.toTx h⟩)
  exact (pss_one (ps_ret (pe_lst (pa_cons pe_int (pa_cons (pe_fld (pv 0) rfl) (pa_cons (pe_fld (pv 0) rfl) (pa_cons (pe_fld (pv 0) rfl) (pa_cons (pe_fld (pv 0) rfl) (pa_cons (pe_meth0 (pv 0) T.cl_E T.m_E_many_out (ok_E_many_out T) (hr.mono (by decide)) T.b_E_many_out .nil pass0) (pa_cons (pe_callB call_len_seq (by rfl) T.n_len PySem.boot_len (pa_cons (pe_fld (pv 0) rfl) pa_nil)) pa_nil))))))))))
theorem ok_d_answer_of (T : Txt K mg L f) : FnOk P w K mg base (L2.CX P w) 13 f.d_answer_of f.fd_d_answer_of ["end", "call", "numbers", "row"] (sp_d_answer_of K L) := by
  refine T.F_d_answer_of.okX sc_d_answer_of (fun vs H Q E h => len_d_answer_of h) (fun cdv A outer s H vs Q E hr h => ⟨t_d_answer_of K L E, ?_, pure_d_answer_of T.toTx h⟩)
  exact (pss_cons (ps_if (pt_cmpR op_eq (pv 1) pe_int (nomark _)) (pss_one (ps_ret (pe_callS (ok_d_connect T) (hr.mono (by decide)) rfl T.g_d_connect T.F_d_connect.kp T.b_d_connect (fun σ => passAt (takes_of rfl rfl rfl rfl) σ) (by exact (pa_cons (pv 0) (pa_cons (pe_ix ix_list (pv 2) pe_int (fun _ _ => rfl)) pa_nil)))))) pss_nil)
    (pss_cons (ps_if (pt_cmpR op_eq (pv 1) pe_int (nomark _)) (pss_one (ps_ret (pe_callS (ok_d_finish T) (hr.mono (by decide)) rfl T.g_d_finish T.F_d_finish.kp T.b_d_finish (fun σ => passAt (takes_of rfl rfl rfl rfl) σ) (by exact (pa_cons (pv 0) (pa_cons (pe_ix ix_list (pv 2) pe_int (fun _ _ => rfl)) pa_nil)))))) pss_nil)
    (pss_cons (ps_if (pt_cmpR op_eq (pv 1) (pe_g T.c_SEND) (nomark _)) (pss_one (ps_ret (pe_callS (ok_d_send T) (hr.mono (by decide)) rfl T.g_d_send T.F_d_send.kp T.b_d_send (fun σ => passAt (takes_of rfl rfl rfl rfl) σ) (by exact (pa_cons (pv 0) (pa_cons (pe_ix ix_list (pv 2) pe_int (fun _ _ => rfl)) (pa_cons (pv 3) pa_nil))))))) pss_nil)
    (pss_cons (ps_if (pt_cmpR op_eq (pv 1) (pe_g T.c_BITS) (nomark _)) (pss_one (ps_ret (pe_callS (ok_d_bits T) (hr.mono (by decide)) rfl T.g_d_bits T.F_d_bits.kp T.b_d_bits (fun σ => passAt (takes_of rfl rfl rfl rfl) σ) (by exact (pa_cons (pv 0) (pa_cons (pe_ix ix_list (pv 2) pe_int (fun _ _ => rfl)) (pa_cons (pe_ix ix_list (pv 2) pe_int (fun _ _ => rfl)) (pa_cons (pv 3) pa_nil)))))))) pss_nil)
    (pss_cons (ps_if (pt_cmpR op_eq (pv 1) pe_int (nomark _)) (pss_one (ps_ret (pe_call (ok_d_tick T) (hr.mono (by decide)) rfl T.g_d_tick T.F_d_tick.kp T.b_d_tick .nil pass0 (by exact (pa_cons (pv 0) (pa_cons (pe_ix ix_list (pv 2) pe_int (fun _ _ => rfl)) pa_nil)))))) pss_nil)
    (pss_cons (ps_if (pt_cmpR op_eq (pv 1) pe_int (nomark _)) (pss_one (ps_ret (pe_callS (ok_d_output T) (hr.mono (by decide)) rfl T.g_d_output T.F_d_output.kp T.b_d_output (fun σ => passAt (takes_of rfl rfl rfl rfl) σ) (by exact (pa_cons (pv 0) (pa_cons (pe_ix ix_list (pv 2) pe_int (fun _ _ => rfl)) pa_nil)))))) pss_nil)
    (pss_cons (ps_if (pt_cmpR op_eq (pv 1) pe_int (nomark _)) (pss_one (ps_ret (pe_callS (ok_d_take T) (hr.mono (by decide)) rfl T.g_d_take T.F_d_take.kp T.b_d_take (fun σ => passAt (takes_of rfl rfl rfl rfl) σ) (by exact (pa_cons (pv 0) (pa_cons (pe_ix ix_list (pv 2) pe_int (fun _ _ => rfl)) pa_nil)))))) pss_nil)
    (pss_one (ps_ret (pe_call (ok_d_told T) (hr.mono (by decide)) rfl T.g_d_told T.F_d_told.kp T.b_d_told .nil pass0 (by exact (pa_cons (pv 0) pa_nil))))))))))))
theorem ok_d_answer_to (T : Txt K mg L f) : FnOk P w K mg base (L2.CX P w) 14 f.d_answer_to f.fd_d_answer_to ["ends", "call", "numbers", "row"] (sp_d_answer_to K L) := by
  refine T.F_d_answer_to.okX sc_d_answer_to (fun vs H Q E h => len_d_answer_to h) (fun cdv A outer s H vs Q E hr h => ⟨t_d_answer_to K L E, ?_, pure_d_answer_to T.toTx h⟩)
  exact (pss_cons (ps_set (i := 4) sc_d_answer_to.nd rfl (Or.inl rfl) (pe_ix ix_list (pv 2) pe_int (fun _ _ => rfl)))
    (pss_cons (ps_if (pt_cmpR op_eq (pv 1) pe_int (nomark _)) (pss_cons (ps_asg (pe_callS (ok_d_begun T) (hr.mono (by decide)) rfl T.g_d_begun T.F_d_begun.kp T.b_d_begun (fun σ => passAt (takes_of rfl rfl rfl rfl) σ) (by exact (pa_cons (pe_slice sl_list (pv 2) (po_some pe_int) po_none) pa_nil))) (pg_sub (pv 0) (pv 4) set_list))
    (pss_one (ps_ret (pe_lst (pa_cons pe_int pa_nil))))) pss_nil)
    (pss_cons (ps_expr (pe_callS (ok_d_ask T) (hr.mono (by decide)) rfl T.g_d_ask T.F_d_ask.kp T.b_d_ask (fun σ => passAt (takes_of rfl rfl rfl rfl) σ) (by exact (pa_cons (pe_cmpR op_notN (pe_ix ix_list (pv 0) (pv 4) (fun _ _ => rfl)) pe_non (nomark _)) (pa_cons (pe_un un_neg pe_int) pa_nil)))))
    (pss_one (ps_ret (pe_callS (ok_d_answer_of T) (hr.mono (by decide)) rfl T.g_d_answer_of T.F_d_answer_of.kp T.b_d_answer_of (fun σ => passAt (takes_of rfl rfl rfl rfl) σ) (by exact (pa_cons (pe_ix ix_list (pv 0) (pv 4) (fun _ _ => rfl)) (pa_cons (pv 1) (pa_cons (pe_slice sl_list (pv 2) (po_some pe_int) po_none) (pa_cons (pv 3) pa_nil)))))))))))
theorem ok_d_answered (T : Txt K mg L f) : FnOk P w K mg base CX0 15 f.d_answered f.fd_d_answered ["ends", "call", "numbers", "row"] (sp_d_answered K L) := by
  refine T.F_d_answered.ok sc_d_answered (fun vs H Q E h => len_d_answered h) (fun cdv A outer s H vs Q E hr h => ⟨t_d_answered K L, ?_, pure_d_answered T.toTx h⟩)
  exact (pss_one (ps_try_as (i := 4) (tb := fun W => (tRet (tCallS (sp_d_answer_to K L) (WE W) (tCons (tVar 0) (tCons (tVar 1) (tCons (tVar 2) (tCons (tVar 3) tNil))))))) (ts := fun a cls d => (tRet (tLst (tCons (tXf a cls d L.CX "number" (tVar 4)) tNil)))) (Wout := fun _ _ _ _ => False) rfl rfl sc_d_answered.nd rfl rfl ⟨rfl, by decide, Or.inl T.g_X⟩ takes0 (fun W pn xe tk _ => (pss_one (ps_ret (pe_callS (ok_d_answer_to T) (hr.mono (by decide)) rfl T.g_d_answer_to T.F_d_answer_to.kp T.b_d_answer_to (fun σ => passAt tk σ) (by exact (pa_cons (pv 0) (pa_cons (pv 1) (pa_cons (pv 2) (pa_cons (pv 3) pa_nil))))))))) (fun a oe cls d pn hz hf => (pss_one (ps_ret (pe_lst (pa_cons (pe_xf T.xf T.nX_number hz hf (pv 4)) pa_nil)))))))
theorem ok_d_answers (T : Txt K mg L f) : FnOk P w K mg base CX0 16 f.d_answers f.fd_d_answers ["calls"] (sp_d_answers K L) := by
  refine T.F_d_answers.ok sc_d_answers (fun vs H Q E h => len_d_answers h) (fun cdv A outer s H vs Q E hr h => ⟨t_d_answers K L, ?_, pure_d_answers T.toTx h⟩)
  exact (pss_cons (ps_set (i := 1) sc_d_answers.nd rfl (Or.inl rfl) (pe_op op_rep (pe_lst (pa_cons pe_non pa_nil)) (pe_g T.c_MANY_ENDS)))
    (pss_cons (ps_set (i := 2) sc_d_answers.nd rfl (Or.inl rfl) (pe_lst pa_nil))
    (pss_cons (ps_set (i := 3) sc_d_answers.nd rfl (Or.inl rfl) pe_int)
    (pss_cons (ps_while PassesOwn.never (pt_cmpR op_lt (pv 3) (pe_callB call_len_seq (by rfl) T.n_len PySem.boot_len (pa_cons (pv 0) pa_nil)) (nomark _)) (pss_cons (ps_set (i := 4) sc_d_answers.nd rfl (Or.inl rfl) (pe_ix ix_list (pv 0) (pv 3) (fun _ _ => rfl)))
    (pss_cons (ps_set (i := 5) sc_d_answers.nd rfl (Or.inl rfl) (pe_op op_add (pe_op op_add (pv 3) pe_int) (pe_ix ix_tup (pe_g T.c_MANY_NUMBERS) (pv 4) (fun _ _ => rfl))))
    (pss_cons (ps_set (i := 6) sc_d_answers.nd rfl (Or.inl rfl) (pe_slice sl_list (pv 0) (po_some (pe_op op_add (pv 3) pe_int)) (po_some (pv 5))))
    (pss_cons (ps_set (i := 7) sc_d_answers.nd rfl (Or.inl rfl) (pe_lst pa_nil))
    (pss_cons (ps_if (pt_cmpR op_in_seq (pv 4) (pe_tup (pa_cons (pe_g T.c_SEND) (pa_cons (pe_g T.c_BITS) pa_nil))) (by rfl)) (pss_cons (ps_set (i := 7) sc_d_answers.nd rfl (Or.inl rfl) (pe_slice sl_list (pv 0) (po_some (pe_op op_add (pv 5) pe_int)) (po_some (pe_op op_add (pe_op op_add (pv 5) pe_int) (pe_ix ix_list (pv 0) (pv 5) (fun _ _ => rfl))))))
    (pss_one (ps_aug (i := 5) sc_d_answers.nd rfl (Or.inl rfl) (pe_op op_add pe_int (pe_ix ix_list (pv 0) (pv 5) (fun _ _ => rfl))) ip_add))) pss_nil)
    (pss_cons (ps_set (i := 3) sc_d_answers.nd rfl (Or.inl rfl) (pv 5))
    (pss_cons (ps_set (i := 8) sc_d_answers.nd rfl (Or.inl rfl) (pe_call (ok_d_answered T) (hr.mono (by decide)) rfl T.g_d_answered T.F_d_answered.kp T.b_d_answered .nil pass0 (by exact (pa_cons (pv 1) (pa_cons (pv 4) (pa_cons (pv 6) (pa_cons (pv 7) pa_nil)))))))
    (pss_cons (ps_expr (pe_bm PySem.F.plainAttrs_list PySem.F.slot_list_append PySem.F.type_list_append mt_append (pv 2) (pa_cons (pe_callB call_len_seq (by rfl) T.n_len PySem.boot_len (pa_cons (pv 8) pa_nil)) pa_nil)))
    (pss_one (ps_expr (pe_bm PySem.F.plainAttrs_list PySem.F.slot_list_extend PySem.F.type_list_extend mt_extend (pv 2) (pa_cons (pv 8) pa_nil)))))))))))))
    (pss_one (ps_ret (pv 2)))))))
end
end LK
namespace LK
open PySem PySem.Spec PyProof.Rows L2
theorem exm_self {K : PySem.W.Frag} {X : Addr} (h1 : PySem.W.subIn K (.ref X) (.type "BaseException") = some true) (h2 : PySem.W.isClsIn K X = true) (h3 : PySem.W.typeIn K (.ref X) = some (.type "type")) (h4 : PySem.W.subIn K (.ref X) (.ref X) = some true) : PySem.W.exmOne K (.ref X) (.ref X) = some true := by
  have e1 : (PySem.W.subIn K (.ref X) (.type "BaseException") == some true) = true := by rw [h1] <;> rfl
  have e2 : ((PySem.W.clsIn K X).isSome && PySem.W.typeIn K (.ref X) == some (.type "type")) = true := by
    have h2' : (PySem.W.clsIn K X).isSome = true := h2
    rw [h2', h3] <;> rfl
  show (if (PySem.W.subIn K (.ref X) (.type "BaseException") == some true) = true then (if ((PySem.W.clsIn K X).isSome && PySem.W.typeIn K (.ref X) == some (.type "type")) = true then PySem.W.subIn K (.ref X) (.ref X) else none) else none) = some true
  rw [if_pos e1, if_pos e2]
  exact h4
theorem tup_of {K : PySem.W.Frag} {a : Addr} {d : Option Addr} {its : Array Value} {n : Nat} {sl : Array (Option Value)} {xs : List V} (l : K.lookup a = some ⟨.type "tuple", d, .seq its n, sl⟩) (hz : its.size ≤ 100) (v : Vals xs its.toList) : ∀ H : Hp, SqT K H a xs := fun H => .inr ⟨_, its, n, l, rfl, rfl, Nat.le_trans hz (by decide), v⟩
theorem vals_i : ∀ (l : List (Int × Tok)), Vals (zts (l.map (·.1))) (l.map fun p => Value.int p.1 p.2)
  | [] => .nil
  | p :: r => .cons ⟨p.2, rfl⟩ (vals_i r)
theorem txt_mk {K : PySem.W.Frag} {h : Heap} {mg : Str → Option Value} (X : K.In h) (G : h.Ns mainGlobals mg)
    {CF CI CW CE CX tFLAG tPLAIN tSTATES tCOMMANDS tANSWERS tMANY_NUMBERS : Addr}
    {f_F_init f_F_kind f_F_bit f_F_own_number f_F_awaited f_F_fault f_d_numbered_control f_d_state_control f_d_bits_of f_d_bytes_of f_d_sum_of f_d_with_noughts f_d_frame_bits f_I_init f_I_lose f_I_keep f_I_whole f_I_take f_W_init f_W_put f_W_take f_E_init f_E_afresh f_E_command f_E_answer f_E_run_clock f_E_greet f_E_finish f_E_go_up f_E_go_down f_E_own_state f_E_tell_state f_E_ask_again f_E_many_out f_E_may_go_out f_E_go_out f_E_can_be_answered f_E_answered_up_to f_E_say_wrong f_E_get_stuck f_E_is_out f_E_see_to_clock f_d_hear_hello f_d_hear_finish f_d_hear_awaited f_d_hear_numbered f_d_hear_state f_d_hear_command f_d_hear_yes f_d_hear_answer f_d_hear f_d_take_bits f_X_init f_d_ask f_d_begun f_d_connect f_d_finish f_d_send f_d_bits f_d_tick f_d_output f_d_take f_d_told f_d_answer_of f_d_answer_to f_d_answered f_d_answers : Addr}
    {k_READY : Tok}
    {k_BUSY : Tok}
    {k_AGAIN : Tok}
    {k_HELLO : Tok}
    {k_FINISH : Tok}
    {k_YES : Tok}
    {k_DOWN_ANSWER : Tok}
    {k_WRONG : Tok}
    {k_NUMBERED : Tok}
    {k_UNKNOWN : Tok}
    {k_BIT : Tok}
    {k_NUMBERS : Tok}
    {k_WRONG_BYTES : Tok}
    {k_MOST_LOAD : Tok}
    {k_GOOD : Tok}
    {k_NOT_KNOWN : Tok}
    {k_BYTES : Tok}
    {k_TOO_MANY : Tok}
    {k_CANNOT_BE : Tok}
    {k_FLAG_KEPT : Tok}
    {k_LEAST_BYTES : Tok}
    {k_MOST_BYTES : Tok}
    {k_MOST_KEPT : Tok}
    {k_MOST_WAITING : Tok}
    {k_SUM_BEGIN : Tok}
    {k_SUM_PARTS : Tok}
    {k_DOWN : Tok}
    {k_GREETING : Tok}
    {k_UP : Tok}
    {k_ENDING : Tok}
    {k_STUCK : Tok}
    {k_MOST_MESSAGES : Tok}
    {k_WHOLE_TIME : Tok}
    {k_MANY_ENDS : Tok}
    {k_SEND : Tok}
    {k_BITS : Tok}
    {k_MOST_BITS : Tok}
    {k_MOST_OUT : Tok}
    {k_MOST_MESSAGE : Tok}
    {k_MOST_WINDOW : Tok}
    {k_MOST_TRIES : Tok}
    {q0_PLAIN q1_PLAIN q2_PLAIN q3_PLAIN q4_PLAIN : Tok} {qd_PLAIN : Option Addr} {qn_PLAIN : Nat} {qs_PLAIN : Array (Option Value)}
    {q0_STATES q1_STATES q2_STATES : Tok} {qd_STATES : Option Addr} {qn_STATES : Nat} {qs_STATES : Array (Option Value)}
    {q0_COMMANDS q1_COMMANDS q2_COMMANDS q3_COMMANDS q4_COMMANDS q5_COMMANDS : Tok} {qd_COMMANDS : Option Addr} {qn_COMMANDS : Nat} {qs_COMMANDS : Array (Option Value)}
    {q0_ANSWERS q1_ANSWERS q2_ANSWERS q3_ANSWERS q4_ANSWERS q5_ANSWERS : Tok} {qd_ANSWERS : Option Addr} {qn_ANSWERS : Nat} {qs_ANSWERS : Array (Option Value)}
    {q0_FLAG q1_FLAG q2_FLAG q3_FLAG q4_FLAG q5_FLAG q6_FLAG q7_FLAG : Tok} {qd_FLAG : Option Addr} {qn_FLAG : Nat} {qs_FLAG : Array (Option Value)}
    {q0_MANY_NUMBERS q1_MANY_NUMBERS q2_MANY_NUMBERS q3_MANY_NUMBERS q4_MANY_NUMBERS q5_MANY_NUMBERS q6_MANY_NUMBERS q7_MANY_NUMBERS q8_MANY_NUMBERS : Tok} {qd_MANY_NUMBERS : Option Addr} {qn_MANY_NUMBERS : Nat} {qs_MANY_NUMBERS : Array (Option Value)}
    {nm qq : Str} {NN : Addr} {bs : List Value} {sn : List Str} {sub : List Value} {ab : Bool} {col : Option Bool} {dd : Option Addr} {m0 m1 m2 m3 m5 : Option Value}
    {od0 an0 : Option Addr} {sl0 : Array (Option Value)} {oc0 kV0 dc0 pm0 cd0 ct0 : Value}
    {od1 an1 : Option Addr} {sl1 : Array (Option Value)} {oc1 kV1 dc1 pm1 cd1 ct1 : Value}
    {od2 an2 : Option Addr} {sl2 : Array (Option Value)} {oc2 kV2 dc2 pm2 cd2 ct2 : Value}
    {od3 an3 : Option Addr} {sl3 : Array (Option Value)} {oc3 kV3 dc3 pm3 cd3 ct3 : Value}
    {od4 an4 : Option Addr} {sl4 : Array (Option Value)} {oc4 kV4 dc4 pm4 cd4 ct4 : Value}
    {od5 an5 : Option Addr} {sl5 : Array (Option Value)} {oc5 kV5 dc5 pm5 cd5 ct5 : Value}
    {od6 an6 : Option Addr} {sl6 : Array (Option Value)} {oc6 kV6 dc6 pm6 cd6 ct6 : Value}
    {od7 an7 : Option Addr} {sl7 : Array (Option Value)} {oc7 kV7 dc7 pm7 cd7 ct7 : Value}
    {od8 an8 : Option Addr} {sl8 : Array (Option Value)} {oc8 kV8 dc8 pm8 cd8 ct8 : Value}
    {od9 an9 : Option Addr} {sl9 : Array (Option Value)} {oc9 kV9 dc9 pm9 cd9 ct9 : Value}
    {od10 an10 : Option Addr} {sl10 : Array (Option Value)} {oc10 kV10 dc10 pm10 cd10 ct10 : Value}
    {od11 an11 : Option Addr} {sl11 : Array (Option Value)} {oc11 kV11 dc11 pm11 cd11 ct11 : Value}
    {od12 an12 : Option Addr} {sl12 : Array (Option Value)} {oc12 kV12 dc12 pm12 cd12 ct12 : Value}
    {od13 an13 : Option Addr} {sl13 : Array (Option Value)} {oc13 kV13 dc13 pm13 cd13 ct13 : Value}
    {od14 an14 : Option Addr} {sl14 : Array (Option Value)} {oc14 kV14 dc14 pm14 cd14 ct14 : Value}
    {od15 an15 : Option Addr} {sl15 : Array (Option Value)} {oc15 kV15 dc15 pm15 cd15 ct15 : Value}
    {od16 an16 : Option Addr} {sl16 : Array (Option Value)} {oc16 kV16 dc16 pm16 cd16 ct16 : Value}
    {od17 an17 : Option Addr} {sl17 : Array (Option Value)} {oc17 kV17 dc17 pm17 cd17 ct17 : Value}
    {od18 an18 : Option Addr} {sl18 : Array (Option Value)} {oc18 kV18 dc18 pm18 cd18 ct18 : Value}
    {od19 an19 : Option Addr} {sl19 : Array (Option Value)} {oc19 kV19 dc19 pm19 cd19 ct19 : Value}
    {od20 an20 : Option Addr} {sl20 : Array (Option Value)} {oc20 kV20 dc20 pm20 cd20 ct20 : Value}
    {od21 an21 : Option Addr} {sl21 : Array (Option Value)} {oc21 kV21 dc21 pm21 cd21 ct21 : Value}
    {od22 an22 : Option Addr} {sl22 : Array (Option Value)} {oc22 kV22 dc22 pm22 cd22 ct22 : Value}
    {od23 an23 : Option Addr} {sl23 : Array (Option Value)} {oc23 kV23 dc23 pm23 cd23 ct23 : Value}
    {od24 an24 : Option Addr} {sl24 : Array (Option Value)} {oc24 kV24 dc24 pm24 cd24 ct24 : Value}
    {od25 an25 : Option Addr} {sl25 : Array (Option Value)} {oc25 kV25 dc25 pm25 cd25 ct25 : Value}
    {od26 an26 : Option Addr} {sl26 : Array (Option Value)} {oc26 kV26 dc26 pm26 cd26 ct26 : Value}
    {od27 an27 : Option Addr} {sl27 : Array (Option Value)} {oc27 kV27 dc27 pm27 cd27 ct27 : Value}
    {od28 an28 : Option Addr} {sl28 : Array (Option Value)} {oc28 kV28 dc28 pm28 cd28 ct28 : Value}
    {od29 an29 : Option Addr} {sl29 : Array (Option Value)} {oc29 kV29 dc29 pm29 cd29 ct29 : Value}
    {od30 an30 : Option Addr} {sl30 : Array (Option Value)} {oc30 kV30 dc30 pm30 cd30 ct30 : Value}
    {od31 an31 : Option Addr} {sl31 : Array (Option Value)} {oc31 kV31 dc31 pm31 cd31 ct31 : Value}
    {od32 an32 : Option Addr} {sl32 : Array (Option Value)} {oc32 kV32 dc32 pm32 cd32 ct32 : Value}
    {od33 an33 : Option Addr} {sl33 : Array (Option Value)} {oc33 kV33 dc33 pm33 cd33 ct33 : Value}
    {od34 an34 : Option Addr} {sl34 : Array (Option Value)} {oc34 kV34 dc34 pm34 cd34 ct34 : Value}
    {od35 an35 : Option Addr} {sl35 : Array (Option Value)} {oc35 kV35 dc35 pm35 cd35 ct35 : Value}
    {od36 an36 : Option Addr} {sl36 : Array (Option Value)} {oc36 kV36 dc36 pm36 cd36 ct36 : Value}
    {od37 an37 : Option Addr} {sl37 : Array (Option Value)} {oc37 kV37 dc37 pm37 cd37 ct37 : Value}
    {od38 an38 : Option Addr} {sl38 : Array (Option Value)} {oc38 kV38 dc38 pm38 cd38 ct38 : Value}
    {od39 an39 : Option Addr} {sl39 : Array (Option Value)} {oc39 kV39 dc39 pm39 cd39 ct39 : Value}
    {od40 an40 : Option Addr} {sl40 : Array (Option Value)} {oc40 kV40 dc40 pm40 cd40 ct40 : Value}
    {od41 an41 : Option Addr} {sl41 : Array (Option Value)} {oc41 kV41 dc41 pm41 cd41 ct41 : Value}
    {od42 an42 : Option Addr} {sl42 : Array (Option Value)} {oc42 kV42 dc42 pm42 cd42 ct42 : Value}
    {od43 an43 : Option Addr} {sl43 : Array (Option Value)} {oc43 kV43 dc43 pm43 cd43 ct43 : Value}
    {od44 an44 : Option Addr} {sl44 : Array (Option Value)} {oc44 kV44 dc44 pm44 cd44 ct44 : Value}
    {od45 an45 : Option Addr} {sl45 : Array (Option Value)} {oc45 kV45 dc45 pm45 cd45 ct45 : Value}
    {od46 an46 : Option Addr} {sl46 : Array (Option Value)} {oc46 kV46 dc46 pm46 cd46 ct46 : Value}
    {od47 an47 : Option Addr} {sl47 : Array (Option Value)} {oc47 kV47 dc47 pm47 cd47 ct47 : Value}
    {od48 an48 : Option Addr} {sl48 : Array (Option Value)} {oc48 kV48 dc48 pm48 cd48 ct48 : Value}
    {od49 an49 : Option Addr} {sl49 : Array (Option Value)} {oc49 kV49 dc49 pm49 cd49 ct49 : Value}
    {od50 an50 : Option Addr} {sl50 : Array (Option Value)} {oc50 kV50 dc50 pm50 cd50 ct50 : Value}
    {od51 an51 : Option Addr} {sl51 : Array (Option Value)} {oc51 kV51 dc51 pm51 cd51 ct51 : Value}
    {od52 an52 : Option Addr} {sl52 : Array (Option Value)} {oc52 kV52 dc52 pm52 cd52 ct52 : Value}
    {od53 an53 : Option Addr} {sl53 : Array (Option Value)} {oc53 kV53 dc53 pm53 cd53 ct53 : Value}
    {od54 an54 : Option Addr} {sl54 : Array (Option Value)} {oc54 kV54 dc54 pm54 cd54 ct54 : Value}
    {od55 an55 : Option Addr} {sl55 : Array (Option Value)} {oc55 kV55 dc55 pm55 cd55 ct55 : Value}
    {od56 an56 : Option Addr} {sl56 : Array (Option Value)} {oc56 kV56 dc56 pm56 cd56 ct56 : Value}
    {od57 an57 : Option Addr} {sl57 : Array (Option Value)} {oc57 kV57 dc57 pm57 cd57 ct57 : Value}
    {od58 an58 : Option Addr} {sl58 : Array (Option Value)} {oc58 kV58 dc58 pm58 cd58 ct58 : Value}
    {od59 an59 : Option Addr} {sl59 : Array (Option Value)} {oc59 kV59 dc59 pm59 cd59 ct59 : Value}
    {od60 an60 : Option Addr} {sl60 : Array (Option Value)} {oc60 kV60 dc60 pm60 cd60 ct60 : Value}
    {od61 an61 : Option Addr} {sl61 : Array (Option Value)} {oc61 kV61 dc61 pm61 cd61 ct61 : Value}
    {od62 an62 : Option Addr} {sl62 : Array (Option Value)} {oc62 kV62 dc62 pm62 cd62 ct62 : Value}
    {od63 an63 : Option Addr} {sl63 : Array (Option Value)} {oc63 kV63 dc63 pm63 cd63 ct63 : Value}
    {od64 an64 : Option Addr} {sl64 : Array (Option Value)} {oc64 kV64 dc64 pm64 cd64 ct64 : Value}
    {od65 an65 : Option Addr} {sl65 : Array (Option Value)} {oc65 kV65 dc65 pm65 cd65 ct65 : Value}
    {od66 an66 : Option Addr} {sl66 : Array (Option Value)} {oc66 kV66 dc66 pm66 cd66 ct66 : Value}
    (g_F : PySem.W.nsIn K mainGlobals "Frame" = some (some (.ref CF)))
    (g_I : PySem.W.nsIn K mainGlobals "Listener" = some (some (.ref CI)))
    (g_W : PySem.W.nsIn K mainGlobals "Waiting" = some (some (.ref CW)))
    (g_E : PySem.W.nsIn K mainGlobals "End" = some (some (.ref CE)))
    (g_X : PySem.W.nsIn K mainGlobals "Refused" = some (some (.ref CX)))
    (c_READY : PySem.W.nsIn K mainGlobals "READY" = some (some (.int (1) k_READY)))
    (c_BUSY : PySem.W.nsIn K mainGlobals "BUSY" = some (some (.int (5) k_BUSY)))
    (c_AGAIN : PySem.W.nsIn K mainGlobals "AGAIN" = some (some (.int (9) k_AGAIN)))
    (c_HELLO : PySem.W.nsIn K mainGlobals "HELLO" = some (some (.int (47) k_HELLO)))
    (c_FINISH : PySem.W.nsIn K mainGlobals "FINISH" = some (some (.int (67) k_FINISH)))
    (c_YES : PySem.W.nsIn K mainGlobals "YES" = some (some (.int (99) k_YES)))
    (c_DOWN_ANSWER : PySem.W.nsIn K mainGlobals "DOWN_ANSWER" = some (some (.int (15) k_DOWN_ANSWER)))
    (c_WRONG : PySem.W.nsIn K mainGlobals "WRONG" = some (some (.int (135) k_WRONG)))
    (c_NUMBERED : PySem.W.nsIn K mainGlobals "NUMBERED" = some (some (.int (0) k_NUMBERED)))
    (c_UNKNOWN : PySem.W.nsIn K mainGlobals "UNKNOWN" = some (some (.int (-1) k_UNKNOWN)))
    (c_BIT : PySem.W.nsIn K mainGlobals "BIT" = some (some (.int (16) k_BIT)))
    (c_NUMBERS : PySem.W.nsIn K mainGlobals "NUMBERS" = some (some (.int (8) k_NUMBERS)))
    (c_WRONG_BYTES : PySem.W.nsIn K mainGlobals "WRONG_BYTES" = some (some (.int (3) k_WRONG_BYTES)))
    (c_MOST_LOAD : PySem.W.nsIn K mainGlobals "MOST_LOAD" = some (some (.int (1024) k_MOST_LOAD)))
    (c_GOOD : PySem.W.nsIn K mainGlobals "GOOD" = some (some (.int (0) k_GOOD)))
    (c_NOT_KNOWN : PySem.W.nsIn K mainGlobals "NOT_KNOWN" = some (some (.int (1) k_NOT_KNOWN)))
    (c_BYTES : PySem.W.nsIn K mainGlobals "BYTES" = some (some (.int (3) k_BYTES)))
    (c_TOO_MANY : PySem.W.nsIn K mainGlobals "TOO_MANY" = some (some (.int (4) k_TOO_MANY)))
    (c_CANNOT_BE : PySem.W.nsIn K mainGlobals "CANNOT_BE" = some (some (.int (8) k_CANNOT_BE)))
    (c_FLAG_KEPT : PySem.W.nsIn K mainGlobals "FLAG_KEPT" = some (some (.int (7) k_FLAG_KEPT)))
    (c_LEAST_BYTES : PySem.W.nsIn K mainGlobals "LEAST_BYTES" = some (some (.int (4) k_LEAST_BYTES)))
    (c_MOST_BYTES : PySem.W.nsIn K mainGlobals "MOST_BYTES" = some (some (.int (1028) k_MOST_BYTES)))
    (c_MOST_KEPT : PySem.W.nsIn K mainGlobals "MOST_KEPT" = some (some (.int (8231) k_MOST_KEPT)))
    (c_MOST_WAITING : PySem.W.nsIn K mainGlobals "MOST_WAITING" = some (some (.int (1048576) k_MOST_WAITING)))
    (c_SUM_BEGIN : PySem.W.nsIn K mainGlobals "SUM_BEGIN" = some (some (.int (65535) k_SUM_BEGIN)))
    (c_SUM_PARTS : PySem.W.nsIn K mainGlobals "SUM_PARTS" = some (some (.int (33800) k_SUM_PARTS)))
    (c_DOWN : PySem.W.nsIn K mainGlobals "DOWN" = some (some (.int (0) k_DOWN)))
    (c_GREETING : PySem.W.nsIn K mainGlobals "GREETING" = some (some (.int (1) k_GREETING)))
    (c_UP : PySem.W.nsIn K mainGlobals "UP" = some (some (.int (2) k_UP)))
    (c_ENDING : PySem.W.nsIn K mainGlobals "ENDING" = some (some (.int (3) k_ENDING)))
    (c_STUCK : PySem.W.nsIn K mainGlobals "STUCK" = some (some (.int (4) k_STUCK)))
    (c_MOST_MESSAGES : PySem.W.nsIn K mainGlobals "MOST_MESSAGES" = some (some (.int (64) k_MOST_MESSAGES)))
    (c_WHOLE_TIME : PySem.W.nsIn K mainGlobals "WHOLE_TIME" = some (some (.int (4294967296) k_WHOLE_TIME)))
    (c_MANY_ENDS : PySem.W.nsIn K mainGlobals "MANY_ENDS" = some (some (.int (2) k_MANY_ENDS)))
    (c_SEND : PySem.W.nsIn K mainGlobals "SEND" = some (some (.int (3) k_SEND)))
    (c_BITS : PySem.W.nsIn K mainGlobals "BITS" = some (some (.int (4) k_BITS)))
    (c_MOST_BITS : PySem.W.nsIn K mainGlobals "MOST_BITS" = some (some (.int (524280) k_MOST_BITS)))
    (c_MOST_OUT : PySem.W.nsIn K mainGlobals "MOST_OUT" = some (some (.int (65536) k_MOST_OUT)))
    (c_MOST_MESSAGE : PySem.W.nsIn K mainGlobals "MOST_MESSAGE" = some (some (.int (1024) k_MOST_MESSAGE)))
    (c_MOST_WINDOW : PySem.W.nsIn K mainGlobals "MOST_WINDOW" = some (some (.int (7) k_MOST_WINDOW)))
    (c_MOST_TRIES : PySem.W.nsIn K mainGlobals "MOST_TRIES" = some (some (.int (100) k_MOST_TRIES)))
    (c_PLAIN : PySem.W.nsIn K mainGlobals "PLAIN" = some (some (.ref tPLAIN)))
    (l_PLAIN : K.lookup tPLAIN = some ⟨.type "tuple", qd_PLAIN, .seq #[.int (47) q0_PLAIN, .int (67) q1_PLAIN, .int (99) q2_PLAIN, .int (15) q3_PLAIN, .int (135) q4_PLAIN] qn_PLAIN, qs_PLAIN⟩)
    (c_STATES : PySem.W.nsIn K mainGlobals "STATES" = some (some (.ref tSTATES)))
    (l_STATES : K.lookup tSTATES = some ⟨.type "tuple", qd_STATES, .seq #[.int (1) q0_STATES, .int (5) q1_STATES, .int (9) q2_STATES] qn_STATES, qs_STATES⟩)
    (c_COMMANDS : PySem.W.nsIn K mainGlobals "COMMANDS" = some (some (.ref tCOMMANDS)))
    (l_COMMANDS : K.lookup tCOMMANDS = some ⟨.type "tuple", qd_COMMANDS, .seq #[.int (0) q0_COMMANDS, .int (1) q1_COMMANDS, .int (5) q2_COMMANDS, .int (9) q3_COMMANDS, .int (47) q4_COMMANDS, .int (67) q5_COMMANDS] qn_COMMANDS, qs_COMMANDS⟩)
    (c_ANSWERS : PySem.W.nsIn K mainGlobals "ANSWERS" = some (some (.ref tANSWERS)))
    (l_ANSWERS : K.lookup tANSWERS = some ⟨.type "tuple", qd_ANSWERS, .seq #[.int (1) q0_ANSWERS, .int (5) q1_ANSWERS, .int (9) q2_ANSWERS, .int (99) q3_ANSWERS, .int (15) q4_ANSWERS, .int (135) q5_ANSWERS] qn_ANSWERS, qs_ANSWERS⟩)
    (c_FLAG : PySem.W.nsIn K mainGlobals "FLAG" = some (some (.ref tFLAG)))
    (l_FLAG : K.lookup tFLAG = some ⟨.type "tuple", qd_FLAG, .seq #[.int (0) q0_FLAG, .int (1) q1_FLAG, .int (1) q2_FLAG, .int (1) q3_FLAG, .int (1) q4_FLAG, .int (1) q5_FLAG, .int (1) q6_FLAG, .int (0) q7_FLAG] qn_FLAG, qs_FLAG⟩)
    (c_MANY_NUMBERS : PySem.W.nsIn K mainGlobals "MANY_NUMBERS" = some (some (.ref tMANY_NUMBERS)))
    (l_MANY_NUMBERS : K.lookup tMANY_NUMBERS = some ⟨.type "tuple", qd_MANY_NUMBERS, .seq #[.int (5) q0_MANY_NUMBERS, .int (2) q1_MANY_NUMBERS, .int (2) q2_MANY_NUMBERS, .int (2) q3_MANY_NUMBERS, .int (3) q4_MANY_NUMBERS, .int (2) q5_MANY_NUMBERS, .int (2) q6_MANY_NUMBERS, .int (2) q7_MANY_NUMBERS, .int (1) q8_MANY_NUMBERS] qn_MANY_NUMBERS, qs_MANY_NUMBERS⟩)
    (n_len : PySem.W.nsIn K mainGlobals "len" = some none)
    (n_max : PySem.W.nsIn K mainGlobals "max" = some none)
    (n_list : PySem.W.nsIn K mainGlobals "list" = some none)
    (n_range : PySem.W.nsIn K mainGlobals "range" = some none)
    (n_reversed : PySem.W.nsIn K mainGlobals "reversed" = some none)
    (pg_F : PySem.W.plainGet K CF Str.empty = true)
    (hd_F : PySem.W.hasDictIn K CF = true)
    (po_F : PySem.W.plainOver K CF = true)
    (sa_F : PySem.W.findIn K (.ref CF) "__setattr__" = some (some (.builtin "object.__setattr__")))
    (mk_F : PySem.W.makesIn K CF = true)
    (kc_F : PySem.W.keepIn K (.ref CF) = true)
    (na_F_is_command : PySem.W.findIn K (.ref CF) "is_command" = some none)
    (na_F_control : PySem.W.findIn K (.ref CF) "control" = some none)
    (na_F_load : PySem.W.findIn K (.ref CF) "load" = some none)
    (pg_I : PySem.W.plainGet K CI Str.empty = true)
    (hd_I : PySem.W.hasDictIn K CI = true)
    (po_I : PySem.W.plainOver K CI = true)
    (sa_I : PySem.W.findIn K (.ref CI) "__setattr__" = some (some (.builtin "object.__setattr__")))
    (mk_I : PySem.W.makesIn K CI = true)
    (kc_I : PySem.W.keepIn K (.ref CI) = true)
    (na_I_lost : PySem.W.findIn K (.ref CI) "lost" = some none)
    (na_I_kept : PySem.W.findIn K (.ref CI) "kept" = some none)
    (na_I_ones : PySem.W.findIn K (.ref CI) "ones" = some none)
    (pg_W : PySem.W.plainGet K CW Str.empty = true)
    (hd_W : PySem.W.hasDictIn K CW = true)
    (po_W : PySem.W.plainOver K CW = true)
    (sa_W : PySem.W.findIn K (.ref CW) "__setattr__" = some (some (.builtin "object.__setattr__")))
    (mk_W : PySem.W.makesIn K CW = true)
    (kc_W : PySem.W.keepIn K (.ref CW) = true)
    (na_W_bits : PySem.W.findIn K (.ref CW) "bits" = some none)
    (pg_E : PySem.W.plainGet K CE Str.empty = true)
    (hd_E : PySem.W.hasDictIn K CE = true)
    (po_E : PySem.W.plainOver K CE = true)
    (sa_E : PySem.W.findIn K (.ref CE) "__setattr__" = some (some (.builtin "object.__setattr__")))
    (mk_E : PySem.W.makesIn K CE = true)
    (kc_E : PySem.W.keepIn K (.ref CE) = true)
    (na_E_commands_out : PySem.W.findIn K (.ref CE) "commands_out" = some none)
    (na_E_answers_out : PySem.W.findIn K (.ref CE) "answers_out" = some none)
    (na_E_window : PySem.W.findIn K (.ref CE) "window" = some none)
    (na_E_patience : PySem.W.findIn K (.ref CE) "patience" = some none)
    (na_E_tries : PySem.W.findIn K (.ref CE) "tries" = some none)
    (na_E_stage : PySem.W.findIn K (.ref CE) "stage" = some none)
    (na_E_sent : PySem.W.findIn K (.ref CE) "sent" = some none)
    (na_E_unsent : PySem.W.findIn K (.ref CE) "unsent" = some none)
    (na_E_come : PySem.W.findIn K (.ref CE) "come" = some none)
    (na_E_wrong : PySem.W.findIn K (.ref CE) "wrong" = some none)
    (na_E_listener : PySem.W.findIn K (.ref CE) "listener" = some none)
    (na_E_waiting : PySem.W.findIn K (.ref CE) "waiting" = some none)
    (na_E_now : PySem.W.findIn K (.ref CE) "now" = some none)
    (na_E_s : PySem.W.findIn K (.ref CE) "s" = some none)
    (na_E_a : PySem.W.findIn K (.ref CE) "a" = some none)
    (na_E_r : PySem.W.findIn K (.ref CE) "r" = some none)
    (na_E_other_busy : PySem.W.findIn K (.ref CE) "other_busy" = some none)
    (na_E_asked_again : PySem.W.findIn K (.ref CE) "asked_again" = some none)
    (na_E_polls : PySem.W.findIn K (.ref CE) "polls" = some none)
    (na_E_since : PySem.W.findIn K (.ref CE) "since" = some none)
    (na_E_out : PySem.W.findIn K (.ref CE) "out" = some none)
    (xL : K.lookup CX = some (excClassObj nm qq CX NN bs [.type "ValueError", .type "Exception", .type "BaseException", .type "object"] true sn sub ab col dd m0 m1 m2 m3 m5 "ValueError.__new__"))
    (sa_X : PySem.W.findIn K (.ref CX) "__setattr__" = some (some (.builtin "object.__setattr__")))
    (ga_X : PySem.W.findIn K (.ref CX) "__getattribute__" = some (some (.builtin "BaseException.__getattribute__")))
    (gg_X : PySem.W.findIn K (.ref CX) "__getattr__" = some none)
    (nb_X : PySem.W.findIn K (.ref CX) "number" = some none)
    (kC_X : PySem.W.keepIn K (.ref CX) = true)
    (eC_X : PySem.W.subIn K (.ref CX) (.type "BaseException") = some true)
    (tC_X : PySem.W.typeIn K (.ref CX) = some (.type "type"))
    (hC_X : PySem.W.hasDictIn K CX = true)
    (iC_X : PySem.W.isClsIn K CX = true)
    (sC_X : PySem.W.subIn K (.ref CX) (.ref CX) = some true)
    (a0 : PySem.W.findIn K (.ref CF) "__init__" = some (some (.ref f_F_init)))
    (i0 : PySem.W.isFn K (.ref f_F_init) = true)
    (l0 : K.lookup f_F_init = some ⟨oc0, od0, .func (PySem.W.fnOf "__init__" "Frame.__init__" (defArgs s_F_init) (defBody s_F_init) (defScope s_F_init) .none kV0 dc0 pm0 an0 cd0 ct0), sl0⟩)
    (d0 : PySem.W.codeIn K cd0 "Frame.__init__" = true)
    (e0 : PySem.W.keepIn K (.ref f_F_init) = true)
    (a1 : PySem.W.findIn K (.ref CF) "kind" = some (some (.ref f_F_kind)))
    (i1 : PySem.W.isFn K (.ref f_F_kind) = true)
    (l1 : K.lookup f_F_kind = some ⟨oc1, od1, .func (PySem.W.fnOf "kind" "Frame.kind" (defArgs s_F_kind) (defBody s_F_kind) (defScope s_F_kind) .none kV1 dc1 pm1 an1 cd1 ct1), sl1⟩)
    (d1 : PySem.W.codeIn K cd1 "Frame.kind" = true)
    (e1 : PySem.W.keepIn K (.ref f_F_kind) = true)
    (a2 : PySem.W.findIn K (.ref CF) "bit" = some (some (.ref f_F_bit)))
    (i2 : PySem.W.isFn K (.ref f_F_bit) = true)
    (l2 : K.lookup f_F_bit = some ⟨oc2, od2, .func (PySem.W.fnOf "bit" "Frame.bit" (defArgs s_F_bit) (defBody s_F_bit) (defScope s_F_bit) .none kV2 dc2 pm2 an2 cd2 ct2), sl2⟩)
    (d2 : PySem.W.codeIn K cd2 "Frame.bit" = true)
    (e2 : PySem.W.keepIn K (.ref f_F_bit) = true)
    (a3 : PySem.W.findIn K (.ref CF) "own_number" = some (some (.ref f_F_own_number)))
    (i3 : PySem.W.isFn K (.ref f_F_own_number) = true)
    (l3 : K.lookup f_F_own_number = some ⟨oc3, od3, .func (PySem.W.fnOf "own_number" "Frame.own_number" (defArgs s_F_own_number) (defBody s_F_own_number) (defScope s_F_own_number) .none kV3 dc3 pm3 an3 cd3 ct3), sl3⟩)
    (d3 : PySem.W.codeIn K cd3 "Frame.own_number" = true)
    (e3 : PySem.W.keepIn K (.ref f_F_own_number) = true)
    (a4 : PySem.W.findIn K (.ref CF) "awaited" = some (some (.ref f_F_awaited)))
    (i4 : PySem.W.isFn K (.ref f_F_awaited) = true)
    (l4 : K.lookup f_F_awaited = some ⟨oc4, od4, .func (PySem.W.fnOf "awaited" "Frame.awaited" (defArgs s_F_awaited) (defBody s_F_awaited) (defScope s_F_awaited) .none kV4 dc4 pm4 an4 cd4 ct4), sl4⟩)
    (d4 : PySem.W.codeIn K cd4 "Frame.awaited" = true)
    (e4 : PySem.W.keepIn K (.ref f_F_awaited) = true)
    (a5 : PySem.W.findIn K (.ref CF) "fault" = some (some (.ref f_F_fault)))
    (i5 : PySem.W.isFn K (.ref f_F_fault) = true)
    (l5 : K.lookup f_F_fault = some ⟨oc5, od5, .func (PySem.W.fnOf "fault" "Frame.fault" (defArgs s_F_fault) (defBody s_F_fault) (defScope s_F_fault) .none kV5 dc5 pm5 an5 cd5 ct5), sl5⟩)
    (d5 : PySem.W.codeIn K cd5 "Frame.fault" = true)
    (e5 : PySem.W.keepIn K (.ref f_F_fault) = true)
    (a6 : PySem.W.nsIn K mainGlobals "numbered_control" = some (some (.ref f_d_numbered_control)))
    (l6 : K.lookup f_d_numbered_control = some ⟨oc6, od6, .func (PySem.W.fnOf "numbered_control" "numbered_control" (defArgs s_d_numbered_control) (defBody s_d_numbered_control) (defScope s_d_numbered_control) .none kV6 dc6 pm6 an6 cd6 ct6), sl6⟩)
    (d6 : PySem.W.codeIn K cd6 "numbered_control" = true)
    (e6 : PySem.W.keepIn K (.ref f_d_numbered_control) = true)
    (a7 : PySem.W.nsIn K mainGlobals "state_control" = some (some (.ref f_d_state_control)))
    (l7 : K.lookup f_d_state_control = some ⟨oc7, od7, .func (PySem.W.fnOf "state_control" "state_control" (defArgs s_d_state_control) (defBody s_d_state_control) (defScope s_d_state_control) .none kV7 dc7 pm7 an7 cd7 ct7), sl7⟩)
    (d7 : PySem.W.codeIn K cd7 "state_control" = true)
    (e7 : PySem.W.keepIn K (.ref f_d_state_control) = true)
    (a8 : PySem.W.nsIn K mainGlobals "bits_of" = some (some (.ref f_d_bits_of)))
    (l8 : K.lookup f_d_bits_of = some ⟨oc8, od8, .func (PySem.W.fnOf "bits_of" "bits_of" (defArgs s_d_bits_of) (defBody s_d_bits_of) (defScope s_d_bits_of) .none kV8 dc8 pm8 an8 cd8 ct8), sl8⟩)
    (d8 : PySem.W.codeIn K cd8 "bits_of" = true)
    (e8 : PySem.W.keepIn K (.ref f_d_bits_of) = true)
    (a9 : PySem.W.nsIn K mainGlobals "bytes_of" = some (some (.ref f_d_bytes_of)))
    (l9 : K.lookup f_d_bytes_of = some ⟨oc9, od9, .func (PySem.W.fnOf "bytes_of" "bytes_of" (defArgs s_d_bytes_of) (defBody s_d_bytes_of) (defScope s_d_bytes_of) .none kV9 dc9 pm9 an9 cd9 ct9), sl9⟩)
    (d9 : PySem.W.codeIn K cd9 "bytes_of" = true)
    (e9 : PySem.W.keepIn K (.ref f_d_bytes_of) = true)
    (a10 : PySem.W.nsIn K mainGlobals "sum_of" = some (some (.ref f_d_sum_of)))
    (l10 : K.lookup f_d_sum_of = some ⟨oc10, od10, .func (PySem.W.fnOf "sum_of" "sum_of" (defArgs s_d_sum_of) (defBody s_d_sum_of) (defScope s_d_sum_of) .none kV10 dc10 pm10 an10 cd10 ct10), sl10⟩)
    (d10 : PySem.W.codeIn K cd10 "sum_of" = true)
    (e10 : PySem.W.keepIn K (.ref f_d_sum_of) = true)
    (a11 : PySem.W.nsIn K mainGlobals "with_noughts" = some (some (.ref f_d_with_noughts)))
    (l11 : K.lookup f_d_with_noughts = some ⟨oc11, od11, .func (PySem.W.fnOf "with_noughts" "with_noughts" (defArgs s_d_with_noughts) (defBody s_d_with_noughts) (defScope s_d_with_noughts) .none kV11 dc11 pm11 an11 cd11 ct11), sl11⟩)
    (d11 : PySem.W.codeIn K cd11 "with_noughts" = true)
    (e11 : PySem.W.keepIn K (.ref f_d_with_noughts) = true)
    (a12 : PySem.W.nsIn K mainGlobals "frame_bits" = some (some (.ref f_d_frame_bits)))
    (l12 : K.lookup f_d_frame_bits = some ⟨oc12, od12, .func (PySem.W.fnOf "frame_bits" "frame_bits" (defArgs s_d_frame_bits) (defBody s_d_frame_bits) (defScope s_d_frame_bits) .none kV12 dc12 pm12 an12 cd12 ct12), sl12⟩)
    (d12 : PySem.W.codeIn K cd12 "frame_bits" = true)
    (e12 : PySem.W.keepIn K (.ref f_d_frame_bits) = true)
    (a13 : PySem.W.findIn K (.ref CI) "__init__" = some (some (.ref f_I_init)))
    (i13 : PySem.W.isFn K (.ref f_I_init) = true)
    (l13 : K.lookup f_I_init = some ⟨oc13, od13, .func (PySem.W.fnOf "__init__" "Listener.__init__" (defArgs s_I_init) (defBody s_I_init) (defScope s_I_init) .none kV13 dc13 pm13 an13 cd13 ct13), sl13⟩)
    (d13 : PySem.W.codeIn K cd13 "Listener.__init__" = true)
    (e13 : PySem.W.keepIn K (.ref f_I_init) = true)
    (a14 : PySem.W.findIn K (.ref CI) "lose" = some (some (.ref f_I_lose)))
    (i14 : PySem.W.isFn K (.ref f_I_lose) = true)
    (l14 : K.lookup f_I_lose = some ⟨oc14, od14, .func (PySem.W.fnOf "lose" "Listener.lose" (defArgs s_I_lose) (defBody s_I_lose) (defScope s_I_lose) .none kV14 dc14 pm14 an14 cd14 ct14), sl14⟩)
    (d14 : PySem.W.codeIn K cd14 "Listener.lose" = true)
    (e14 : PySem.W.keepIn K (.ref f_I_lose) = true)
    (a15 : PySem.W.findIn K (.ref CI) "keep" = some (some (.ref f_I_keep)))
    (i15 : PySem.W.isFn K (.ref f_I_keep) = true)
    (l15 : K.lookup f_I_keep = some ⟨oc15, od15, .func (PySem.W.fnOf "keep" "Listener.keep" (defArgs s_I_keep) (defBody s_I_keep) (defScope s_I_keep) .none kV15 dc15 pm15 an15 cd15 ct15), sl15⟩)
    (d15 : PySem.W.codeIn K cd15 "Listener.keep" = true)
    (e15 : PySem.W.keepIn K (.ref f_I_keep) = true)
    (a16 : PySem.W.findIn K (.ref CI) "whole" = some (some (.ref f_I_whole)))
    (i16 : PySem.W.isFn K (.ref f_I_whole) = true)
    (l16 : K.lookup f_I_whole = some ⟨oc16, od16, .func (PySem.W.fnOf "whole" "Listener.whole" (defArgs s_I_whole) (defBody s_I_whole) (defScope s_I_whole) .none kV16 dc16 pm16 an16 cd16 ct16), sl16⟩)
    (d16 : PySem.W.codeIn K cd16 "Listener.whole" = true)
    (e16 : PySem.W.keepIn K (.ref f_I_whole) = true)
    (a17 : PySem.W.findIn K (.ref CI) "take" = some (some (.ref f_I_take)))
    (i17 : PySem.W.isFn K (.ref f_I_take) = true)
    (l17 : K.lookup f_I_take = some ⟨oc17, od17, .func (PySem.W.fnOf "take" "Listener.take" (defArgs s_I_take) (defBody s_I_take) (defScope s_I_take) .none kV17 dc17 pm17 an17 cd17 ct17), sl17⟩)
    (d17 : PySem.W.codeIn K cd17 "Listener.take" = true)
    (e17 : PySem.W.keepIn K (.ref f_I_take) = true)
    (a18 : PySem.W.findIn K (.ref CW) "__init__" = some (some (.ref f_W_init)))
    (i18 : PySem.W.isFn K (.ref f_W_init) = true)
    (l18 : K.lookup f_W_init = some ⟨oc18, od18, .func (PySem.W.fnOf "__init__" "Waiting.__init__" (defArgs s_W_init) (defBody s_W_init) (defScope s_W_init) .none kV18 dc18 pm18 an18 cd18 ct18), sl18⟩)
    (d18 : PySem.W.codeIn K cd18 "Waiting.__init__" = true)
    (e18 : PySem.W.keepIn K (.ref f_W_init) = true)
    (a19 : PySem.W.findIn K (.ref CW) "put" = some (some (.ref f_W_put)))
    (i19 : PySem.W.isFn K (.ref f_W_put) = true)
    (l19 : K.lookup f_W_put = some ⟨oc19, od19, .func (PySem.W.fnOf "put" "Waiting.put" (defArgs s_W_put) (defBody s_W_put) (defScope s_W_put) .none kV19 dc19 pm19 an19 cd19 ct19), sl19⟩)
    (d19 : PySem.W.codeIn K cd19 "Waiting.put" = true)
    (e19 : PySem.W.keepIn K (.ref f_W_put) = true)
    (a20 : PySem.W.findIn K (.ref CW) "take" = some (some (.ref f_W_take)))
    (i20 : PySem.W.isFn K (.ref f_W_take) = true)
    (l20 : K.lookup f_W_take = some ⟨oc20, od20, .func (PySem.W.fnOf "take" "Waiting.take" (defArgs s_W_take) (defBody s_W_take) (defScope s_W_take) .none kV20 dc20 pm20 an20 cd20 ct20), sl20⟩)
    (d20 : PySem.W.codeIn K cd20 "Waiting.take" = true)
    (e20 : PySem.W.keepIn K (.ref f_W_take) = true)
    (a21 : PySem.W.findIn K (.ref CE) "__init__" = some (some (.ref f_E_init)))
    (i21 : PySem.W.isFn K (.ref f_E_init) = true)
    (l21 : K.lookup f_E_init = some ⟨oc21, od21, .func (PySem.W.fnOf "__init__" "End.__init__" (defArgs s_E_init) (defBody s_E_init) (defScope s_E_init) .none kV21 dc21 pm21 an21 cd21 ct21), sl21⟩)
    (d21 : PySem.W.codeIn K cd21 "End.__init__" = true)
    (e21 : PySem.W.keepIn K (.ref f_E_init) = true)
    (a22 : PySem.W.findIn K (.ref CE) "afresh" = some (some (.ref f_E_afresh)))
    (i22 : PySem.W.isFn K (.ref f_E_afresh) = true)
    (l22 : K.lookup f_E_afresh = some ⟨oc22, od22, .func (PySem.W.fnOf "afresh" "End.afresh" (defArgs s_E_afresh) (defBody s_E_afresh) (defScope s_E_afresh) .none kV22 dc22 pm22 an22 cd22 ct22), sl22⟩)
    (d22 : PySem.W.codeIn K cd22 "End.afresh" = true)
    (e22 : PySem.W.keepIn K (.ref f_E_afresh) = true)
    (a23 : PySem.W.findIn K (.ref CE) "command" = some (some (.ref f_E_command)))
    (i23 : PySem.W.isFn K (.ref f_E_command) = true)
    (l23 : K.lookup f_E_command = some ⟨oc23, od23, .func (PySem.W.fnOf "command" "End.command" (defArgs s_E_command) (defBody s_E_command) (defScope s_E_command) .none kV23 dc23 pm23 an23 cd23 ct23), sl23⟩)
    (d23 : PySem.W.codeIn K cd23 "End.command" = true)
    (e23 : PySem.W.keepIn K (.ref f_E_command) = true)
    (a24 : PySem.W.findIn K (.ref CE) "answer" = some (some (.ref f_E_answer)))
    (i24 : PySem.W.isFn K (.ref f_E_answer) = true)
    (l24 : K.lookup f_E_answer = some ⟨oc24, od24, .func (PySem.W.fnOf "answer" "End.answer" (defArgs s_E_answer) (defBody s_E_answer) (defScope s_E_answer) .none kV24 dc24 pm24 an24 cd24 ct24), sl24⟩)
    (d24 : PySem.W.codeIn K cd24 "End.answer" = true)
    (e24 : PySem.W.keepIn K (.ref f_E_answer) = true)
    (a25 : PySem.W.findIn K (.ref CE) "run_clock" = some (some (.ref f_E_run_clock)))
    (i25 : PySem.W.isFn K (.ref f_E_run_clock) = true)
    (l25 : K.lookup f_E_run_clock = some ⟨oc25, od25, .func (PySem.W.fnOf "run_clock" "End.run_clock" (defArgs s_E_run_clock) (defBody s_E_run_clock) (defScope s_E_run_clock) .none kV25 dc25 pm25 an25 cd25 ct25), sl25⟩)
    (d25 : PySem.W.codeIn K cd25 "End.run_clock" = true)
    (e25 : PySem.W.keepIn K (.ref f_E_run_clock) = true)
    (a26 : PySem.W.findIn K (.ref CE) "greet" = some (some (.ref f_E_greet)))
    (i26 : PySem.W.isFn K (.ref f_E_greet) = true)
    (l26 : K.lookup f_E_greet = some ⟨oc26, od26, .func (PySem.W.fnOf "greet" "End.greet" (defArgs s_E_greet) (defBody s_E_greet) (defScope s_E_greet) .none kV26 dc26 pm26 an26 cd26 ct26), sl26⟩)
    (d26 : PySem.W.codeIn K cd26 "End.greet" = true)
    (e26 : PySem.W.keepIn K (.ref f_E_greet) = true)
    (a27 : PySem.W.findIn K (.ref CE) "finish" = some (some (.ref f_E_finish)))
    (i27 : PySem.W.isFn K (.ref f_E_finish) = true)
    (l27 : K.lookup f_E_finish = some ⟨oc27, od27, .func (PySem.W.fnOf "finish" "End.finish" (defArgs s_E_finish) (defBody s_E_finish) (defScope s_E_finish) .none kV27 dc27 pm27 an27 cd27 ct27), sl27⟩)
    (d27 : PySem.W.codeIn K cd27 "End.finish" = true)
    (e27 : PySem.W.keepIn K (.ref f_E_finish) = true)
    (a28 : PySem.W.findIn K (.ref CE) "go_up" = some (some (.ref f_E_go_up)))
    (i28 : PySem.W.isFn K (.ref f_E_go_up) = true)
    (l28 : K.lookup f_E_go_up = some ⟨oc28, od28, .func (PySem.W.fnOf "go_up" "End.go_up" (defArgs s_E_go_up) (defBody s_E_go_up) (defScope s_E_go_up) .none kV28 dc28 pm28 an28 cd28 ct28), sl28⟩)
    (d28 : PySem.W.codeIn K cd28 "End.go_up" = true)
    (e28 : PySem.W.keepIn K (.ref f_E_go_up) = true)
    (a29 : PySem.W.findIn K (.ref CE) "go_down" = some (some (.ref f_E_go_down)))
    (i29 : PySem.W.isFn K (.ref f_E_go_down) = true)
    (l29 : K.lookup f_E_go_down = some ⟨oc29, od29, .func (PySem.W.fnOf "go_down" "End.go_down" (defArgs s_E_go_down) (defBody s_E_go_down) (defScope s_E_go_down) .none kV29 dc29 pm29 an29 cd29 ct29), sl29⟩)
    (d29 : PySem.W.codeIn K cd29 "End.go_down" = true)
    (e29 : PySem.W.keepIn K (.ref f_E_go_down) = true)
    (a30 : PySem.W.findIn K (.ref CE) "own_state" = some (some (.ref f_E_own_state)))
    (i30 : PySem.W.isFn K (.ref f_E_own_state) = true)
    (l30 : K.lookup f_E_own_state = some ⟨oc30, od30, .func (PySem.W.fnOf "own_state" "End.own_state" (defArgs s_E_own_state) (defBody s_E_own_state) (defScope s_E_own_state) .none kV30 dc30 pm30 an30 cd30 ct30), sl30⟩)
    (d30 : PySem.W.codeIn K cd30 "End.own_state" = true)
    (e30 : PySem.W.keepIn K (.ref f_E_own_state) = true)
    (a31 : PySem.W.findIn K (.ref CE) "tell_state" = some (some (.ref f_E_tell_state)))
    (i31 : PySem.W.isFn K (.ref f_E_tell_state) = true)
    (l31 : K.lookup f_E_tell_state = some ⟨oc31, od31, .func (PySem.W.fnOf "tell_state" "End.tell_state" (defArgs s_E_tell_state) (defBody s_E_tell_state) (defScope s_E_tell_state) .none kV31 dc31 pm31 an31 cd31 ct31), sl31⟩)
    (d31 : PySem.W.codeIn K cd31 "End.tell_state" = true)
    (e31 : PySem.W.keepIn K (.ref f_E_tell_state) = true)
    (a32 : PySem.W.findIn K (.ref CE) "ask_again" = some (some (.ref f_E_ask_again)))
    (i32 : PySem.W.isFn K (.ref f_E_ask_again) = true)
    (l32 : K.lookup f_E_ask_again = some ⟨oc32, od32, .func (PySem.W.fnOf "ask_again" "End.ask_again" (defArgs s_E_ask_again) (defBody s_E_ask_again) (defScope s_E_ask_again) .none kV32 dc32 pm32 an32 cd32 ct32), sl32⟩)
    (d32 : PySem.W.codeIn K cd32 "End.ask_again" = true)
    (e32 : PySem.W.keepIn K (.ref f_E_ask_again) = true)
    (a33 : PySem.W.findIn K (.ref CE) "many_out" = some (some (.ref f_E_many_out)))
    (i33 : PySem.W.isFn K (.ref f_E_many_out) = true)
    (l33 : K.lookup f_E_many_out = some ⟨oc33, od33, .func (PySem.W.fnOf "many_out" "End.many_out" (defArgs s_E_many_out) (defBody s_E_many_out) (defScope s_E_many_out) .none kV33 dc33 pm33 an33 cd33 ct33), sl33⟩)
    (d33 : PySem.W.codeIn K cd33 "End.many_out" = true)
    (e33 : PySem.W.keepIn K (.ref f_E_many_out) = true)
    (a34 : PySem.W.findIn K (.ref CE) "may_go_out" = some (some (.ref f_E_may_go_out)))
    (i34 : PySem.W.isFn K (.ref f_E_may_go_out) = true)
    (l34 : K.lookup f_E_may_go_out = some ⟨oc34, od34, .func (PySem.W.fnOf "may_go_out" "End.may_go_out" (defArgs s_E_may_go_out) (defBody s_E_may_go_out) (defScope s_E_may_go_out) .none kV34 dc34 pm34 an34 cd34 ct34), sl34⟩)
    (d34 : PySem.W.codeIn K cd34 "End.may_go_out" = true)
    (e34 : PySem.W.keepIn K (.ref f_E_may_go_out) = true)
    (a35 : PySem.W.findIn K (.ref CE) "go_out" = some (some (.ref f_E_go_out)))
    (i35 : PySem.W.isFn K (.ref f_E_go_out) = true)
    (l35 : K.lookup f_E_go_out = some ⟨oc35, od35, .func (PySem.W.fnOf "go_out" "End.go_out" (defArgs s_E_go_out) (defBody s_E_go_out) (defScope s_E_go_out) .none kV35 dc35 pm35 an35 cd35 ct35), sl35⟩)
    (d35 : PySem.W.codeIn K cd35 "End.go_out" = true)
    (e35 : PySem.W.keepIn K (.ref f_E_go_out) = true)
    (a36 : PySem.W.findIn K (.ref CE) "can_be_answered" = some (some (.ref f_E_can_be_answered)))
    (i36 : PySem.W.isFn K (.ref f_E_can_be_answered) = true)
    (l36 : K.lookup f_E_can_be_answered = some ⟨oc36, od36, .func (PySem.W.fnOf "can_be_answered" "End.can_be_answered" (defArgs s_E_can_be_answered) (defBody s_E_can_be_answered) (defScope s_E_can_be_answered) .none kV36 dc36 pm36 an36 cd36 ct36), sl36⟩)
    (d36 : PySem.W.codeIn K cd36 "End.can_be_answered" = true)
    (e36 : PySem.W.keepIn K (.ref f_E_can_be_answered) = true)
    (a37 : PySem.W.findIn K (.ref CE) "answered_up_to" = some (some (.ref f_E_answered_up_to)))
    (i37 : PySem.W.isFn K (.ref f_E_answered_up_to) = true)
    (l37 : K.lookup f_E_answered_up_to = some ⟨oc37, od37, .func (PySem.W.fnOf "answered_up_to" "End.answered_up_to" (defArgs s_E_answered_up_to) (defBody s_E_answered_up_to) (defScope s_E_answered_up_to) .none kV37 dc37 pm37 an37 cd37 ct37), sl37⟩)
    (d37 : PySem.W.codeIn K cd37 "End.answered_up_to" = true)
    (e37 : PySem.W.keepIn K (.ref f_E_answered_up_to) = true)
    (a38 : PySem.W.findIn K (.ref CE) "say_wrong" = some (some (.ref f_E_say_wrong)))
    (i38 : PySem.W.isFn K (.ref f_E_say_wrong) = true)
    (l38 : K.lookup f_E_say_wrong = some ⟨oc38, od38, .func (PySem.W.fnOf "say_wrong" "End.say_wrong" (defArgs s_E_say_wrong) (defBody s_E_say_wrong) (defScope s_E_say_wrong) .none kV38 dc38 pm38 an38 cd38 ct38), sl38⟩)
    (d38 : PySem.W.codeIn K cd38 "End.say_wrong" = true)
    (e38 : PySem.W.keepIn K (.ref f_E_say_wrong) = true)
    (a39 : PySem.W.findIn K (.ref CE) "get_stuck" = some (some (.ref f_E_get_stuck)))
    (i39 : PySem.W.isFn K (.ref f_E_get_stuck) = true)
    (l39 : K.lookup f_E_get_stuck = some ⟨oc39, od39, .func (PySem.W.fnOf "get_stuck" "End.get_stuck" (defArgs s_E_get_stuck) (defBody s_E_get_stuck) (defScope s_E_get_stuck) .none kV39 dc39 pm39 an39 cd39 ct39), sl39⟩)
    (d39 : PySem.W.codeIn K cd39 "End.get_stuck" = true)
    (e39 : PySem.W.keepIn K (.ref f_E_get_stuck) = true)
    (a40 : PySem.W.findIn K (.ref CE) "is_out" = some (some (.ref f_E_is_out)))
    (i40 : PySem.W.isFn K (.ref f_E_is_out) = true)
    (l40 : K.lookup f_E_is_out = some ⟨oc40, od40, .func (PySem.W.fnOf "is_out" "End.is_out" (defArgs s_E_is_out) (defBody s_E_is_out) (defScope s_E_is_out) .none kV40 dc40 pm40 an40 cd40 ct40), sl40⟩)
    (d40 : PySem.W.codeIn K cd40 "End.is_out" = true)
    (e40 : PySem.W.keepIn K (.ref f_E_is_out) = true)
    (a41 : PySem.W.findIn K (.ref CE) "see_to_clock" = some (some (.ref f_E_see_to_clock)))
    (i41 : PySem.W.isFn K (.ref f_E_see_to_clock) = true)
    (l41 : K.lookup f_E_see_to_clock = some ⟨oc41, od41, .func (PySem.W.fnOf "see_to_clock" "End.see_to_clock" (defArgs s_E_see_to_clock) (defBody s_E_see_to_clock) (defScope s_E_see_to_clock) .none kV41 dc41 pm41 an41 cd41 ct41), sl41⟩)
    (d41 : PySem.W.codeIn K cd41 "End.see_to_clock" = true)
    (e41 : PySem.W.keepIn K (.ref f_E_see_to_clock) = true)
    (a42 : PySem.W.nsIn K mainGlobals "hear_hello" = some (some (.ref f_d_hear_hello)))
    (l42 : K.lookup f_d_hear_hello = some ⟨oc42, od42, .func (PySem.W.fnOf "hear_hello" "hear_hello" (defArgs s_d_hear_hello) (defBody s_d_hear_hello) (defScope s_d_hear_hello) .none kV42 dc42 pm42 an42 cd42 ct42), sl42⟩)
    (d42 : PySem.W.codeIn K cd42 "hear_hello" = true)
    (e42 : PySem.W.keepIn K (.ref f_d_hear_hello) = true)
    (a43 : PySem.W.nsIn K mainGlobals "hear_finish" = some (some (.ref f_d_hear_finish)))
    (l43 : K.lookup f_d_hear_finish = some ⟨oc43, od43, .func (PySem.W.fnOf "hear_finish" "hear_finish" (defArgs s_d_hear_finish) (defBody s_d_hear_finish) (defScope s_d_hear_finish) .none kV43 dc43 pm43 an43 cd43 ct43), sl43⟩)
    (d43 : PySem.W.codeIn K cd43 "hear_finish" = true)
    (e43 : PySem.W.keepIn K (.ref f_d_hear_finish) = true)
    (a44 : PySem.W.nsIn K mainGlobals "hear_awaited" = some (some (.ref f_d_hear_awaited)))
    (l44 : K.lookup f_d_hear_awaited = some ⟨oc44, od44, .func (PySem.W.fnOf "hear_awaited" "hear_awaited" (defArgs s_d_hear_awaited) (defBody s_d_hear_awaited) (defScope s_d_hear_awaited) .none kV44 dc44 pm44 an44 cd44 ct44), sl44⟩)
    (d44 : PySem.W.codeIn K cd44 "hear_awaited" = true)
    (e44 : PySem.W.keepIn K (.ref f_d_hear_awaited) = true)
    (a45 : PySem.W.nsIn K mainGlobals "hear_numbered" = some (some (.ref f_d_hear_numbered)))
    (l45 : K.lookup f_d_hear_numbered = some ⟨oc45, od45, .func (PySem.W.fnOf "hear_numbered" "hear_numbered" (defArgs s_d_hear_numbered) (defBody s_d_hear_numbered) (defScope s_d_hear_numbered) .none kV45 dc45 pm45 an45 cd45 ct45), sl45⟩)
    (d45 : PySem.W.codeIn K cd45 "hear_numbered" = true)
    (e45 : PySem.W.keepIn K (.ref f_d_hear_numbered) = true)
    (a46 : PySem.W.nsIn K mainGlobals "hear_state" = some (some (.ref f_d_hear_state)))
    (l46 : K.lookup f_d_hear_state = some ⟨oc46, od46, .func (PySem.W.fnOf "hear_state" "hear_state" (defArgs s_d_hear_state) (defBody s_d_hear_state) (defScope s_d_hear_state) .none kV46 dc46 pm46 an46 cd46 ct46), sl46⟩)
    (d46 : PySem.W.codeIn K cd46 "hear_state" = true)
    (e46 : PySem.W.keepIn K (.ref f_d_hear_state) = true)
    (a47 : PySem.W.nsIn K mainGlobals "hear_command" = some (some (.ref f_d_hear_command)))
    (l47 : K.lookup f_d_hear_command = some ⟨oc47, od47, .func (PySem.W.fnOf "hear_command" "hear_command" (defArgs s_d_hear_command) (defBody s_d_hear_command) (defScope s_d_hear_command) .none kV47 dc47 pm47 an47 cd47 ct47), sl47⟩)
    (d47 : PySem.W.codeIn K cd47 "hear_command" = true)
    (e47 : PySem.W.keepIn K (.ref f_d_hear_command) = true)
    (a48 : PySem.W.nsIn K mainGlobals "hear_yes" = some (some (.ref f_d_hear_yes)))
    (l48 : K.lookup f_d_hear_yes = some ⟨oc48, od48, .func (PySem.W.fnOf "hear_yes" "hear_yes" (defArgs s_d_hear_yes) (defBody s_d_hear_yes) (defScope s_d_hear_yes) .none kV48 dc48 pm48 an48 cd48 ct48), sl48⟩)
    (d48 : PySem.W.codeIn K cd48 "hear_yes" = true)
    (e48 : PySem.W.keepIn K (.ref f_d_hear_yes) = true)
    (a49 : PySem.W.nsIn K mainGlobals "hear_answer" = some (some (.ref f_d_hear_answer)))
    (l49 : K.lookup f_d_hear_answer = some ⟨oc49, od49, .func (PySem.W.fnOf "hear_answer" "hear_answer" (defArgs s_d_hear_answer) (defBody s_d_hear_answer) (defScope s_d_hear_answer) .none kV49 dc49 pm49 an49 cd49 ct49), sl49⟩)
    (d49 : PySem.W.codeIn K cd49 "hear_answer" = true)
    (e49 : PySem.W.keepIn K (.ref f_d_hear_answer) = true)
    (a50 : PySem.W.nsIn K mainGlobals "hear" = some (some (.ref f_d_hear)))
    (l50 : K.lookup f_d_hear = some ⟨oc50, od50, .func (PySem.W.fnOf "hear" "hear" (defArgs s_d_hear) (defBody s_d_hear) (defScope s_d_hear) .none kV50 dc50 pm50 an50 cd50 ct50), sl50⟩)
    (d50 : PySem.W.codeIn K cd50 "hear" = true)
    (e50 : PySem.W.keepIn K (.ref f_d_hear) = true)
    (a51 : PySem.W.nsIn K mainGlobals "take_bits" = some (some (.ref f_d_take_bits)))
    (l51 : K.lookup f_d_take_bits = some ⟨oc51, od51, .func (PySem.W.fnOf "take_bits" "take_bits" (defArgs s_d_take_bits) (defBody s_d_take_bits) (defScope s_d_take_bits) .none kV51 dc51 pm51 an51 cd51 ct51), sl51⟩)
    (d51 : PySem.W.codeIn K cd51 "take_bits" = true)
    (e51 : PySem.W.keepIn K (.ref f_d_take_bits) = true)
    (a52 : PySem.W.findIn K (.ref CX) "__init__" = some (some (.ref f_X_init)))
    (i52 : PySem.W.typeIn K (.ref f_X_init) = some (.type "function"))
    (l52 : K.lookup f_X_init = some ⟨oc52, od52, .func (PySem.W.fnOf "__init__" "Refused.__init__" (defArgs s_X_init) (defBody s_X_init) (defScope s_X_init) .none kV52 dc52 pm52 an52 cd52 ct52), sl52⟩)
    (d52 : PySem.W.codeIn K cd52 "Refused.__init__" = true)
    (e52 : PySem.W.keepIn K (.ref f_X_init) = true)
    (a53 : PySem.W.nsIn K mainGlobals "ask" = some (some (.ref f_d_ask)))
    (l53 : K.lookup f_d_ask = some ⟨oc53, od53, .func (PySem.W.fnOf "ask" "ask" (defArgs s_d_ask) (defBody s_d_ask) (defScope s_d_ask) .none kV53 dc53 pm53 an53 cd53 ct53), sl53⟩)
    (d53 : PySem.W.codeIn K cd53 "ask" = true)
    (e53 : PySem.W.keepIn K (.ref f_d_ask) = true)
    (a54 : PySem.W.nsIn K mainGlobals "begun" = some (some (.ref f_d_begun)))
    (l54 : K.lookup f_d_begun = some ⟨oc54, od54, .func (PySem.W.fnOf "begun" "begun" (defArgs s_d_begun) (defBody s_d_begun) (defScope s_d_begun) .none kV54 dc54 pm54 an54 cd54 ct54), sl54⟩)
    (d54 : PySem.W.codeIn K cd54 "begun" = true)
    (e54 : PySem.W.keepIn K (.ref f_d_begun) = true)
    (a55 : PySem.W.nsIn K mainGlobals "connect" = some (some (.ref f_d_connect)))
    (l55 : K.lookup f_d_connect = some ⟨oc55, od55, .func (PySem.W.fnOf "connect" "connect" (defArgs s_d_connect) (defBody s_d_connect) (defScope s_d_connect) .none kV55 dc55 pm55 an55 cd55 ct55), sl55⟩)
    (d55 : PySem.W.codeIn K cd55 "connect" = true)
    (e55 : PySem.W.keepIn K (.ref f_d_connect) = true)
    (a56 : PySem.W.nsIn K mainGlobals "finish" = some (some (.ref f_d_finish)))
    (l56 : K.lookup f_d_finish = some ⟨oc56, od56, .func (PySem.W.fnOf "finish" "finish" (defArgs s_d_finish) (defBody s_d_finish) (defScope s_d_finish) .none kV56 dc56 pm56 an56 cd56 ct56), sl56⟩)
    (d56 : PySem.W.codeIn K cd56 "finish" = true)
    (e56 : PySem.W.keepIn K (.ref f_d_finish) = true)
    (a57 : PySem.W.nsIn K mainGlobals "send" = some (some (.ref f_d_send)))
    (l57 : K.lookup f_d_send = some ⟨oc57, od57, .func (PySem.W.fnOf "send" "send" (defArgs s_d_send) (defBody s_d_send) (defScope s_d_send) .none kV57 dc57 pm57 an57 cd57 ct57), sl57⟩)
    (d57 : PySem.W.codeIn K cd57 "send" = true)
    (e57 : PySem.W.keepIn K (.ref f_d_send) = true)
    (a58 : PySem.W.nsIn K mainGlobals "bits" = some (some (.ref f_d_bits)))
    (l58 : K.lookup f_d_bits = some ⟨oc58, od58, .func (PySem.W.fnOf "bits" "bits" (defArgs s_d_bits) (defBody s_d_bits) (defScope s_d_bits) .none kV58 dc58 pm58 an58 cd58 ct58), sl58⟩)
    (d58 : PySem.W.codeIn K cd58 "bits" = true)
    (e58 : PySem.W.keepIn K (.ref f_d_bits) = true)
    (a59 : PySem.W.nsIn K mainGlobals "tick" = some (some (.ref f_d_tick)))
    (l59 : K.lookup f_d_tick = some ⟨oc59, od59, .func (PySem.W.fnOf "tick" "tick" (defArgs s_d_tick) (defBody s_d_tick) (defScope s_d_tick) .none kV59 dc59 pm59 an59 cd59 ct59), sl59⟩)
    (d59 : PySem.W.codeIn K cd59 "tick" = true)
    (e59 : PySem.W.keepIn K (.ref f_d_tick) = true)
    (a60 : PySem.W.nsIn K mainGlobals "output" = some (some (.ref f_d_output)))
    (l60 : K.lookup f_d_output = some ⟨oc60, od60, .func (PySem.W.fnOf "output" "output" (defArgs s_d_output) (defBody s_d_output) (defScope s_d_output) .none kV60 dc60 pm60 an60 cd60 ct60), sl60⟩)
    (d60 : PySem.W.codeIn K cd60 "output" = true)
    (e60 : PySem.W.keepIn K (.ref f_d_output) = true)
    (a61 : PySem.W.nsIn K mainGlobals "take" = some (some (.ref f_d_take)))
    (l61 : K.lookup f_d_take = some ⟨oc61, od61, .func (PySem.W.fnOf "take" "take" (defArgs s_d_take) (defBody s_d_take) (defScope s_d_take) .none kV61 dc61 pm61 an61 cd61 ct61), sl61⟩)
    (d61 : PySem.W.codeIn K cd61 "take" = true)
    (e61 : PySem.W.keepIn K (.ref f_d_take) = true)
    (a62 : PySem.W.nsIn K mainGlobals "told" = some (some (.ref f_d_told)))
    (l62 : K.lookup f_d_told = some ⟨oc62, od62, .func (PySem.W.fnOf "told" "told" (defArgs s_d_told) (defBody s_d_told) (defScope s_d_told) .none kV62 dc62 pm62 an62 cd62 ct62), sl62⟩)
    (d62 : PySem.W.codeIn K cd62 "told" = true)
    (e62 : PySem.W.keepIn K (.ref f_d_told) = true)
    (a63 : PySem.W.nsIn K mainGlobals "answer_of" = some (some (.ref f_d_answer_of)))
    (l63 : K.lookup f_d_answer_of = some ⟨oc63, od63, .func (PySem.W.fnOf "answer_of" "answer_of" (defArgs s_d_answer_of) (defBody s_d_answer_of) (defScope s_d_answer_of) .none kV63 dc63 pm63 an63 cd63 ct63), sl63⟩)
    (d63 : PySem.W.codeIn K cd63 "answer_of" = true)
    (e63 : PySem.W.keepIn K (.ref f_d_answer_of) = true)
    (a64 : PySem.W.nsIn K mainGlobals "answer_to" = some (some (.ref f_d_answer_to)))
    (l64 : K.lookup f_d_answer_to = some ⟨oc64, od64, .func (PySem.W.fnOf "answer_to" "answer_to" (defArgs s_d_answer_to) (defBody s_d_answer_to) (defScope s_d_answer_to) .none kV64 dc64 pm64 an64 cd64 ct64), sl64⟩)
    (d64 : PySem.W.codeIn K cd64 "answer_to" = true)
    (e64 : PySem.W.keepIn K (.ref f_d_answer_to) = true)
    (a65 : PySem.W.nsIn K mainGlobals "answered" = some (some (.ref f_d_answered)))
    (l65 : K.lookup f_d_answered = some ⟨oc65, od65, .func (PySem.W.fnOf "answered" "answered" (defArgs s_d_answered) (defBody s_d_answered) (defScope s_d_answered) .none kV65 dc65 pm65 an65 cd65 ct65), sl65⟩)
    (d65 : PySem.W.codeIn K cd65 "answered" = true)
    (e65 : PySem.W.keepIn K (.ref f_d_answered) = true)
    (a66 : PySem.W.nsIn K mainGlobals "answers" = some (some (.ref f_d_answers)))
    (l66 : K.lookup f_d_answers = some ⟨oc66, od66, .func (PySem.W.fnOf "answers" "answers" (defArgs s_d_answers) (defBody s_d_answers) (defScope s_d_answers) .none kV66 dc66 pm66 an66 cd66 ct66), sl66⟩)
    (d66 : PySem.W.codeIn K cd66 "answers" = true)
    (e66 : PySem.W.keepIn K (.ref f_d_answers) = true) :
    ∃ (L : LA) (f : FA), (∀ (s : Shared) (us : List Value), us.length = (["calls"] : List Str).length → BindsTo s f.fd_d_answers ⟨us, []⟩ ((["calls"] : List Str).zip us)) ∧ Txt K mg L f := by
  have F0 := fun_mk (st := s_F_init) l0 d0 e0
  have b0 := F0.binds (ps := ["self", "is_command", "control", "load"]) fun _ _ _ _ _ _ us hl => match us, hl with | [_, _, _, _], _ => rfl
  have F1 := fun_mk (st := s_F_kind) l1 d1 e1
  have b1 := F1.binds (ps := ["self"]) fun _ _ _ _ _ _ us hl => match us, hl with | [_], _ => rfl
  have F2 := fun_mk (st := s_F_bit) l2 d2 e2
  have b2 := F2.binds (ps := ["self"]) fun _ _ _ _ _ _ us hl => match us, hl with | [_], _ => rfl
  have F3 := fun_mk (st := s_F_own_number) l3 d3 e3
  have b3 := F3.binds (ps := ["self"]) fun _ _ _ _ _ _ us hl => match us, hl with | [_], _ => rfl
  have F4 := fun_mk (st := s_F_awaited) l4 d4 e4
  have b4 := F4.binds (ps := ["self"]) fun _ _ _ _ _ _ us hl => match us, hl with | [_], _ => rfl
  have F5 := fun_mk (st := s_F_fault) l5 d5 e5
  have b5 := F5.binds (ps := ["self"]) fun _ _ _ _ _ _ us hl => match us, hl with | [_], _ => rfl
  have F6 := fun_mk (st := s_d_numbered_control) l6 d6 e6
  have b6 := F6.binds (ps := ["number", "awaited"]) fun _ _ _ _ _ _ us hl => match us, hl with | [_, _], _ => rfl
  have F7 := fun_mk (st := s_d_state_control) l7 d7 e7
  have b7 := F7.binds (ps := ["kind", "bit", "awaited"]) fun _ _ _ _ _ _ us hl => match us, hl with | [_, _, _], _ => rfl
  have F8 := fun_mk (st := s_d_bits_of) l8 d8 e8
  have b8 := F8.binds (ps := ["row"]) fun _ _ _ _ _ _ us hl => match us, hl with | [_], _ => rfl
  have F9 := fun_mk (st := s_d_bytes_of) l9 d9 e9
  have b9 := F9.binds (ps := ["bits"]) fun _ _ _ _ _ _ us hl => match us, hl with | [_], _ => rfl
  have F10 := fun_mk (st := s_d_sum_of) l10 d10 e10
  have b10 := F10.binds (ps := ["row"]) fun _ _ _ _ _ _ us hl => match us, hl with | [_], _ => rfl
  have F11 := fun_mk (st := s_d_with_noughts) l11 d11 e11
  have b11 := F11.binds (ps := ["bits"]) fun _ _ _ _ _ _ us hl => match us, hl with | [_], _ => rfl
  have F12 := fun_mk (st := s_d_frame_bits) l12 d12 e12
  have b12 := F12.binds (ps := ["row"]) fun _ _ _ _ _ _ us hl => match us, hl with | [_], _ => rfl
  have F13 := fun_mk (st := s_I_init) l13 d13 e13
  have b13 := F13.binds (ps := ["self"]) fun _ _ _ _ _ _ us hl => match us, hl with | [_], _ => rfl
  have F14 := fun_mk (st := s_I_lose) l14 d14 e14
  have b14 := F14.binds (ps := ["self"]) fun _ _ _ _ _ _ us hl => match us, hl with | [_], _ => rfl
  have F15 := fun_mk (st := s_I_keep) l15 d15 e15
  have b15 := F15.binds (ps := ["self", "bit"]) fun _ _ _ _ _ _ us hl => match us, hl with | [_, _], _ => rfl
  have F16 := fun_mk (st := s_I_whole) l16 d16 e16
  have b16 := F16.binds (ps := ["self"]) fun _ _ _ _ _ _ us hl => match us, hl with | [_], _ => rfl
  have F17 := fun_mk (st := s_I_take) l17 d17 e17
  have b17 := F17.binds (ps := ["self", "bit"]) fun _ _ _ _ _ _ us hl => match us, hl with | [_, _], _ => rfl
  have F18 := fun_mk (st := s_W_init) l18 d18 e18
  have b18 := F18.binds (ps := ["self"]) fun _ _ _ _ _ _ us hl => match us, hl with | [_], _ => rfl
  have F19 := fun_mk (st := s_W_put) l19 d19 e19
  have b19 := F19.binds (ps := ["self", "row"]) fun _ _ _ _ _ _ us hl => match us, hl with | [_, _], _ => rfl
  have F20 := fun_mk (st := s_W_take) l20 d20 e20
  have b20 := F20.binds (ps := ["self", "most"]) fun _ _ _ _ _ _ us hl => match us, hl with | [_, _], _ => rfl
  have F21 := fun_mk (st := s_E_init) l21 d21 e21
  have b21 := F21.binds (ps := ["self", "side", "window", "patience", "tries"]) fun _ _ _ _ _ _ us hl => match us, hl with | [_, _, _, _, _], _ => rfl
  have F22 := fun_mk (st := s_E_afresh) l22 d22 e22
  have b22 := F22.binds (ps := ["self"]) fun _ _ _ _ _ _ us hl => match us, hl with | [_], _ => rfl
  have F23 := fun_mk (st := s_E_command) l23 d23 e23
  have b23 := F23.binds (ps := ["self", "control", "load"]) fun _ _ _ _ _ _ us hl => match us, hl with | [_, _, _], _ => rfl
  have F24 := fun_mk (st := s_E_answer) l24 d24 e24
  have b24 := F24.binds (ps := ["self", "control", "load"]) fun _ _ _ _ _ _ us hl => match us, hl with | [_, _, _], _ => rfl
  have F25 := fun_mk (st := s_E_run_clock) l25 d25 e25
  have b25 := F25.binds (ps := ["self"]) fun _ _ _ _ _ _ us hl => match us, hl with | [_], _ => rfl
  have F26 := fun_mk (st := s_E_greet) l26 d26 e26
  have b26 := F26.binds (ps := ["self"]) fun _ _ _ _ _ _ us hl => match us, hl with | [_], _ => rfl
  have F27 := fun_mk (st := s_E_finish) l27 d27 e27
  have b27 := F27.binds (ps := ["self"]) fun _ _ _ _ _ _ us hl => match us, hl with | [_], _ => rfl
  have F28 := fun_mk (st := s_E_go_up) l28 d28 e28
  have b28 := F28.binds (ps := ["self"]) fun _ _ _ _ _ _ us hl => match us, hl with | [_], _ => rfl
  have F29 := fun_mk (st := s_E_go_down) l29 d29 e29
  have b29 := F29.binds (ps := ["self"]) fun _ _ _ _ _ _ us hl => match us, hl with | [_], _ => rfl
  have F30 := fun_mk (st := s_E_own_state) l30 d30 e30
  have b30 := F30.binds (ps := ["self", "bit"]) fun _ _ _ _ _ _ us hl => match us, hl with | [_, _], _ => rfl
  have F31 := fun_mk (st := s_E_tell_state) l31 d31 e31
  have b31 := F31.binds (ps := ["self", "bit"]) fun _ _ _ _ _ _ us hl => match us, hl with | [_, _], _ => rfl
  have F32 := fun_mk (st := s_E_ask_again) l32 d32 e32
  have b32 := F32.binds (ps := ["self", "bit"]) fun _ _ _ _ _ _ us hl => match us, hl with | [_, _], _ => rfl
  have F33 := fun_mk (st := s_E_many_out) l33 d33 e33
  have b33 := F33.binds (ps := ["self"]) fun _ _ _ _ _ _ us hl => match us, hl with | [_], _ => rfl
  have F34 := fun_mk (st := s_E_may_go_out) l34 d34 e34
  have b34 := F34.binds (ps := ["self"]) fun _ _ _ _ _ _ us hl => match us, hl with | [_], _ => rfl
  have F35 := fun_mk (st := s_E_go_out) l35 d35 e35
  have b35 := F35.binds (ps := ["self"]) fun _ _ _ _ _ _ us hl => match us, hl with | [_], _ => rfl
  have F36 := fun_mk (st := s_E_can_be_answered) l36 d36 e36
  have b36 := F36.binds (ps := ["self", "k"]) fun _ _ _ _ _ _ us hl => match us, hl with | [_, _], _ => rfl
  have F37 := fun_mk (st := s_E_answered_up_to) l37 d37 e37
  have b37 := F37.binds (ps := ["self", "k"]) fun _ _ _ _ _ _ us hl => match us, hl with | [_, _], _ => rfl
  have F38 := fun_mk (st := s_E_say_wrong) l38 d38 e38
  have b38 := F38.binds (ps := ["self", "bit"]) fun _ _ _ _ _ _ us hl => match us, hl with | [_, _], _ => rfl
  have F39 := fun_mk (st := s_E_get_stuck) l39 d39 e39
  have b39 := F39.binds (ps := ["self", "control", "bit", "reason"]) fun _ _ _ _ _ _ us hl => match us, hl with | [_, _, _, _], _ => rfl
  have F40 := fun_mk (st := s_E_is_out) l40 d40 e40
  have b40 := F40.binds (ps := ["self"]) fun _ _ _ _ _ _ us hl => match us, hl with | [_], _ => rfl
  have F41 := fun_mk (st := s_E_see_to_clock) l41 d41 e41
  have b41 := F41.binds (ps := ["self"]) fun _ _ _ _ _ _ us hl => match us, hl with | [_], _ => rfl
  have F42 := fun_mk (st := s_d_hear_hello) l42 d42 e42
  have b42 := F42.binds (ps := ["end", "bit"]) fun _ _ _ _ _ _ us hl => match us, hl with | [_, _], _ => rfl
  have F43 := fun_mk (st := s_d_hear_finish) l43 d43 e43
  have b43 := F43.binds (ps := ["end", "bit"]) fun _ _ _ _ _ _ us hl => match us, hl with | [_, _], _ => rfl
  have F44 := fun_mk (st := s_d_hear_awaited) l44 d44 e44
  have b44 := F44.binds (ps := ["end", "frame"]) fun _ _ _ _ _ _ us hl => match us, hl with | [_, _], _ => rfl
  have F45 := fun_mk (st := s_d_hear_numbered) l45 d45 e45
  have b45 := F45.binds (ps := ["end", "frame"]) fun _ _ _ _ _ _ us hl => match us, hl with | [_, _], _ => rfl
  have F46 := fun_mk (st := s_d_hear_state) l46 d46 e46
  have b46 := F46.binds (ps := ["end", "frame"]) fun _ _ _ _ _ _ us hl => match us, hl with | [_, _], _ => rfl
  have F47 := fun_mk (st := s_d_hear_command) l47 d47 e47
  have b47 := F47.binds (ps := ["end", "frame"]) fun _ _ _ _ _ _ us hl => match us, hl with | [_, _], _ => rfl
  have F48 := fun_mk (st := s_d_hear_yes) l48 d48 e48
  have b48 := F48.binds (ps := ["end"]) fun _ _ _ _ _ _ us hl => match us, hl with | [_], _ => rfl
  have F49 := fun_mk (st := s_d_hear_answer) l49 d49 e49
  have b49 := F49.binds (ps := ["end", "frame"]) fun _ _ _ _ _ _ us hl => match us, hl with | [_, _], _ => rfl
  have F50 := fun_mk (st := s_d_hear) l50 d50 e50
  have b50 := F50.binds (ps := ["end", "row"]) fun _ _ _ _ _ _ us hl => match us, hl with | [_, _], _ => rfl
  have F51 := fun_mk (st := s_d_take_bits) l51 d51 e51
  have b51 := F51.binds (ps := ["end", "bits"]) fun _ _ _ _ _ _ us hl => match us, hl with | [_, _], _ => rfl
  have F52 := fun_mk (st := s_X_init) l52 d52 e52
  have b52 := F52.binds (ps := ["self", "number"]) fun _ _ _ _ _ _ us hl => match us, hl with | [_, _], _ => rfl
  have F53 := fun_mk (st := s_d_ask) l53 d53 e53
  have b53 := F53.binds (ps := ["good", "number"]) fun _ _ _ _ _ _ us hl => match us, hl with | [_, _], _ => rfl
  have F54 := fun_mk (st := s_d_begun) l54 d54 e54
  have b54 := F54.binds (ps := ["numbers"]) fun _ _ _ _ _ _ us hl => match us, hl with | [_], _ => rfl
  have F55 := fun_mk (st := s_d_connect) l55 d55 e55
  have b55 := F55.binds (ps := ["end", "now"]) fun _ _ _ _ _ _ us hl => match us, hl with | [_, _], _ => rfl
  have F56 := fun_mk (st := s_d_finish) l56 d56 e56
  have b56 := F56.binds (ps := ["end", "now"]) fun _ _ _ _ _ _ us hl => match us, hl with | [_, _], _ => rfl
  have F57 := fun_mk (st := s_d_send) l57 d57 e57
  have b57 := F57.binds (ps := ["end", "now", "row"]) fun _ _ _ _ _ _ us hl => match us, hl with | [_, _, _], _ => rfl
  have F58 := fun_mk (st := s_d_bits) l58 d58 e58
  have b58 := F58.binds (ps := ["end", "n", "now", "row"]) fun _ _ _ _ _ _ us hl => match us, hl with | [_, _, _, _], _ => rfl
  have F59 := fun_mk (st := s_d_tick) l59 d59 e59
  have b59 := F59.binds (ps := ["end", "now"]) fun _ _ _ _ _ _ us hl => match us, hl with | [_, _], _ => rfl
  have F60 := fun_mk (st := s_d_output) l60 d60 e60
  have b60 := F60.binds (ps := ["end", "most"]) fun _ _ _ _ _ _ us hl => match us, hl with | [_, _], _ => rfl
  have F61 := fun_mk (st := s_d_take) l61 d61 e61
  have b61 := F61.binds (ps := ["end", "most"]) fun _ _ _ _ _ _ us hl => match us, hl with | [_, _], _ => rfl
  have F62 := fun_mk (st := s_d_told) l62 d62 e62
  have b62 := F62.binds (ps := ["end"]) fun _ _ _ _ _ _ us hl => match us, hl with | [_], _ => rfl
  have F63 := fun_mk (st := s_d_answer_of) l63 d63 e63
  have b63 := F63.binds (ps := ["end", "call", "numbers", "row"]) fun _ _ _ _ _ _ us hl => match us, hl with | [_, _, _, _], _ => rfl
  have F64 := fun_mk (st := s_d_answer_to) l64 d64 e64
  have b64 := F64.binds (ps := ["ends", "call", "numbers", "row"]) fun _ _ _ _ _ _ us hl => match us, hl with | [_, _, _, _], _ => rfl
  have F65 := fun_mk (st := s_d_answered) l65 d65 e65
  have b65 := F65.binds (ps := ["ends", "call", "numbers", "row"]) fun _ _ _ _ _ _ us hl => match us, hl with | [_, _, _, _], _ => rfl
  have F66 := fun_mk (st := s_d_answers) l66 d66 e66
  have b66 := F66.binds (ps := ["calls"]) fun _ _ _ _ _ _ us hl => match us, hl with | [_], _ => rfl
  refine ⟨⟨CF, CI, CW, CE, CX, tFLAG, tPLAIN, tSTATES, tCOMMANDS, tANSWERS, tMANY_NUMBERS⟩, ⟨f_F_init, PySem.W.fnOf "__init__" "Frame.__init__" (defArgs s_F_init) (defBody s_F_init) (defScope s_F_init) .none kV0 dc0 pm0 an0 cd0 ct0, f_F_kind, PySem.W.fnOf "kind" "Frame.kind" (defArgs s_F_kind) (defBody s_F_kind) (defScope s_F_kind) .none kV1 dc1 pm1 an1 cd1 ct1, f_F_bit, PySem.W.fnOf "bit" "Frame.bit" (defArgs s_F_bit) (defBody s_F_bit) (defScope s_F_bit) .none kV2 dc2 pm2 an2 cd2 ct2, f_F_own_number, PySem.W.fnOf "own_number" "Frame.own_number" (defArgs s_F_own_number) (defBody s_F_own_number) (defScope s_F_own_number) .none kV3 dc3 pm3 an3 cd3 ct3, f_F_awaited, PySem.W.fnOf "awaited" "Frame.awaited" (defArgs s_F_awaited) (defBody s_F_awaited) (defScope s_F_awaited) .none kV4 dc4 pm4 an4 cd4 ct4, f_F_fault, PySem.W.fnOf "fault" "Frame.fault" (defArgs s_F_fault) (defBody s_F_fault) (defScope s_F_fault) .none kV5 dc5 pm5 an5 cd5 ct5, f_d_numbered_control, PySem.W.fnOf "numbered_control" "numbered_control" (defArgs s_d_numbered_control) (defBody s_d_numbered_control) (defScope s_d_numbered_control) .none kV6 dc6 pm6 an6 cd6 ct6, f_d_state_control, PySem.W.fnOf "state_control" "state_control" (defArgs s_d_state_control) (defBody s_d_state_control) (defScope s_d_state_control) .none kV7 dc7 pm7 an7 cd7 ct7, f_d_bits_of, PySem.W.fnOf "bits_of" "bits_of" (defArgs s_d_bits_of) (defBody s_d_bits_of) (defScope s_d_bits_of) .none kV8 dc8 pm8 an8 cd8 ct8, f_d_bytes_of, PySem.W.fnOf "bytes_of" "bytes_of" (defArgs s_d_bytes_of) (defBody s_d_bytes_of) (defScope s_d_bytes_of) .none kV9 dc9 pm9 an9 cd9 ct9, f_d_sum_of, PySem.W.fnOf "sum_of" "sum_of" (defArgs s_d_sum_of) (defBody s_d_sum_of) (defScope s_d_sum_of) .none kV10 dc10 pm10 an10 cd10 ct10, f_d_with_noughts, PySem.W.fnOf "with_noughts" "with_noughts" (defArgs s_d_with_noughts) (defBody s_d_with_noughts) (defScope s_d_with_noughts) .none kV11 dc11 pm11 an11 cd11 ct11, f_d_frame_bits, PySem.W.fnOf "frame_bits" "frame_bits" (defArgs s_d_frame_bits) (defBody s_d_frame_bits) (defScope s_d_frame_bits) .none kV12 dc12 pm12 an12 cd12 ct12, f_I_init, PySem.W.fnOf "__init__" "Listener.__init__" (defArgs s_I_init) (defBody s_I_init) (defScope s_I_init) .none kV13 dc13 pm13 an13 cd13 ct13, f_I_lose, PySem.W.fnOf "lose" "Listener.lose" (defArgs s_I_lose) (defBody s_I_lose) (defScope s_I_lose) .none kV14 dc14 pm14 an14 cd14 ct14, f_I_keep, PySem.W.fnOf "keep" "Listener.keep" (defArgs s_I_keep) (defBody s_I_keep) (defScope s_I_keep) .none kV15 dc15 pm15 an15 cd15 ct15, f_I_whole, PySem.W.fnOf "whole" "Listener.whole" (defArgs s_I_whole) (defBody s_I_whole) (defScope s_I_whole) .none kV16 dc16 pm16 an16 cd16 ct16, f_I_take, PySem.W.fnOf "take" "Listener.take" (defArgs s_I_take) (defBody s_I_take) (defScope s_I_take) .none kV17 dc17 pm17 an17 cd17 ct17, f_W_init, PySem.W.fnOf "__init__" "Waiting.__init__" (defArgs s_W_init) (defBody s_W_init) (defScope s_W_init) .none kV18 dc18 pm18 an18 cd18 ct18, f_W_put, PySem.W.fnOf "put" "Waiting.put" (defArgs s_W_put) (defBody s_W_put) (defScope s_W_put) .none kV19 dc19 pm19 an19 cd19 ct19, f_W_take, PySem.W.fnOf "take" "Waiting.take" (defArgs s_W_take) (defBody s_W_take) (defScope s_W_take) .none kV20 dc20 pm20 an20 cd20 ct20, f_E_init, PySem.W.fnOf "__init__" "End.__init__" (defArgs s_E_init) (defBody s_E_init) (defScope s_E_init) .none kV21 dc21 pm21 an21 cd21 ct21, f_E_afresh, PySem.W.fnOf "afresh" "End.afresh" (defArgs s_E_afresh) (defBody s_E_afresh) (defScope s_E_afresh) .none kV22 dc22 pm22 an22 cd22 ct22, f_E_command, PySem.W.fnOf "command" "End.command" (defArgs s_E_command) (defBody s_E_command) (defScope s_E_command) .none kV23 dc23 pm23 an23 cd23 ct23, f_E_answer, PySem.W.fnOf "answer" "End.answer" (defArgs s_E_answer) (defBody s_E_answer) (defScope s_E_answer) .none kV24 dc24 pm24 an24 cd24 ct24, f_E_run_clock, PySem.W.fnOf "run_clock" "End.run_clock" (defArgs s_E_run_clock) (defBody s_E_run_clock) (defScope s_E_run_clock) .none kV25 dc25 pm25 an25 cd25 ct25, f_E_greet, PySem.W.fnOf "greet" "End.greet" (defArgs s_E_greet) (defBody s_E_greet) (defScope s_E_greet) .none kV26 dc26 pm26 an26 cd26 ct26, f_E_finish, PySem.W.fnOf "finish" "End.finish" (defArgs s_E_finish) (defBody s_E_finish) (defScope s_E_finish) .none kV27 dc27 pm27 an27 cd27 ct27, f_E_go_up, PySem.W.fnOf "go_up" "End.go_up" (defArgs s_E_go_up) (defBody s_E_go_up) (defScope s_E_go_up) .none kV28 dc28 pm28 an28 cd28 ct28, f_E_go_down, PySem.W.fnOf "go_down" "End.go_down" (defArgs s_E_go_down) (defBody s_E_go_down) (defScope s_E_go_down) .none kV29 dc29 pm29 an29 cd29 ct29, f_E_own_state, PySem.W.fnOf "own_state" "End.own_state" (defArgs s_E_own_state) (defBody s_E_own_state) (defScope s_E_own_state) .none kV30 dc30 pm30 an30 cd30 ct30, f_E_tell_state, PySem.W.fnOf "tell_state" "End.tell_state" (defArgs s_E_tell_state) (defBody s_E_tell_state) (defScope s_E_tell_state) .none kV31 dc31 pm31 an31 cd31 ct31, f_E_ask_again, PySem.W.fnOf "ask_again" "End.ask_again" (defArgs s_E_ask_again) (defBody s_E_ask_again) (defScope s_E_ask_again) .none kV32 dc32 pm32 an32 cd32 ct32, f_E_many_out, PySem.W.fnOf "many_out" "End.many_out" (defArgs s_E_many_out) (defBody s_E_many_out) (defScope s_E_many_out) .none kV33 dc33 pm33 an33 cd33 ct33, f_E_may_go_out, PySem.W.fnOf "may_go_out" "End.may_go_out" (defArgs s_E_may_go_out) (defBody s_E_may_go_out) (defScope s_E_may_go_out) .none kV34 dc34 pm34 an34 cd34 ct34, f_E_go_out, PySem.W.fnOf "go_out" "End.go_out" (defArgs s_E_go_out) (defBody s_E_go_out) (defScope s_E_go_out) .none kV35 dc35 pm35 an35 cd35 ct35, f_E_can_be_answered, PySem.W.fnOf "can_be_answered" "End.can_be_answered" (defArgs s_E_can_be_answered) (defBody s_E_can_be_answered) (defScope s_E_can_be_answered) .none kV36 dc36 pm36 an36 cd36 ct36, f_E_answered_up_to, PySem.W.fnOf "answered_up_to" "End.answered_up_to" (defArgs s_E_answered_up_to) (defBody s_E_answered_up_to) (defScope s_E_answered_up_to) .none kV37 dc37 pm37 an37 cd37 ct37, f_E_say_wrong, PySem.W.fnOf "say_wrong" "End.say_wrong" (defArgs s_E_say_wrong) (defBody s_E_say_wrong) (defScope s_E_say_wrong) .none kV38 dc38 pm38 an38 cd38 ct38, f_E_get_stuck, PySem.W.fnOf "get_stuck" "End.get_stuck" (defArgs s_E_get_stuck) (defBody s_E_get_stuck) (defScope s_E_get_stuck) .none kV39 dc39 pm39 an39 cd39 ct39, f_E_is_out, PySem.W.fnOf "is_out" "End.is_out" (defArgs s_E_is_out) (defBody s_E_is_out) (defScope s_E_is_out) .none kV40 dc40 pm40 an40 cd40 ct40, f_E_see_to_clock, PySem.W.fnOf "see_to_clock" "End.see_to_clock" (defArgs s_E_see_to_clock) (defBody s_E_see_to_clock) (defScope s_E_see_to_clock) .none kV41 dc41 pm41 an41 cd41 ct41, f_d_hear_hello, PySem.W.fnOf "hear_hello" "hear_hello" (defArgs s_d_hear_hello) (defBody s_d_hear_hello) (defScope s_d_hear_hello) .none kV42 dc42 pm42 an42 cd42 ct42, f_d_hear_finish, PySem.W.fnOf "hear_finish" "hear_finish" (defArgs s_d_hear_finish) (defBody s_d_hear_finish) (defScope s_d_hear_finish) .none kV43 dc43 pm43 an43 cd43 ct43, f_d_hear_awaited, PySem.W.fnOf "hear_awaited" "hear_awaited" (defArgs s_d_hear_awaited) (defBody s_d_hear_awaited) (defScope s_d_hear_awaited) .none kV44 dc44 pm44 an44 cd44 ct44, f_d_hear_numbered, PySem.W.fnOf "hear_numbered" "hear_numbered" (defArgs s_d_hear_numbered) (defBody s_d_hear_numbered) (defScope s_d_hear_numbered) .none kV45 dc45 pm45 an45 cd45 ct45, f_d_hear_state, PySem.W.fnOf "hear_state" "hear_state" (defArgs s_d_hear_state) (defBody s_d_hear_state) (defScope s_d_hear_state) .none kV46 dc46 pm46 an46 cd46 ct46, f_d_hear_command, PySem.W.fnOf "hear_command" "hear_command" (defArgs s_d_hear_command) (defBody s_d_hear_command) (defScope s_d_hear_command) .none kV47 dc47 pm47 an47 cd47 ct47, f_d_hear_yes, PySem.W.fnOf "hear_yes" "hear_yes" (defArgs s_d_hear_yes) (defBody s_d_hear_yes) (defScope s_d_hear_yes) .none kV48 dc48 pm48 an48 cd48 ct48, f_d_hear_answer, PySem.W.fnOf "hear_answer" "hear_answer" (defArgs s_d_hear_answer) (defBody s_d_hear_answer) (defScope s_d_hear_answer) .none kV49 dc49 pm49 an49 cd49 ct49, f_d_hear, PySem.W.fnOf "hear" "hear" (defArgs s_d_hear) (defBody s_d_hear) (defScope s_d_hear) .none kV50 dc50 pm50 an50 cd50 ct50, f_d_take_bits, PySem.W.fnOf "take_bits" "take_bits" (defArgs s_d_take_bits) (defBody s_d_take_bits) (defScope s_d_take_bits) .none kV51 dc51 pm51 an51 cd51 ct51, f_X_init, PySem.W.fnOf "__init__" "Refused.__init__" (defArgs s_X_init) (defBody s_X_init) (defScope s_X_init) .none kV52 dc52 pm52 an52 cd52 ct52, f_d_ask, PySem.W.fnOf "ask" "ask" (defArgs s_d_ask) (defBody s_d_ask) (defScope s_d_ask) .none kV53 dc53 pm53 an53 cd53 ct53, f_d_begun, PySem.W.fnOf "begun" "begun" (defArgs s_d_begun) (defBody s_d_begun) (defScope s_d_begun) .none kV54 dc54 pm54 an54 cd54 ct54, f_d_connect, PySem.W.fnOf "connect" "connect" (defArgs s_d_connect) (defBody s_d_connect) (defScope s_d_connect) .none kV55 dc55 pm55 an55 cd55 ct55, f_d_finish, PySem.W.fnOf "finish" "finish" (defArgs s_d_finish) (defBody s_d_finish) (defScope s_d_finish) .none kV56 dc56 pm56 an56 cd56 ct56, f_d_send, PySem.W.fnOf "send" "send" (defArgs s_d_send) (defBody s_d_send) (defScope s_d_send) .none kV57 dc57 pm57 an57 cd57 ct57, f_d_bits, PySem.W.fnOf "bits" "bits" (defArgs s_d_bits) (defBody s_d_bits) (defScope s_d_bits) .none kV58 dc58 pm58 an58 cd58 ct58, f_d_tick, PySem.W.fnOf "tick" "tick" (defArgs s_d_tick) (defBody s_d_tick) (defScope s_d_tick) .none kV59 dc59 pm59 an59 cd59 ct59, f_d_output, PySem.W.fnOf "output" "output" (defArgs s_d_output) (defBody s_d_output) (defScope s_d_output) .none kV60 dc60 pm60 an60 cd60 ct60, f_d_take, PySem.W.fnOf "take" "take" (defArgs s_d_take) (defBody s_d_take) (defScope s_d_take) .none kV61 dc61 pm61 an61 cd61 ct61, f_d_told, PySem.W.fnOf "told" "told" (defArgs s_d_told) (defBody s_d_told) (defScope s_d_told) .none kV62 dc62 pm62 an62 cd62 ct62, f_d_answer_of, PySem.W.fnOf "answer_of" "answer_of" (defArgs s_d_answer_of) (defBody s_d_answer_of) (defScope s_d_answer_of) .none kV63 dc63 pm63 an63 cd63 ct63, f_d_answer_to, PySem.W.fnOf "answer_to" "answer_to" (defArgs s_d_answer_to) (defBody s_d_answer_to) (defScope s_d_answer_to) .none kV64 dc64 pm64 an64 cd64 ct64, f_d_answered, PySem.W.fnOf "answered" "answered" (defArgs s_d_answered) (defBody s_d_answered) (defScope s_d_answered) .none kV65 dc65 pm65 an65 cd65 ct65, f_d_answers, PySem.W.fnOf "answers" "answers" (defArgs s_d_answers) (defBody s_d_answers) (defScope s_d_answers) .none kV66 dc66 pm66 an66 cd66 ct66⟩, fun s us hu => match us, hu with | [_], _ => .of_eq rfl, ?_⟩
  exact
    { cl_F := ⟨pg_F, hd_F, po_F, sa_F⟩
      cl_I := ⟨pg_I, hd_I, po_I, sa_I⟩
      cl_W := ⟨pg_W, hd_W, po_W, sa_W⟩
      cl_E := ⟨pg_E, hd_E, po_E, sa_E⟩
      n_F_is_command := na_F_is_command
      n_F_control := na_F_control
      n_F_load := na_F_load
      n_I_lost := na_I_lost
      n_I_kept := na_I_kept
      n_I_ones := na_I_ones
      n_W_bits := na_W_bits
      n_E_commands_out := na_E_commands_out
      n_E_answers_out := na_E_answers_out
      n_E_window := na_E_window
      n_E_patience := na_E_patience
      n_E_tries := na_E_tries
      n_E_stage := na_E_stage
      n_E_sent := na_E_sent
      n_E_unsent := na_E_unsent
      n_E_come := na_E_come
      n_E_wrong := na_E_wrong
      n_E_listener := na_E_listener
      n_E_waiting := na_E_waiting
      n_E_now := na_E_now
      n_E_s := na_E_s
      n_E_a := na_E_a
      n_E_r := na_E_r
      n_E_other_busy := na_E_other_busy
      n_E_asked_again := na_E_asked_again
      n_E_polls := na_E_polls
      n_E_since := na_E_since
      n_E_out := na_E_out
      s_PLAIN := tup_of l_PLAIN (Nat.le_of_ble_eq_true rfl) (vals_i [((47 : Int), q0_PLAIN), ((67 : Int), q1_PLAIN), ((99 : Int), q2_PLAIN), ((15 : Int), q3_PLAIN), ((135 : Int), q4_PLAIN)])
      s_STATES := tup_of l_STATES (Nat.le_of_ble_eq_true rfl) (vals_i [((1 : Int), q0_STATES), ((5 : Int), q1_STATES), ((9 : Int), q2_STATES)])
      s_COMMANDS := tup_of l_COMMANDS (Nat.le_of_ble_eq_true rfl) (vals_i [((0 : Int), q0_COMMANDS), ((1 : Int), q1_COMMANDS), ((5 : Int), q2_COMMANDS), ((9 : Int), q3_COMMANDS), ((47 : Int), q4_COMMANDS), ((67 : Int), q5_COMMANDS)])
      s_ANSWERS := tup_of l_ANSWERS (Nat.le_of_ble_eq_true rfl) (vals_i [((1 : Int), q0_ANSWERS), ((5 : Int), q1_ANSWERS), ((9 : Int), q2_ANSWERS), ((99 : Int), q3_ANSWERS), ((15 : Int), q4_ANSWERS), ((135 : Int), q5_ANSWERS)])
      s_FLAG := tup_of l_FLAG (Nat.le_of_ble_eq_true rfl) (vals_i [((0 : Int), q0_FLAG), ((1 : Int), q1_FLAG), ((1 : Int), q2_FLAG), ((1 : Int), q3_FLAG), ((1 : Int), q4_FLAG), ((1 : Int), q5_FLAG), ((1 : Int), q6_FLAG), ((0 : Int), q7_FLAG)])
      s_MANY_NUMBERS := tup_of l_MANY_NUMBERS (Nat.le_of_ble_eq_true rfl) (vals_i [((5 : Int), q0_MANY_NUMBERS), ((2 : Int), q1_MANY_NUMBERS), ((2 : Int), q2_MANY_NUMBERS), ((2 : Int), q3_MANY_NUMBERS), ((3 : Int), q4_MANY_NUMBERS), ((2 : Int), q5_MANY_NUMBERS), ((2 : Int), q6_MANY_NUMBERS), ((2 : Int), q7_MANY_NUMBERS), ((1 : Int), q8_MANY_NUMBERS)])
      ox := ⟨⟨nm, qq, NN, bs, _, sn, sub, ab, col, dd, m0, m1, m2, m3, m5, xL, by decide +kernel⟩, sa_X, eC_X, tC_X, kC_X⟩
      te := exm_self eC_X iC_X tC_X sC_X
      nX_number := nb_X
      xf := xfB_ok (by unfold xfB; rw [ga_X, gg_X, eC_X, hC_X]; decide +kernel)
      c_READY := ⟨_, PySem.W.mg_of X G c_READY, ⟨_, rfl⟩⟩
      c_BUSY := ⟨_, PySem.W.mg_of X G c_BUSY, ⟨_, rfl⟩⟩
      c_AGAIN := ⟨_, PySem.W.mg_of X G c_AGAIN, ⟨_, rfl⟩⟩
      c_HELLO := ⟨_, PySem.W.mg_of X G c_HELLO, ⟨_, rfl⟩⟩
      c_FINISH := ⟨_, PySem.W.mg_of X G c_FINISH, ⟨_, rfl⟩⟩
      c_YES := ⟨_, PySem.W.mg_of X G c_YES, ⟨_, rfl⟩⟩
      c_DOWN_ANSWER := ⟨_, PySem.W.mg_of X G c_DOWN_ANSWER, ⟨_, rfl⟩⟩
      c_WRONG := ⟨_, PySem.W.mg_of X G c_WRONG, ⟨_, rfl⟩⟩
      c_NUMBERED := ⟨_, PySem.W.mg_of X G c_NUMBERED, ⟨_, rfl⟩⟩
      c_UNKNOWN := ⟨_, PySem.W.mg_of X G c_UNKNOWN, ⟨_, rfl⟩⟩
      c_BIT := ⟨_, PySem.W.mg_of X G c_BIT, ⟨_, rfl⟩⟩
      c_NUMBERS := ⟨_, PySem.W.mg_of X G c_NUMBERS, ⟨_, rfl⟩⟩
      c_WRONG_BYTES := ⟨_, PySem.W.mg_of X G c_WRONG_BYTES, ⟨_, rfl⟩⟩
      c_MOST_LOAD := ⟨_, PySem.W.mg_of X G c_MOST_LOAD, ⟨_, rfl⟩⟩
      c_GOOD := ⟨_, PySem.W.mg_of X G c_GOOD, ⟨_, rfl⟩⟩
      c_NOT_KNOWN := ⟨_, PySem.W.mg_of X G c_NOT_KNOWN, ⟨_, rfl⟩⟩
      c_BYTES := ⟨_, PySem.W.mg_of X G c_BYTES, ⟨_, rfl⟩⟩
      c_TOO_MANY := ⟨_, PySem.W.mg_of X G c_TOO_MANY, ⟨_, rfl⟩⟩
      c_CANNOT_BE := ⟨_, PySem.W.mg_of X G c_CANNOT_BE, ⟨_, rfl⟩⟩
      c_FLAG_KEPT := ⟨_, PySem.W.mg_of X G c_FLAG_KEPT, ⟨_, rfl⟩⟩
      c_LEAST_BYTES := ⟨_, PySem.W.mg_of X G c_LEAST_BYTES, ⟨_, rfl⟩⟩
      c_MOST_BYTES := ⟨_, PySem.W.mg_of X G c_MOST_BYTES, ⟨_, rfl⟩⟩
      c_MOST_KEPT := ⟨_, PySem.W.mg_of X G c_MOST_KEPT, ⟨_, rfl⟩⟩
      c_MOST_WAITING := ⟨_, PySem.W.mg_of X G c_MOST_WAITING, ⟨_, rfl⟩⟩
      c_SUM_BEGIN := ⟨_, PySem.W.mg_of X G c_SUM_BEGIN, ⟨_, rfl⟩⟩
      c_SUM_PARTS := ⟨_, PySem.W.mg_of X G c_SUM_PARTS, ⟨_, rfl⟩⟩
      c_DOWN := ⟨_, PySem.W.mg_of X G c_DOWN, ⟨_, rfl⟩⟩
      c_GREETING := ⟨_, PySem.W.mg_of X G c_GREETING, ⟨_, rfl⟩⟩
      c_UP := ⟨_, PySem.W.mg_of X G c_UP, ⟨_, rfl⟩⟩
      c_ENDING := ⟨_, PySem.W.mg_of X G c_ENDING, ⟨_, rfl⟩⟩
      c_STUCK := ⟨_, PySem.W.mg_of X G c_STUCK, ⟨_, rfl⟩⟩
      c_MOST_MESSAGES := ⟨_, PySem.W.mg_of X G c_MOST_MESSAGES, ⟨_, rfl⟩⟩
      c_WHOLE_TIME := ⟨_, PySem.W.mg_of X G c_WHOLE_TIME, ⟨_, rfl⟩⟩
      c_MANY_ENDS := ⟨_, PySem.W.mg_of X G c_MANY_ENDS, ⟨_, rfl⟩⟩
      c_SEND := ⟨_, PySem.W.mg_of X G c_SEND, ⟨_, rfl⟩⟩
      c_BITS := ⟨_, PySem.W.mg_of X G c_BITS, ⟨_, rfl⟩⟩
      c_MOST_BITS := ⟨_, PySem.W.mg_of X G c_MOST_BITS, ⟨_, rfl⟩⟩
      c_MOST_OUT := ⟨_, PySem.W.mg_of X G c_MOST_OUT, ⟨_, rfl⟩⟩
      c_MOST_MESSAGE := ⟨_, PySem.W.mg_of X G c_MOST_MESSAGE, ⟨_, rfl⟩⟩
      c_MOST_WINDOW := ⟨_, PySem.W.mg_of X G c_MOST_WINDOW, ⟨_, rfl⟩⟩
      c_MOST_TRIES := ⟨_, PySem.W.mg_of X G c_MOST_TRIES, ⟨_, rfl⟩⟩
      c_PLAIN := ⟨_, PySem.W.mg_of X G c_PLAIN, rfl⟩
      c_STATES := ⟨_, PySem.W.mg_of X G c_STATES, rfl⟩
      c_COMMANDS := ⟨_, PySem.W.mg_of X G c_COMMANDS, rfl⟩
      c_ANSWERS := ⟨_, PySem.W.mg_of X G c_ANSWERS, rfl⟩
      c_FLAG := ⟨_, PySem.W.mg_of X G c_FLAG, rfl⟩
      c_MANY_NUMBERS := ⟨_, PySem.W.mg_of X G c_MANY_NUMBERS, rfl⟩
      n_len := PySem.W.mg_none_of X G n_len
      n_max := PySem.W.mg_none_of X G n_max
      n_list := PySem.W.mg_none_of X G n_list
      n_range := PySem.W.mg_none_of X G n_range
      n_reversed := PySem.W.mg_none_of X G n_reversed
      g_F := PySem.W.mg_of X G g_F
      g_I := PySem.W.mg_of X G g_I
      g_W := PySem.W.mg_of X G g_W
      g_E := PySem.W.mg_of X G g_E
      g_X := PySem.W.mg_of X G g_X
      mk_F := ⟨mk_F, a0, i0, kc_F⟩
      mk_I := ⟨mk_I, a13, i13, kc_I⟩
      mk_W := ⟨mk_W, a18, i18, kc_W⟩
      mk_E := ⟨mk_E, a21, i21, kc_E⟩
      F_F_init := F0
      b_F_init := b0
      F_F_kind := F1
      b_F_kind := b1
      m_F_kind := ⟨a1, i1, e1⟩
      F_F_bit := F2
      b_F_bit := b2
      m_F_bit := ⟨a2, i2, e2⟩
      F_F_own_number := F3
      b_F_own_number := b3
      m_F_own_number := ⟨a3, i3, e3⟩
      F_F_awaited := F4
      b_F_awaited := b4
      m_F_awaited := ⟨a4, i4, e4⟩
      F_F_fault := F5
      b_F_fault := b5
      m_F_fault := ⟨a5, i5, e5⟩
      F_d_numbered_control := F6
      b_d_numbered_control := b6
      g_d_numbered_control := PySem.W.mg_of X G a6
      F_d_state_control := F7
      b_d_state_control := b7
      g_d_state_control := PySem.W.mg_of X G a7
      F_d_bits_of := F8
      b_d_bits_of := b8
      g_d_bits_of := PySem.W.mg_of X G a8
      F_d_bytes_of := F9
      b_d_bytes_of := b9
      g_d_bytes_of := PySem.W.mg_of X G a9
      F_d_sum_of := F10
      b_d_sum_of := b10
      g_d_sum_of := PySem.W.mg_of X G a10
      F_d_with_noughts := F11
      b_d_with_noughts := b11
      g_d_with_noughts := PySem.W.mg_of X G a11
      F_d_frame_bits := F12
      b_d_frame_bits := b12
      g_d_frame_bits := PySem.W.mg_of X G a12
      F_I_init := F13
      b_I_init := b13
      F_I_lose := F14
      b_I_lose := b14
      m_I_lose := ⟨a14, i14, e14⟩
      F_I_keep := F15
      b_I_keep := b15
      m_I_keep := ⟨a15, i15, e15⟩
      F_I_whole := F16
      b_I_whole := b16
      m_I_whole := ⟨a16, i16, e16⟩
      F_I_take := F17
      b_I_take := b17
      m_I_take := ⟨a17, i17, e17⟩
      F_W_init := F18
      b_W_init := b18
      F_W_put := F19
      b_W_put := b19
      m_W_put := ⟨a19, i19, e19⟩
      F_W_take := F20
      b_W_take := b20
      m_W_take := ⟨a20, i20, e20⟩
      F_E_init := F21
      b_E_init := b21
      F_E_afresh := F22
      b_E_afresh := b22
      m_E_afresh := ⟨a22, i22, e22⟩
      F_E_command := F23
      b_E_command := b23
      m_E_command := ⟨a23, i23, e23⟩
      F_E_answer := F24
      b_E_answer := b24
      m_E_answer := ⟨a24, i24, e24⟩
      F_E_run_clock := F25
      b_E_run_clock := b25
      m_E_run_clock := ⟨a25, i25, e25⟩
      F_E_greet := F26
      b_E_greet := b26
      m_E_greet := ⟨a26, i26, e26⟩
      F_E_finish := F27
      b_E_finish := b27
      m_E_finish := ⟨a27, i27, e27⟩
      F_E_go_up := F28
      b_E_go_up := b28
      m_E_go_up := ⟨a28, i28, e28⟩
      F_E_go_down := F29
      b_E_go_down := b29
      m_E_go_down := ⟨a29, i29, e29⟩
      F_E_own_state := F30
      b_E_own_state := b30
      m_E_own_state := ⟨a30, i30, e30⟩
      F_E_tell_state := F31
      b_E_tell_state := b31
      m_E_tell_state := ⟨a31, i31, e31⟩
      F_E_ask_again := F32
      b_E_ask_again := b32
      m_E_ask_again := ⟨a32, i32, e32⟩
      F_E_many_out := F33
      b_E_many_out := b33
      m_E_many_out := ⟨a33, i33, e33⟩
      F_E_may_go_out := F34
      b_E_may_go_out := b34
      m_E_may_go_out := ⟨a34, i34, e34⟩
      F_E_go_out := F35
      b_E_go_out := b35
      m_E_go_out := ⟨a35, i35, e35⟩
      F_E_can_be_answered := F36
      b_E_can_be_answered := b36
      m_E_can_be_answered := ⟨a36, i36, e36⟩
      F_E_answered_up_to := F37
      b_E_answered_up_to := b37
      m_E_answered_up_to := ⟨a37, i37, e37⟩
      F_E_say_wrong := F38
      b_E_say_wrong := b38
      m_E_say_wrong := ⟨a38, i38, e38⟩
      F_E_get_stuck := F39
      b_E_get_stuck := b39
      m_E_get_stuck := ⟨a39, i39, e39⟩
      F_E_is_out := F40
      b_E_is_out := b40
      m_E_is_out := ⟨a40, i40, e40⟩
      F_E_see_to_clock := F41
      b_E_see_to_clock := b41
      m_E_see_to_clock := ⟨a41, i41, e41⟩
      F_d_hear_hello := F42
      b_d_hear_hello := b42
      g_d_hear_hello := PySem.W.mg_of X G a42
      F_d_hear_finish := F43
      b_d_hear_finish := b43
      g_d_hear_finish := PySem.W.mg_of X G a43
      F_d_hear_awaited := F44
      b_d_hear_awaited := b44
      g_d_hear_awaited := PySem.W.mg_of X G a44
      F_d_hear_numbered := F45
      b_d_hear_numbered := b45
      g_d_hear_numbered := PySem.W.mg_of X G a45
      F_d_hear_state := F46
      b_d_hear_state := b46
      g_d_hear_state := PySem.W.mg_of X G a46
      F_d_hear_command := F47
      b_d_hear_command := b47
      g_d_hear_command := PySem.W.mg_of X G a47
      F_d_hear_yes := F48
      b_d_hear_yes := b48
      g_d_hear_yes := PySem.W.mg_of X G a48
      F_d_hear_answer := F49
      b_d_hear_answer := b49
      g_d_hear_answer := PySem.W.mg_of X G a49
      F_d_hear := F50
      b_d_hear := b50
      g_d_hear := PySem.W.mg_of X G a50
      F_d_take_bits := F51
      b_d_take_bits := b51
      g_d_take_bits := PySem.W.mg_of X G a51
      F_X_init := F52
      b_X_init := b52
      F_d_ask := F53
      b_d_ask := b53
      g_d_ask := PySem.W.mg_of X G a53
      F_d_begun := F54
      b_d_begun := b54
      g_d_begun := PySem.W.mg_of X G a54
      F_d_connect := F55
      b_d_connect := b55
      g_d_connect := PySem.W.mg_of X G a55
      F_d_finish := F56
      b_d_finish := b56
      g_d_finish := PySem.W.mg_of X G a56
      F_d_send := F57
      b_d_send := b57
      g_d_send := PySem.W.mg_of X G a57
      F_d_bits := F58
      b_d_bits := b58
      g_d_bits := PySem.W.mg_of X G a58
      F_d_tick := F59
      b_d_tick := b59
      g_d_tick := PySem.W.mg_of X G a59
      F_d_output := F60
      b_d_output := b60
      g_d_output := PySem.W.mg_of X G a60
      F_d_take := F61
      b_d_take := b61
      g_d_take := PySem.W.mg_of X G a61
      F_d_told := F62
      b_d_told := b62
      g_d_told := PySem.W.mg_of X G a62
      F_d_answer_of := F63
      b_d_answer_of := b63
      g_d_answer_of := PySem.W.mg_of X G a63
      F_d_answer_to := F64
      b_d_answer_to := b64
      g_d_answer_to := PySem.W.mg_of X G a64
      F_d_answered := F65
      b_d_answered := b65
      g_d_answered := PySem.W.mg_of X G a65
      F_d_answers := F66
      b_d_answers := b66
      g_d_answers := PySem.W.mg_of X G a66
      iX := a52
      tX := i52 }
end LK
open PySem PySem.W PyProof.Rows
set_option maxRecDepth 100000 in
set_option maxHeartbeats 8000000 in
theorem PySem.Challenge.cw_linekept_s01_answers_holds : PySem.Challenge.rw_linekept_s01_answers.Holds := by
  w_on; k_headS; (case hw => exact ⟨[.list [.int 8, .int 0]], by decide +kernel, by decide +kernel⟩)
  k_fillS
  refine L2.walk_specK (r := PySem.Challenge.rw_linekept_s01_answers) (k := 16) (CX := L2.CX0) (ps := ["calls"]) (sp := fun K => LK.sp_d_answers K ⟨0, 0, 0, 0, 0, 0, 0, 0, 0, 0, 0⟩) (by decide +kernel) rfl rfl ⟨rfl, by decide, by decide⟩ (fun w h Y => PySem.W.kIn_of Y) ?F ?S (fun _ _ _ _ z => z)
  case F =>
    intro w mg fa h Y KX G hmg
    obtain ⟨L, f, hb, T⟩ : ∃ (L : LK.LA) (f : LK.FA), (∀ (s : Shared) (us : List Value), us.length = (["calls"] : List Str).length → BindsTo s f.fd_d_answers ⟨us, []⟩ ((["calls"] : List Str).zip us)) ∧ LK.Txt _ mg L f := by
      refine' LK.txt_mk KX G ?g_F ?g_I ?g_W ?g_E ?g_X ?c_READY ?c_BUSY ?c_AGAIN ?c_HELLO ?c_FINISH ?c_YES ?c_DOWN_ANSWER ?c_WRONG ?c_NUMBERED ?c_UNKNOWN ?c_BIT ?c_NUMBERS ?c_WRONG_BYTES ?c_MOST_LOAD ?c_GOOD ?c_NOT_KNOWN ?c_BYTES ?c_TOO_MANY ?c_CANNOT_BE ?c_FLAG_KEPT ?c_LEAST_BYTES ?c_MOST_BYTES ?c_MOST_KEPT ?c_MOST_WAITING ?c_SUM_BEGIN ?c_SUM_PARTS ?c_DOWN ?c_GREETING ?c_UP ?c_ENDING ?c_STUCK ?c_MOST_MESSAGES ?c_WHOLE_TIME ?c_MANY_ENDS ?c_SEND ?c_BITS ?c_MOST_BITS ?c_MOST_OUT ?c_MOST_MESSAGE ?c_MOST_WINDOW ?c_MOST_TRIES ?c_PLAIN ?l_PLAIN ?c_STATES ?l_STATES ?c_COMMANDS ?l_COMMANDS ?c_ANSWERS ?l_ANSWERS ?c_FLAG ?l_FLAG ?c_MANY_NUMBERS ?l_MANY_NUMBERS ?n_len ?n_max ?n_list ?n_range ?n_reversed ?pg_F ?hd_F ?po_F ?sa_F ?mk_F ?kc_F ?na_F_is_command ?na_F_control ?na_F_load ?pg_I ?hd_I ?po_I ?sa_I ?mk_I ?kc_I ?na_I_lost ?na_I_kept ?na_I_ones ?pg_W ?hd_W ?po_W ?sa_W ?mk_W ?kc_W ?na_W_bits ?pg_E ?hd_E ?po_E ?sa_E ?mk_E ?kc_E ?na_E_commands_out ?na_E_answers_out ?na_E_window ?na_E_patience ?na_E_tries ?na_E_stage ?na_E_sent ?na_E_unsent ?na_E_come ?na_E_wrong ?na_E_listener ?na_E_waiting ?na_E_now ?na_E_s ?na_E_a ?na_E_r ?na_E_other_busy ?na_E_asked_again ?na_E_polls ?na_E_since ?na_E_out ?xL ?sa_X ?ga_X ?gg_X ?nb_X ?kC_X ?eC_X ?tC_X ?hC_X ?iC_X ?sC_X ?a0 ?i0 ?l0 ?d0 ?e0 ?a1 ?i1 ?l1 ?d1 ?e1 ?a2 ?i2 ?l2 ?d2 ?e2 ?a3 ?i3 ?l3 ?d3 ?e3 ?a4 ?i4 ?l4 ?d4 ?e4 ?a5 ?i5 ?l5 ?d5 ?e5 ?a6 ?l6 ?d6 ?e6 ?a7 ?l7 ?d7 ?e7 ?a8 ?l8 ?d8 ?e8 ?a9 ?l9 ?d9 ?e9 ?a10 ?l10 ?d10 ?e10 ?a11 ?l11 ?d11 ?e11 ?a12 ?l12 ?d12 ?e12 ?a13 ?i13 ?l13 ?d13 ?e13 ?a14 ?i14 ?l14 ?d14 ?e14 ?a15 ?i15 ?l15 ?d15 ?e15 ?a16 ?i16 ?l16 ?d16 ?e16 ?a17 ?i17 ?l17 ?d17 ?e17 ?a18 ?i18 ?l18 ?d18 ?e18 ?a19 ?i19 ?l19 ?d19 ?e19 ?a20 ?i20 ?l20 ?d20 ?e20 ?a21 ?i21 ?l21 ?d21 ?e21 ?a22 ?i22 ?l22 ?d22 ?e22 ?a23 ?i23 ?l23 ?d23 ?e23 ?a24 ?i24 ?l24 ?d24 ?e24 ?a25 ?i25 ?l25 ?d25 ?e25 ?a26 ?i26 ?l26 ?d26 ?e26 ?a27 ?i27 ?l27 ?d27 ?e27 ?a28 ?i28 ?l28 ?d28 ?e28 ?a29 ?i29 ?l29 ?d29 ?e29 ?a30 ?i30 ?l30 ?d30 ?e30 ?a31 ?i31 ?l31 ?d31 ?e31 ?a32 ?i32 ?l32 ?d32 ?e32 ?a33 ?i33 ?l33 ?d33 ?e33 ?a34 ?i34 ?l34 ?d34 ?e34 ?a35 ?i35 ?l35 ?d35 ?e35 ?a36 ?i36 ?l36 ?d36 ?e36 ?a37 ?i37 ?l37 ?d37 ?e37 ?a38 ?i38 ?l38 ?d38 ?e38 ?a39 ?i39 ?l39 ?d39 ?e39 ?a40 ?i40 ?l40 ?d40 ?e40 ?a41 ?i41 ?l41 ?d41 ?e41 ?a42 ?l42 ?d42 ?e42 ?a43 ?l43 ?d43 ?e43 ?a44 ?l44 ?d44 ?e44 ?a45 ?l45 ?d45 ?e45 ?a46 ?l46 ?d46 ?e46 ?a47 ?l47 ?d47 ?e47 ?a48 ?l48 ?d48 ?e48 ?a49 ?l49 ?d49 ?e49 ?a50 ?l50 ?d50 ?e50 ?a51 ?l51 ?d51 ?e51 ?a52 ?i52 ?l52 ?d52 ?e52 ?a53 ?l53 ?d53 ?e53 ?a54 ?l54 ?d54 ?e54 ?a55 ?l55 ?d55 ?e55 ?a56 ?l56 ?d56 ?e56 ?a57 ?l57 ?d57 ?e57 ?a58 ?l58 ?d58 ?e58 ?a59 ?l59 ?d59 ?e59 ?a60 ?l60 ?d60 ?e60 ?a61 ?l61 ?d61 ?e61 ?a62 ?l62 ?d62 ?e62 ?a63 ?l63 ?d63 ?e63 ?a64 ?l64 ?d64 ?e64 ?a65 ?l65 ?d65 ?e65 ?a66 ?l66 ?d66 ?e66
      (case g_F => k_is)
      (case g_I => k_is)
      (case g_W => k_is)
      (case g_E => k_is)
      (case g_X => k_is)
      (case c_READY => k_is)
      (case c_BUSY => k_is)
      (case c_AGAIN => k_is)
      (case c_HELLO => k_is)
      (case c_FINISH => k_is)
      (case c_YES => k_is)
      (case c_DOWN_ANSWER => k_is)
      (case c_WRONG => k_is)
      (case c_NUMBERED => k_is)
      (case c_UNKNOWN => k_is)
      (case c_BIT => k_is)
      (case c_NUMBERS => k_is)
      (case c_WRONG_BYTES => k_is)
      (case c_MOST_LOAD => k_is)
      (case c_GOOD => k_is)
      (case c_NOT_KNOWN => k_is)
      (case c_BYTES => k_is)
      (case c_TOO_MANY => k_is)
      (case c_CANNOT_BE => k_is)
      (case c_FLAG_KEPT => k_is)
      (case c_LEAST_BYTES => k_is)
      (case c_MOST_BYTES => k_is)
      (case c_MOST_KEPT => k_is)
      (case c_MOST_WAITING => k_is)
      (case c_SUM_BEGIN => k_is)
      (case c_SUM_PARTS => k_is)
      (case c_DOWN => k_is)
      (case c_GREETING => k_is)
      (case c_UP => k_is)
      (case c_ENDING => k_is)
      (case c_STUCK => k_is)
      (case c_MOST_MESSAGES => k_is)
      (case c_WHOLE_TIME => k_is)
      (case c_MANY_ENDS => k_is)
      (case c_SEND => k_is)
      (case c_BITS => k_is)
      (case c_MOST_BITS => k_is)
      (case c_MOST_OUT => k_is)
      (case c_MOST_MESSAGE => k_is)
      (case c_MOST_WINDOW => k_is)
      (case c_MOST_TRIES => k_is)
      (case c_PLAIN => k_is)
      (case l_PLAIN => k_is)
      (case c_STATES => k_is)
      (case l_STATES => k_is)
      (case c_COMMANDS => k_is)
      (case l_COMMANDS => k_is)
      (case c_ANSWERS => k_is)
      (case l_ANSWERS => k_is)
      (case c_FLAG => k_is)
      (case l_FLAG => k_is)
      (case c_MANY_NUMBERS => k_is)
      (case l_MANY_NUMBERS => k_is)
      (case n_len => k_is)
      (case n_max => k_is)
      (case n_list => k_is)
      (case n_range => k_is)
      (case n_reversed => k_is)
      (case pg_F => k_is)
      (case hd_F => k_is)
      (case po_F => k_is)
      (case sa_F => k_is)
      (case mk_F => k_is)
      (case kc_F => k_is)
      (case na_F_is_command => k_is)
      (case na_F_control => k_is)
      (case na_F_load => k_is)
      (case pg_I => k_is)
      (case hd_I => k_is)
      (case po_I => k_is)
      (case sa_I => k_is)
      (case mk_I => k_is)
      (case kc_I => k_is)
      (case na_I_lost => k_is)
      (case na_I_kept => k_is)
      (case na_I_ones => k_is)
      (case pg_W => k_is)
      (case hd_W => k_is)
      (case po_W => k_is)
      (case sa_W => k_is)
      (case mk_W => k_is)
      (case kc_W => k_is)
      (case na_W_bits => k_is)
      (case pg_E => k_is)
      (case hd_E => k_is)
      (case po_E => k_is)
      (case sa_E => k_is)
      (case mk_E => k_is)
      (case kc_E => k_is)
      (case na_E_commands_out => k_is)
      (case na_E_answers_out => k_is)
      (case na_E_window => k_is)
      (case na_E_patience => k_is)
      (case na_E_tries => k_is)
      (case na_E_stage => k_is)
      (case na_E_sent => k_is)
      (case na_E_unsent => k_is)
      (case na_E_come => k_is)
      (case na_E_wrong => k_is)
      (case na_E_listener => k_is)
      (case na_E_waiting => k_is)
      (case na_E_now => k_is)
      (case na_E_s => k_is)
      (case na_E_a => k_is)
      (case na_E_r => k_is)
      (case na_E_other_busy => k_is)
      (case na_E_asked_again => k_is)
      (case na_E_polls => k_is)
      (case na_E_since => k_is)
      (case na_E_out => k_is)
      (case xL => k_is)
      (case sa_X => k_is)
      (case ga_X => k_is)
      (case gg_X => k_is)
      (case nb_X => k_is)
      (case kC_X => k_is)
      (case eC_X => k_is)
      (case tC_X => k_is)
      (case hC_X => k_is)
      (case iC_X => k_is)
      (case sC_X => first | rfl | k_is)
      (case a0 => k_is)
      (case i0 => k_is)
      (case l0 => k_is)
      (case d0 => k_is)
      (case e0 => k_is)
      (case a1 => k_is)
      (case i1 => k_is)
      (case l1 => k_is)
      (case d1 => k_is)
      (case e1 => k_is)
      (case a2 => k_is)
      (case i2 => k_is)
      (case l2 => k_is)
      (case d2 => k_is)
      (case e2 => k_is)
      (case a3 => k_is)
      (case i3 => k_is)
      (case l3 => k_is)
      (case d3 => k_is)
      (case e3 => k_is)
      (case a4 => k_is)
      (case i4 => k_is)
      (case l4 => k_is)
      (case d4 => k_is)
      (case e4 => k_is)
      (case a5 => k_is)
      (case i5 => k_is)
      (case l5 => k_is)
      (case d5 => k_is)
      (case e5 => k_is)
      (case a6 => k_is)
      (case l6 => k_is)
      (case d6 => k_is)
      (case e6 => k_is)
      (case a7 => k_is)
      (case l7 => k_is)
      (case d7 => k_is)
      (case e7 => k_is)
      (case a8 => k_is)
      (case l8 => k_is)
      (case d8 => k_is)
      (case e8 => k_is)
      (case a9 => k_is)
      (case l9 => k_is)
      (case d9 => k_is)
      (case e9 => k_is)
      (case a10 => k_is)
      (case l10 => k_is)
      (case d10 => k_is)
      (case e10 => k_is)
      (case a11 => k_is)
      (case l11 => k_is)
      (case d11 => k_is)
      (case e11 => k_is)
      (case a12 => k_is)
      (case l12 => k_is)
      (case d12 => k_is)
      (case e12 => k_is)
      (case a13 => k_is)
      (case i13 => k_is)
      (case l13 => k_is)
      (case d13 => k_is)
      (case e13 => k_is)
      (case a14 => k_is)
      (case i14 => k_is)
      (case l14 => k_is)
      (case d14 => k_is)
      (case e14 => k_is)
      (case a15 => k_is)
      (case i15 => k_is)
      (case l15 => k_is)
      (case d15 => k_is)
      (case e15 => k_is)
      (case a16 => k_is)
      (case i16 => k_is)
      (case l16 => k_is)
      (case d16 => k_is)
      (case e16 => k_is)
      (case a17 => k_is)
      (case i17 => k_is)
      (case l17 => k_is)
      (case d17 => k_is)
      (case e17 => k_is)
      (case a18 => k_is)
      (case i18 => k_is)
      (case l18 => k_is)
      (case d18 => k_is)
      (case e18 => k_is)
      (case a19 => k_is)
      (case i19 => k_is)
      (case l19 => k_is)
      (case d19 => k_is)
      (case e19 => k_is)
      (case a20 => k_is)
      (case i20 => k_is)
      (case l20 => k_is)
      (case d20 => k_is)
      (case e20 => k_is)
      (case a21 => k_is)
      (case i21 => k_is)
      (case l21 => k_is)
      (case d21 => k_is)
      (case e21 => k_is)
      (case a22 => k_is)
      (case i22 => k_is)
      (case l22 => k_is)
      (case d22 => k_is)
      (case e22 => k_is)
      (case a23 => k_is)
      (case i23 => k_is)
      (case l23 => k_is)
      (case d23 => k_is)
      (case e23 => k_is)
      (case a24 => k_is)
      (case i24 => k_is)
      (case l24 => k_is)
      (case d24 => k_is)
      (case e24 => k_is)
      (case a25 => k_is)
      (case i25 => k_is)
      (case l25 => k_is)
      (case d25 => k_is)
      (case e25 => k_is)
      (case a26 => k_is)
      (case i26 => k_is)
      (case l26 => k_is)
      (case d26 => k_is)
      (case e26 => k_is)
      (case a27 => k_is)
      (case i27 => k_is)
      (case l27 => k_is)
      (case d27 => k_is)
      (case e27 => k_is)
      (case a28 => k_is)
      (case i28 => k_is)
      (case l28 => k_is)
      (case d28 => k_is)
      (case e28 => k_is)
      (case a29 => k_is)
      (case i29 => k_is)
      (case l29 => k_is)
      (case d29 => k_is)
      (case e29 => k_is)
      (case a30 => k_is)
      (case i30 => k_is)
      (case l30 => k_is)
      (case d30 => k_is)
      (case e30 => k_is)
      (case a31 => k_is)
      (case i31 => k_is)
      (case l31 => k_is)
      (case d31 => k_is)
      (case e31 => k_is)
      (case a32 => k_is)
      (case i32 => k_is)
      (case l32 => k_is)
      (case d32 => k_is)
      (case e32 => k_is)
      (case a33 => k_is)
      (case i33 => k_is)
      (case l33 => k_is)
      (case d33 => k_is)
      (case e33 => k_is)
      (case a34 => k_is)
      (case i34 => k_is)
      (case l34 => k_is)
      (case d34 => k_is)
      (case e34 => k_is)
      (case a35 => k_is)
      (case i35 => k_is)
      (case l35 => k_is)
      (case d35 => k_is)
      (case e35 => k_is)
      (case a36 => k_is)
      (case i36 => k_is)
      (case l36 => k_is)
      (case d36 => k_is)
      (case e36 => k_is)
      (case a37 => k_is)
      (case i37 => k_is)
      (case l37 => k_is)
      (case d37 => k_is)
      (case e37 => k_is)
      (case a38 => k_is)
      (case i38 => k_is)
      (case l38 => k_is)
      (case d38 => k_is)
      (case e38 => k_is)
      (case a39 => k_is)
      (case i39 => k_is)
      (case l39 => k_is)
      (case d39 => k_is)
      (case e39 => k_is)
      (case a40 => k_is)
      (case i40 => k_is)
      (case l40 => k_is)
      (case d40 => k_is)
      (case e40 => k_is)
      (case a41 => k_is)
      (case i41 => k_is)
      (case l41 => k_is)
      (case d41 => k_is)
      (case e41 => k_is)
      (case a42 => k_is)
      (case l42 => k_is)
      (case d42 => k_is)
      (case e42 => k_is)
      (case a43 => k_is)
      (case l43 => k_is)
      (case d43 => k_is)
      (case e43 => k_is)
      (case a44 => k_is)
      (case l44 => k_is)
      (case d44 => k_is)
      (case e44 => k_is)
      (case a45 => k_is)
      (case l45 => k_is)
      (case d45 => k_is)
      (case e45 => k_is)
      (case a46 => k_is)
      (case l46 => k_is)
      (case d46 => k_is)
      (case e46 => k_is)
      (case a47 => k_is)
      (case l47 => k_is)
      (case d47 => k_is)
      (case e47 => k_is)
      (case a48 => k_is)
      (case l48 => k_is)
      (case d48 => k_is)
      (case e48 => k_is)
      (case a49 => k_is)
      (case l49 => k_is)
      (case d49 => k_is)
      (case e49 => k_is)
      (case a50 => k_is)
      (case l50 => k_is)
      (case d50 => k_is)
      (case e50 => k_is)
      (case a51 => k_is)
      (case l51 => k_is)
      (case d51 => k_is)
      (case e51 => k_is)
      (case a52 => k_is)
      (case i52 => k_is)
      (case l52 => k_is)
      (case d52 => k_is)
      (case e52 => k_is)
      (case a53 => k_is)
      (case l53 => k_is)
      (case d53 => k_is)
      (case e53 => k_is)
      (case a54 => k_is)
      (case l54 => k_is)
      (case d54 => k_is)
      (case e54 => k_is)
      (case a55 => k_is)
      (case l55 => k_is)
      (case d55 => k_is)
      (case e55 => k_is)
      (case a56 => k_is)
      (case l56 => k_is)
      (case d56 => k_is)
      (case e56 => k_is)
      (case a57 => k_is)
      (case l57 => k_is)
      (case d57 => k_is)
      (case e57 => k_is)
      (case a58 => k_is)
      (case l58 => k_is)
      (case d58 => k_is)
      (case e58 => k_is)
      (case a59 => k_is)
      (case l59 => k_is)
      (case d59 => k_is)
      (case e59 => k_is)
      (case a60 => k_is)
      (case l60 => k_is)
      (case d60 => k_is)
      (case e60 => k_is)
      (case a61 => k_is)
      (case l61 => k_is)
      (case d61 => k_is)
      (case e61 => k_is)
      (case a62 => k_is)
      (case l62 => k_is)
      (case d62 => k_is)
      (case e62 => k_is)
      (case a63 => k_is)
      (case l63 => k_is)
      (case d63 => k_is)
      (case e63 => k_is)
      (case a64 => k_is)
      (case l64 => k_is)
      (case d64 => k_is)
      (case e64 => k_is)
      (case a65 => k_is)
      (case l65 => k_is)
      (case d65 => k_is)
      (case e65 => k_is)
      (case a66 => k_is)
      (case l66 => k_is)
      (case d66 => k_is)
      (case e66 => k_is)
    cases hmg.symm.trans T.g_d_answers
    refine ⟨f.fd_d_answers, hb, fun base _ _ => ?_⟩
    show L2.FnOk _ _ _ _ _ _ _ _ _ _ (LK.sp_d_answers _ L)
    exact LK.ok_d_answers T
  case S =>
    -- a request: its one list of numbers
    intro K H xs a hO hwi hask hx
    cases hx with
    | cons h1 h2 =>
      cases h2
      cases h1 with
      | lst hs ha =>
        have e := L2.ints_dw a.1 _ ha
        subst e
        have q : ((Codec.inLen 0 30000 a.1 && a.1.all (Codec.inInt (-2147483648) 4294967295)) && true) = true := hwi
        rw [Bool.and_eq_true, Bool.and_eq_true] at q
        exact ⟨_, a.1, rfl, hs, hO, hask, (Codec.inNat_iff.mp q.1.1).2, fun H' p hp => .lst (L2.SqL.of hp) (L2.dw_ints _)⟩
