import PyProof.Rows.All
import Wide.All
import OpenK.AllK
import Wide.FinOn
import HandS.ForMost
import HandS.TupAny
import HandS.Rev
import HandS.Codes
import PySem.Challenge.RW_litmuscore_k60_whole_order_of_execution
set_option Elab.async false
set_option linter.all false
set_option maxRecDepth 100000
set_option maxHeartbeats 4000000
/-! The order in which instructions of a pipeline are executed does not matter: the law's run over the given program ends in True for every script. -/

/-! The mathematics of the order of execution: no program in sight. -/
namespace KM
inductive Op | add | sub | mul | and | or | xor | slt | sltu
  deriving DecidableEq
inductive Rel | eq | ne | lt | ge | ltu | geu
  deriving DecidableEq
inductive Fen | loads | stores | full | slot
  deriving DecidableEq
/-- an instruction; registers, words and targets are whole numbers -/
inductive Ins
  | op (o : Op) (rd ra rb : Int)
  | addi (rd ra n : Int)
  | load (rd ra n : Int)
  | store (rb ra n : Int)
  | swap (rd ra rb : Int)
  | fadd (rd ra rb : Int)
  | ll (rd ra : Int)
  | sc (rd ra rb : Int)
  | fence (x : Fen)
  | branch (r : Rel) (ra rb t : Int)
  | jump (t : Int)
  | halt
def Reg (n : Int) : Prop := 0 ≤ n ∧ n < 8
def Wd (n : Int) : Prop := 0 ≤ n ∧ n < 65536
def Tgt (n : Int) : Prop := 0 ≤ n ∧ n ≤ 24
def Ins.Ok : Ins → Prop
  | .op _ d a b => Reg d ∧ Reg a ∧ Reg b
  | .addi d a n => Reg d ∧ Reg a ∧ Wd n
  | .load d a n => Reg d ∧ Reg a ∧ Wd n
  | .store d a n => Reg d ∧ Reg a ∧ Wd n
  | .swap d a b => Reg d ∧ Reg a ∧ Reg b
  | .fadd d a b => Reg d ∧ Reg a ∧ Reg b
  | .ll d a => Reg d ∧ Reg a
  | .sc d a b => Reg d ∧ Reg a ∧ Reg b
  | .fence _ => True
  | .branch _ a b t => Reg a ∧ Reg b ∧ Tgt t
  | .jump t => Tgt t
  | .halt => True
/-- the instructions that are executed ahead of their commit -/
def Ins.exe : Ins → Bool
  | .op .. | .addi .. | .branch .. | .jump .. => true
  | _ => false
/-- the register that is written, or none -/
def Ins.rd : Ins → Option Int
  | .op _ d _ _ | .addi d _ _ | .load d _ _ | .swap d _ _ | .fadd d _ _ | .ll d _ | .sc d _ _ => some d
  | _ => none
def Ins.dest (i : Ins) : Option Int := match i.rd with
  | some d => if d = 0 then none else some d
  | none => none
inductive Place | no | out | at (a : Int)
structure Ent where
  pc : Int
  ins : Option Ins
  succ : Int
  pred : Option Int
  res : Option Int
  place : Place
  time : Option Int
def Ent.avail (e : Ent) : Option Int := match e.res with
  | some r => some r
  | none => e.pred
def Ent.dest (e : Ent) : Option Int := match e.ins with
  | some i => i.dest
  | none => none

def sgn (w : Int) : Int := if w < 32768 then w else w - 65536
def b2 (b : Bool) : Int := if b then 1 else 0

section
/- the three bitwise operations are given from outside; of them only that words stay words is asked -/
variable (band bor bxor : Int → Int → Int)
def Op.run : Op → Int → Int → Int
  | .add, a, b => (a + b) % 65536
  | .sub, a, b => (a - b) % 65536
  | .mul, a, b => (a * b) % 65536
  | .and, a, b => band a b
  | .or, a, b => bor a b
  | .xor, a, b => bxor a b
  | .slt, a, b => b2 (decide (sgn a < sgn b))
  | .sltu, a, b => b2 (decide (a < b))
end
def Rel.holds : Rel → Int → Int → Bool
  | .eq, a, b => decide (a = b)
  | .ne, a, b => !decide (a = b)
  | .lt, a, b => decide (sgn a < sgn b)
  | .ge, a, b => decide (sgn b ≤ sgn a)
  | .ltu, a, b => decide (a < b)
  | .geu, a, b => decide (b ≤ a)

/-- the operand: the youngest of the older entries that writes the register has it, else the committed state -/
def pick (n : Int) (v : Option Int) (e : Ent) : Option Int := if e.dest = some n then e.avail else v
def opnd (regs : List Int) (pre : List Ent) (n : Int) : Option Int := pre.foldl (pick n) (some (regs.getD n.toNat 0))

section
variable (band bor bxor : Int → Int → Int)
/-- what an entry becomes, if it can be executed behind the older ones -/
def exec1 (regs : List Int) (pre : List Ent) (e : Ent) : Option Ent :=
  match e.ins, e.res with
  | some (.op o d a b), none => match opnd regs pre a, opnd regs pre b with
    | some x, some y => some { e with succ := e.pc + 1, res := some (o.run band bor bxor x y) }
    | _, _ => none
  | some (.addi d a n), none => match opnd regs pre a with
    | some x => some { e with succ := e.pc + 1, res := some ((x + n) % 65536) }
    | none => none
  | some (.branch r a b t), none => match opnd regs pre a, opnd regs pre b with
    | some x, some y => some { e with succ := if r.holds x y = true then t else e.pc + 1, res := some 0 }
    | _, _ => none
  | some (.jump t), none => some { e with succ := t, res := some 0 }
  | _, _ => none
/-- behind the executed entry the younger ones stay if the prediction was right -/
def tailOf (e e' : Ent) (r : List Ent) : List Ent := if e'.succ = e.succ then r else []
def execAt (regs : List Int) (es : List Ent) (i : Nat) : Option (List Ent) := match es[i]? with
  | none => none
  | some e => match exec1 band bor bxor regs (es.take i) e with
    | none => none
    | some e' => some (es.take i ++ e' :: tailOf e e' (es.drop (i + 1)))
/-- one pass from the oldest to the youngest -/
def passN (regs : List Int) : Nat → Nat → List Ent → List Ent
  | _, 0, es => es
  | i, n + 1, es => passN regs (i + 1) n ((execAt band bor bxor regs es i).getD es)
/-- what every row comes to -/
def nf (regs : List Int) (pre : List Ent) : List Ent → List Ent
  | [] => []
  | e :: r => match exec1 band bor bxor regs pre e with
    | none => e :: nf regs (pre ++ [e]) r
    | some e' => if e'.succ = e.succ then e' :: nf regs (pre ++ [e']) r else [e']
end

def OWd : Option Int → Prop
  | none => True
  | some n => Wd n
def Place.Ok : Place → Prop
  | .at a => 0 ≤ a ∧ a ≤ 100
  | _ => True
def OTm : Option Int → Prop
  | none => True
  | some n => 0 ≤ n ∧ n ≤ 100
structure Ent.Ok (e : Ent) : Prop where
  pc : 0 ≤ e.pc ∧ e.pc ≤ 100
  ins : ∀ i, e.ins = some i → i.Ok
  succ : 0 ≤ e.succ ∧ e.succ ≤ 101
  pred : OWd e.pred
  res : OWd e.res
  place : e.place.Ok
  time : OTm e.time
  exe : ∀ i, e.ins = some i → i.exe = true → e.pred = none
def AllOk (es : List Ent) : Prop := ∀ e ∈ es, e.Ok
def Regs (regs : List Int) : Prop := regs.length = 8 ∧ (∀ w ∈ regs, Wd w) ∧ regs.getD 0 0 = 0

/-! ### operands -/
theorem dest_ne0 {i : Ins} {d : Int} (h : i.dest = some d) : d ≠ 0 := by
  unfold Ins.dest at h
  split at h
  · split at h
    · cases h
    · rename_i hd
      cases h
      exact hd
  · cases h
theorem edest_ne0 {e : Ent} {d : Int} (h : e.dest = some d) : d ≠ 0 := by
  unfold Ent.dest at h
  split at h
  · exact dest_ne0 h
  · cases h
theorem foldl_none {n : Int} : ∀ {pre : List Ent} {v : Option Int}, (∀ e ∈ pre, e.dest ≠ some n) → pre.foldl (pick n) v = v
  | [], _, _ => rfl
  | e :: r, v, h => by
    rw [List.foldl_cons, show pick n v e = v from if_neg (h e List.mem_cons_self)]
    exact foldl_none fun x hx => h x (List.mem_cons_of_mem _ hx)
theorem opnd_zero {regs : List Int} (hR : Regs regs) (pre : List Ent) : opnd regs pre 0 = some 0 := by
  unfold opnd
  rw [foldl_none fun e _ h => edest_ne0 h rfl]
  show some (regs.getD 0 0) = _
  rw [hR.2.2]
theorem opnd_hit {regs : List Int} {n : Int} {pre post : List Ent} {e : Ent} (he : e.dest = some n) (h : ∀ x ∈ post, x.dest ≠ some n) : opnd regs (pre ++ e :: post) n = e.avail := by
  unfold opnd
  rw [List.foldl_append, List.foldl_cons, foldl_none h]
  exact if_pos he
theorem opnd_miss {regs : List Int} {n : Int} {pre : List Ent} (h : ∀ x ∈ pre, x.dest ≠ some n) : opnd regs pre n = some (regs.getD n.toNat 0) := foldl_none h
theorem avail_wd {e : Ent} (h : e.Ok) : OWd e.avail := by
  unfold Ent.avail
  have h1 := h.res
  have h2 := h.pred
  revert h1 h2
  cases e.res <;> cases e.pred <;> intro h1 h2 <;> first | exact h1 | exact h2 | trivial
theorem foldl_wd {n : Int} : ∀ {pre : List Ent} {v : Option Int}, AllOk pre → OWd v → OWd (pre.foldl (pick n) v)
  | [], _, _, h => h
  | e :: r, v, h, hv => by
    rw [List.foldl_cons]
    refine foldl_wd (fun x hx => h x (List.mem_cons_of_mem _ hx)) ?_
    unfold pick
    split
    · exact avail_wd (h e List.mem_cons_self)
    · exact hv
theorem regs_wd {regs : List Int} (hR : Regs regs) {n : Int} (h : Reg n) : Wd (regs.getD n.toNat 0) := by
  have hn : n.toNat < regs.length := by
    rw [hR.1]
    have h1 := h.1
    have h2 := h.2
    omega
  have e : regs.getD n.toNat 0 = regs[n.toNat] := by
    rw [List.getD_eq_getElem?_getD, List.getElem?_eq_getElem hn]
    rfl
  rw [e]
  exact hR.2.1 _ (List.getElem_mem hn)
theorem opnd_wd {regs : List Int} (hR : Regs regs) {pre : List Ent} (hp : AllOk pre) {n : Int} (h : Reg n) {x : Int} (e : opnd regs pre n = some x) : Wd x := by
  have q : OWd (opnd regs pre n) := foldl_wd hp (regs_wd hR h)
  rw [e] at q
  exact q

/-! ### words stay words -/
theorem wd_mod (a : Int) : Wd (a % 65536) := ⟨Int.emod_nonneg _ (by decide), Int.emod_lt_of_pos _ (by decide)⟩
theorem wd_b2 (b : Bool) : Wd (b2 b) := by cases b <;> exact ⟨by decide, by decide⟩
structure Bits (band bor bxor : Int → Int → Int) : Prop where
  and : ∀ a b, Wd a → Wd b → Wd (band a b)
  or : ∀ a b, Wd a → Wd b → Wd (bor a b)
  xor : ∀ a b, Wd a → Wd b → Wd (bxor a b)
section
variable {band bor bxor : Int → Int → Int}
theorem run_wd (B : Bits band bor bxor) (o : Op) {a b : Int} (ha : Wd a) (hb : Wd b) : Wd (o.run band bor bxor a b) := by
  cases o
  · exact wd_mod _
  · exact wd_mod _
  · exact wd_mod _
  · exact B.and _ _ ha hb
  · exact B.or _ _ ha hb
  · exact B.xor _ _ ha hb
  · exact wd_b2 _
  · exact wd_b2 _

/-! ### one step -/
/-- what an executed entry keeps -/
structure Kept (e e' : Ent) : Prop where
  pc : e'.pc = e.pc
  ins : e'.ins = e.ins
  pred : e'.pred = e.pred
  place : e'.place = e.place
  time : e'.time = e.time
  was : e.res = none
  now : e'.res ≠ none
  exe : ∃ i, e.ins = some i ∧ i.exe = true
theorem exec1_kept {regs : List Int} {pre : List Ent} {e e' : Ent} (h : exec1 band bor bxor regs pre e = some e') : Kept e e' := by
  unfold exec1 at h
  split at h
  · rename_i hi hr
    split at h
    · cases h
      exact ⟨rfl, rfl, rfl, rfl, rfl, hr, (fun q => nomatch q), _, hi, rfl⟩
    · cases h
  · rename_i hi hr
    split at h
    · cases h
      exact ⟨rfl, rfl, rfl, rfl, rfl, hr, (fun q => nomatch q), _, hi, rfl⟩
    · cases h
  · rename_i hi hr
    split at h
    · cases h
      exact ⟨rfl, rfl, rfl, rfl, rfl, hr, (fun q => nomatch q), _, hi, rfl⟩
    · cases h
  · rename_i hi hr
    cases h
    exact ⟨rfl, rfl, rfl, rfl, rfl, hr, (fun q => nomatch q), _, hi, rfl⟩
  · cases h
theorem exec1_ready {regs : List Int} {pre : List Ent} {e : Ent} (h : e.res ≠ none) : exec1 band bor bxor regs pre e = none := by
  cases q : exec1 band bor bxor regs pre e with
  | none => rfl
  | some e' => exact absurd (exec1_kept q).was h
theorem exec1_ok (B : Bits band bor bxor) {regs : List Int} (hR : Regs regs) {pre : List Ent} (hp : AllOk pre) {e e' : Ent} (he : e.Ok) (h : exec1 band bor bxor regs pre e = some e') : e'.Ok := by
  have k := exec1_kept h
  have h1 := he.pc
  have nx : 0 ≤ e.pc + 1 ∧ e.pc + 1 ≤ 101 := ⟨by omega, by omega⟩
  have z0 : Wd 0 := ⟨by decide, by decide⟩
  have fin : (0 ≤ e'.succ ∧ e'.succ ≤ 101) → OWd e'.res → e'.Ok := fun a b =>
    ⟨by rw [k.pc]; exact he.pc, by rw [k.ins]; exact he.ins, a, by rw [k.pred]; exact he.pred, b, by rw [k.place]; exact he.place, by rw [k.time]; exact he.time, by rw [k.ins, k.pred]; exact he.exe⟩
  unfold exec1 at h
  split at h
  · rename_i hi hr
    have hio := he.ins _ hi
    split at h
    · rename_i x y hx hy
      cases h
      exact fin nx (run_wd B _ (opnd_wd hR hp hio.2.1 hx) (opnd_wd hR hp hio.2.2 hy))
    · cases h
  · rename_i hi hr
    split at h
    · cases h
      exact fin nx (wd_mod _)
    · cases h
  · rename_i hi hr
    have hio := he.ins _ hi
    split at h
    · cases h
      refine fin ?_ z0
      dsimp only
      split
      · exact ⟨hio.2.2.1, by have := hio.2.2.2; omega⟩
      · exact nx
    · cases h
  · rename_i hi hr
    have hio : Tgt _ := he.ins _ hi
    cases h
    refine fin ?_ z0
    dsimp only
    exact ⟨hio.1, by have := hio.2; omega⟩
  · cases h

/-! ### a step of an older entry does not change what a younger one can do -/
/-- ctx' is ctx with some entries executed -/
inductive Upto : List Ent → List Ent → Prop
  | nil : Upto [] []
  | same (e : Ent) {l l' : List Ent} : Upto l l' → Upto (e :: l) (e :: l')
  | more {e e' : Ent} {l l' : List Ent} : Kept e e' → e.pred = none → Upto l l' → Upto (e :: l) (e' :: l')
theorem Upto.refl : ∀ l : List Ent, Upto l l
  | [] => .nil
  | e :: r => .same e (Upto.refl r)
theorem Upto.snoc {l l' : List Ent} (h : Upto l l') {m m' : List Ent} (k : Upto m m') : Upto (l ++ m) (l' ++ m') := by
  induction h with
  | nil => exact k
  | same e _ ih => exact .same e ih
  | more a b _ ih => exact .more a b ih
theorem upto_foldl {n : Int} {l l' : List Ent} (h : Upto l l') : ∀ {v v' : Option Int}, (v = v' ∨ v = none) → (l.foldl (pick n) v = l'.foldl (pick n) v' ∨ l.foldl (pick n) v = none) := by
  induction h with
  | nil => intro v v' h; exact h
  | same e _ ih =>
    intro v v' h
    rw [List.foldl_cons, List.foldl_cons]
    refine ih ?_
    unfold pick
    split
    · exact .inl rfl
    · exact h
  | more a b _ ih =>
    rename_i e e' l l' _
    intro v v' h
    rw [List.foldl_cons, List.foldl_cons]
    refine ih ?_
    have hd : e'.dest = e.dest := by unfold Ent.dest; rw [a.ins]
    unfold pick
    rw [hd]
    split
    · refine .inr ?_
      unfold Ent.avail
      rw [a.was]
      exact b
    · exact h
theorem upto_opnd {regs : List Int} {l l' : List Ent} (h : Upto l l') {n x : Int} (e : opnd regs l n = some x) : opnd regs l' n = some x := by
  rcases upto_foldl (n := n) h (v := some (regs.getD n.toNat 0)) (.inl rfl) with q | q
  · exact q.symm.trans e
  · have e' : l.foldl (pick n) (some (regs.getD n.toNat 0)) = some x := e
    rw [q] at e'
    cases e'
theorem upto_exec1 {regs : List Int} {l l' : List Ent} (h : Upto l l') {e e' : Ent} (q : exec1 band bor bxor regs l e = some e') : exec1 band bor bxor regs l' e = some e' := by
  unfold exec1 at q ⊢
  split at q
  · split at q
    · rename_i hx hy
      rw [upto_opnd h hx, upto_opnd h hy]
      exact q
    · cases q
  · split at q
    · rename_i hx
      rw [upto_opnd h hx]
      exact q
    · cases q
  · split at q
    · rename_i hx hy
      rw [upto_opnd h hx, upto_opnd h hy]
      exact q
    · cases q
  · exact q
  · cases q

/-! ### the row -/
/-- one action at place i behind the context pre -/
def execIn (band bor bxor : Int → Int → Int) (regs : List Int) (pre : List Ent) : List Ent → Nat → Option (List Ent)
  | [], _ => none
  | e :: r, 0 => match exec1 band bor bxor regs pre e with
    | none => none
    | some e' => some (e' :: tailOf e e' r)
  | e :: r, i + 1 => match execIn band bor bxor regs (pre ++ [e]) r i with
    | none => none
    | some r' => some (e :: r')
theorem execIn_eq {regs : List Int} : ∀ (es pre : List Ent) (i : Nat), execIn band bor bxor regs pre es i = match es[i]? with
    | none => none
    | some e => match exec1 band bor bxor regs (pre ++ es.take i) e with
      | none => none
      | some e' => some (es.take i ++ e' :: tailOf e e' (es.drop (i + 1)))
  | [], _, _ => rfl
  | e :: r, pre, 0 => by
    show (match exec1 band bor bxor regs pre e with | none => none | some e' => some (e' :: tailOf e e' r)) = (match exec1 band bor bxor regs (pre ++ []) e with | none => none | some e' => some (e' :: tailOf e e' r))
    rw [List.append_nil]
  | e :: r, pre, i + 1 => by
    show (match execIn band bor bxor regs (pre ++ [e]) r i with | none => none | some r' => some (e :: r')) = _
    rw [execIn_eq r (pre ++ [e]) i]
    rw [List.getElem?_cons_succ, List.take_succ_cons, List.drop_succ_cons, List.append_assoc, List.singleton_append]
    cases r[i]? with
    | none => rfl
    | some x =>
      dsimp only
      cases exec1 band bor bxor regs (pre ++ e :: r.take i) x <;> rfl
theorem execAt_in {regs : List Int} (es : List Ent) (i : Nat) : execAt band bor bxor regs es i = execIn band bor bxor regs [] es i := by
  rw [execIn_eq]
  rfl
theorem allOk_cons {e : Ent} {r : List Ent} (h : AllOk (e :: r)) : e.Ok ∧ AllOk r := ⟨h e List.mem_cons_self, fun x hx => h x (List.mem_cons_of_mem _ hx)⟩
theorem kept_pred {e e' : Ent} (h : e.Ok) (k : Kept e e') : e.pred = none := by
  obtain ⟨i, h1, h2⟩ := k.exe
  exact h.exe i h1 h2
/-- an action does not change what the row comes to -/
theorem nf_step {regs : List Int} : ∀ (es pre pre' : List Ent) (i : Nat) (es' : List Ent), AllOk es → Upto pre pre' → execIn band bor bxor regs pre es i = some es' → nf band bor bxor regs pre' es' = nf band bor bxor regs pre' es
  | [], _, _, _, _, _, _, h => nomatch h
  | e :: r, pre, pre', 0, es', ok, u, h => by
    unfold execIn at h
    split at h
    · cases h
    · rename_i e' q
      cases h
      have q' := upto_exec1 u q
      have k := exec1_kept q
      show (match exec1 band bor bxor regs pre' e' with | none => _ | some x => _) = (match exec1 band bor bxor regs pre' e with | none => _ | some x => _)
      rw [exec1_ready k.now, q']
      show e' :: nf band bor bxor regs (pre' ++ [e']) (tailOf e e' r) = if e'.succ = e.succ then e' :: nf band bor bxor regs (pre' ++ [e']) r else [e']
      unfold tailOf
      split
      · rfl
      · rfl
  | e :: r, pre, pre', i + 1, es', ok, u, h => by
    unfold execIn at h
    split at h
    · cases h
    · rename_i r' q
      cases h
      obtain ⟨oe, orr⟩ := allOk_cons ok
      show (match exec1 band bor bxor regs pre' e with | none => _ | some x => _) = (match exec1 band bor bxor regs pre' e with | none => _ | some x => _)
      cases z : exec1 band bor bxor regs pre' e with
      | none =>
        show e :: _ = e :: _
        rw [nf_step r (pre ++ [e]) (pre' ++ [e]) i r' orr (u.snoc (Upto.refl _)) q]
      | some e' =>
        show (if e'.succ = e.succ then e' :: _ else [e']) = (if e'.succ = e.succ then e' :: _ else [e'])
        have k := exec1_kept z
        rw [nf_step r (pre ++ [e]) (pre' ++ [e']) i r' orr (u.snoc (.more k (kept_pred oe k) .nil)) q]
/-- where nothing can be executed the row has come to its end -/
theorem nf_stuck {regs : List Int} : ∀ (es pre : List Ent), (∀ i, execIn band bor bxor regs pre es i = none) → nf band bor bxor regs pre es = es
  | [], _, _ => rfl
  | e :: r, pre, h => by
    have h0 := h 0
    unfold execIn at h0
    show (match exec1 band bor bxor regs pre e with | none => _ | some x => _) = _
    cases z : exec1 band bor bxor regs pre e with
    | some x => rw [z] at h0; cases h0
    | none =>
      show e :: nf band bor bxor regs (pre ++ [e]) r = e :: r
      rw [nf_stuck r (pre ++ [e]) fun i => ?_]
      have hi := h (i + 1)
      unfold execIn at hi
      cases y : execIn band bor bxor regs (pre ++ [e]) r i with
      | none => rfl
      | some x => rw [y] at hi; cases hi
/-- how many may still be executed -/
def left : List Ent → Nat
  | [] => 0
  | e :: r => (match e.ins, e.res with
    | some i, none => if i.exe = true then 1 else 0
    | _, _ => 0) + left r
theorem left_le : ∀ es : List Ent, left es ≤ es.length
  | [] => Nat.le_refl _
  | e :: r => by
    have := left_le r
    have h : (match e.ins, e.res with
    | some i, none => if i.exe = true then 1 else 0
    | _, _ => 0) ≤ 1 := by
      split
      · split <;> decide
      · decide
    show _ + left r ≤ r.length + 1
    omega
theorem left_tail (e e' : Ent) (r : List Ent) : left (tailOf e e' r) ≤ left r := by
  unfold tailOf
  split
  · exact Nat.le_refl _
  · exact Nat.zero_le _
theorem left_step {regs : List Int} : ∀ (es pre : List Ent) (i : Nat) (es' : List Ent), execIn band bor bxor regs pre es i = some es' → left es' < left es
  | [], _, _, _, h => nomatch h
  | e :: r, pre, 0, es', h => by
    unfold execIn at h
    split at h
    · cases h
    · rename_i e' q
      cases h
      have k := exec1_kept q
      obtain ⟨j, h1, h2⟩ := k.exe
      have e1 : left (e :: r) = 1 + left r := by
        show (match e.ins, e.res with
          | some i, none => if i.exe = true then 1 else 0
          | _, _ => 0) + left r = _
        rw [h1, k.was]
        show (if j.exe = true then 1 else 0) + left r = _
        rw [if_pos h2]
      have e2 : left (e' :: tailOf e e' r) = left (tailOf e e' r) := by
        have hn := k.now
        show (match e'.ins, e'.res with
          | some i, none => if i.exe = true then 1 else 0
          | _, _ => 0) + left (tailOf e e' r) = _
        cases z : e'.res with
        | none => exact absurd z hn
        | some v => cases e'.ins <;> exact Nat.zero_add _
      have := left_tail e e' r
      omega
  | e :: r, pre, i + 1, es', h => by
    unfold execIn at h
    split at h
    · cases h
    · rename_i r' q
      cases h
      have := left_step r (pre ++ [e]) i r' q
      show _ + left r' < _ + left r
      omega
theorem left_stuck {regs : List Int} : ∀ (es pre : List Ent), left es = 0 → ∀ i, execIn band bor bxor regs pre es i = none := fun es pre h i => by
  cases q : execIn band bor bxor regs pre es i with
  | none => rfl
  | some x =>
    have := left_step es pre i x q
    omega
theorem execIn_ok (B : Bits band bor bxor) {regs : List Int} (hR : Regs regs) : ∀ (es pre : List Ent) (i : Nat) (es' : List Ent), AllOk pre → AllOk es → execIn band bor bxor regs pre es i = some es' → AllOk es' ∧ es'.length ≤ es.length
  | [], _, _, _, _, _, h => nomatch h
  | e :: r, pre, 0, es', op, ok, h => by
    unfold execIn at h
    split at h
    · cases h
    · rename_i e' q
      cases h
      obtain ⟨oe, orr⟩ := allOk_cons ok
      have o' := exec1_ok B hR op oe q
      constructor
      · intro x hx
        rcases List.mem_cons.mp hx with rfl | hx
        · exact o'
        · unfold tailOf at hx
          split at hx
          · exact orr x hx
          · exact nomatch hx
      · show (tailOf e e' r).length + 1 ≤ r.length + 1
        unfold tailOf
        split
        · exact Nat.le_refl _
        · exact Nat.succ_le_succ (Nat.zero_le _)
  | e :: r, pre, i + 1, es', op, ok, h => by
    unfold execIn at h
    split at h
    · cases h
    · rename_i r' q
      cases h
      obtain ⟨oe, orr⟩ := allOk_cons ok
      obtain ⟨h1, h2⟩ := execIn_ok B hR r (pre ++ [e]) i r' (fun x hx => by
        rcases List.mem_append.mp hx with hx | hx
        · exact op x hx
        · rcases List.mem_singleton.mp hx with rfl
          exact oe) orr q
      constructor
      · intro x hx
        rcases List.mem_cons.mp hx with rfl | hx
        · exact oe
        · exact h1 x hx
      · exact Nat.succ_le_succ h2
/-- one turn of a row: some possible action, or nothing where there is none -/
def Turn (band bor bxor : Int → Int → Int) (regs : List Int) (es es' : List Ent) : Prop :=
  (∃ i, i < es.length ∧ execAt band bor bxor regs es i = some es') ∨ ((∀ i, execAt band bor bxor regs es i = none) ∧ es' = es)
/-- behind k turns of a row over es₀ -/
structure RowAt (band bor bxor : Int → Int → Int) (regs : List Int) (es₀ : List Ent) (k : Nat) (es : List Ent) : Prop where
  ok : AllOk es
  len : es.length ≤ es₀.length
  nf : nf band bor bxor regs [] es = nf band bor bxor regs [] es₀
  left : k + left es ≤ es₀.length ∨ ∀ i, execAt band bor bxor regs es i = none
theorem RowAt.start {regs : List Int} {es : List Ent} (h : AllOk es) : RowAt band bor bxor regs es 0 es := ⟨h, Nat.le_refl _, rfl, .inl (by rw [Nat.zero_add]; exact left_le _)⟩
theorem RowAt.turn (B : Bits band bor bxor) {regs : List Int} (hR : Regs regs) {es₀ es es' : List Ent} {k : Nat} (h : RowAt band bor bxor regs es₀ k es) (t : Turn band bor bxor regs es es') : RowAt band bor bxor regs es₀ (k + 1) es' := by
  rcases t with ⟨i, _, q⟩ | ⟨q, rfl⟩
  · rw [execAt_in] at q
    obtain ⟨h1, h2⟩ := execIn_ok B hR es [] i es' (fun x hx => nomatch hx) h.ok q
    refine ⟨h1, Nat.le_trans h2 h.len, (nf_step es [] [] i es' h.ok .nil q).trans h.nf, .inl ?_⟩
    have hl := left_step es [] i es' q
    rcases h.left with z | z
    · omega
    · have z' := z i
      rw [execAt_in, q] at z'
      cases z'
  · exact ⟨h.ok, h.len, h.nf, .inr q⟩
theorem RowAt.done {regs : List Int} {es₀ es : List Ent} (h : RowAt band bor bxor regs es₀ es₀.length es) : (∀ i, execAt band bor bxor regs es i = none) ∧ es = KM.nf band bor bxor regs [] es₀ := by
  have st : ∀ i, execAt band bor bxor regs es i = none := by
    rcases h.left with z | z
    · intro i
      rw [execAt_in]
      exact left_stuck es [] (by omega) i
    · exact z
  refine ⟨st, ?_⟩
  rw [← h.nf]
  exact (nf_stuck es [] fun i => by rw [← execAt_in]; exact st i).symm
/-! ### one pass -/
theorem execAt_at {regs : List Int} (pre : List Ent) (e : Ent) (r : List Ent) : execAt band bor bxor regs (pre ++ e :: r) pre.length = match exec1 band bor bxor regs pre e with
    | none => none
    | some e' => some (pre ++ e' :: tailOf e e' r) := by
  unfold execAt
  have h1 : (pre ++ e :: r)[pre.length]? = some e := by
    rw [List.getElem?_append_right (Nat.le_refl _), Nat.sub_self]
    rfl
  have h2 : (pre ++ e :: r).take pre.length = pre := List.take_left
  have h3 : (pre ++ e :: r).drop (pre.length + 1) = r := by
    rw [List.drop_append, List.drop_of_length_le (Nat.le_succ _), Nat.add_sub_cancel_left]
    rfl
  rw [h1, h2, h3]
theorem execAt_end {regs : List Int} {es : List Ent} {i : Nat} (h : es.length ≤ i) : execAt band bor bxor regs es i = none := by
  unfold execAt
  rw [List.getElem?_eq_none h]
theorem pass_end {regs : List Int} : ∀ (n i : Nat) (es : List Ent), es.length ≤ i → passN band bor bxor regs i n es = es
  | 0, _, _, _ => rfl
  | n + 1, i, es, h => by
    show passN band bor bxor regs (i + 1) n ((execAt band bor bxor regs es i).getD es) = es
    rw [execAt_end h]
    exact pass_end n (i + 1) es (Nat.le_succ_of_le h)
theorem pass_nf {regs : List Int} : ∀ (n : Nat) (r pre : List Ent), r.length ≤ n → passN band bor bxor regs pre.length n (pre ++ r) = pre ++ nf band bor bxor regs pre r
  | 0, r, pre, h => by
    cases r with
    | nil => rfl
    | cons e r => exact absurd h (by rw [List.length_cons]; omega)
  | n + 1, [], pre, h => by
    rw [pass_end (n + 1) pre.length (pre ++ []) (by rw [List.append_nil]; exact Nat.le_refl _)]
    rfl
  | n + 1, e :: r, pre, h => by
    show passN band bor bxor regs (pre.length + 1) n ((execAt band bor bxor regs (pre ++ e :: r) pre.length).getD (pre ++ e :: r)) = _
    rw [execAt_at]
    have hr : r.length ≤ n := Nat.le_of_succ_le_succ h
    have hl : ∀ x : Ent, pre.length + 1 = (pre ++ [x]).length := fun x => by rw [List.length_append]; rfl
    have ha : ∀ (x : Ent) (l : List Ent), pre ++ x :: l = (pre ++ [x]) ++ l := fun x l => by rw [List.append_assoc]; rfl
    show _ = pre ++ (match exec1 band bor bxor regs pre e with | none => _ | some x => _)
    cases z : exec1 band bor bxor regs pre e with
    | none =>
      show passN band bor bxor regs (pre.length + 1) n (pre ++ e :: r) = pre ++ e :: nf band bor bxor regs (pre ++ [e]) r
      rw [ha e r, hl e, pass_nf n r (pre ++ [e]) hr, List.append_assoc]
      rfl
    | some e' =>
      show passN band bor bxor regs (pre.length + 1) n (pre ++ e' :: tailOf e e' r) = pre ++ if e'.succ = e.succ then e' :: nf band bor bxor regs (pre ++ [e']) r else [e']
      unfold tailOf
      split
      · rw [ha e' r, hl e', pass_nf n r (pre ++ [e']) hr, List.append_assoc]
        rfl
      · rw [pass_end _ _ _ (Nat.le_of_eq (by rw [List.length_append]; rfl))]
theorem pass_all {regs : List Int} (es : List Ent) : passN band bor bxor regs 0 es.length es = nf band bor bxor regs [] es := pass_nf es.length es [] (Nat.le_refl _)
theorem pass_ok (B : Bits band bor bxor) {regs : List Int} (hR : Regs regs) {es es' : List Ent} {i : Nat} (ok : AllOk es) (h : execAt band bor bxor regs es i = some es') : AllOk es' ∧ es'.length ≤ es.length := by
  rw [execAt_in] at h
  exact execIn_ok B hR es [] i es' (fun x hx => nomatch hx) ok h
end
end KM

/-! The text, the values, the heaps. -/
namespace KW
open PySem PySem.Spec PyProof.Rows L2 KM
def topS (i : Nat) : Stmt := PySem.Challenge.pw_litmuscore_k60_whole_order_of_execution.main.body.getD i (.Pass ⟨0, 0, 0, 0⟩)
abbrev s_signed : Stmt := topS 4
abbrev N_signed : List Str := ["word"]
theorem sc_signed : FnScope N_signed ["word"] (defScope s_signed) := ⟨rfl, rfl, rfl, by decide +kernel, rfl, by decide +kernel, by decide +kernel⟩
abbrev s_compare : Stmt := topS 5
abbrev N_compare : List Str := ["relation", "left", "right"]
theorem sc_compare : FnScope N_compare ["relation", "left", "right"] (defScope s_compare) := ⟨rfl, rfl, rfl, by decide +kernel, rfl, by decide +kernel, by decide +kernel⟩
abbrev s_operate : Stmt := topS 6
abbrev N_operate : List Str := ["operation", "left", "right"]
theorem sc_operate : FnScope N_operate ["operation", "left", "right"] (defScope s_operate) := ⟨rfl, rfl, rfl, by decide +kernel, rfl, by decide +kernel, by decide +kernel⟩
abbrev s_operandRegisters : Stmt := topS 9
abbrev N_operandRegisters : List Str := ["instruction"]
theorem sc_operandRegisters : FnScope N_operandRegisters ["instruction"] (defScope s_operandRegisters) := ⟨rfl, rfl, rfl, by decide +kernel, rfl, by decide +kernel, by decide +kernel⟩
abbrev s_resultOf : Stmt := topS 10
abbrev N_resultOf : List Str := ["instruction", "a", "b"]
theorem sc_resultOf : FnScope N_resultOf ["instruction", "a", "b"] (defScope s_resultOf) := ⟨rfl, rfl, rfl, by decide +kernel, rfl, by decide +kernel, by decide +kernel⟩
abbrev s_addressAfter : Stmt := topS 11
abbrev N_addressAfter : List Str := ["instruction", "pc", "a", "b"]
theorem sc_addressAfter : FnScope N_addressAfter ["instruction", "pc", "a", "b"] (defScope s_addressAfter) := ⟨rfl, rfl, rfl, by decide +kernel, rfl, by decide +kernel, by decide +kernel⟩
abbrev s_isPredictable : Stmt := topS 13
abbrev N_isPredictable : List Str := ["instruction"]
theorem sc_isPredictable : FnScope N_isPredictable ["instruction"] (defScope s_isPredictable) := ⟨rfl, rfl, rfl, by decide +kernel, rfl, by decide +kernel, by decide +kernel⟩
abbrev s_hasResult : Stmt := topS 14
abbrev N_hasResult : List Str := ["instruction"]
theorem sc_hasResult : FnScope N_hasResult ["instruction"] (defScope s_hasResult) := ⟨rfl, rfl, rfl, by decide +kernel, rfl, by decide +kernel, by decide +kernel⟩
abbrev s_destination : Stmt := topS 15
abbrev N_destination : List Str := ["instruction"]
theorem sc_destination : FnScope N_destination ["instruction"] (defScope s_destination) := ⟨rfl, rfl, rfl, by decide +kernel, rfl, by decide +kernel, by decide +kernel⟩
abbrev s_operand : Stmt := topS 16
abbrev N_operand : List Str := ["pipeline", "index", "number", "pc", "instruction", "successor", "guess", "result", "place", "time"]
theorem sc_operand : FnScope N_operand ["pipeline", "index", "number"] (defScope s_operand) := ⟨rfl, rfl, rfl, by decide +kernel, rfl, by decide +kernel, by decide +kernel⟩
abbrev s_withEntry : Stmt := topS 17
abbrev N_withEntry : List Str := ["pipeline", "index", "entry", "keep", "state", "entries", "buffer", "held", "steps", "younger"]
theorem sc_withEntry : FnScope N_withEntry ["pipeline", "index", "entry", "keep"] (defScope s_withEntry) := ⟨rfl, rfl, rfl, by decide +kernel, rfl, by decide +kernel, by decide +kernel⟩
abbrev s_isExecuted : Stmt := topS 18
abbrev N_isExecuted : List Str := ["instruction"]
theorem sc_isExecuted : FnScope N_isExecuted ["instruction"] (defScope s_isExecuted) := ⟨rfl, rfl, rfl, by decide +kernel, rfl, by decide +kernel, by decide +kernel⟩
abbrev s_execute : Stmt := topS 19
abbrev N_execute : List Str := ["pipeline", "index", "pc", "instruction", "successor", "guess", "result", "place", "time", "first", "second", "a", "b", "after"]
theorem sc_execute : FnScope N_execute ["pipeline", "index"] (defScope s_execute) := ⟨rfl, rfl, rfl, by decide +kernel, rfl, by decide +kernel, by decide +kernel⟩
abbrev s_lTape : Stmt := topS 21
abbrev N_lTape : List Str := ["_law_script", "_law_total", "_law_cell"]
theorem sc_lTape : FnScope N_lTape ["_law_script"] (defScope s_lTape) := ⟨rfl, rfl, rfl, by decide +kernel, rfl, by decide +kernel, by decide +kernel⟩
abbrev s_lDraw : Stmt := topS 22
abbrev N_lDraw : List Str := ["_law_tape_here", "_law_many", "_law_place", "_law_number"]
theorem sc_lDraw : FnScope N_lDraw ["_law_tape_here", "_law_many"] (defScope s_lDraw) := ⟨rfl, rfl, rfl, by decide +kernel, rfl, by decide +kernel, by decide +kernel⟩
abbrev s_lWord : Stmt := topS 23
abbrev N_lWord : List Str := ["_law_tape_here", "_law_share"]
theorem sc_lWord : FnScope N_lWord ["_law_tape_here"] (defScope s_lWord) := ⟨rfl, rfl, rfl, by decide +kernel, rfl, by decide +kernel, by decide +kernel⟩
abbrev s_lInstruction : Stmt := topS 24
abbrev N_lInstruction : List Str := ["_law_tape_here", "_law_size", "_law_last", "_law_many", "_law_share", "_law_rd", "_law_ra", "_law_rb", "_law_shift", "_law_target"]
theorem sc_lInstruction : FnScope N_lInstruction ["_law_tape_here", "_law_size", "_law_last", "_law_many", "_law_share"] (defScope s_lInstruction) := ⟨rfl, rfl, rfl, by decide +kernel, rfl, by decide +kernel, by decide +kernel⟩
abbrev s_lProgram : Stmt := topS 25
abbrev N_lProgram : List Str := ["_law_tape_here", "_law_kinds", "_law_size", "_law_last", "_law_many", "_law_code", "_law_k", "_law_share"]
theorem sc_lProgram : FnScope N_lProgram ["_law_tape_here", "_law_kinds"] (defScope s_lProgram) := ⟨rfl, rfl, rfl, by decide +kernel, rfl, by decide +kernel, by decide +kernel⟩
abbrev s_lPc : Stmt := topS 26
abbrev N_lPc : List Str := ["_law_tape_here", "_law_program_here", "_law_kinds", "_law_found", "_law_k"]
theorem sc_lPc : FnScope N_lPc ["_law_tape_here", "_law_program_here", "_law_kinds"] (defScope s_lPc) := ⟨rfl, rfl, rfl, by decide +kernel, rfl, by decide +kernel, by decide +kernel⟩
abbrev s_lEntry : Stmt := topS 27
abbrev N_lEntry : List Str := ["_law_tape_here", "_law_program_here", "_law_pc_here", "_law_resolved", "_law_now", "_law_successor", "_law_predicted", "_law_result", "_law_place", "_law_time"]
theorem sc_lEntry : FnScope N_lEntry ["_law_tape_here", "_law_program_here", "_law_pc_here", "_law_resolved"] (defScope s_lEntry) := ⟨rfl, rfl, rfl, by decide +kernel, rfl, by decide +kernel, by decide +kernel⟩
abbrev s_lEntries : Stmt := topS 28
abbrev N_lEntries : List Str := ["_law_tape_here", "_law_program_here", "_law_pc_here", "_law_many", "_law_entries_here", "_law_resolved", "_law_k", "_law_entry_here"]
theorem sc_lEntries : FnScope N_lEntries ["_law_tape_here", "_law_program_here", "_law_pc_here", "_law_many"] (defScope s_lEntries) := ⟨rfl, rfl, rfl, by decide +kernel, rfl, by decide +kernel, by decide +kernel⟩
abbrev s_lBuffer : Stmt := topS 29
abbrev N_lBuffer : List Str := ["_law_tape_here", "_law_order", "_law_size", "_law_most", "_law_buffer_here", "_law_step", "_law_many", "_law_k"]
theorem sc_lBuffer : FnScope N_lBuffer ["_law_tape_here", "_law_order", "_law_size", "_law_most"] (defScope s_lBuffer) := ⟨rfl, rfl, rfl, by decide +kernel, rfl, by decide +kernel, by decide +kernel⟩
abbrev s_lPipeline : Stmt := topS 30
abbrev N_lPipeline : List Str := ["_law_tape_here", "_law_program_here", "_law_order", "_law_pc_here", "_law_room", "_law_most", "_law_words", "_law_k", "_law_link", "_law_many", "_law_entries_here", "_law_buffer_here", "_law_steps", "_law_held"]
theorem sc_lPipeline : FnScope N_lPipeline ["_law_tape_here", "_law_program_here", "_law_order", "_law_pc_here", "_law_room", "_law_most"] (defScope s_lPipeline) := ⟨rfl, rfl, rfl, by decide +kernel, rfl, by decide +kernel, by decide +kernel⟩
abbrev s_lSigned : Stmt := topS 31
abbrev N_lSigned : List Str := ["_law_word_here"]
theorem sc_lSigned : FnScope N_lSigned ["_law_word_here"] (defScope s_lSigned) := ⟨rfl, rfl, rfl, by decide +kernel, rfl, by decide +kernel, by decide +kernel⟩
abbrev s_lOperate : Stmt := topS 32
abbrev N_lOperate : List Str := ["_law_op", "_law_a", "_law_b"]
theorem sc_lOperate : FnScope N_lOperate ["_law_op", "_law_a", "_law_b"] (defScope s_lOperate) := ⟨rfl, rfl, rfl, by decide +kernel, rfl, by decide +kernel, by decide +kernel⟩
abbrev s_lCompare : Stmt := topS 33
abbrev N_lCompare : List Str := ["_law_test", "_law_a", "_law_b"]
theorem sc_lCompare : FnScope N_lCompare ["_law_test", "_law_a", "_law_b"] (defScope s_lCompare) := ⟨rfl, rfl, rfl, by decide +kernel, rfl, by decide +kernel, by decide +kernel⟩
abbrev s_lDestination : Stmt := topS 34
abbrev N_lDestination : List Str := ["_law_now"]
theorem sc_lDestination : FnScope N_lDestination ["_law_now"] (defScope s_lDestination) := ⟨rfl, rfl, rfl, by decide +kernel, rfl, by decide +kernel, by decide +kernel⟩
abbrev s_lOperand : Stmt := topS 35
abbrev N_lOperand : List Str := ["_law_pipeline_here", "_law_index", "_law_number", "_law_value", "_law_entry_here"]
theorem sc_lOperand : FnScope N_lOperand ["_law_pipeline_here", "_law_index", "_law_number"] (defScope s_lOperand) := ⟨rfl, rfl, rfl, by decide +kernel, rfl, by decide +kernel, by decide +kernel⟩
abbrev s_lExecuted : Stmt := topS 36
abbrev N_lExecuted : List Str := ["_law_pipeline_here", "_law_index", "_law_entry_here", "_law_now", "_law_result", "_law_successor", "_law_left", "_law_right", "_law_changed", "_law_entries_here"]
theorem sc_lExecuted : FnScope N_lExecuted ["_law_pipeline_here", "_law_index"] (defScope s_lExecuted) := ⟨rfl, rfl, rfl, by decide +kernel, rfl, by decide +kernel, by decide +kernel⟩
abbrev s_lOnePass : Stmt := topS 37
abbrev N_lOnePass : List Str := ["_law_pipeline_here", "_law_index", "_law_after"]
theorem sc_lOnePass : FnScope N_lOnePass ["_law_pipeline_here"] (defScope s_lOnePass) := ⟨rfl, rfl, rfl, by decide +kernel, rfl, by decide +kernel, by decide +kernel⟩
abbrev s_lSomeRow : Stmt := topS 38
abbrev N_lSomeRow : List Str := ["_law_tape_here", "_law_pipeline_here", "_law_turn", "_law_after", "_law_index", "_law_found", "_law_told"]
theorem sc_lSomeRow : FnScope N_lSomeRow ["_law_tape_here", "_law_pipeline_here"] (defScope s_lSomeRow) := ⟨rfl, rfl, rfl, by decide +kernel, rfl, by decide +kernel, by decide +kernel⟩
abbrev s_law : Stmt := topS 39
abbrev N_law : List Str := ["_law_script", "_law_tape_here", "_law_program_here", "_law_order", "_law_large", "_law_pipeline_here", "_law_due", "_law_turn", "_law_told", "_law_index"]
theorem sc_law : FnScope N_law ["_law_script"] (defScope s_law) := ⟨rfl, rfl, rfl, by decide +kernel, rfl, by decide +kernel, by decide +kernel⟩
/-- a def of the text as it stands behind the top -/
structure Df (K : PySem.W.Frag) (mg : Str → Option Value) (x : Str) (st : Stmt) (ps : List Str) where
  f : Addr
  fd : FuncData
  F : Fun K x x st f fd
  b : Binds K fd ps []
  g : mg x = some (.ref f)
theorem pcall {X : Cx} {x : Str} {st : Stmt} {ps : List Str} {sp : Sp} {j k : Nat} {p pos : Pos} {e : Expr} {es : List Expr} {t : TA} (D : Df X.K X.mg x st ps) (F : FnOk X.prog X.w X.K X.mg X.base CX0 j D.f D.fd ps sp) (hr : Room k X.A) (hj : j ≤ k) (hg : Gl X x) (ha : PA X (e :: es) t)
    (hdb : (x == ("__debug__" : Str)) = false := by decide) (he : starEach (e :: es) X.env = (false, eval e X.env) :: starEach es X.env := by rfl) (hpl : (backTo pos (starEach es X.env)).any (·.1) = false := by rfl) :
    PE X (.Call (.Name x p) (e :: es) [] pos) (tCall sp [] E0 t) :=
  pe_call F (hr.mono hj) hg D.g D.F.kp D.b .nil pass0 ha hdb he hpl

/-! ### texts of kinds -/
def opS : Op → Str
  | .add => "add" | .sub => "sub" | .mul => "mul" | .and => "and" | .or => "or" | .xor => "xor" | .slt => "slt" | .sltu => "sltu"
def relS : Rel → Str
  | .eq => "eq" | .ne => "ne" | .lt => "lt" | .ge => "ge" | .ltu => "ltu" | .geu => "geu"
def fenS : Fen → Str
  | .loads => "loads" | .stores => "stores" | .full => "full" | .slot => "slot"
inductive Kd
  | op (o : Op) | addi | load | store | swap | fadd | ll | sc | fence | branch | jump | halt
  deriving DecidableEq
def kdS : Kd → Str
  | .op o => opS o | .addi => "addi" | .load => "load" | .store => "store" | .swap => "swap" | .fadd => "fetch add" | .ll => "load linked" | .sc => "store conditional"
  | .fence => "fence" | .branch => "branch" | .jump => "jump" | .halt => "halt"
def kd : Ins → Kd
  | .op o .. => .op o | .addi .. => .addi | .load .. => .load | .store .. => .store | .swap .. => .swap | .fadd .. => .fadd | .ll .. => .ll | .sc .. => .sc
  | .fence _ => .fence | .branch .. => .branch | .jump _ => .jump | .halt => .halt
/-- what stands behind the kind -/
def rest : Ins → List V
  | .op _ d a b => [.int d, .int a, .int b]
  | .addi d a n => [.int d, .int a, .int n]
  | .load d a n => [.int d, .int a, .int n]
  | .store d a n => [.int d, .int a, .int n]
  | .swap d a b => [.int d, .int a, .int b]
  | .fadd d a b => [.int d, .int a, .int b]
  | .ll d a => [.int d, .int a]
  | .sc d a b => [.int d, .int a, .int b]
  | .fence x => [.str (fenS x)]
  | .branch r a b t => [.str (relS r), .int a, .int b, .int t]
  | .jump t => [.int t]
  | .halt => []
def vals (i : Ins) : List V := .str (kdS (kd i)) :: rest i

def oV : Option Int → V
  | none => .non
  | some n => .int n
def plV : KM.Place → V
  | .no => .non
  | .out => .str "outside"
  | .at a => .int a

/-! ### heaps -/
/-- the tuples stay -/
def Gr (H H' : Hp) : Prop := ∀ a xs, H a = some (.tup xs) → H' a = some (.tup xs)
theorem Gr.refl (H : Hp) : Gr H H := fun _ _ h => h
theorem Gr.trans {H H1 H2 : Hp} (a : Gr H H1) (b : Gr H1 H2) : Gr H H2 := fun c o h => b c o (a c o h)
theorem gr_same {H H' : Hp} (h : Same H H') : Gr H H' := fun _ _ e => h _ _ e
theorem same_new {H : Hp} {p : Addr} {o : HO} (h : H p = none) : Same H (upd H p o) := fun b x e => by
  rw [upd_ne (ne_of_none e h)]
  exact e
def OIns (H : Hp) (v : V) : Option Ins → Prop
  | none => v = .non
  | some i => ∃ p, v = .ref p ∧ H p = some (.tup (vals i))
def EntAt (H : Hp) (v : V) (e : Ent) : Prop := ∃ a iv, v = .ref a ∧ OIns H iv e.ins ∧ H a = some (.tup [.int e.pc, iv, .int e.succ, oV e.pred, oV e.res, plV e.place, oV e.time])
def EntsAt (H : Hp) (vs : List V) (es : List Ent) : Prop := vs.length = es.length ∧ ∀ (i : Nat) (v : V) (e : Ent), vs[i]? = some v → es[i]? = some e → EntAt H v e
structure Rest where
  st : V
  buf : V
  held : V
  steps : V
def StAt (H : Hp) (v : V) (regs : List Int) : Prop := ∃ s w pc lk, v = .ref s ∧ H s = some (.tup [.int pc, .ref w, .bl false, .int lk]) ∧ H w = some (.tup (regs.map V.int))
def PipeAt (H : Hp) (v : V) (R : Rest) (es : List Ent) : Prop := ∃ p a vs, v = .ref p ∧ H p = some (.tup [R.st, .ref a, R.buf, R.held, R.steps]) ∧ H a = some (.tup vs) ∧ EntsAt H vs es
section
variable {H H' : Hp} (g : Gr H H')
include g
theorem Gr.ins {v : V} {i : Option Ins} (h : OIns H v i) : OIns H' v i := by
  cases i with
  | none => exact h
  | some i =>
    obtain ⟨p, e, q⟩ := h
    exact ⟨p, e, g _ _ q⟩
theorem Gr.ent {v : V} {e : Ent} (h : EntAt H v e) : EntAt H' v e := by
  obtain ⟨a, iv, h1, h2, h3⟩ := h
  exact ⟨a, iv, h1, g.ins h2, g _ _ h3⟩
theorem Gr.ents {vs : List V} {es : List Ent} (h : EntsAt H vs es) : EntsAt H' vs es := ⟨h.1, fun i v e h1 h2 => g.ent (h.2 i v e h1 h2)⟩
theorem Gr.st {v : V} {regs : List Int} (h : StAt H v regs) : StAt H' v regs := by
  obtain ⟨s, w, pc, lk, h1, h2, h3⟩ := h
  exact ⟨s, w, pc, lk, h1, g _ _ h2, g _ _ h3⟩
theorem Gr.pipe {v : V} {R : Rest} {es : List Ent} (h : PipeAt H v R es) : PipeAt H' v R es := by
  obtain ⟨p, a, vs, h1, h2, h3, h4⟩ := h
  exact ⟨p, a, vs, h1, g _ _ h2, g _ _ h3, g.ents h4⟩
end
theorem EntsAt.get {H : Hp} {vs : List V} {es : List Ent} (h : EntsAt H vs es) {i : Nat} {e : Ent} (he : es[i]? = some e) : ∃ v, vs[i]? = some v ∧ EntAt H v e := by
  have hi : i < vs.length := by
    rw [h.1]
    exact (List.getElem?_eq_some_iff.mp he).1
  exact ⟨vs[i], List.getElem?_eq_getElem hi, h.2 i _ e (List.getElem?_eq_getElem hi) he⟩
theorem EntsAt.take {H : Hp} {vs : List V} {es : List Ent} (h : EntsAt H vs es) (n : Nat) : EntsAt H (vs.take n) (es.take n) := by
  refine ⟨by rw [List.length_take, List.length_take, h.1], fun i v e h1 h2 => ?_⟩
  by_cases hi : i < n
  · rw [List.getElem?_take_of_lt hi] at h1 h2
    exact h.2 i v e h1 h2
  · rw [List.getElem?_eq_none (by rw [List.length_take]; omega)] at h1
    cases h1
theorem EntsAt.drop {H : Hp} {vs : List V} {es : List Ent} (h : EntsAt H vs es) (n : Nat) : EntsAt H (vs.drop n) (es.drop n) := by
  refine ⟨by rw [List.length_drop, List.length_drop, h.1], fun i v e h1 h2 => ?_⟩
  rw [List.getElem?_drop] at h1 h2
  exact h.2 _ v e h1 h2
theorem EntsAt.app {H : Hp} {vs ws : List V} {es ds : List Ent} (h : EntsAt H vs es) (k : EntsAt H ws ds) : EntsAt H (vs ++ ws) (es ++ ds) := by
  refine ⟨by rw [List.length_append, List.length_append, h.1, k.1], fun i v e h1 h2 => ?_⟩
  rw [List.getElem?_append] at h1 h2
  rw [← h.1] at h2
  split at h1
  · rename_i hi
    rw [if_pos hi] at h2
    exact h.2 i v e h1 h2
  · rename_i hi
    rw [if_neg hi] at h2
    exact k.2 _ v e h1 h2
theorem EntsAt.one {H : Hp} {v : V} {e : Ent} (h : EntAt H v e) : EntsAt H [v] [e] := by
  refine ⟨rfl, fun i w d h1 h2 => ?_⟩
  cases i with
  | zero =>
    obtain rfl : v = w := Option.some.inj h1
    obtain rfl : e = d := Option.some.inj h2
    exact h
  | succ i => simp at h1
theorem EntsAt.nil {H : Hp} : EntsAt H [] [] := ⟨rfl, fun i w d h1 h2 => by simp at h1⟩

/-! ### the tape -/
def Tape (H : Hp) (t : Addr) : Prop := ∃ (l : Addr) (ns : List Int) (i n tot : Int), H t = some (.lst [.ref l, .int i, .int n, .int tot]) ∧ H l = some (.lst (ns.map V.int)) ∧ t ≠ l ∧ 0 ≤ i ∧ 0 ≤ n ∧ 0 ≤ tot ∧ tot < 2147483647
/-- all but the tape is as it was, and the tape's own list is the same object -/
structure Chg (t : Addr) (H H' : Hp) : Prop where
  keep : ∀ b o, b ≠ t → H b = some o → H' b = some o
  tape : Tape H' t
  ptr : ∀ l xs, H t = some (.lst (.ref l :: xs)) → ∃ ys, H' t = some (.lst (.ref l :: ys))
theorem Tape.lst {H : Hp} {t : Addr} (h : Tape H t) : ∃ xs, H t = some (.lst xs) := by
  obtain ⟨l, ns, i, n, tot, h, _⟩ := h
  exact ⟨_, h⟩
theorem Tape.grown {H H' : Hp} {t : Addr} (h : Tape H t) (s : Same H H') : Tape H' t := by
  obtain ⟨l, ns, i, n, tot, h1, h2, h3⟩ := h
  exact ⟨l, ns, i, n, tot, s _ _ h1, s _ _ h2, h3⟩
theorem Chg.same {H H' : Hp} {t : Addr} (h : Tape H t) (s : Same H H') : Chg t H H' := ⟨fun b o _ e => s b o e, h.grown s, fun l xs e => ⟨xs, s _ _ e⟩⟩
theorem Chg.refl {H : Hp} {t : Addr} (h : Tape H t) : Chg t H H := .same h (Same.refl H)
theorem Chg.trans {t : Addr} {H H1 H2 : Hp} (a : Chg t H H1) (b : Chg t H1 H2) : Chg t H H2 := ⟨fun c o n e => b.keep c o n (a.keep c o n e), b.tape, fun l xs e => let ⟨_, e1⟩ := a.ptr l xs e; b.ptr l _ e1⟩
theorem Chg.gr {t : Addr} {H H' : Hp} (c : Chg t H H') (h : Tape H t) : Gr H H' := fun a xs e => c.keep a _ (fun z => by
  obtain ⟨ys, q⟩ := h.lst
  rw [z, q] at e
  cases e) e
/-- a new object does not hurt the tape -/
theorem Chg.new {t p : Addr} {H H' : Hp} {o : HO} (c : Chg t H H') (n : H' p = none) : Chg t H (upd H' p o) := c.trans (.same c.tape (same_new n))
/-- .. where a list of our own at lc, new since H, is filled besides -/
structure Ch2 (t lc : Addr) (H H' : Hp) : Prop where
  keep : ∀ b o, b ≠ t → b ≠ lc → H b = some o → H' b = some o
  tape : Tape H' t
  ptr : ∀ l xs, H t = some (.lst (.ref l :: xs)) → ∃ ys, H' t = some (.lst (.ref l :: ys))
theorem Ch2.start {t lc : Addr} {H H' : Hp} (h : Tape H t) (s : Same H H') : Ch2 t lc H H' := ⟨fun b o _ _ e => s b o e, h.grown s, fun l xs e => ⟨xs, s _ _ e⟩⟩
theorem Ch2.chg {t lc : Addr} {H H1 H2 : Hp} (a : Ch2 t lc H H1) (b : Chg t H1 H2) : Ch2 t lc H H2 := ⟨fun c o n m e => b.keep c o n (a.keep c o n m e), b.tape, fun l xs e => let ⟨_, e1⟩ := a.ptr l xs e; b.ptr l _ e1⟩
theorem Ch2.fin {t lc : Addr} {H H' : Hp} (a : Ch2 t lc H H') (n : H lc = none) : Chg t H H' := ⟨fun b o h e => a.keep b o h (ne_of_none e n) e, a.tape, a.ptr⟩
theorem Ch2.app {t lc : Addr} {H H' : Hp} {o : HO} (hT : Tape H t) (n : H lc = none) (a : Ch2 t lc H H') : Ch2 t lc H (upd H' lc o) := by
  obtain ⟨l, ns, i, k, tot, h1, h2, h3⟩ := hT
  have htl : t ≠ lc := ne_of_none h1 n
  have hll : l ≠ lc := ne_of_none h2 n
  refine ⟨fun b u hb hc e => by rw [upd_ne hc]; exact a.keep b u hb hc e, ?_, fun l' xs e => by rw [upd_ne htl]; exact a.ptr l' xs e⟩
  obtain ⟨ys, e1⟩ := a.ptr l _ h1
  obtain ⟨l', ns', i', k', tot', g1, g2, g3⟩ := a.tape
  rw [e1] at g1
  have el : l = l' := by
    injection g1 with g1
    injection g1 with g1
    injection g1 with g1 _
    injection g1
  subst el
  refine ⟨l, ns', i', k', tot', by rw [upd_ne htl, e1]; exact g1, by rw [upd_ne hll]; exact g2, g3⟩
theorem Ch2.gr {t lc : Addr} {H H' : Hp} (a : Ch2 t lc H H') (hT : Tape H t) (n : H lc = none) : Gr H H' := (a.fin n).gr hT
end KW

/-! Rules of our own over the layer: tracked tuples and lists, read by what stands in the heap. -/
namespace KW
open PySem PySem.Spec PyProof.Rows L2 KM
section
variable {X : Cx}
def rIxTH : R2 := fun x y H Q => ∃ p i, x = .ref p ∧ y = .int i ∧ ∃ xs, H p = some (.tup xs) ∧ ∃ v, atI xs i = some v ∧ Q v H
def rIxLH : R2 := fun x y H Q => ∃ p i, x = .ref p ∧ y = .int i ∧ ∃ xs, H p = some (.lst xs) ∧ ∃ v, atI xs i = some v ∧ Q v H
theorem ix_tupH : IxR X rIxTH := fun value slice pins s σ H x y v u Q I rx ry ⟨p, i, h1, h2, xs, h3, z, h4, q⟩ hs => ix_tup value slice pins s σ H x y v u Q I rx ry ⟨p, xs, i, z, h1, h2, .inl (.inl h3), h4, q⟩ hs
theorem ix_listH : IxR X rIxLH := fun value slice pins s σ H x y v u Q I rx ry ⟨p, i, h1, h2, xs, h3, z, h4, q⟩ hs => ix_list value slice pins s σ H x y v u Q I rx ry ⟨p, xs, i, z, h1, h2, .inl (.inl h3), h4, q⟩ hs
def rLenT : List V → Hp → VK → Prop := fun xs H Q => ∃ p, xs = [.ref p] ∧ ∃ ys, H p = some (.tup ys) ∧ Q (.int ys.length) H
def rLenL : List V → Hp → VK → Prop := fun xs H Q => ∃ p, xs = [.ref p] ∧ ∃ ys, H p = some (.lst ys) ∧ Q (.int ys.length) H
theorem call_lenT : CallR X (.builtin "len") rLenT := fun pins s σ H xs us Q I r ⟨p, h1, ys, h2, q⟩ => call_len_seq pins s σ H xs us Q I r ⟨p, ys, h1, .inr (.inl (.inl h2)), q⟩
theorem call_lenL : CallR X (.builtin "len") rLenL := fun pins s σ H xs us Q I r ⟨p, h1, ys, h2, q⟩ => call_len_seq pins s σ H xs us Q I r ⟨p, ys, h1, .inl (.inl (.inl h2)), q⟩
/-- in a constant of the module -/
def rInC (a : Addr) (xs : List V) : R2 := fun x y H Q => y = .ref a ∧ flatV x = true ∧ Q (.bl (inV x xs)) H
theorem op_inC {a : Addr} {xs : List V} (h : ∀ H, SqT X.K H a xs) (hf : xs.all flatV = true) : OpR X (compareOp .In) (rInC a xs) := fun pins s σ H x y v u Q I rx ry ⟨h1, h2, q⟩ => op_in_seq pins s σ H x y v u Q I rx ry ⟨a, xs, h1, .inr (h H), h2, hf, q⟩
def rInL : R2 := fun x y H Q => ∃ p, y = .ref p ∧ flatV x = true ∧ ∃ xs, H p = some (.lst xs) ∧ xs.all flatV = true ∧ Q (.bl (inV x xs)) H
def rNotInL : R2 := fun x y H Q => ∃ p, y = .ref p ∧ flatV x = true ∧ ∃ xs, H p = some (.lst xs) ∧ xs.all flatV = true ∧ Q (.bl (!inV x xs)) H
theorem op_inL : OpR X (compareOp .In) rInL := fun pins s σ H x y v u Q I rx ry ⟨p, h1, h2, xs, h3, h4, q⟩ => op_in_seq pins s σ H x y v u Q I rx ry ⟨p, xs, h1, .inl (.inl (.inl h3)), h2, h4, q⟩
theorem op_notInL : OpR X (compareOp .NotIn) rNotInL := fun pins s σ H x y v u Q I rx ry ⟨p, h1, h2, xs, h3, h4, q⟩ => op_notIn_seq pins s σ H x y v u Q I rx ry ⟨p, xs, h1, .inl (.inl (.inl h3)), h2, h4, q⟩
/-- displays -/
def tTupH (t : TA) : TE := fun σ H Q => t σ H fun xs H1 => xs.length ≤ 1000 ∧ ∀ p H', Same H1 H' → H' p = some (.tup xs) → Q (.ref p) H'
def tLstH (t : TA) : TE := fun σ H Q => t σ H fun xs H1 => xs.length ≤ 1000 ∧ ∀ p H', Same H1 H' → H1 p = none → H' p = some (.lst xs) → Q (.ref p) H'
def ImpA (t : TA) : Prop := ∀ (σ : L2.St) (H : Hp) (Q Q' : List V → Hp → Prop), (∀ xs H', Q xs H' → Q' xs H') → t σ H Q → t σ H Q'
theorem pe_tupH {es : List Expr} {t : TA} {x1} {pos : Pos} (h : PA X es t) : PE X (.Tuple es x1 pos) (tTupH t) := by
  refine ⟨fun pins s σ H Q I hq => ?_⟩
  refine wpAny_Tuple_spliced (thn (h.run pos pins s σ H _ I hq) fun us s1 ⟨xs, H1, I1, r, z, q⟩ => ⟨by rw [← r.length]; exact Nat.le_of_lt (small1000 z), ?_⟩)
  have hf : H1 s1.heap.objs.size = none := I1.hok.fresh (Nat.le_refl _)
  refine ⟨.ref s1.heap.objs.size, upd H1 s1.heap.objs.size (.tup xs), I1.laid (t' := s1.toks) (fun b u e => Heap.get?_push_of_some _ e) (Nat.le_refl _) ?_, rfl, q _ _ (same_new hf) upd_same⟩
  exact ⟨Nat.le_of_lt (small1000 z), us, r, ⟨_, Heap.get?_push_size _ rfl, rfl, _, rfl⟩⟩
theorem pe_lstH {es : List Expr} {t : TA} {pos : Pos} (h : PA X es t) : PE X (.List es pos) (tLstH t) := by
  refine ⟨fun pins s σ H Q I hq => ?_⟩
  refine wpAny_List_spliced (thn (h.run pos pins s σ H _ I hq) fun us s1 ⟨xs, H1, I1, r, z, q⟩ => ⟨by rw [← r.length]; exact Nat.le_of_lt (small1000 z), ?_⟩)
  have hf : H1 s1.heap.objs.size = none := I1.hok.fresh (Nat.le_refl _)
  refine ⟨.ref s1.heap.objs.size, upd H1 s1.heap.objs.size (.lst xs), I1.laid (t' := s1.toks) (fun b u e => Heap.get?_push_of_some _ e) (Nat.le_refl _) ?_, rfl, q _ _ (same_new hf) hf upd_same⟩
  exact ⟨Nat.le_of_lt (small1000 z), us, 0, r, Heap.get?_push_size _ rfl⟩
/-- x in [c, d, ..], the items written -/
def tInD (neg : Bool) (xs : List V) (ta : TE) : TE := fun σ H Q => ta σ H fun x H1 => flatV x = true ∧ ∀ H', Same H1 H' → Q (.bl (if neg = true then !inV x xs else inV x xs)) H'
theorem pe_inD {a : Expr} {es : List Expr} {pos pos' : Pos} {ta : TE} {t : TA} {xs : List V} (ha : PE X a ta) (h : PA X es t) (hmon : ∀ (σ : L2.St) (H : Hp) (Q Q' : VK), (∀ x H1, Q x H1 → Q' x H1) → ta σ H Q → ta σ H Q') (ht : t = fun _ H Q => Q xs H) (hf : xs.all flatV = true) (hl : xs.length ≤ 1000) (hm : behindInMarks .In (.List es pos') = false) :
    PE X (.Compare a [.In] [.List es pos'] pos) (tInD false xs ta) := by
  subst ht
  refine ⟨fun pins s σ H Q I q => (pe_cmpR op_inL ha (pe_lstH h) hm).run pins s σ H Q I ?_⟩
  exact hmon σ H _ _ (fun x H1 ⟨h1, h2⟩ => ⟨hl, fun p H' s1 _ e => ⟨p, rfl, h1, xs, e, hf, h2 H' s1⟩⟩) q
theorem pe_ninD {a : Expr} {es : List Expr} {pos pos' : Pos} {ta : TE} {t : TA} {xs : List V} (ha : PE X a ta) (h : PA X es t) (hmon : ∀ (σ : L2.St) (H : Hp) (Q Q' : VK), (∀ x H1, Q x H1 → Q' x H1) → ta σ H Q → ta σ H Q') (ht : t = fun _ H Q => Q xs H) (hf : xs.all flatV = true) (hl : xs.length ≤ 1000) (hm : behindInMarks .NotIn (.List es pos') = false) :
    PE X (.Compare a [.NotIn] [.List es pos'] pos) (tInD true xs ta) := by
  subst ht
  refine ⟨fun pins s σ H Q I q => (pe_cmpR op_notInL ha (pe_lstH h) hm).run pins s σ H Q I ?_⟩
  exact hmon σ H _ _ (fun x H1 ⟨h1, h2⟩ => ⟨hl, fun p H' s1 _ e => ⟨p, rfl, h1, xs, e, hf, h2 H' s1⟩⟩) q
def tInT (neg : Bool) (xs : List V) (ta : TE) : TT := fun σ H Q => ta σ H fun x H1 => flatV x = true ∧ ∀ H', Same H1 H' → Q (if neg = true then !inV x xs else inV x xs) H'
theorem pt_inD {a : Expr} {es : List Expr} {pos pos' : Pos} {ta : TE} {t : TA} {xs : List V} (ha : PE X a ta) (h : PA X es t) (hmon : ∀ (σ : L2.St) (H : Hp) (Q Q' : VK), (∀ x H1, Q x H1 → Q' x H1) → ta σ H Q → ta σ H Q') (ht : t = fun _ H Q => Q xs H) (hf : xs.all flatV = true) (hl : xs.length ≤ 1000) (hm : behindInMarks .In (.List es pos') = false) :
    PT X (.Compare a [.In] [.List es pos'] pos) (tInT false xs ta) := by
  subst ht
  refine ⟨fun pins s σ H Q I q => (pt_cmpR op_inL ha (pe_lstH h) hm).run pins s σ H Q I ?_⟩
  exact hmon σ H _ _ (fun x H1 ⟨h1, h2⟩ => ⟨hl, fun p H' s1 _ e => ⟨p, rfl, h1, xs, e, hf, _, rfl, h2 H' s1⟩⟩) q
theorem pt_ninD {a : Expr} {es : List Expr} {pos pos' : Pos} {ta : TE} {t : TA} {xs : List V} (ha : PE X a ta) (h : PA X es t) (hmon : ∀ (σ : L2.St) (H : Hp) (Q Q' : VK), (∀ x H1, Q x H1 → Q' x H1) → ta σ H Q → ta σ H Q') (ht : t = fun _ H Q => Q xs H) (hf : xs.all flatV = true) (hl : xs.length ≤ 1000) (hm : behindInMarks .NotIn (.List es pos') = false) :
    PT X (.Compare a [.NotIn] [.List es pos'] pos) (tInT true xs ta) := by
  subst ht
  refine ⟨fun pins s σ H Q I q => (pt_cmpR op_notInL ha (pe_lstH h) hm).run pins s σ H Q I ?_⟩
  exact hmon σ H _ _ (fun x H1 ⟨h1, h2⟩ => ⟨hl, fun p H' s1 _ e => ⟨p, rfl, h1, xs, e, hf, _, rfl, h2 H' s1⟩⟩) q
theorem mon_var {i : Nat} : ∀ (σ : L2.St) (H : Hp) (Q Q' : VK), (∀ x H1, Q x H1 → Q' x H1) → tVar i σ H Q → tVar i σ H Q' := fun _ _ _ _ m ⟨v, h, q⟩ => ⟨v, h, m _ _ q⟩
theorem mon_c {v : V} : ∀ (σ : L2.St) (H : Hp) (Q Q' : VK), (∀ x H1, Q x H1 → Q' x H1) → tC v σ H Q → tC v σ H Q' := fun _ _ _ _ m q => m _ _ q
theorem mon_ix {ta tb : TE} (ha : ∀ (σ : L2.St) (H : Hp) (Q Q' : VK), (∀ x H1, Q x H1 → Q' x H1) → ta σ H Q → ta σ H Q') (hb : ∀ (σ : L2.St) (H : Hp) (Q Q' : VK), (∀ x H1, Q x H1 → Q' x H1) → tb σ H Q → tb σ H Q') :
    ∀ (σ : L2.St) (H : Hp) (Q Q' : VK), (∀ x H1, Q x H1 → Q' x H1) → tOp rIxTH ta tb σ H Q → tOp rIxTH ta tb σ H Q' := fun σ H Q Q' m q =>
  ha σ H _ _ (fun x H1 q1 => hb σ H1 _ _ (fun y H2 ⟨p, i, h1, h2, xs, h3, v, h4, q2⟩ => ⟨p, i, h1, h2, xs, h3, v, h4, m _ _ q2⟩) q1) q
/-- t + u, tuples -/
def rCatH : R2 := fun x y H Q => ∃ a b, x = .ref a ∧ y = .ref b ∧ ∃ xs, H a = some (.tup xs) ∧ ∃ ys, H b = some (.tup ys) ∧ xs.length + ys.length ≤ 1000 ∧ ∀ p H', Same H H' → H' p = some (.tup (xs ++ ys)) → Q (.ref p) H'
theorem op_catH : OpR X (binaryOp .Add) rCatH := fun pins s σ H x y v u Q I rx ry ⟨a, b, h1, h2, xs, h3, ys, h4, hz, q⟩ =>
  op_catA pins s σ H x y v u Q I rx ry ⟨a, b, xs, ys, h1, h2, .inl (.inl h3), .inl (.inl h4), Nat.le_of_lt (small1000 hz), fun e => q b H (Same.refl H) (by rw [e]; exact h4), fun _ e => q a H (Same.refl H) (by rw [e, List.append_nil]; exact h3), fun _ _ p np => q p _ (same_new np) upd_same⟩
/-- t[lo:hi] -/
def rSlH : V → Option Int → Option Int → Hp → VK → Prop := fun x lo hi H Q => ∃ a, x = .ref a ∧ ∃ xs, H a = some (.tup xs) ∧ ∀ p H', Same H H' → H' p = some (.tup (cutV xs lo hi)) → Q (.ref p) H'
theorem cut_whole {xs : List V} {lo hi : Option Int} (h : HT.sIx xs.length 0 lo = 0 ∧ HT.sIx xs.length xs.length hi = xs.length) : cutV xs lo hi = xs := by
  unfold cutV
  rw [h.1, h.2]
  exact List.take_length
theorem sl_tupH : SlR X rSlH := fun pins s σ H x v vl vu lo hi sl Q I rx hs pl pu ⟨a, h1, xs, h2, q⟩ =>
  sl_tupA pins s σ H x v vl vu lo hi sl Q I rx hs pl pu ⟨a, xs, h1, .inl (.inl h2), fun e => q a H (Same.refl H) (by rw [cut_whole e]; exact h2), fun _ p np => q p _ (same_new np) upd_same⟩
theorem cut_take (xs : List V) (n : Nat) : cutV xs none (some (n : Int)) = xs.take n := by
  unfold cutV
  rw [HT.sIx_none, HT.sIx_nat]
  show (xs.drop 0).take (min n xs.length - 0) = _
  rw [List.drop_zero, Nat.sub_zero, List.take_eq_take_iff]
  omega
theorem cut_drop (xs : List V) (n : Nat) : cutV xs (some (n : Int)) none = xs.drop n := by
  unfold cutV
  rw [HT.sIx_none, HT.sIx_nat]
  by_cases h : n ≤ xs.length
  · rw [Nat.min_eq_left h]
    exact List.take_of_length_le (by rw [List.length_drop]; exact Nat.le_refl _)
  · rw [Nat.min_eq_right (by omega), Nat.sub_self, List.take_zero, List.drop_of_length_le (by omega)]
/-- tuple(l), l a list -/
def rTupOf : List V → Hp → VK → Prop := fun xs H Q => ∃ p, xs = [.ref p] ∧ ∃ ys, H p = some (.lst ys) ∧ ∀ q H', Same H H' → H' q = some (.tup ys) → Q (.ref q) H'
theorem call_tupOf : CallR X (.type "tuple") rTupOf := fun pins s σ H xs us Q I r ⟨p, h1, ys, h2, q⟩ => call_tuple_of pins s σ H xs us Q I r ⟨p, ys, h1, .inl ⟨.inl (.inl h2), fun l nl => q l _ (same_new nl) upd_same⟩⟩
/-- a, b, .. = t -/
def gTupH (n : Nat) (t : TGs) : TG := fun v σ H Q => ∃ a, v = .ref a ∧ ∃ xs, H a = some (.tup xs) ∧ xs.length = n ∧ t xs σ H Q
theorem pg_imp {tg : Expr} {g g' : TG} (h : ∀ v σ H Q, g' v σ H Q → g v σ H Q) (p : PG X tg g) : PG X tg g' := ⟨fun pins s σ H v u Q I r q => p.run pins s σ H v u Q I r (h _ _ _ _ q)⟩
theorem pg_tupH {es : List Expr} {k} {pos : Pos} {t : TGs} (h : PG X (.Tuple es k pos) (gTup X.K es.length t)) : PG X (.Tuple es k pos) (gTupH es.length t) :=
  pg_imp (fun v σ H Q ⟨a, h1, xs, h2, h3, q⟩ => ⟨a, xs, h1, .inl (.inl h2), h3, q⟩) h
theorem gc_cons {t : TG} {u : TGs} {v : V} {r : List V} {σ : L2.St} {H : Hp} {Q : L2.St → Hp → Prop} : gCons t u (v :: r) σ H Q = t v σ H (fun σ' H' => u r σ' H' Q) := propext ⟨fun ⟨v', r', e, q⟩ => by cases e; exact q, fun q => ⟨v, r, rfl, q⟩⟩
theorem gc_nil {σ : L2.St} {H : Hp} {Q : L2.St → Hp → Prop} : gNil [] σ H Q = Q σ H := propext ⟨fun q => q.2, fun q => ⟨rfl, q⟩⟩
/-- l.append(e) -/
def tAppH (to : TE) (te : TE) : TS := fun D σ H => to σ H fun x H1 => ∃ l, x = .ref l ∧ (∃ xs, H1 l = some (.lst xs)) ∧ te σ H1 fun y H2 => ∃ xs, H2 l = some (.lst xs) ∧ xs.length < 1000 ∧ D.nx σ (upd H2 l (.lst (xs ++ [y])))
theorem ps_imp {st : Stmt} {t t' : TS} (h : ∀ D σ H, t' D σ H → t D σ H) (p : PS X st t) : PS X st t' := ⟨fun pins s σ H D I q => p.run pins s σ H D I (h _ _ _ q)⟩
/-- for x in reversed(t), t a tuple made or read just ahead (the heap behind that: H1) -/
theorem for_revH {te : TE} {g : TG} {tb : TS} {D : Ends} {σ : L2.St} {H : Hp} {K : PySem.W.Frag} (xs : List V) (e : ∀ Qa : VK, (∀ p H', Same H H' → H' p = some (.tup xs) → Qa (.ref p) H') → te σ H Qa) (Pv : Hp → Nat → L2.St → Hp → Prop) (h0 : ∀ H1, Same H H1 → Pv H1 0 σ H1)
    (hl : ∀ H1 i σ H', Pv H1 i σ H' → Same H1 H')
    (hs : ∀ H1, Same H H1 → ∀ (i : Nat) (x : V) (σ : L2.St) (H' : Hp), i < xs.length → xs[xs.length - 1 - i]? = some x → Pv H1 i σ H' → g x σ H' fun σ2 H2 => tb { D with nx := Pv H1 (i + 1), ct := Pv H1 (i + 1), bk := D.nx } σ2 H2)
    (hd : ∀ H1, Same H H1 → ∀ σ H', Pv H1 xs.length σ H' → D.nx σ H') : tFor (RT.iRevA K te) g tb D σ H :=
  e _ fun p H1 s1 e1 => ⟨p, xs, rfl, .inr ⟨.inl (.inl e1), RT.for_ItvT (Pv H1) (h0 H1 s1) (fun i σ H q => .inl (.inl (hl H1 i σ H q _ _ e1))) (hs H1 s1) (hd H1 s1)⟩⟩
/-- for x in t[lo:hi], likewise -/
theorem for_tupS {te : TE} {g : TG} {tb : TS} {D : Ends} {σ : L2.St} {H : Hp} {K : PySem.W.Frag} (xs : List V) (e : ∀ Qa : VK, (∀ p H', Same H H' → H' p = some (.tup xs) → Qa (.ref p) H') → te σ H Qa) (Pv : Hp → Nat → L2.St → Hp → Prop) (h0 : ∀ H1, Same H H1 → Pv H1 0 σ H1)
    (hl : ∀ H1 i σ H', Pv H1 i σ H' → Same H1 H')
    (hs : ∀ H1, Same H H1 → ∀ (i : Nat) (x : V) (σ : L2.St) (H' : Hp), xs[i]? = some x → Pv H1 i σ H' → g x σ H' fun σ2 H2 => tb { D with nx := Pv H1 (i + 1), ct := Pv H1 (i + 1), bk := D.nx } σ2 H2)
    (hd : ∀ H1, Same H H1 → ∀ σ H', Pv H1 xs.length σ H' → D.nx σ H') : tFor (iTup K te) g tb D σ H :=
  e _ fun p H1 s1 e1 => ⟨p, rfl, ⟨xs, .inl (.inl e1)⟩, for_tup (Pv H1) (h0 H1 s1) (fun i σ H _ q => .inl (.inl (hl H1 i σ H q _ _ e1))) (hs H1 s1) (hd H1 s1)⟩
/-- range(n) -/
theorem for_rng {ta : TA} {g : TG} {tb : TS} {D : Ends} {σ : L2.St} {H : Hp} (n : Nat) (hn : n ≤ 1000) (e : ∀ Qa : List V → Hp → Prop, Qa [.int (n : Int)] H → ta σ H Qa) (Pv : Nat → L2.St → Hp → Prop) (h0 : Pv 0 σ H)
    (hs : ∀ i σ H, i < n → Pv i σ H → g (.int (i : Int)) σ H fun σ2 H2 => tb { D with nx := Pv (i + 1), ct := Pv (i + 1), bk := D.nx } σ2 H2) (hd : ∀ σ H, Pv n σ H → D.nx σ H) : tFor (iRng1 ta) g tb D σ H := by
  refine e _ ⟨(n : Int), rfl, by omega, by omega, ?_⟩
  rw [Int.toNat_natCast]
  exact for_range Pv h0 (fun i σ H hi p => by rw [Int.zero_add]; exact hs i σ H hi p) hd
theorem for_tupH {te : TE} {g : TG} {tb : TS} {D : Ends} {σ : L2.St} {H : Hp} {K : PySem.W.Frag} (a : Addr) (xs : List V) (e : ∀ Qa : VK, Qa (.ref a) H → te σ H Qa) (h : H a = some (.tup xs)) (Pv : Nat → L2.St → Hp → Prop) (h0 : Pv 0 σ H) (hl : ∀ i σ H, Pv i σ H → H a = some (.tup xs))
    (hs : ∀ i x σ H, xs[i]? = some x → Pv i σ H → g x σ H fun σ2 H2 => tb { D with nx := Pv (i + 1), ct := Pv (i + 1), bk := D.nx } σ2 H2) (hd : ∀ σ H, Pv xs.length σ H → D.nx σ H) : tFor (iTup K te) g tb D σ H :=
  e _ ⟨a, rfl, ⟨xs, .inl (.inl h)⟩, for_tup Pv h0 (fun i σ H _ p => .inl (.inl (hl i σ H p))) hs hd⟩
end
end KW

/-! The program's defs: words, programs. -/
namespace KW
open PySem PySem.Spec PyProof.Rows L2 KM
def opsV : List V := [.str "add", .str "sub", .str "mul", .str "and", .str "or", .str "xor", .str "slt", .str "sltu"]
def atsV : List V := [.str "swap", .str "fetch add", .str "load linked", .str "store conditional"]
structure Txt (K : PySem.W.Frag) (mg : Str → Option Value) where
  signed : Df K mg "signed" s_signed ["word"]
  compare : Df K mg "compare" s_compare ["relation", "left", "right"]
  operate : Df K mg "operate" s_operate ["operation", "left", "right"]
  operandRegisters : Df K mg "operand_registers" s_operandRegisters ["instruction"]
  resultOf : Df K mg "result_of" s_resultOf ["instruction", "a", "b"]
  addressAfter : Df K mg "address_after" s_addressAfter ["instruction", "pc", "a", "b"]
  isPredictable : Df K mg "is_predictable" s_isPredictable ["instruction"]
  hasResult : Df K mg "has_result" s_hasResult ["instruction"]
  destination : Df K mg "destination" s_destination ["instruction"]
  operand : Df K mg "operand" s_operand ["pipeline", "index", "number"]
  withEntry : Df K mg "with_entry" s_withEntry ["pipeline", "index", "entry", "keep"]
  isExecuted : Df K mg "is_executed" s_isExecuted ["instruction"]
  execute : Df K mg "execute" s_execute ["pipeline", "index"]
  lTape : Df K mg "_law_tape" s_lTape ["_law_script"]
  lDraw : Df K mg "_law_draw" s_lDraw ["_law_tape_here", "_law_many"]
  lWord : Df K mg "_law_word" s_lWord ["_law_tape_here"]
  lInstruction : Df K mg "_law_instruction" s_lInstruction ["_law_tape_here", "_law_size", "_law_last", "_law_many", "_law_share"]
  lProgram : Df K mg "_law_program" s_lProgram ["_law_tape_here", "_law_kinds"]
  lPc : Df K mg "_law_pc" s_lPc ["_law_tape_here", "_law_program_here", "_law_kinds"]
  lEntry : Df K mg "_law_entry" s_lEntry ["_law_tape_here", "_law_program_here", "_law_pc_here", "_law_resolved"]
  lEntries : Df K mg "_law_entries" s_lEntries ["_law_tape_here", "_law_program_here", "_law_pc_here", "_law_many"]
  lBuffer : Df K mg "_law_buffer" s_lBuffer ["_law_tape_here", "_law_order", "_law_size", "_law_most"]
  lPipeline : Df K mg "_law_pipeline" s_lPipeline ["_law_tape_here", "_law_program_here", "_law_order", "_law_pc_here", "_law_room", "_law_most"]
  lSigned : Df K mg "_law_signed" s_lSigned ["_law_word_here"]
  lOperate : Df K mg "_law_operate" s_lOperate ["_law_op", "_law_a", "_law_b"]
  lCompare : Df K mg "_law_compare" s_lCompare ["_law_test", "_law_a", "_law_b"]
  lDestination : Df K mg "_law_destination" s_lDestination ["_law_now"]
  lOperand : Df K mg "_law_operand" s_lOperand ["_law_pipeline_here", "_law_index", "_law_number"]
  lExecuted : Df K mg "_law_executed" s_lExecuted ["_law_pipeline_here", "_law_index"]
  lOnePass : Df K mg "_law_one_pass" s_lOnePass ["_law_pipeline_here"]
  lSomeRow : Df K mg "_law_some_row" s_lSomeRow ["_law_tape_here", "_law_pipeline_here"]
  law : Df K mg "law" s_law ["_law_script"]
  mMODULUS : ∃ u, mg "MODULUS" = some u ∧ RelV (.int 65536) u
  mSIGN : ∃ u, mg "SIGN" = some u ∧ RelV (.int 32768) u
  aOps : Addr
  mOPERATIONS : ∃ u, mg "OPERATIONS" = some u ∧ RelV (.ref aOps) u
  tOps : ∀ H, SqT K H aOps opsV
  aAts : Addr
  mATOMIC : ∃ u, mg "ATOMIC" = some u ∧ RelV (.ref aAts) u
  tAts : ∀ H, SqT K H aAts atsV
  zlen : mg "len" = none
  zabs : mg "abs" = none
  zmax : mg "max" = none
  zmin : mg "min" = none
  zint : mg "int" = none
  zlist : mg "list" = none
  ztuple : mg "tuple" = none
  zrange : mg "range" = none
  zreversed : mg "reversed" = none
  zrepr : mg "repr" = none
theorem rs_eq (x : Rel) : (relS x = Str.ofString "eq") = (x = .eq) := propext ⟨by cases x <;> first | (intro; rfl) | (intro h; exact absurd h (by decide +kernel)), by rintro rfl; rfl⟩
theorem rs_ne (x : Rel) : (relS x = Str.ofString "ne") = (x = .ne) := propext ⟨by cases x <;> first | (intro; rfl) | (intro h; exact absurd h (by decide +kernel)), by rintro rfl; rfl⟩
theorem rs_lt (x : Rel) : (relS x = Str.ofString "lt") = (x = .lt) := propext ⟨by cases x <;> first | (intro; rfl) | (intro h; exact absurd h (by decide +kernel)), by rintro rfl; rfl⟩
theorem rs_ge (x : Rel) : (relS x = Str.ofString "ge") = (x = .ge) := propext ⟨by cases x <;> first | (intro; rfl) | (intro h; exact absurd h (by decide +kernel)), by rintro rfl; rfl⟩
theorem rs_ltu (x : Rel) : (relS x = Str.ofString "ltu") = (x = .ltu) := propext ⟨by cases x <;> first | (intro; rfl) | (intro h; exact absurd h (by decide +kernel)), by rintro rfl; rfl⟩
theorem rs_geu (x : Rel) : (relS x = Str.ofString "geu") = (x = .geu) := propext ⟨by cases x <;> first | (intro; rfl) | (intro h; exact absurd h (by decide +kernel)), by rintro rfl; rfl⟩
theorem os_add (x : Op) : (opS x = Str.ofString "add") = (x = .add) := propext ⟨by cases x <;> first | (intro; rfl) | (intro h; exact absurd h (by decide +kernel)), by rintro rfl; rfl⟩
theorem os_sub (x : Op) : (opS x = Str.ofString "sub") = (x = .sub) := propext ⟨by cases x <;> first | (intro; rfl) | (intro h; exact absurd h (by decide +kernel)), by rintro rfl; rfl⟩
theorem os_mul (x : Op) : (opS x = Str.ofString "mul") = (x = .mul) := propext ⟨by cases x <;> first | (intro; rfl) | (intro h; exact absurd h (by decide +kernel)), by rintro rfl; rfl⟩
theorem os_and (x : Op) : (opS x = Str.ofString "and") = (x = .and) := propext ⟨by cases x <;> first | (intro; rfl) | (intro h; exact absurd h (by decide +kernel)), by rintro rfl; rfl⟩
theorem os_or (x : Op) : (opS x = Str.ofString "or") = (x = .or) := propext ⟨by cases x <;> first | (intro; rfl) | (intro h; exact absurd h (by decide +kernel)), by rintro rfl; rfl⟩
theorem os_xor (x : Op) : (opS x = Str.ofString "xor") = (x = .xor) := propext ⟨by cases x <;> first | (intro; rfl) | (intro h; exact absurd h (by decide +kernel)), by rintro rfl; rfl⟩
theorem os_slt (x : Op) : (opS x = Str.ofString "slt") = (x = .slt) := propext ⟨by cases x <;> first | (intro; rfl) | (intro h; exact absurd h (by decide +kernel)), by rintro rfl; rfl⟩
theorem os_sltu (x : Op) : (opS x = Str.ofString "sltu") = (x = .sltu) := propext ⟨by cases x <;> first | (intro; rfl) | (intro h; exact absurd h (by decide +kernel)), by rintro rfl; rfl⟩
theorem ks_addi (x : Kd) : (kdS x = Str.ofString "addi") = (x = .addi) := propext ⟨by (rcases x with o | _ | _ | _ | _ | _ | _ | _ | _ | _ | _ | _ <;> try cases o) <;> first | (intro; rfl) | (intro h; exact absurd h (by decide +kernel)), by rintro rfl; rfl⟩
theorem ks_load (x : Kd) : (kdS x = Str.ofString "load") = (x = .load) := propext ⟨by (rcases x with o | _ | _ | _ | _ | _ | _ | _ | _ | _ | _ | _ <;> try cases o) <;> first | (intro; rfl) | (intro h; exact absurd h (by decide +kernel)), by rintro rfl; rfl⟩
theorem ks_store (x : Kd) : (kdS x = Str.ofString "store") = (x = .store) := propext ⟨by (rcases x with o | _ | _ | _ | _ | _ | _ | _ | _ | _ | _ | _ <;> try cases o) <;> first | (intro; rfl) | (intro h; exact absurd h (by decide +kernel)), by rintro rfl; rfl⟩
theorem ks_swap (x : Kd) : (kdS x = Str.ofString "swap") = (x = .swap) := propext ⟨by (rcases x with o | _ | _ | _ | _ | _ | _ | _ | _ | _ | _ | _ <;> try cases o) <;> first | (intro; rfl) | (intro h; exact absurd h (by decide +kernel)), by rintro rfl; rfl⟩
theorem ks_fadd (x : Kd) : (kdS x = Str.ofString "fetch add") = (x = .fadd) := propext ⟨by (rcases x with o | _ | _ | _ | _ | _ | _ | _ | _ | _ | _ | _ <;> try cases o) <;> first | (intro; rfl) | (intro h; exact absurd h (by decide +kernel)), by rintro rfl; rfl⟩
theorem ks_ll (x : Kd) : (kdS x = Str.ofString "load linked") = (x = .ll) := propext ⟨by (rcases x with o | _ | _ | _ | _ | _ | _ | _ | _ | _ | _ | _ <;> try cases o) <;> first | (intro; rfl) | (intro h; exact absurd h (by decide +kernel)), by rintro rfl; rfl⟩
theorem ks_sc (x : Kd) : (kdS x = Str.ofString "store conditional") = (x = .sc) := propext ⟨by (rcases x with o | _ | _ | _ | _ | _ | _ | _ | _ | _ | _ | _ <;> try cases o) <;> first | (intro; rfl) | (intro h; exact absurd h (by decide +kernel)), by rintro rfl; rfl⟩
theorem ks_fence (x : Kd) : (kdS x = Str.ofString "fence") = (x = .fence) := propext ⟨by (rcases x with o | _ | _ | _ | _ | _ | _ | _ | _ | _ | _ | _ <;> try cases o) <;> first | (intro; rfl) | (intro h; exact absurd h (by decide +kernel)), by rintro rfl; rfl⟩
theorem ks_branch (x : Kd) : (kdS x = Str.ofString "branch") = (x = .branch) := propext ⟨by (rcases x with o | _ | _ | _ | _ | _ | _ | _ | _ | _ | _ | _ <;> try cases o) <;> first | (intro; rfl) | (intro h; exact absurd h (by decide +kernel)), by rintro rfl; rfl⟩
theorem ks_jump (x : Kd) : (kdS x = Str.ofString "jump") = (x = .jump) := propext ⟨by (rcases x with o | _ | _ | _ | _ | _ | _ | _ | _ | _ | _ | _ <;> try cases o) <;> first | (intro; rfl) | (intro h; exact absurd h (by decide +kernel)), by rintro rfl; rfl⟩
theorem ks_halt (x : Kd) : (kdS x = Str.ofString "halt") = (x = .halt) := propext ⟨by (rcases x with o | _ | _ | _ | _ | _ | _ | _ | _ | _ | _ | _ <;> try cases o) <;> first | (intro; rfl) | (intro h; exact absurd h (by decide +kernel)), by rintro rfl; rfl⟩
def Kd.isOp : Kd → Bool
  | .op _ => true
  | _ => false
def Kd.isAt : Kd → Bool
  | .swap | .fadd | .ll | .sc => true
  | _ => false
def Kd.isL1 : Kd → Bool
  | .load | .swap | .fadd | .ll | .sc => true
  | _ => false
def Kd.isMem : Kd → Bool
  | .load | .store | .swap | .fadd | .ll | .sc => true
  | _ => false
def Kd.isL3 : Kd → Bool
  | .fence | .halt => true
  | _ => false
def Kd.isL4 : Kd → Bool
  | .branch | .jump => true
  | _ => false
def Kd.isL5 : Kd → Bool
  | .store | .fence | .branch | .jump | .halt => true
  | _ => false
def Kd.isL6 : Kd → Bool
  | .load | .store | .swap | .fadd | .ll | .sc | .fence | .halt => true
  | _ => false
theorem in_l1 (k : Kd) : inV (V.str (kdS k)) [.str "load", .str "swap", .str "fetch add", .str "load linked", .str "store conditional"] = k.isL1 := by
  rcases k with o | _ | _ | _ | _ | _ | _ | _ | _ | _ | _ | _
  · cases o <;> decide +kernel
  all_goals decide +kernel
theorem in_l2 (k : Kd) : inV (V.str (kdS k)) [.str "load", .str "store", .str "swap", .str "fetch add", .str "load linked", .str "store conditional"] = k.isMem := by
  rcases k with o | _ | _ | _ | _ | _ | _ | _ | _ | _ | _ | _
  · cases o <;> decide +kernel
  all_goals decide +kernel
theorem in_l3 (k : Kd) : inV (V.str (kdS k)) [.str "fence", .str "halt"] = k.isL3 := by
  rcases k with o | _ | _ | _ | _ | _ | _ | _ | _ | _ | _ | _
  · cases o <;> decide +kernel
  all_goals decide +kernel
theorem in_l4 (k : Kd) : inV (V.str (kdS k)) [.str "branch", .str "jump"] = k.isL4 := by
  rcases k with o | _ | _ | _ | _ | _ | _ | _ | _ | _ | _ | _
  · cases o <;> decide +kernel
  all_goals decide +kernel
theorem in_l5 (k : Kd) : inV (V.str (kdS k)) [.str "store", .str "fence", .str "branch", .str "jump", .str "halt"] = k.isL5 := by
  rcases k with o | _ | _ | _ | _ | _ | _ | _ | _ | _ | _ | _
  · cases o <;> decide +kernel
  all_goals decide +kernel
theorem in_l6 (k : Kd) : inV (V.str (kdS k)) [.str "load", .str "store", .str "swap", .str "fetch add", .str "load linked", .str "store conditional", .str "fence", .str "halt"] = k.isL6 := by
  rcases k with o | _ | _ | _ | _ | _ | _ | _ | _ | _ | _ | _
  · cases o <;> decide +kernel
  all_goals decide +kernel
theorem in_ops (k : Kd) : inV (V.str (kdS k)) opsV = k.isOp := by
  rcases k with o | _ | _ | _ | _ | _ | _ | _ | _ | _ | _ | _
  · cases o <;> decide +kernel
  all_goals decide +kernel
theorem in_ats (k : Kd) : inV (V.str (kdS k)) atsV = k.isAt := by
  rcases k with o | _ | _ | _ | _ | _ | _ | _ | _ | _ | _ | _
  · cases o <;> decide +kernel
  all_goals decide +kernel
theorem kd_op {o : Op} {d : Int} {a : Int} {b : Int} : kd (.op o d a b) = .op o := rfl
theorem rest_op {o : Op} {d : Int} {a : Int} {b : Int} : KW.rest (.op o d a b) = [.int d, .int a, .int b] := rfl
theorem kd_addi {d : Int} {a : Int} {n : Int} : kd (.addi d a n) = .addi := rfl
theorem rest_addi {d : Int} {a : Int} {n : Int} : KW.rest (.addi d a n) = [.int d, .int a, .int n] := rfl
theorem kd_load {d : Int} {a : Int} {n : Int} : kd (.load d a n) = .load := rfl
theorem rest_load {d : Int} {a : Int} {n : Int} : KW.rest (.load d a n) = [.int d, .int a, .int n] := rfl
theorem kd_store {d : Int} {a : Int} {n : Int} : kd (.store d a n) = .store := rfl
theorem rest_store {d : Int} {a : Int} {n : Int} : KW.rest (.store d a n) = [.int d, .int a, .int n] := rfl
theorem kd_swap {d : Int} {a : Int} {b : Int} : kd (.swap d a b) = .swap := rfl
theorem rest_swap {d : Int} {a : Int} {b : Int} : KW.rest (.swap d a b) = [.int d, .int a, .int b] := rfl
theorem kd_fadd {d : Int} {a : Int} {b : Int} : kd (.fadd d a b) = .fadd := rfl
theorem rest_fadd {d : Int} {a : Int} {b : Int} : KW.rest (.fadd d a b) = [.int d, .int a, .int b] := rfl
theorem kd_ll {d : Int} {a : Int} : kd (.ll d a) = .ll := rfl
theorem rest_ll {d : Int} {a : Int} : KW.rest (.ll d a) = [.int d, .int a] := rfl
theorem kd_sc {d : Int} {a : Int} {b : Int} : kd (.sc d a b) = .sc := rfl
theorem rest_sc {d : Int} {a : Int} {b : Int} : KW.rest (.sc d a b) = [.int d, .int a, .int b] := rfl
theorem kd_fence {x : Fen} : kd (.fence x) = .fence := rfl
theorem rest_fence {x : Fen} : KW.rest (.fence x) = [.str (fenS x)] := rfl
theorem kd_branch {r : Rel} {a : Int} {b : Int} {t : Int} : kd (.branch r a b t) = .branch := rfl
theorem rest_branch {r : Rel} {a : Int} {b : Int} {t : Int} : KW.rest (.branch r a b t) = [.str (relS r), .int a, .int b, .int t] := rfl
theorem kd_jump {t : Int} : kd (.jump t) = .jump := rfl
theorem rest_jump {t : Int} : KW.rest (.jump t) = [.int t] := rfl
theorem kd_halt  : kd (.halt ) = .halt := rfl
theorem rest_halt  : KW.rest (.halt ) = [] := rfl
theorem fl_n : flatV .non = true := rfl
theorem fl_i {i : Int} : flatV (.int i) = true := rfl
theorem fl_b {i : Bool} : flatV (.bl i) = true := rfl
theorem fl_s {i : Str} : flatV (.str i) = true := rfl
theorem sc_nn : scal .non .non = true := rfl
theorem sc_ni {i : Int} : scal .non (.int i) = true := rfl
theorem sc_in {i : Int} : scal (.int i) .non = true := rfl
theorem sc_nb {i : Bool} : scal .non (.bl i) = true := rfl
theorem sc_bn {i : Bool} : scal (.bl i) .non = true := rfl
theorem sc_ns {i : Str} : scal .non (.str i) = true := rfl
theorem sc_sn {i : Str} : scal (.str i) .non = true := rfl
theorem sc_ii {i j : Int} : scal (.int i) (.int j) = true := rfl
theorem sc_bb {i j : Bool} : scal (.bl i) (.bl j) = true := rfl
theorem sc_ss {i j : Str} : scal (.str i) (.str j) = true := rfl
theorem sc_is {i : Int} {j : Str} : scal (.int i) (.str j) = true := rfl
theorem sc_si {i : Int} {j : Str} : scal (.str j) (.int i) = true := rfl
theorem at0 {x : V} {xs : List V} : atI (x :: xs) 0 = some x := atI_nat (j := 0) rfl
theorem at1 {x y : V} {xs : List V} : atI (x :: y :: xs) 1 = some y := atI_nat (j := 1) rfl
theorem at2 {x y z : V} {xs : List V} : atI (x :: y :: z :: xs) 2 = some z := atI_nat (j := 2) rfl
theorem at3 {x y z u : V} {xs : List V} : atI (x :: y :: z :: u :: xs) 3 = some u := atI_nat (j := 3) rfl
theorem at4 {x y z u v : V} {xs : List V} : atI (x :: y :: z :: u :: v :: xs) 4 = some v := atI_nat (j := 4) rfl
theorem at5 {x y z u v w : V} {xs : List V} : atI (x :: y :: z :: u :: v :: w :: xs) 5 = some w := atI_nat (j := 5) rfl
theorem at6 {x y z u v w r : V} {xs : List V} : atI (x :: y :: z :: u :: v :: w :: r :: xs) 6 = some r := atI_nat (j := 6) rfl
local macro_rules | `(tactic| walk_at "rd") => `(tactic| simp (config := { decide := true }) only [tSeq, tIfS, tTest, tOp, rI0, rI, rEq, rNe, sc_nn, sc_ni, sc_in, sc_nb, sc_bn, sc_ns, sc_sn, sc_ii, sc_bb, sc_ss, sc_is, sc_si, tVar, tC, tRet, tNext, tAsg, gName, tB, tCall, tCons, tNil, tCB, tUn, rU, tAnd, tOr, tNot, tAndV, tOrV, tNotV, tIf, CMul, CDiv, CPow,
  at0, at1, at2, at3, at4, at5, at6, rs_eq, rs_ne, rs_lt, rs_ge, rs_ltu, rs_geu, os_add, os_sub, os_mul, os_and, os_or, os_xor, os_slt, os_sltu, ks_addi, ks_load, ks_store, ks_swap, ks_fadd, ks_ll, ks_sc, ks_fence, ks_branch, ks_jump, ks_halt, in_ops, in_ats,
  rIxTH, rIxLH, rLenT, rLenL, rInC, rInL, rNotInL, rCatH, rSlH, tTupH, tLstH, rTupOf, gTupH, gc_cons, gc_nil, tSl, tPart, tNoPart, fl_n, fl_i, fl_b, fl_s, tInD, tInT, vals, kd_op, rest_op, kd_addi, rest_addi, kd_load, rest_load, kd_store, rest_store, kd_swap, rest_swap, kd_fadd, rest_fadd, kd_ll, rest_ll, kd_sc, rest_sc, kd_fence, rest_fence, kd_branch, rest_branch, kd_jump, rest_jump, kd_halt, rest_halt, in_l1, in_l2, in_l3, in_l4, in_l5, in_l6,
  List.getElem?_cons_zero, List.getElem?_cons_succ, List.set_cons_zero, List.set_cons_succ, Option.some.injEq, exists_eq_left', exists_eq_left, exists_and_left, exists_eq', exists_eq, V.int.injEq, V.bl.injEq, V.str.injEq, V.ref.injEq, HO.tup.injEq, HO.lst.injEq, decide_eq_true_eq, true_and, and_true, List.append_nil, List.cons_append, List.nil_append, List.cons.injEq,
  List.length_cons, List.length_nil, Nat.reduceAdd, Nat.reduceLeDiff, forall_const, reduceCtorEq, Bool.false_eq_true, if_true, if_false, Bool.not_true, Bool.not_false, Bool.not_eq_true', decide_eq_false_iff_not, decide_true, decide_false])
local macro_rules | `(tactic| walk_at "rs") => `(tactic| simp (config := { decide := true }) only [tSeq, tIfS, tTest, tOp, rI0, rI, rEq, rNe, sc_nn, sc_ni, sc_in, sc_nb, sc_bn, sc_ns, sc_sn, sc_ii, sc_bb, sc_ss, sc_is, sc_si, tVar, tC, tRet, tNext, tAsg, gName, tB, tCall, tCons, tNil, tCB, tUn, rU, tAnd, tOr, tNot, tAndV, tOrV, tNotV, tIf, CMul, CDiv, CPow,
  at0, at1, at2, at3, at4, at5, at6, rs_eq, rs_ne, rs_lt, rs_ge, rs_ltu, rs_geu, os_add, os_sub, os_mul, os_and, os_or, os_xor, os_slt, os_sltu, ks_addi, ks_load, ks_store, ks_swap, ks_fadd, ks_ll, ks_sc, ks_fence, ks_branch, ks_jump, ks_halt, in_ops, in_ats,
  rIxTH, rIxLH, rLenT, rLenL, rInC, rInL, rNotInL, rCatH, rSlH, tTupH, tLstH, rTupOf, gTupH, gc_cons, gc_nil, tSl, tPart, tNoPart, fl_n, fl_i, fl_b, fl_s, tInD, tInT, vals, kd_op, rest_op, kd_addi, rest_addi, kd_load, rest_load, kd_store, rest_store, kd_swap, rest_swap, kd_fadd, rest_fadd, kd_ll, rest_ll, kd_sc, rest_sc, kd_fence, rest_fence, kd_branch, rest_branch, kd_jump, rest_jump, kd_halt, rest_halt, in_l1, in_l2, in_l3, in_l4, in_l5, in_l6,
  List.getElem?_cons_zero, List.getElem?_cons_succ, List.set_cons_zero, List.set_cons_succ, Option.some.injEq, exists_eq_left', exists_eq_left, exists_and_left, exists_eq', exists_eq, V.int.injEq, V.bl.injEq, V.str.injEq, V.ref.injEq, HO.tup.injEq, HO.lst.injEq, decide_eq_true_eq, true_and, and_true, List.append_nil, List.cons_append, List.nil_append, List.cons.injEq,
  List.length_cons, List.length_nil, Nat.reduceAdd, Nat.reduceLeDiff, forall_const, reduceCtorEq, Bool.false_eq_true, if_true, if_false, Bool.not_true, Bool.not_false, Bool.not_eq_true', decide_eq_false_iff_not, decide_true, decide_false, *])
section
variable {P : Program} {w : World} {K : PySem.W.Frag} {mg : Str → Option Value} {base : Heap}
def spSigned : Sp := fun vs H Q _ => ∃ a : Int, vs = [.int a] ∧ Q (.int (sgn a)) H
theorem ok_signed (T : Txt K mg) : FnOk P w K mg base CX0 1 T.signed.f T.signed.fd ["word"] spSigned := by
  refine T.signed.F.ok sc_signed (fun vs H Q E h => ?_) (fun cdv A outer s H vs Q E hr h => ?_)
  · obtain ⟨a, rfl, _⟩ := h
    rfl
  · obtain ⟨a, rfl, q⟩ := h
    refine ⟨_, (pss_cons (ps_if (pt_cmpR op_lt (pv 0) (C8.pe_gc rfl T.mSIGN) (nomark _))
        (pss_one (ps_ret (pv 0)))
        pss_nil)
      (pss_one (ps_ret (pe_op op_sub (pv 0) (C8.pe_gc rfl T.mMODULUS))))), ?_⟩
    rw [show L2.start N_signed [V.int a] = [some (V.int a)] from rfl]
    walk_at "rd"
    unfold sgn at q
    split <;> simp_all
theorem ok_lSigned (T : Txt K mg) : FnOk P w K mg base CX0 1 T.lSigned.f T.lSigned.fd ["_law_word_here"] spSigned := by
  refine T.lSigned.F.ok sc_lSigned (fun vs H Q E h => ?_) (fun cdv A outer s H vs Q E hr h => ?_)
  · obtain ⟨a, rfl, _⟩ := h
    rfl
  · obtain ⟨a, rfl, q⟩ := h
    refine ⟨_, (pss_cons (ps_if (pt_cmpR op_lt (pv 0) pe_int (nomark _))
        (pss_one (ps_ret (pv 0)))
        pss_nil)
      (pss_one (ps_ret (pe_op op_sub (pv 0) pe_int)))), ?_⟩
    rw [show L2.start N_lSigned [V.int a] = [some (V.int a)] from rfl]
    walk_at "rd"
    unfold sgn at q
    split <;> simp_all
def spCompare : Sp := fun vs H Q _ => ∃ (r : Rel) (a b : Int), vs = [.str (relS r), .int a, .int b] ∧ Q (.bl (r.holds a b)) H
theorem i_compare {r : Rel} {a b : Int} {H : Hp} {Q : VK} {E : XK} (q : Q (.bl (r.holds a b)) H) : spCompare [.str (relS r), .int a, .int b] H Q E := ⟨r, a, b, rfl, q⟩
theorem ok_compare (T : Txt K mg) : FnOk P w K mg base CX0 2 T.compare.f T.compare.fd ["relation", "left", "right"] spCompare := by
  refine T.compare.F.ok sc_compare (fun vs H Q E h => ?_) (fun cdv A outer s H vs Q E hr h => ?_)
  · obtain ⟨r, a, b, rfl, _⟩ := h
    rfl
  · obtain ⟨r, a, b, rfl, q⟩ := h
    refine ⟨_, (pss_cons (ps_if (pt_cmpR op_eq (pv 0) pe_str (nomark _))
        (pss_one (ps_ret (pe_cmpR op_eq (pv 1) (pv 2) (nomark _))))
        pss_nil)
      (pss_cons (ps_if (pt_cmpR op_eq (pv 0) pe_str (nomark _))
        (pss_one (ps_ret (pe_cmpR op_ne (pv 1) (pv 2) (nomark _))))
        pss_nil)
      (pss_cons (ps_if (pt_cmpR op_eq (pv 0) pe_str (nomark _))
        (pss_one (ps_ret (pe_cmpR op_lt (pcall T.signed (ok_signed T) hr (by decide) (by rfl) (pa_cons (pv 1) pa_nil)) (pcall T.signed (ok_signed T) hr (by decide) (by rfl) (pa_cons (pv 2) pa_nil)) (nomark _))))
        pss_nil)
      (pss_cons (ps_if (pt_cmpR op_eq (pv 0) pe_str (nomark _))
        (pss_one (ps_ret (pe_cmpR op_ge (pcall T.signed (ok_signed T) hr (by decide) (by rfl) (pa_cons (pv 1) pa_nil)) (pcall T.signed (ok_signed T) hr (by decide) (by rfl) (pa_cons (pv 2) pa_nil)) (nomark _))))
        pss_nil)
      (pss_cons (ps_if (pt_cmpR op_eq (pv 0) pe_str (nomark _))
        (pss_one (ps_ret (pe_cmpR op_lt (pv 1) (pv 2) (nomark _))))
        pss_nil)
      (pss_one (ps_ret (pe_cmpR op_ge (pv 1) (pv 2) (nomark _))))))))), ?_⟩
    rw [show L2.start N_compare [V.str (relS r), V.int a, V.int b] = [some (V.str (relS r)), some (V.int a), some (V.int b)] from rfl]
    walk_at "rd"
    simp only [spSigned]
    walk_at "rd"
    cases r <;> simpa [Rel.holds] using q
theorem ok_lCompare (T : Txt K mg) : FnOk P w K mg base CX0 2 T.lCompare.f T.lCompare.fd ["_law_test", "_law_a", "_law_b"] spCompare := by
  refine T.lCompare.F.ok sc_lCompare (fun vs H Q E h => ?_) (fun cdv A outer s H vs Q E hr h => ?_)
  · obtain ⟨r, a, b, rfl, _⟩ := h
    rfl
  · obtain ⟨r, a, b, rfl, q⟩ := h
    refine ⟨_, (pss_cons (ps_if (pt_cmpR op_eq (pv 0) pe_str (nomark _))
        (pss_one (ps_ret (pe_cmpR op_eq (pv 1) (pv 2) (nomark _))))
        pss_nil)
      (pss_cons (ps_if (pt_cmpR op_eq (pv 0) pe_str (nomark _))
        (pss_one (ps_ret (pe_cmpR op_ne (pv 1) (pv 2) (nomark _))))
        pss_nil)
      (pss_cons (ps_if (pt_cmpR op_eq (pv 0) pe_str (nomark _))
        (pss_one (ps_ret (pe_cmpR op_lt (pcall T.lSigned (ok_lSigned T) hr (by decide) (by rfl) (pa_cons (pv 1) pa_nil)) (pcall T.lSigned (ok_lSigned T) hr (by decide) (by rfl) (pa_cons (pv 2) pa_nil)) (nomark _))))
        pss_nil)
      (pss_cons (ps_if (pt_cmpR op_eq (pv 0) pe_str (nomark _))
        (pss_one (ps_ret (pe_cmpR op_ge (pcall T.lSigned (ok_lSigned T) hr (by decide) (by rfl) (pa_cons (pv 1) pa_nil)) (pcall T.lSigned (ok_lSigned T) hr (by decide) (by rfl) (pa_cons (pv 2) pa_nil)) (nomark _))))
        pss_nil)
      (pss_cons (ps_if (pt_cmpR op_eq (pv 0) pe_str (nomark _))
        (pss_one (ps_ret (pe_cmpR op_lt (pv 1) (pv 2) (nomark _))))
        pss_nil)
      (pss_one (ps_ret (pe_cmpR op_ge (pv 1) (pv 2) (nomark _))))))))), ?_⟩
    rw [show L2.start N_lCompare [V.str (relS r), V.int a, V.int b] = [some (V.str (relS r)), some (V.int a), some (V.int b)] from rfl]
    walk_at "rd"
    simp only [spSigned]
    walk_at "rd"
    cases r <;> simpa [Rel.holds] using q
abbrev opRun (o : Op) (a b : Int) : Int := o.run Builtin.bitAnd Builtin.bitOr Builtin.bitXor a b
def spOperate : Sp := fun vs H Q _ => ∃ (o : Op) (a b : Int), vs = [.str (opS o), .int a, .int b] ∧ Wd a ∧ Wd b ∧ Q (.int (opRun o a b)) H
theorem i_operate {o : Op} {a b : Int} {H : Hp} {Q : VK} {E : XK} (ha : Wd a) (hb : Wd b) (q : Q (.int (opRun o a b)) H) : spOperate [.str (opS o), .int a, .int b] H Q E := ⟨o, a, b, rfl, ha, hb, q⟩
theorem mul_small {a b : Int} (ha : Wd a) : -2 ^ 64 < a ∧ a < 2 ^ 64 ∨ -2 ^ 64 < b ∧ b < 2 ^ 64 := by
  have h1 := ha.1
  have h2 := ha.2
  exact .inl ⟨by omega, by omega⟩
theorem ok_operate (T : Txt K mg) : FnOk P w K mg base CX0 3 T.operate.f T.operate.fd ["operation", "left", "right"] spOperate := by
  refine T.operate.F.ok sc_operate (fun vs H Q E h => ?_) (fun cdv A outer s H vs Q E hr h => ?_)
  · obtain ⟨r, a, b, rfl, _⟩ := h
    rfl
  · obtain ⟨r, a, b, rfl, ha, hb, q⟩ := h
    refine ⟨_, (pss_cons (ps_if (pt_cmpR op_eq (pv 0) pe_str (nomark _))
        (pss_one (ps_ret (pe_op op_mod (pe_op op_add (pv 1) (pv 2)) (C8.pe_gc rfl T.mMODULUS))))
        pss_nil)
      (pss_cons (ps_if (pt_cmpR op_eq (pv 0) pe_str (nomark _))
        (pss_one (ps_ret (pe_op op_mod (pe_op op_sub (pv 1) (pv 2)) (C8.pe_gc rfl T.mMODULUS))))
        pss_nil)
      (pss_cons (ps_if (pt_cmpR op_eq (pv 0) pe_str (nomark _))
        (pss_one (ps_ret (pe_op op_mod (pe_op op_mul (pv 1) (pv 2)) (C8.pe_gc rfl T.mMODULUS))))
        pss_nil)
      (pss_cons (ps_if (pt_cmpR op_eq (pv 0) pe_str (nomark _))
        (pss_one (ps_ret (pe_op op_and (pv 1) (pv 2))))
        pss_nil)
      (pss_cons (ps_if (pt_cmpR op_eq (pv 0) pe_str (nomark _))
        (pss_one (ps_ret (pe_op op_or (pv 1) (pv 2))))
        pss_nil)
      (pss_cons (ps_if (pt_cmpR op_eq (pv 0) pe_str (nomark _))
        (pss_one (ps_ret (pe_op op_xor (pv 1) (pv 2))))
        pss_nil)
      (pss_cons (ps_if (pt_cmpR op_eq (pv 0) pe_str (nomark _))
        (pss_one (ps_ret (pe_callTy call_int1 (by rfl) T.zint (by decide +kernel) (pa_cons (pcall T.compare (ok_compare T) hr (by decide) (by rfl) (pa_cons pe_str (pa_cons (pv 1) (pa_cons (pv 2) pa_nil)))) pa_nil))))
        pss_nil)
      (pss_one (ps_ret (pe_callTy call_int1 (by rfl) T.zint (by decide +kernel) (pa_cons (pcall T.compare (ok_compare T) hr (by decide) (by rfl) (pa_cons pe_str (pa_cons (pv 1) (pa_cons (pv 2) pa_nil)))) pa_nil))))))))))), ?_⟩
    rw [show L2.start N_operate [V.str (opS r), V.int a, V.int b] = [some (V.str (opS r)), some (V.int a), some (V.int b)] from rfl]
    walk_at "rd"
    cases r <;> simp (config := { decide := true }) only [reduceCtorEq, if_true, if_false, true_and]
    · exact q
    · exact q
    · exact ⟨mul_small ha, q⟩
    · exact q
    · exact q
    · exact q
    · exact i_compare (r := .lt) (.inr ⟨_, rfl, q⟩)
    · exact i_compare (r := .ltu) (.inr ⟨_, rfl, q⟩)
theorem ok_lOperate (T : Txt K mg) : FnOk P w K mg base CX0 2 T.lOperate.f T.lOperate.fd ["_law_op", "_law_a", "_law_b"] spOperate := by
  refine T.lOperate.F.ok sc_lOperate (fun vs H Q E h => ?_) (fun cdv A outer s H vs Q E hr h => ?_)
  · obtain ⟨r, a, b, rfl, _⟩ := h
    rfl
  · obtain ⟨r, a, b, rfl, ha, hb, q⟩ := h
    refine ⟨_, (pss_cons (ps_if (pt_cmpR op_eq (pv 0) pe_str (nomark _))
        (pss_one (ps_ret (pe_op op_mod (pe_callTy call_int1 (by rfl) T.zint (by decide +kernel) (pa_cons (pe_op op_add (pv 1) (pv 2)) pa_nil)) pe_int)))
        pss_nil)
      (pss_cons (ps_if (pt_cmpR op_eq (pv 0) pe_str (nomark _))
        (pss_one (ps_ret (pe_op op_mod (pe_callTy call_int1 (by rfl) T.zint (by decide +kernel) (pa_cons (pe_op op_sub (pv 1) (pv 2)) pa_nil)) pe_int)))
        pss_nil)
      (pss_cons (ps_if (pt_cmpR op_eq (pv 0) pe_str (nomark _))
        (pss_one (ps_ret (pe_op op_mod (pe_callTy call_int1 (by rfl) T.zint (by decide +kernel) (pa_cons (pe_op op_mul (pv 1) (pv 2)) pa_nil)) pe_int)))
        pss_nil)
      (pss_cons (ps_if (pt_cmpR op_eq (pv 0) pe_str (nomark _))
        (pss_one (ps_ret (pe_op op_and (pv 1) (pv 2))))
        pss_nil)
      (pss_cons (ps_if (pt_cmpR op_eq (pv 0) pe_str (nomark _))
        (pss_one (ps_ret (pe_op op_or (pv 1) (pv 2))))
        pss_nil)
      (pss_cons (ps_if (pt_cmpR op_eq (pv 0) pe_str (nomark _))
        (pss_one (ps_ret (pe_op op_xor (pv 1) (pv 2))))
        pss_nil)
      (pss_cons (ps_if (pt_cmpR op_eq (pv 0) pe_str (nomark _))
        (pss_one (ps_ret (pe_callTy call_int1 (by rfl) T.zint (by decide +kernel) (pa_cons (pe_cmpR op_lt (pcall T.lSigned (ok_lSigned T) hr (by decide) (by rfl) (pa_cons (pv 1) pa_nil)) (pcall T.lSigned (ok_lSigned T) hr (by decide) (by rfl) (pa_cons (pv 2) pa_nil)) (nomark _)) pa_nil))))
        pss_nil)
      (pss_one (ps_ret (pe_callTy call_int1 (by rfl) T.zint (by decide +kernel) (pa_cons (pe_cmpR op_lt (pv 1) (pv 2) (nomark _)) pa_nil))))))))))), ?_⟩
    rw [show L2.start N_lOperate [V.str (opS r), V.int a, V.int b] = [some (V.str (opS r)), some (V.int a), some (V.int b)] from rfl]
    walk_at "rd"
    cases r <;> simp (config := { decide := true }) only [reduceCtorEq, if_true, if_false, true_and]
    · exact .inl q
    · exact .inl q
    · exact ⟨mul_small ha, .inl q⟩
    · exact q
    · exact q
    · exact q
    · refine ⟨a, rfl, b, rfl, by simpa [opRun, Op.run, b2] using q⟩
    · exact .inr (by simpa [opRun, Op.run, b2] using q)

/-! ### what stands in an instruction -/
def hasRes : Ins → Bool
  | .op .. | .addi .. => true
  | _ => false
def isPred : Ins → Bool
  | .load .. | .swap .. | .fadd .. | .ll .. | .sc .. => true
  | _ => false
def regsOf : Ins → Int × Int
  | .op _ _ a b | .branch _ a b _ => (a, b)
  | .addi _ a _ => (a, 0)
  | _ => (0, 0)
def spIns (g : Ins → Bool) : Sp := fun vs H Q _ => ∃ p i, vs = [.ref p] ∧ H p = some (.tup (vals i)) ∧ Q (.bl (g i)) H
theorem i_ins {g : Ins → Bool} {p : Addr} {i : Ins} {H : Hp} {Q : VK} {E : XK} (h : H p = some (.tup (vals i))) (q : Q (.bl (g i)) H) : spIns g [.ref p] H Q E := ⟨p, i, rfl, h, q⟩

theorem ok_hasResult (T : Txt K mg) : FnOk P w K mg base CX0 1 T.hasResult.f T.hasResult.fd ["instruction"] (spIns hasRes) := by
  refine T.hasResult.F.ok sc_hasResult (fun vs H Q E h => ?_) (fun cdv A outer s H vs Q E hr h => ?_)
  · obtain ⟨p, i, rfl, _⟩ := h
    rfl
  · obtain ⟨p, i, rfl, h, q⟩ := h
    refine ⟨_, (pss_one (ps_ret (pe_or (pe_cmpR (op_inC T.tOps rfl) (pe_ix ix_tupH (pv 0) pe_int (fun _ _ => rfl)) (C8.pe_gc rfl T.mOPERATIONS) (by rfl)) (pe_one (pe_cmpR op_eq (pe_ix ix_tupH (pv 0) pe_int (fun _ _ => rfl)) pe_str (nomark _)))))), ?_⟩
    rw [show L2.start N_hasResult [V.ref p] = [some (V.ref p)] from rfl]
    walk_at "rd"
    simp only [h, vals]
    walk_at "rd"
    cases i <;> simpa [kd, Kd.isOp, hasRes] using q
theorem ok_isPredictable (T : Txt K mg) : FnOk P w K mg base CX0 1 T.isPredictable.f T.isPredictable.fd ["instruction"] (spIns isPred) := by
  refine T.isPredictable.F.ok sc_isPredictable (fun vs H Q E h => ?_) (fun cdv A outer s H vs Q E hr h => ?_)
  · obtain ⟨p, i, rfl, _⟩ := h
    rfl
  · obtain ⟨p, i, rfl, h, q⟩ := h
    refine ⟨_, (pss_one (ps_ret (pe_or (pe_cmpR op_eq (pe_ix ix_tupH (pv 0) pe_int (fun _ _ => rfl)) pe_str (nomark _)) (pe_one (pe_cmpR (op_inC T.tAts rfl) (pe_ix ix_tupH (pv 0) pe_int (fun _ _ => rfl)) (C8.pe_gc rfl T.mATOMIC) (by rfl)))))), ?_⟩
    rw [show L2.start N_isPredictable [V.ref p] = [some (V.ref p)] from rfl]
    walk_at "rd"
    simp only [h, vals]
    walk_at "rd"
    cases i <;> simpa [kd, Kd.isAt, isPred] using q
def spOIns (g : Option Ins → V) : Sp := fun vs H Q _ => ∃ v i, vs = [v] ∧ OIns H v i ∧ Q (g i) H
theorem i_oins {g : Option Ins → V} {v : V} {i : Option Ins} {H : Hp} {Q : VK} {E : XK} (h : OIns H v i) (q : Q (g i) H) : spOIns g [v] H Q E := ⟨v, i, rfl, h, q⟩
def oExe : Option Ins → V
  | none => .bl false
  | some i => .bl i.exe
def oDest : Option Ins → V
  | none => .non
  | some i => oV i.dest
theorem ok_isExecuted (T : Txt K mg) : FnOk P w K mg base CX0 2 T.isExecuted.f T.isExecuted.fd ["instruction"] (spOIns oExe) := by
  refine T.isExecuted.F.ok sc_isExecuted (fun vs H Q E h => ?_) (fun cdv A outer s H vs Q E hr h => ?_)
  · obtain ⟨v, i, rfl, _⟩ := h
    rfl
  · obtain ⟨v, i, rfl, h, q⟩ := h
    refine ⟨_, (pss_cons (ps_if (pt_cmpR op_isN (pv 0) pe_non (nomark _))
        (pss_one (ps_ret pe_bl))
        pss_nil)
      (pss_one (ps_ret (pe_or (pcall T.hasResult (ok_hasResult T) hr (by decide) (by rfl) (pa_cons (pv 0) pa_nil)) (pe_or (pe_cmpR op_eq (pe_ix ix_tupH (pv 0) pe_int (fun _ _ => rfl)) pe_str (nomark _)) (pe_one (pe_cmpR op_eq (pe_ix ix_tupH (pv 0) pe_int (fun _ _ => rfl)) pe_str (nomark _)))))))), ?_⟩
    rw [show L2.start N_isExecuted [v] = [some v] from rfl]
    walk_at "rd"
    cases i with
    | none =>
      obtain rfl : v = .non := h
      simp only [if_true]
      exact q
    | some i =>
      obtain ⟨p, rfl, h⟩ := h
      simp only [reduceCtorEq, if_false]
      refine i_ins h ?_
      walk_at "rd"
      simp only [h, vals]
      walk_at "rd"
      cases i <;> simpa [kd, hasRes, oExe, Ins.exe] using q
theorem ok_destination (T : Txt K mg) : FnOk P w K mg base CX0 2 T.destination.f T.destination.fd ["instruction"] (spOIns oDest) := by
  refine T.destination.F.ok sc_destination (fun vs H Q E h => ?_) (fun cdv A outer s H vs Q E hr h => ?_)
  · obtain ⟨v, i, rfl, _⟩ := h
    rfl
  · obtain ⟨v, i, rfl, h, q⟩ := h
    refine ⟨_, (pss_cons (ps_if (PW.pt (pw_or (pt_cmpR op_isN (pv 0) pe_non (nomark _)) (pw_or1 (PW.pt (pw_and (pt_not (pt_val (pcall T.hasResult (ok_hasResult T) hr (by decide) (by rfl) (pa_cons (pv 0) pa_nil)))) (pw_and1 (pt_not (pt_val (pcall T.isPredictable (ok_isPredictable T) hr (by decide) (by rfl) (pa_cons (pv 0) pa_nil))))))))))
        (pss_one (ps_ret pe_non))
        pss_nil)
      (pss_cons (ps_if (pt_cmpR op_eq (pe_ix ix_tupH (pv 0) pe_int (fun _ _ => rfl)) pe_int (nomark _))
        (pss_one (ps_ret pe_non))
        pss_nil)
      (pss_one (ps_ret (pe_ix ix_tupH (pv 0) pe_int (fun _ _ => rfl)))))), ?_⟩
    rw [show L2.start N_destination [v] = [some v] from rfl]
    walk_at "rd"
    cases i with
    | none =>
      obtain rfl : v = .non := h
      simp only [if_true]
      exact q
    | some i =>
      obtain ⟨p, rfl, h⟩ := h
      simp only [reduceCtorEq, if_false]
      cases i <;> refine i_ins h ?_ <;> walk_at "rd" <;> (try simp only [hasRes, if_true, if_false, Bool.false_eq_true, reduceCtorEq]) <;>
        (try (refine i_ins h ?_; walk_at "rd"; (try simp only [isPred, if_true, if_false, Bool.false_eq_true, reduceCtorEq]))) <;>
        (try (simp only [h, vals, KW.rest]; walk_at "rd")) <;> first | exact q | skip
      all_goals (simp only [oDest, Ins.dest, Ins.rd] at q; split)
      all_goals (rename_i e; first | (rw [if_pos e] at q; exact q) | (rw [if_neg e] at q; exact q))
def spRegs : Sp := fun vs H Q _ => ∃ p i, vs = [.ref p] ∧ H p = some (.tup (vals i)) ∧ i.exe = true ∧ ∀ r H', Same H H' → H' r = some (.tup [.int (regsOf i).1, .int (regsOf i).2]) → Q (.ref r) H'
theorem ok_operandRegisters (T : Txt K mg) : FnOk P w K mg base CX0 1 T.operandRegisters.f T.operandRegisters.fd ["instruction"] spRegs := by
  refine T.operandRegisters.F.ok sc_operandRegisters (fun vs H Q E h => ?_) (fun cdv A outer s H vs Q E hr h => ?_)
  · obtain ⟨p, i, rfl, _⟩ := h
    rfl
  · obtain ⟨p, i, rfl, h, hx, q⟩ := h
    refine ⟨_, (pss_cons (ps_if (PW.pt (pw_or (pt_cmpR (op_inC T.tOps rfl) (pe_ix ix_tupH (pv 0) pe_int (fun _ _ => rfl)) (C8.pe_gc rfl T.mOPERATIONS) (by rfl)) (pw_or1 (pt_cmpR op_eq (pe_ix ix_tupH (pv 0) pe_int (fun _ _ => rfl)) pe_str (nomark _)))))
        (pss_one (ps_ret (pe_tupH (pa_cons (pe_ix ix_tupH (pv 0) pe_int (fun _ _ => rfl)) (pa_cons (pe_ix ix_tupH (pv 0) pe_int (fun _ _ => rfl)) pa_nil)))))
        pss_nil)
      (pss_cons (ps_if (pt_cmpR op_eq (pe_ix ix_tupH (pv 0) pe_int (fun _ _ => rfl)) pe_str (nomark _))
        (pss_one (ps_ret (pe_tupH (pa_cons (pe_ix ix_tupH (pv 0) pe_int (fun _ _ => rfl)) (pa_cons pe_int pa_nil)))))
        pss_nil)
      (pss_one (ps_ret (pe_tupH (pa_cons pe_int (pa_cons pe_int pa_nil))))))), ?_⟩
    rw [show L2.start N_operandRegisters [V.ref p] = [some (V.ref p)] from rfl]
    walk_at "rd"
    cases i <;> (try cases hx) <;> (try (simp only [h, vals, KW.rest]; walk_at "rd")) <;> exact q
def resOf : Ins → Int → Int → Int
  | .op o _ _ _, a, b => opRun o a b
  | .addi _ _ n, a, _ => (a + n) % 65536
  | _, _, _ => 0
def succOf : Ins → Int → Int → Int → Int
  | .jump t, _, _, _ => t
  | .branch r _ _ t, pc, a, b => if r.holds a b = true then t else pc + 1
  | _, pc, _, _ => pc + 1
def spResult : Sp := fun vs H Q _ => ∃ p i a b, vs = [.ref p, .int a, .int b] ∧ H p = some (.tup (vals i)) ∧ hasRes i = true ∧ i.Ok ∧ Wd a ∧ Wd b ∧ Q (.int (resOf i a b)) H
theorem ok_resultOf (T : Txt K mg) : FnOk P w K mg base CX0 4 T.resultOf.f T.resultOf.fd ["instruction", "a", "b"] spResult := by
  refine T.resultOf.F.ok sc_resultOf (fun vs H Q E h => ?_) (fun cdv A outer s H vs Q E hr h => ?_)
  · obtain ⟨p, i, a, b, rfl, _⟩ := h
    rfl
  · obtain ⟨p, i, a, b, rfl, h, hx, ok, ha, hb, q⟩ := h
    refine ⟨_, (pss_cons (ps_if (pt_cmpR op_eq (pe_ix ix_tupH (pv 0) pe_int (fun _ _ => rfl)) pe_str (nomark _))
        (pss_one (ps_ret (pcall T.operate (ok_operate T) hr (by decide) (by rfl) (pa_cons pe_str (pa_cons (pv 1) (pa_cons (pe_ix ix_tupH (pv 0) pe_int (fun _ _ => rfl)) pa_nil))))))
        pss_nil)
      (pss_one (ps_ret (pcall T.operate (ok_operate T) hr (by decide) (by rfl) (pa_cons (pe_ix ix_tupH (pv 0) pe_int (fun _ _ => rfl)) (pa_cons (pv 1) (pa_cons (pv 2) pa_nil))))))), ?_⟩
    rw [show L2.start N_resultOf [V.ref p, V.int a, V.int b] = [some (V.ref p), some (V.int a), some (V.int b)] from rfl]
    walk_at "rd"
    cases i <;> (try cases hx) <;> simp only [h, vals, KW.rest] <;> walk_at "rd"
    · exact i_operate (E := E0) ha hb q
    · exact i_operate (E := E0) (o := .add) ha ok.2.2 q
def spAfter : Sp := fun vs H Q _ => ∃ p i pc a b, vs = [.ref p, .int pc, .int a, .int b] ∧ H p = some (.tup (vals i)) ∧ i.exe = true ∧ Q (.int (succOf i pc a b)) H
theorem ok_addressAfter (T : Txt K mg) : FnOk P w K mg base CX0 3 T.addressAfter.f T.addressAfter.fd ["instruction", "pc", "a", "b"] spAfter := by
  refine T.addressAfter.F.ok sc_addressAfter (fun vs H Q E h => ?_) (fun cdv A outer s H vs Q E hr h => ?_)
  · obtain ⟨p, i, pc, a, b, rfl, _⟩ := h
    rfl
  · obtain ⟨p, i, pc, a, b, rfl, h, hx, q⟩ := h
    refine ⟨_, (pss_cons (ps_if (pt_cmpR op_eq (pe_ix ix_tupH (pv 0) pe_int (fun _ _ => rfl)) pe_str (nomark _))
        (pss_one (ps_ret (pe_ix ix_tupH (pv 0) pe_int (fun _ _ => rfl))))
        pss_nil)
      (pss_cons (ps_if (PW.pt (pw_and (pt_cmpR op_eq (pe_ix ix_tupH (pv 0) pe_int (fun _ _ => rfl)) pe_str (nomark _)) (pw_and1 (pt_val (pcall T.compare (ok_compare T) hr (by decide) (by rfl) (pa_cons (pe_ix ix_tupH (pv 0) pe_int (fun _ _ => rfl)) (pa_cons (pv 2) (pa_cons (pv 3) pa_nil))))))))
        (pss_one (ps_ret (pe_ix ix_tupH (pv 0) pe_int (fun _ _ => rfl))))
        pss_nil)
      (pss_one (ps_ret (pe_op op_add (pv 1) pe_int))))), ?_⟩
    rw [show L2.start N_addressAfter [V.ref p, V.int pc, V.int a, V.int b] = [some (V.ref p), some (V.int pc), some (V.int a), some (V.int b)] from rfl]
    walk_at "rd"
    cases i <;> (try cases hx) <;> simp only [h, vals, KW.rest] <;> walk_at "rd"
    · exact q
    · exact q
    · refine i_compare ?_
      simp only [succOf] at q
      walk_at "rd"
      split
      · rename_i e
        rw [if_pos e] at q
        simp only [h, vals, KW.rest]
        walk_at "rd"
        exact q
      · rename_i e
        rw [if_neg e] at q
        exact q
    · exact q
def spOInsS (g : Option Ins → V) : Sp := fun vs H Q _ => ∃ v i, vs = [v] ∧ OIns H v i ∧ ∀ H', Same H H' → Q (g i) H'
theorem i_oinsS {g : Option Ins → V} {v : V} {i : Option Ins} {H : Hp} {Q : VK} {E : XK} (h : OIns H v i) (q : ∀ H', Same H H' → Q (g i) H') : spOInsS g [v] H Q E := ⟨v, i, rfl, h, q⟩
theorem ok_lDestination (T : Txt K mg) : FnOk P w K mg base CX0 1 T.lDestination.f T.lDestination.fd ["_law_now"] (spOInsS oDest) := by
  refine T.lDestination.F.ok sc_lDestination (fun vs H Q E h => ?_) (fun cdv A outer s H vs Q E hr h => ?_)
  · obtain ⟨v, i, rfl, _⟩ := h
    rfl
  · obtain ⟨v, i, rfl, h, q⟩ := h
    refine ⟨_, (pss_cons (ps_if (PW.pt (pw_or (pt_cmpR op_isN (pv 0) pe_non (nomark _)) (pw_or (pt_inD (xs := [.str "store", .str "fence", .str "branch", .str "jump", .str "halt"]) (pe_ix ix_tupH (pv 0) pe_int (fun _ _ => rfl)) (pa_cons pe_str (pa_cons pe_str (pa_cons pe_str (pa_cons pe_str (pa_cons pe_str pa_nil))))) (mon_ix mon_var mon_c) rfl rfl (by decide) (by rfl)) (pw_or1 (pt_cmpR op_eq (pe_ix ix_tupH (pv 0) pe_int (fun _ _ => rfl)) pe_int (nomark _))))))
        (pss_one (ps_ret pe_non))
        pss_nil)
      (pss_one (ps_ret (pe_ix ix_tupH (pv 0) pe_int (fun _ _ => rfl))))), ?_⟩
    rw [show L2.start N_lDestination [v] = [some v] from rfl]
    walk_at "rd"
    cases i with
    | none =>
      obtain rfl : v = .non := h
      simp only [if_true]
      exact q H (Same.refl H)
    | some i =>
      obtain ⟨p, rfl, h⟩ := h
      walk_at "rd"
      cases i <;> simp only [h] <;> walk_at "rd" <;> (try simp only [Kd.isL5, if_true, if_false, Bool.false_eq_true]) <;> intro H' s' <;> have h' := s' _ _ h <;> have q := q H' s' <;> (try simp only [h']) <;> (try walk_at "rd") <;> (try exact q)
      all_goals (simp only [oDest, Ins.dest, Ins.rd] at q; split)
      all_goals (rename_i e; first | (rw [if_pos e] at q; exact q) | (rw [if_neg e] at q; exact q))
/-! ### an entry executed, by what stands in its instruction -/
abbrev ex1 := exec1 Builtin.bitAnd Builtin.bitOr Builtin.bitXor
theorem ex1_none {regs : List Int} {pre : List Ent} {e : Ent} (h : e.res ≠ none ∨ ∀ i, e.ins = some i → i.exe = false) : ex1 regs pre e = none := by
  cases q : ex1 regs pre e with
  | none => rfl
  | some e' =>
    have k := exec1_kept q
    obtain ⟨i, h1, h2⟩ := k.exe
    rcases h with h | h
    · exact absurd k.was h
    · rw [h i h1] at h2
      cases h2
theorem ex1_some {regs : List Int} (hR : Regs regs) {pre : List Ent} {e : Ent} {i : Ins} (hi : e.ins = some i) (hx : i.exe = true) (hr : e.res = none) : ex1 regs pre e = match opnd regs pre (regsOf i).1, opnd regs pre (regsOf i).2 with
    | some x, some y => some { e with succ := succOf i e.pc x y, res := some (resOf i x y) }
    | _, _ => none := by
  obtain ⟨pc, ins, sc, pr, res, pl, tm⟩ := e
  dsimp only at hi hr
  subst hi hr
  cases i with
  | op o d a b => rfl
  | addi d a n =>
    have z : opnd regs pre (regsOf (.addi d a n)).2 = some 0 := opnd_zero hR pre
    rw [z]
    unfold ex1 exec1
    dsimp only [regsOf]
    cases opnd regs pre a <;> rfl
  | branch r a b t => rfl
  | jump t =>
    have z1 : opnd regs pre (regsOf (.jump t)).1 = some 0 := opnd_zero hR pre
    have z2 : opnd regs pre (regsOf (.jump t)).2 = some 0 := opnd_zero hR pre
    rw [z1, z2]
    rfl
  | load d a n => cases hx
  | store d a n => cases hx
  | swap d a b => cases hx
  | fadd d a b => cases hx
  | ll d a => cases hx
  | sc d a b => cases hx
  | fence x => cases hx
  | halt => cases hx
theorem regsOf_ok {i : Ins} (h : i.Ok) (hx : i.exe = true) : Reg (regsOf i).1 ∧ Reg (regsOf i).2 := by
  have z : Reg 0 := ⟨by decide, by decide⟩
  cases i with
  | op o d a b => exact ⟨h.2.1, h.2.2⟩
  | addi d a n => exact ⟨h.2.1, z⟩
  | branch r a b t => exact ⟨h.1, h.2.1⟩
  | jump t => exact ⟨z, z⟩
  | load d a n => cases hx
  | store d a n => cases hx
  | swap d a b => cases hx
  | fadd d a b => cases hx
  | ll d a => cases hx
  | sc d a b => cases hx
  | fence x => cases hx
  | halt => cases hx
theorem resOf_no {i : Ins} (hx : i.exe = true) (h : hasRes i = false) (a b : Int) : resOf i a b = 0 := by
  cases i <;> first | rfl | cases h
end
end KW

namespace KW
open PySem PySem.Spec PyProof.Rows L2 KM
local macro_rules | `(tactic| walk_at "rd") => `(tactic| simp (config := { decide := true, maxSteps := 2000000 }) only [tSeq, tIfS, tTest, tOp, rI0, rI, rEq, rNe, sc_nn, sc_ni, sc_in, sc_nb, sc_bn, sc_ns, sc_sn, sc_ii, sc_bb, sc_ss, sc_is, sc_si, tVar, tC, tRet, tNext, tAsg, gName, tB, tCall, tCons, tNil, tCB, tUn, rU, tAnd, tOr, tNot, tAndV, tOrV, tNotV, tIf, CMul, CDiv, CPow,
  at0, at1, at2, at3, at4, at5, at6, rs_eq, rs_ne, rs_lt, rs_ge, rs_ltu, rs_geu, os_add, os_sub, os_mul, os_and, os_or, os_xor, os_slt, os_sltu, ks_addi, ks_load, ks_store, ks_swap, ks_fadd, ks_ll, ks_sc, ks_fence, ks_branch, ks_jump, ks_halt, in_ops, in_ats,
  rIxTH, rIxLH, rLenT, rLenL, rInC, rInL, rNotInL, rCatH, rSlH, tTupH, tLstH, rTupOf, gSub, rSetL, tDrop, tBM, rAppend, tYes, wipe, upd_same, upd_upd, gTupH, gc_cons, gc_nil, tSl, tPart, tNoPart, fl_n, fl_i, fl_b, fl_s, tInD, tInT, vals, kd_op, rest_op, kd_addi, rest_addi, kd_load, rest_load, kd_store, rest_store, kd_swap, rest_swap, kd_fadd, rest_fadd, kd_ll, rest_ll, kd_sc, rest_sc, kd_fence, rest_fence, kd_branch, rest_branch, kd_jump, rest_jump, kd_halt, rest_halt, in_l1, in_l2, in_l3, in_l4, in_l5, in_l6,
  List.getElem?_cons_zero, List.getElem?_cons_succ, List.set_cons_zero, List.set_cons_succ, Option.some.injEq, exists_eq_left', exists_eq_left, exists_and_left, exists_eq', exists_eq, V.int.injEq, V.bl.injEq, V.str.injEq, V.ref.injEq, HO.tup.injEq, HO.lst.injEq, decide_eq_true_eq, true_and, and_true, false_and, and_false, or_false, false_or, true_or, or_true, List.append_nil, List.cons_append, List.nil_append, List.cons.injEq,
  List.length_cons, List.length_nil, Nat.reduceAdd, Nat.reduceLeDiff, forall_const, reduceCtorEq, Bool.false_eq_true, if_true, if_false, Bool.not_true, Bool.not_false, Bool.not_eq_true', decide_eq_false_iff_not, decide_true, decide_false])
local macro_rules | `(tactic| walk_at "rs") => `(tactic| simp (config := { decide := true, maxSteps := 2000000 }) only [tSeq, tIfS, tTest, tOp, rI0, rI, rEq, rNe, sc_nn, sc_ni, sc_in, sc_nb, sc_bn, sc_ns, sc_sn, sc_ii, sc_bb, sc_ss, sc_is, sc_si, tVar, tC, tRet, tNext, tAsg, gName, tB, tCall, tCons, tNil, tCB, tUn, rU, tAnd, tOr, tNot, tAndV, tOrV, tNotV, tIf, CMul, CDiv, CPow,
  at0, at1, at2, at3, at4, at5, at6, rs_eq, rs_ne, rs_lt, rs_ge, rs_ltu, rs_geu, os_add, os_sub, os_mul, os_and, os_or, os_xor, os_slt, os_sltu, ks_addi, ks_load, ks_store, ks_swap, ks_fadd, ks_ll, ks_sc, ks_fence, ks_branch, ks_jump, ks_halt, in_ops, in_ats,
  rIxTH, rIxLH, rLenT, rLenL, rInC, rInL, rNotInL, rCatH, rSlH, tTupH, tLstH, rTupOf, gSub, rSetL, tDrop, tBM, rAppend, tYes, wipe, upd_same, upd_upd, gTupH, gc_cons, gc_nil, tSl, tPart, tNoPart, fl_n, fl_i, fl_b, fl_s, tInD, tInT, vals, kd_op, rest_op, kd_addi, rest_addi, kd_load, rest_load, kd_store, rest_store, kd_swap, rest_swap, kd_fadd, rest_fadd, kd_ll, rest_ll, kd_sc, rest_sc, kd_fence, rest_fence, kd_branch, rest_branch, kd_jump, rest_jump, kd_halt, rest_halt, in_l1, in_l2, in_l3, in_l4, in_l5, in_l6,
  List.getElem?_cons_zero, List.getElem?_cons_succ, List.set_cons_zero, List.set_cons_succ, Option.some.injEq, exists_eq_left', exists_eq_left, exists_and_left, exists_eq', exists_eq, V.int.injEq, V.bl.injEq, V.str.injEq, V.ref.injEq, HO.tup.injEq, HO.lst.injEq, decide_eq_true_eq, true_and, and_true, false_and, and_false, or_false, false_or, true_or, or_true, List.append_nil, List.cons_append, List.nil_append, List.cons.injEq,
  List.length_cons, List.length_nil, Nat.reduceAdd, Nat.reduceLeDiff, forall_const, reduceCtorEq, Bool.false_eq_true, if_true, if_false, Bool.not_true, Bool.not_false, Bool.not_eq_true', decide_eq_false_iff_not, decide_true, decide_false, *])
theorem oDest_eq (e : Ent) : oDest e.ins = oV e.dest := by
  unfold Ent.dest
  cases e.ins <;> rfl
theorem sc_oV (d : Option Int) (n : Int) : scal (oV d) (.int n) = true := by cases d <;> rfl
theorem oV_int (d : Option Int) (n : Int) : (oV d = V.int n) = (d = some n) := by
  cases d with
  | none => exact propext ⟨fun h => (nomatch h), fun h => (nomatch h)⟩
  | some m => exact propext ⟨fun h => congrArg some (V.int.inj h), fun h => congrArg V.int (Option.some.inj h)⟩
theorem oV_non (d : Option Int) : (oV d = V.non) = (d = none) := by
  cases d with
  | none => exact propext ⟨fun _ => rfl, fun _ => rfl⟩
  | some m => exact propext ⟨fun h => (nomatch h), fun h => (nomatch h)⟩
theorem reg_at {regs : List Int} (hR : Regs regs) {n : Int} (hn : Reg n) : atI (regs.map V.int) n = some (.int (regs.getD n.toNat 0)) := by
  have h1 := hn.1
  have h2 := hn.2
  have e : n = ((n.toNat : Nat) : Int) := by omega
  have hl : n.toNat < regs.length := by
    rw [hR.1]
    omega
  refine at_of e ?_
  rw [List.getElem?_map, List.getElem?_eq_getElem hl, List.getD_eq_getElem?_getD, List.getElem?_eq_getElem hl]
  rfl
theorem split_at {l : List Ent} {i : Nat} {e : Ent} (hi : i < l.length) (he : l[l.length - 1 - i]? = some e) : l = l.take (l.length - 1 - i) ++ e :: l.drop (l.length - i) := by
  have hj : l.length - 1 - i < l.length := by omega
  have h1 : l.drop (l.length - 1 - i) = e :: l.drop (l.length - 1 - i + 1) := by
    rw [List.drop_eq_getElem_cons hj]
    rw [List.getElem?_eq_getElem hj] at he
    rw [Option.some.inj he]
  have h2 : l.length - i = l.length - 1 - i + 1 := by omega
  rw [h2, ← h1, List.take_append_drop]
theorem drop_more {l : List Ent} {i : Nat} {e : Ent} (hi : i < l.length) (he : l[l.length - 1 - i]? = some e) : l.drop (l.length - (i + 1)) = e :: l.drop (l.length - i) := by
  have h0 : l.length - (i + 1) = l.length - 1 - i := by omega
  have hj : l.length - 1 - i < l.length := by omega
  have h2 : l.length - i = l.length - 1 - i + 1 := by omega
  rw [h0, h2, List.drop_eq_getElem_cons hj]
  rw [List.getElem?_eq_getElem hj] at he
  rw [Option.some.inj he]
section
variable {P : Program} {w : World} {K : PySem.W.Frag} {mg : Str → Option Value} {base : Heap}
def spOperand : Sp := fun vs H Q _ => ∃ (v : V) (k : Nat) (n : Int) (R : KW.Rest) (es : List Ent) (regs : List Int), vs = [v, .int k, .int n] ∧ PipeAt H v R es ∧ StAt H R.st regs ∧ Regs regs ∧ Reg n ∧ ∀ H', Same H H' → Q (oV (opnd regs (es.take k) n)) H'
theorem ok_operand (T : Txt K mg) : FnOk P w K mg base CX0 3 T.operand.f T.operand.fd ["pipeline", "index", "number"] spOperand := by
  refine T.operand.F.ok sc_operand (fun vs H Q E h => ?_) (fun cdv A outer s H vs Q E hr h => ?_)
  · obtain ⟨v, k, n, R, es, regs, rfl, _⟩ := h
    rfl
  · obtain ⟨v, k, n, R, es, regs, rfl, hP, hS, hR, hn, q⟩ := h
    refine ⟨_, (pss_cons (ps_if (pt_cmpR op_eq (pv 2) pe_int (nomark _))
        (pss_one (ps_ret pe_int))
        pss_nil)
      (pss_cons (ps_for PassesOwn.never rfl (RT.pi_revA rfl T.zreversed (pe_slice sl_tupH (pe_ix ix_tupH (pv 0) pe_int (fun _ _ => rfl)) po_none (po_some (pv 1)))) (pg_tupH (pg_tup rfl (pgs_cons (pg_name (i := 3) sc_operand.nd rfl (.inl rfl)) (pgs_cons (pg_name (i := 4) sc_operand.nd rfl (.inl rfl)) (pgs_cons (pg_name (i := 5) sc_operand.nd rfl (.inl rfl)) (pgs_cons (pg_name (i := 6) sc_operand.nd rfl (.inl rfl)) (pgs_cons (pg_name (i := 7) sc_operand.nd rfl (.inl rfl)) (pgs_cons (pg_name (i := 8) sc_operand.nd rfl (.inl rfl)) (pgs_cons (pg_name (i := 9) sc_operand.nd rfl (.inl rfl)) pgs_nil)))))))))
        (pss_one (ps_if (pt_cmpR op_eq (pcall T.destination (ok_destination T) hr (by decide) (by rfl) (pa_cons (pv 4) pa_nil)) (pv 2) (nomark _))
        (pss_cons (ps_if (pt_cmpR op_isN (pv 7) pe_non (nomark _))
          (pss_one (ps_ret (pv 6)))
          pss_nil)
        (pss_one (ps_ret (pv 7))))
        pss_nil)))
      (pss_one (ps_ret (pe_ix ix_tupH (pe_ix ix_tupH (pe_ix ix_tupH (pv 0) pe_int (fun _ _ => rfl)) pe_int (fun _ _ => rfl)) (pv 2) (fun _ _ => rfl)))))), ?_⟩
    rw [show L2.start N_operand [v, V.int k, V.int n] = [some v, some (V.int k), some (V.int n), none, none, none, none, none, none, none] from rfl]
    walk_at "rd"
    split
    · rename_i e
      subst e
      have := q H (Same.refl H)
      rw [opnd_zero hR] at this
      exact this
    · obtain ⟨p, a, xs, rfl, h1, h2, h3⟩ := hP
      refine for_revH (xs.take k) (fun Qa qa => ?_) (fun H1 i σ H' => H' = H1 ∧ i ≤ (es.take k).length ∧ (∃ a b c d e f g, σ = [some (V.ref p), some (V.int k), some (V.int n), a, b, c, d, e, f, g]) ∧ ∀ x ∈ (es.take k).drop ((es.take k).length - i), x.dest ≠ some n)
        (fun H1 s1 => ⟨rfl, Nat.zero_le _, ⟨_, _, _, _, _, _, _, rfl⟩, fun x hx => ?_⟩) (fun H1 i σ H' z => by rw [z.1]; exact Same.refl _) (fun H1 s1 i x σ H' hi hx hv => ?_) (fun H1 s1 σ H' hv => ?_)
      · walk_at "rs"
        intro p' H' s' e'
        rw [cut_take] at e'
        exact qa p' H' s' e'
      · rw [Nat.sub_zero, List.drop_length] at hx
        cases hx
      · obtain ⟨rfl, hi2, ⟨a1, a2, a3, a4, a5, a6, a7, rfl⟩, hno⟩ := hv
        have hlen : (xs.take k).length = (es.take k).length := (h3.take k).1
        rw [hlen] at hi hx
        have hj : (es.take k).length - 1 - i < (es.take k).length := by omega
        have he : (es.take k)[(es.take k).length - 1 - i]? = some (es.take k)[(es.take k).length - 1 - i] := List.getElem?_eq_getElem hj
        generalize (es.take k)[(es.take k).length - 1 - i] = en at he
        obtain ⟨b, iv, rfl, hI, hb⟩ := ((gr_same s1).ents (h3.take k)).2 _ _ _ hx he
        walk_at "rs"
        refine i_oins hI ?_
        walk_at "rd"
        rw [oDest_eq]
        refine ⟨sc_oV _ _, ?_⟩
        simp only [oV_int, oV_non]
        have q' := q H' s1
        split
        · rename_i hd
          rw [split_at hi he, opnd_hit hd hno] at q'
          unfold Ent.avail at q'
          split
          · rename_i hr
            rw [hr] at q'
            exact q'
          · cases hr : en.res with
            | none => exact absurd hr (by assumption)
            | some z =>
              rw [hr] at q'
              exact q'
        · rename_i hd
          refine ⟨hi, fun x hx => ?_⟩
          rw [drop_more hi he] at hx
          rcases List.mem_cons.mp hx with rfl | hx
          · exact hd
          · exact hno x hx
      · obtain ⟨rfl, hi2, ⟨a1, a2, a3, a4, a5, a6, a7, rfl⟩, hno⟩ := hv
        have hno' : ∀ x ∈ es.take k, x.dest ≠ some n := fun x hx => hno x (by rw [(h3.take k).1, Nat.sub_self]; exact hx)
        have q' := q H' s1
        rw [opnd_miss hno'] at q'
        obtain ⟨s, w', pc, lk, hs, hs1, hs2⟩ := (gr_same s1).st hS
        have g1 := s1 _ _ h1
        walk_at "rs"
        exact ⟨_, reg_at hR hn, q'⟩
def spWith : Sp := fun vs H Q _ => ∃ (v w : V) (k : Nat) (b : Bool) (R : KW.Rest) (es : List Ent) (e : Ent), vs = [v, .int k, w, .bl b] ∧ PipeAt H v R es ∧ EntAt H w e ∧ k ≤ es.length ∧ es.length ≤ 100 ∧ ∀ v' H', Same H H' → PipeAt H' v' R (es.take k ++ e :: if b = true then es.drop (k + 1) else []) → Q v' H'
theorem ok_withEntry (T : Txt K mg) : FnOk P w K mg base CX0 1 T.withEntry.f T.withEntry.fd ["pipeline", "index", "entry", "keep"] spWith := by
  refine T.withEntry.F.ok sc_withEntry (fun vs H Q E h => ?_) (fun cdv A outer s H vs Q E hr h => ?_)
  · obtain ⟨v, w', k, b, R, es, e, rfl, _⟩ := h
    rfl
  · obtain ⟨v, w', k, b, R, es, e, rfl, hP, hE, hk, hl, q⟩ := h
    refine ⟨_, (pss_cons (ps_asg (pv 0) (pg_tupH (pg_tup rfl (pgs_cons (pg_name (i := 4) sc_withEntry.nd rfl (.inl rfl)) (pgs_cons (pg_name (i := 5) sc_withEntry.nd rfl (.inl rfl)) (pgs_cons (pg_name (i := 6) sc_withEntry.nd rfl (.inl rfl)) (pgs_cons (pg_name (i := 7) sc_withEntry.nd rfl (.inl rfl)) (pgs_cons (pg_name (i := 8) sc_withEntry.nd rfl (.inl rfl)) pgs_nil))))))))
      (pss_cons (ps_set (i := 9) sc_withEntry.nd rfl (.inl rfl) (pe_tupH pa_nil))
      (pss_cons (ps_if (pt_val (pv 3))
        (pss_one (ps_set (i := 9) sc_withEntry.nd rfl (.inl rfl) (pe_slice sl_tupH (pv 5) (po_some (pe_op op_add (pv 1) pe_int)) po_none)))
        pss_nil)
      (pss_one (ps_ret (pe_tupH (pa_cons (pv 4) (pa_cons (pe_op op_catH (pe_op op_catH (pe_slice sl_tupH (pv 5) po_none (po_some (pv 1))) (pe_tupH (pa_cons (pv 2) pa_nil))) (pv 9)) (pa_cons (pv 6) (pa_cons (pv 7) (pa_cons (pv 8) pa_nil))))))))))), ?_⟩
    rw [show L2.start N_withEntry [v, V.int k, w', V.bl b] = [some v, some (V.int k), some w', some (V.bl b), none, none, none, none, none, none] from rfl]
    obtain ⟨p, a, xs, rfl, h1, h2, h3⟩ := hP
    walk_at "rs"
    intro p0 H0 s0 e0
    have t1 : (xs.take k).length ≤ 100 := by
      rw [List.length_take, h3.1]
      omega
    have t2 : (xs.drop (k + 1)).length ≤ 100 := by
      rw [List.length_drop, h3.1]
      omega
    have ec : ((k : Int) + 1) = ((k + 1 : Nat) : Int) := rfl
    have one : ∀ H', Same H H' → EntsAt H' [w'] [e] := fun H' s => .one ((gr_same s).ent hE)
    cases b with
    | true =>
      simp only [if_true, ec, cut_drop, cut_take] at q ⊢
      refine ⟨xs, s0 _ _ h2, fun p1 H1 s1 e1 => ⟨xs, s1 _ _ (s0 _ _ h2), fun p2 H2 s2 e2 p3 H3 s3 e3 => ⟨_, s3 _ _ e2, _, e3, ?_, fun p4 H4 s4 e4 => ⟨_, e4, _, s4 _ _ (s3 _ _ (s2 _ _ e1)), ?_, fun p5 H5 s5 e5 p6 H6 s6 e6 => ?_⟩⟩⟩⟩
      · rw [List.length_singleton]
        omega
      · rw [List.length_append, List.length_singleton]
        omega
      · have sT : Same H H6 := s0.trans (s1.trans (s2.trans (s3.trans (s4.trans (s5.trans s6)))))
        have g := gr_same sT
        refine q _ _ sT ⟨p6, p5, _, rfl, e6, s6 _ _ e5, ?_⟩
        rw [show es.take k ++ e :: es.drop (k + 1) = (es.take k ++ [e]) ++ es.drop (k + 1) by rw [List.append_assoc]; rfl]
        exact ((g.ents (h3.take k)).app (one _ sT)).app (g.ents (h3.drop (k + 1)))
    | false =>
      simp only [Bool.false_eq_true, if_false, cut_take] at q ⊢
      refine ⟨xs, s0 _ _ h2, fun p2 H2 s2 e2 p3 H3 s3 e3 => ⟨_, s3 _ _ e2, _, e3, ?_, fun p4 H4 s4 e4 => ⟨_, e4, _, s4 _ _ (s3 _ _ (s2 _ _ e0)), ?_, fun p5 H5 s5 e5 p6 H6 s6 e6 => ?_⟩⟩⟩
      · rw [List.length_singleton]
        omega
      · rw [List.length_append, List.length_singleton, List.length_nil]
        omega
      · have sT : Same H H6 := s0.trans (s2.trans (s3.trans (s4.trans (s5.trans s6))))
        have g := gr_same sT
        refine q _ _ sT ⟨p6, p5, _, rfl, e6, s6 _ _ e5, ?_⟩
        rw [List.append_nil]
        exact (g.ents (h3.take k)).app (one _ sT)
def spExecute : Sp := fun vs H Q _ => ∃ (v : V) (k : Nat) (R : KW.Rest) (es : List Ent) (regs : List Int), vs = [v, .int k] ∧ PipeAt H v R es ∧ StAt H R.st regs ∧ Regs regs ∧ AllOk es ∧ es.length ≤ 100 ∧
  ∀ v' H', Same H H' → (match execAt Builtin.bitAnd Builtin.bitOr Builtin.bitXor regs es k with
    | none => v' = .non
    | some es' => PipeAt H' v' R es') → Q v' H'
theorem ok_execute (T : Txt K mg) : FnOk P w K mg base CX0 5 T.execute.f T.execute.fd ["pipeline", "index"] spExecute := by
  refine T.execute.F.ok sc_execute (fun vs H Q E h => ?_) (fun cdv A outer s H vs Q E hr h => ?_)
  · obtain ⟨v, k, R, es, regs, rfl, _⟩ := h
    rfl
  · obtain ⟨v, k, R, es, regs, rfl, hP, hS, hR, ok, hl, q⟩ := h
    refine ⟨_, (pss_cons (ps_if (pt_cmpR op_ge (pv 1) (pe_callB call_lenT (by rfl) T.zlen PySem.boot_len (pa_cons (pe_ix ix_tupH (pv 0) pe_int (fun _ _ => rfl)) pa_nil)) (nomark _))
        (pss_one (ps_ret pe_non))
        pss_nil)
      (pss_cons (ps_asg (pe_ix ix_tupH (pe_ix ix_tupH (pv 0) pe_int (fun _ _ => rfl)) (pv 1) (fun _ _ => rfl)) (pg_tupH (pg_tup rfl (pgs_cons (pg_name (i := 2) sc_execute.nd rfl (.inl rfl)) (pgs_cons (pg_name (i := 3) sc_execute.nd rfl (.inl rfl)) (pgs_cons (pg_name (i := 4) sc_execute.nd rfl (.inl rfl)) (pgs_cons (pg_name (i := 5) sc_execute.nd rfl (.inl rfl)) (pgs_cons (pg_name (i := 6) sc_execute.nd rfl (.inl rfl)) (pgs_cons (pg_name (i := 7) sc_execute.nd rfl (.inl rfl)) (pgs_cons (pg_name (i := 8) sc_execute.nd rfl (.inl rfl)) pgs_nil))))))))))
      (pss_cons (ps_if (PW.pt (pw_or (pt_cmpR op_notN (pv 6) pe_non (nomark _)) (pw_or1 (pt_not (pt_val (pcall T.isExecuted (ok_isExecuted T) hr (by decide) (by rfl) (pa_cons (pv 3) pa_nil)))))))
        (pss_one (ps_ret pe_non))
        pss_nil)
      (pss_cons (ps_asg (pcall T.operandRegisters (ok_operandRegisters T) hr (by decide) (by rfl) (pa_cons (pv 3) pa_nil)) (pg_tupH (pg_tup rfl (pgs_cons (pg_name (i := 9) sc_execute.nd rfl (.inl rfl)) (pgs_cons (pg_name (i := 10) sc_execute.nd rfl (.inl rfl)) pgs_nil)))))
      (pss_cons (ps_set (i := 11) sc_execute.nd rfl (.inl rfl) (pcall T.operand (ok_operand T) hr (by decide) (by rfl) (pa_cons (pv 0) (pa_cons (pv 1) (pa_cons (pv 9) pa_nil)))))
      (pss_cons (ps_set (i := 12) sc_execute.nd rfl (.inl rfl) (pcall T.operand (ok_operand T) hr (by decide) (by rfl) (pa_cons (pv 0) (pa_cons (pv 1) (pa_cons (pv 10) pa_nil)))))
      (pss_cons (ps_if (PW.pt (pw_or (pt_cmpR op_isN (pv 11) pe_non (nomark _)) (pw_or1 (pt_cmpR op_isN (pv 12) pe_non (nomark _)))))
        (pss_one (ps_ret pe_non))
        pss_nil)
      (pss_cons (ps_set (i := 6) sc_execute.nd rfl (.inl rfl) pe_int)
      (pss_cons (ps_if (pt_val (pcall T.hasResult (ok_hasResult T) hr (by decide) (by rfl) (pa_cons (pv 3) pa_nil)))
        (pss_one (ps_set (i := 6) sc_execute.nd rfl (.inl rfl) (pcall T.resultOf (ok_resultOf T) hr (by decide) (by rfl) (pa_cons (pv 3) (pa_cons (pv 11) (pa_cons (pv 12) pa_nil))))))
        pss_nil)
      (pss_cons (ps_set (i := 13) sc_execute.nd rfl (.inl rfl) (pcall T.addressAfter (ok_addressAfter T) hr (by decide) (by rfl) (pa_cons (pv 3) (pa_cons (pv 2) (pa_cons (pv 11) (pa_cons (pv 12) pa_nil))))))
      (pss_one (ps_ret (pcall T.withEntry (ok_withEntry T) hr (by decide) (by rfl) (pa_cons (pv 0) (pa_cons (pv 1) (pa_cons (pe_tupH (pa_cons (pv 2) (pa_cons (pv 3) (pa_cons (pv 13) (pa_cons (pv 5) (pa_cons (pv 6) (pa_cons (pv 7) (pa_cons (pv 8) pa_nil)))))))) (pa_cons (pe_cmpR op_eq (pv 13) (pv 4) (nomark _)) pa_nil))))))))))))))))), ?_⟩
    rw [show L2.start N_execute [v, V.int k] = [some v, some (V.int k), none, none, none, none, none, none, none, none, none, none, none, none] from rfl]
    have hP' := hP
    obtain ⟨p, a, xs, rfl, h1, h2, h3⟩ := hP
    walk_at "rs"
    have ln : xs.length = es.length := h3.1
    split
    · rename_i hk
      refine q _ _ (Same.refl H) ?_
      rw [execAt_end (by omega)]
    · rename_i hk
      have hk : k < es.length := by omega
      have he : es[k]? = some es[k] := List.getElem?_eq_getElem hk
      have oke : es[k].Ok := ok _ (List.getElem_mem hk)
      generalize es[k] = e at he oke
      obtain ⟨v, hv, hE⟩ := h3.get he
      obtain ⟨b, iv, rfl, hI, hb⟩ := hE
      refine ⟨_, atI_nat hv, b, rfl, _, hb, rfl, ?_⟩
      walk_at "rd"
      have qe : execAt Builtin.bitAnd Builtin.bitOr Builtin.bitXor regs es k = match ex1 regs (es.take k) e with
        | none => none
        | some e' => some (es.take k ++ e' :: tailOf e e' (es.drop (k + 1))) := by
        unfold execAt
        rw [he]
        try rfl
      have no : ex1 regs (es.take k) e = none → ∀ H', Same H H' → Q .non H' := fun z H' s' => q _ _ s' (by rw [qe, z])
      simp only [oV_non]
      split
      · rename_i hr'
        exact no (ex1_none (.inl hr')) H (Same.refl H)
      · rename_i hr'
        have hres : e.res = none := Decidable.not_not.mp hr'
        refine i_oins hI ?_
        cases hi : e.ins with
        | none =>
          refine ⟨false, rfl, ?_⟩
          exact no (ex1_none (.inr fun i z => by rw [hi] at z; cases z)) H (Same.refl H)
        | some i =>
          refine ⟨i.exe, rfl, ?_⟩
          cases hx : i.exe with
          | false => exact no (ex1_none (.inr fun j z => by rw [hi] at z; cases z; exact hx)) H (Same.refl H)
          | true =>
            rw [hi] at hI
            obtain ⟨ip, rfl, hip⟩ := hI
            have oki := oke.ins i hi
            obtain ⟨ra, rb⟩ := regsOf_ok oki hx
            refine ⟨ip, i, rfl, hip, hx, fun r H1 s1 e1 => ⟨r, rfl, _, e1, rfl, ?_⟩⟩
            walk_at "rd"
            refine ⟨V.ref p, k, _, R, es, regs, rfl, (gr_same s1).pipe hP', (gr_same s1).st hS, hR, ra, fun H2 s2 => ?_⟩
            walk_at "rd"
            refine ⟨V.ref p, k, _, R, es, regs, rfl, (gr_same (s1.trans s2)).pipe hP', (gr_same (s1.trans s2)).st hS, hR, rb, fun H3 s3 => ?_⟩
            have s123 : Same H H3 := s1.trans (s2.trans s3)
            have okp : AllOk (es.take k) := fun x hx => ok x (List.mem_of_mem_take hx)
            have qx := ex1_some hR (pre := es.take k) hi hx hres
            walk_at "rd"
            simp only [oV_non]
            cases hxa : opnd regs (es.take k) (regsOf i).1 with
            | none =>
              simp only [if_true]
              exact no (by rw [qx, hxa]) H3 s123
            | some x =>
              simp only [reduceCtorEq, if_false]
              cases hya : opnd regs (es.take k) (regsOf i).2 with
              | none =>
                simp only [if_true]
                exact no (by rw [qx, hxa, hya]) H3 s123
              | some y =>
                simp only [reduceCtorEq, if_false, oV]
                rw [hxa, hya] at qx
                have fin : ∀ z : Int, z = resOf i x y → spAfter [V.ref ip, V.int e.pc, V.int x, V.int y] H3 (fun x_1 H1 => ∀ (p_1 : Addr) (H' : Hp), Same H1 H' →
                    H' p_1 = some (HO.tup [V.int e.pc, V.ref ip, x_1, oV e.pred, V.int z, plV e.place, oV e.time]) → scal x_1 (V.int e.succ) = true ∧ spWith [V.ref p, V.int ↑k, V.ref p_1, V.bl (decide (x_1 = V.int e.succ))] H' Q E0) E0 := by
                  intro z hz
                  subst hz
                  refine ⟨ip, i, _, x, y, rfl, s123 _ _ hip, hx, fun p1 H4 s4 e4 => ⟨rfl, ?_⟩⟩
                  have g4 := gr_same (s123.trans s4)
                  refine ⟨V.ref p, V.ref p1, k, _, R, es, { e with succ := succOf i e.pc x y, res := some (resOf i x y) }, rfl, g4.pipe hP', ⟨p1, V.ref ip, rfl, ?_, e4⟩, Nat.le_of_lt hk, hl, fun v' H5 s5 hp => ?_⟩
                  · show OIns H4 (V.ref ip) e.ins
                    rw [hi]
                    exact ⟨ip, rfl, g4 _ _ hip⟩
                  · refine q v' H5 (s123.trans (s4.trans s5)) ?_
                    rw [qe, qx]
                    unfold tailOf
                    simpa only [V.int.injEq, decide_eq_true_eq] using hp
                have wx : Wd x := opnd_wd hR okp ra hxa
                have wy : Wd y := opnd_wd hR okp rb hya
                refine i_ins (E := E0) (s123 _ _ hip) ⟨_, rfl, ?_⟩
                cases hh : hasRes i with
                | true =>
                  simp only [if_true]
                  exact ⟨ip, i, x, y, rfl, s123 _ _ hip, hh, oki, wx, wy, fin _ rfl⟩
                | false =>
                  simp only [Bool.false_eq_true, if_false]
                  exact fin _ (resOf_no hx hh x y).symm
end
end KW

namespace KW
open PySem PySem.Spec PyProof.Rows L2 KM
local macro_rules | `(tactic| walk_at "rd") => `(tactic| simp (config := { decide := true, maxSteps := 2000000 }) only [tSeq, tIfS, tTest, tOp, rI0, rI, rEq, rNe, sc_nn, sc_ni, sc_in, sc_nb, sc_bn, sc_ns, sc_sn, sc_ii, sc_bb, sc_ss, sc_is, sc_si, tVar, tC, tRet, tNext, tAsg, gName, tB, tCall, tCons, tNil, tCB, tUn, rU, tAnd, tOr, tNot, tAndV, tOrV, tNotV, tIf, CMul, CDiv, CPow,
  at0, at1, at2, at3, at4, at5, at6, rs_eq, rs_ne, rs_lt, rs_ge, rs_ltu, rs_geu, os_add, os_sub, os_mul, os_and, os_or, os_xor, os_slt, os_sltu, ks_addi, ks_load, ks_store, ks_swap, ks_fadd, ks_ll, ks_sc, ks_fence, ks_branch, ks_jump, ks_halt, in_ops, in_ats,
  rIxTH, rIxLH, rLenT, rLenL, rInC, rInL, rNotInL, rCatH, rSlH, tTupH, tLstH, rTupOf, gSub, rSetL, tDrop, tBM, rAppend, tYes, wipe, upd_same, upd_upd, gTupH, gc_cons, gc_nil, tSl, tPart, tNoPart, fl_n, fl_i, fl_b, fl_s, tInD, tInT, vals, kd_op, rest_op, kd_addi, rest_addi, kd_load, rest_load, kd_store, rest_store, kd_swap, rest_swap, kd_fadd, rest_fadd, kd_ll, rest_ll, kd_sc, rest_sc, kd_fence, rest_fence, kd_branch, rest_branch, kd_jump, rest_jump, kd_halt, rest_halt, in_l1, in_l2, in_l3, in_l4, in_l5, in_l6,
  List.getElem?_cons_zero, List.getElem?_cons_succ, List.set_cons_zero, List.set_cons_succ, Option.some.injEq, exists_eq_left', exists_eq_left, exists_and_left, exists_eq', exists_eq, V.int.injEq, V.bl.injEq, V.str.injEq, V.ref.injEq, HO.tup.injEq, HO.lst.injEq, decide_eq_true_eq, true_and, and_true, false_and, and_false, or_false, false_or, true_or, or_true, List.append_nil, List.cons_append, List.nil_append, List.cons.injEq,
  List.length_cons, List.length_nil, Nat.reduceAdd, Nat.reduceLeDiff, forall_const, reduceCtorEq, Bool.false_eq_true, if_true, if_false, Bool.not_true, Bool.not_false, Bool.not_eq_true', decide_eq_false_iff_not, decide_true, decide_false])
local macro_rules | `(tactic| walk_at "rs") => `(tactic| simp (config := { decide := true, maxSteps := 2000000 }) only [tSeq, tIfS, tTest, tOp, rI0, rI, rEq, rNe, sc_nn, sc_ni, sc_in, sc_nb, sc_bn, sc_ns, sc_sn, sc_ii, sc_bb, sc_ss, sc_is, sc_si, tVar, tC, tRet, tNext, tAsg, gName, tB, tCall, tCons, tNil, tCB, tUn, rU, tAnd, tOr, tNot, tAndV, tOrV, tNotV, tIf, CMul, CDiv, CPow,
  at0, at1, at2, at3, at4, at5, at6, rs_eq, rs_ne, rs_lt, rs_ge, rs_ltu, rs_geu, os_add, os_sub, os_mul, os_and, os_or, os_xor, os_slt, os_sltu, ks_addi, ks_load, ks_store, ks_swap, ks_fadd, ks_ll, ks_sc, ks_fence, ks_branch, ks_jump, ks_halt, in_ops, in_ats,
  rIxTH, rIxLH, rLenT, rLenL, rInC, rInL, rNotInL, rCatH, rSlH, tTupH, tLstH, rTupOf, gSub, rSetL, tDrop, tBM, rAppend, tYes, wipe, upd_same, upd_upd, gTupH, gc_cons, gc_nil, tSl, tPart, tNoPart, fl_n, fl_i, fl_b, fl_s, tInD, tInT, vals, kd_op, rest_op, kd_addi, rest_addi, kd_load, rest_load, kd_store, rest_store, kd_swap, rest_swap, kd_fadd, rest_fadd, kd_ll, rest_ll, kd_sc, rest_sc, kd_fence, rest_fence, kd_branch, rest_branch, kd_jump, rest_jump, kd_halt, rest_halt, in_l1, in_l2, in_l3, in_l4, in_l5, in_l6,
  List.getElem?_cons_zero, List.getElem?_cons_succ, List.set_cons_zero, List.set_cons_succ, Option.some.injEq, exists_eq_left', exists_eq_left, exists_and_left, exists_eq', exists_eq, V.int.injEq, V.bl.injEq, V.str.injEq, V.ref.injEq, HO.tup.injEq, HO.lst.injEq, decide_eq_true_eq, true_and, and_true, false_and, and_false, or_false, false_or, true_or, or_true, List.append_nil, List.cons_append, List.nil_append, List.cons.injEq,
  List.length_cons, List.length_nil, Nat.reduceAdd, Nat.reduceLeDiff, forall_const, reduceCtorEq, Bool.false_eq_true, if_true, if_false, Bool.not_true, Bool.not_false, Bool.not_eq_true', decide_eq_false_iff_not, decide_true, decide_false, *])
theorem oV_pick {n : Int} {v : Option Int} {e : Ent} : pick n v e = if e.dest = some n then (if e.res = none then e.pred else e.res) else v := by
  unfold pick Ent.avail
  split
  · cases e.res <;> rfl
  · rfl
section
variable {P : Program} {w : World} {K : PySem.W.Frag} {mg : Str → Option Value} {base : Heap}
theorem ok_lOperand (T : Txt K mg) : FnOk P w K mg base CX0 2 T.lOperand.f T.lOperand.fd ["_law_pipeline_here", "_law_index", "_law_number"] spOperand := by
  refine T.lOperand.F.ok sc_lOperand (fun vs H Q E h => ?_) (fun cdv A outer s H vs Q E hr h => ?_)
  · obtain ⟨v, k, n, R, es, regs, rfl, _⟩ := h
    rfl
  · obtain ⟨v, k, n, R, es, regs, rfl, hP, hS, hR, hn, q⟩ := h
    refine ⟨_, (pss_cons (ps_set (i := 3) sc_lOperand.nd rfl (.inl rfl) (pe_ix ix_tupH (pe_ix ix_tupH (pe_ix ix_tupH (pv 0) pe_int (fun _ _ => rfl)) pe_int (fun _ _ => rfl)) (pv 2) (fun _ _ => rfl)))
      (pss_cons (ps_for PassesOwn.never rfl (pi_tup (pe_slice sl_tupH (pe_ix ix_tupH (pv 0) pe_int (fun _ _ => rfl)) po_none (po_some (pv 1)))) (pg_name (i := 4) sc_lOperand.nd rfl (.inl rfl))
        (pss_one (ps_if (pt_cmpR op_eq (pcall T.lDestination (ok_lDestination T) hr (by decide) (by rfl) (pa_cons (pe_ix ix_tupH (pv 4) pe_int (fun _ _ => rfl)) pa_nil)) (pv 2) (nomark _))
        (pss_cons (ps_set (i := 3) sc_lOperand.nd rfl (.inl rfl) (pe_ix ix_tupH (pv 4) pe_int (fun _ _ => rfl)))
        (pss_one (ps_if (pt_cmpR op_isN (pv 3) pe_non (nomark _))
        (pss_one (ps_set (i := 3) sc_lOperand.nd rfl (.inl rfl) (pe_ix ix_tupH (pv 4) pe_int (fun _ _ => rfl))))
        pss_nil)))
        pss_nil)))
      (pss_one (ps_ret (pv 3))))), ?_⟩
    rw [show L2.start N_lOperand [v, V.int k, V.int n] = [some v, some (V.int k), some (V.int n), none, none] from rfl]
    obtain ⟨p, a, xs, rfl, h1, h2, h3⟩ := hP
    obtain ⟨sa, wa, pc, lk, hs, hs1, hs2⟩ := hS
    walk_at "rs"
    refine ⟨_, reg_at hR hn, ?_⟩
    refine for_tupS (xs.take k) (fun Qa qa => ?_) (fun H1 i σ H' => Same H1 H' ∧ ∃ z, σ = [some (V.ref p), some (V.int k), some (V.int n), some (oV (((es.take k).take i).foldl (pick n) (some (regs.getD n.toNat 0)))), z])
        (fun H1 s1 => ⟨Same.refl _, none, rfl⟩) (fun H1 i σ H' z => z.1) (fun H1 s1 i x σ H' hx hv => ?_) (fun H1 s1 σ H' hv => ?_)
    · walk_at "rs"
      intro p' H' s' e'
      rw [cut_take] at e'
      exact qa p' H' s' e'
    · obtain ⟨s2, z, rfl⟩ := hv
      have hi : i < (es.take k).length := by
        rw [← (h3.take k).1]
        exact (List.getElem?_eq_some_iff.mp hx).1
      have he : (es.take k)[i]? = some (es.take k)[i] := List.getElem?_eq_getElem hi
      have ht : (es.take k).take (i + 1) = (es.take k).take i ++ [(es.take k)[i]] := by rw [List.take_add_one, he]; rfl
      generalize (es.take k)[i] = en at he ht
      obtain ⟨b, iv, rfl, hI, hb⟩ := ((gr_same (s1.trans s2)).ents (h3.take k)).2 _ _ _ hx he
      rw [ht, List.foldl_append]
      walk_at "rs"
      refine i_oinsS hI fun H2 s3 => ?_
      have hb' := s3 _ _ hb
      have s4 := s2.trans s3
      rw [oDest_eq]
      walk_at "rs"
      simp only [oV_int, oV_non, sc_oV, true_and]
      simp only [List.foldl_cons, List.foldl_nil, oV_pick]
      by_cases hd : en.dest = some n
      · simp only [if_pos hd]
        by_cases hr' : en.res = none
        · simp only [if_pos hr']
        · simp only [if_neg hr']
      · simp only [if_neg hd]
    · obtain ⟨s2, z, rfl⟩ := hv
      walk_at "rd"
      have q' := q H' (s1.trans s2)
      unfold opnd at q'
      rw [(h3.take k).1, List.take_length]
      exact q'
theorem ok_lExecuted (T : Txt K mg) : FnOk P w K mg base CX0 3 T.lExecuted.f T.lExecuted.fd ["_law_pipeline_here", "_law_index"] spExecute := by
  refine T.lExecuted.F.ok sc_lExecuted (fun vs H Q E h => ?_) (fun cdv A outer s H vs Q E hr h => ?_)
  · obtain ⟨v, k, R, es, regs, rfl, _⟩ := h
    rfl
  · obtain ⟨v, k, R, es, regs, rfl, hP, hS, hR, ok, hl, q⟩ := h
    refine ⟨_, (pss_cons (ps_if (pt_cmpR op_ge (pv 1) (pe_callB call_lenT (by rfl) T.zlen PySem.boot_len (pa_cons (pe_ix ix_tupH (pv 0) pe_int (fun _ _ => rfl)) pa_nil)) (nomark _))
        (pss_one (ps_ret pe_non))
        pss_nil)
      (pss_cons (ps_set (i := 2) sc_lExecuted.nd rfl (.inl rfl) (pe_ix ix_tupH (pe_ix ix_tupH (pv 0) pe_int (fun _ _ => rfl)) (pv 1) (fun _ _ => rfl)))
      (pss_cons (ps_set (i := 3) sc_lExecuted.nd rfl (.inl rfl) (pe_ix ix_tupH (pv 2) pe_int (fun _ _ => rfl)))
      (pss_cons (ps_if (PW.pt (pw_or (pt_cmpR op_isN (pv 3) pe_non (nomark _)) (pw_or1 (pt_cmpR op_notN (pe_ix ix_tupH (pv 2) pe_int (fun _ _ => rfl)) pe_non (nomark _)))))
        (pss_one (ps_ret pe_non))
        pss_nil)
      (pss_cons (ps_if (pt_inD (xs := [.str "load", .str "store", .str "swap", .str "fetch add", .str "load linked", .str "store conditional", .str "fence", .str "halt"]) (pe_ix ix_tupH (pv 3) pe_int (fun _ _ => rfl)) (pa_cons pe_str (pa_cons pe_str (pa_cons pe_str (pa_cons pe_str (pa_cons pe_str (pa_cons pe_str (pa_cons pe_str (pa_cons pe_str pa_nil)))))))) (mon_ix mon_var mon_c) rfl rfl (by decide) (by rfl))
        (pss_one (ps_ret pe_non))
        pss_nil)
      (pss_cons (ps_set (i := 4) sc_lExecuted.nd rfl (.inl rfl) pe_int)
      (pss_cons (ps_set (i := 5) sc_lExecuted.nd rfl (.inl rfl) (pe_op op_add (pe_ix ix_tupH (pv 2) pe_int (fun _ _ => rfl)) pe_int))
      (C8.pss_cut (ps_if (pt_cmpR op_eq (pe_ix ix_tupH (pv 3) pe_int (fun _ _ => rfl)) pe_str (nomark _))
        (pss_one (ps_set (i := 5) sc_lExecuted.nd rfl (.inl rfl) (pe_ix ix_tupH (pv 3) pe_int (fun _ _ => rfl))))
        (pss_cons (ps_set (i := 6) sc_lExecuted.nd rfl (.inl rfl) (pcall T.lOperand (ok_lOperand T) hr (by decide) (by rfl) (pa_cons (pv 0) (pa_cons (pv 1) (pa_cons (pe_ix ix_tupH (pv 3) pe_int (fun _ _ => rfl)) pa_nil)))))
        (pss_cons (ps_set (i := 7) sc_lExecuted.nd rfl (.inl rfl) pe_int)
        (pss_cons (ps_if (pt_cmpR op_ne (pe_ix ix_tupH (pv 3) pe_int (fun _ _ => rfl)) pe_str (nomark _))
          (pss_one (ps_set (i := 7) sc_lExecuted.nd rfl (.inl rfl) (pcall T.lOperand (ok_lOperand T) hr (by decide) (by rfl) (pa_cons (pv 0) (pa_cons (pv 1) (pa_cons (pe_ix ix_tupH (pv 3) pe_int (fun _ _ => rfl)) pa_nil))))))
          pss_nil)
        (pss_cons (ps_if (PW.pt (pw_or (pt_cmpR op_isN (pv 6) pe_non (nomark _)) (pw_or1 (pt_cmpR op_isN (pv 7) pe_non (nomark _)))))
          (pss_one (ps_ret pe_non))
          pss_nil)
        (pss_one (ps_if (pt_cmpR op_eq (pe_ix ix_tupH (pv 3) pe_int (fun _ _ => rfl)) pe_str (nomark _))
        (pss_one (ps_set (i := 4) sc_lExecuted.nd rfl (.inl rfl) (pe_op op_mod (pe_callTy call_int1 (by rfl) T.zint (by decide +kernel) (pa_cons (pe_op op_add (pv 6) (pe_ix ix_tupH (pv 3) pe_int (fun _ _ => rfl))) pa_nil)) pe_int)))
        (pss_one (ps_if (pt_cmpR op_ne (pe_ix ix_tupH (pv 3) pe_int (fun _ _ => rfl)) pe_str (nomark _))
        (pss_one (ps_set (i := 4) sc_lExecuted.nd rfl (.inl rfl) (pcall T.lOperate (ok_lOperate T) hr (by decide) (by rfl) (pa_cons (pe_ix ix_tupH (pv 3) pe_int (fun _ _ => rfl)) (pa_cons (pv 6) (pa_cons (pv 7) pa_nil))))))
        (pss_one (ps_if (pt_val (pcall T.lCompare (ok_lCompare T) hr (by decide) (by rfl) (pa_cons (pe_ix ix_tupH (pv 3) pe_int (fun _ _ => rfl)) (pa_cons (pv 6) (pa_cons (pv 7) pa_nil)))))
        (pss_one (ps_set (i := 5) sc_lExecuted.nd rfl (.inl rfl) (pe_ix ix_tupH (pv 3) pe_int (fun _ _ => rfl))))
        pss_nil)))))))))))
      (pss_cons (ps_set (i := 8) sc_lExecuted.nd rfl (.inl rfl) (pe_tupH (pa_cons (pe_ix ix_tupH (pv 2) pe_int (fun _ _ => rfl)) (pa_cons (pv 3) (pa_cons (pv 5) (pa_cons (pe_ix ix_tupH (pv 2) pe_int (fun _ _ => rfl)) (pa_cons (pv 4) (pa_cons (pe_ix ix_tupH (pv 2) pe_int (fun _ _ => rfl)) (pa_cons (pe_ix ix_tupH (pv 2) pe_int (fun _ _ => rfl)) pa_nil)))))))))
      (pss_cons (ps_set (i := 9) sc_lExecuted.nd rfl (.inl rfl) (pe_op op_catH (pe_slice sl_tupH (pe_ix ix_tupH (pv 0) pe_int (fun _ _ => rfl)) po_none (po_some (pv 1))) (pe_tupH (pa_cons (pv 8) pa_nil))))
      (pss_cons (ps_if (pt_cmpR op_eq (pv 5) (pe_ix ix_tupH (pv 2) pe_int (fun _ _ => rfl)) (nomark _))
        (pss_one (ps_set (i := 9) sc_lExecuted.nd rfl (.inl rfl) (pe_op op_catH (pv 9) (pe_slice sl_tupH (pe_ix ix_tupH (pv 0) pe_int (fun _ _ => rfl)) (po_some (pe_op op_add (pv 1) pe_int)) po_none))))
        pss_nil)
      (pss_one (ps_ret (pe_op op_catH (pe_tupH (pa_cons (pe_ix ix_tupH (pv 0) pe_int (fun _ _ => rfl)) (pa_cons (pv 9) pa_nil))) (pe_slice sl_tupH (pv 0) (po_some pe_int) po_none))))))))))))))), ?_⟩
    rw [show L2.start N_lExecuted [v, V.int k] = [some v, some (V.int k), none, none, none, none, none, none, none, none] from rfl]
    have hP' := hP
    obtain ⟨p, a, xs, rfl, h1, h2, h3⟩ := hP
    walk_at "rs"
    have ln : xs.length = es.length := h3.1
    split
    · rename_i hk
      refine q _ _ (Same.refl H) ?_
      rw [execAt_end (by omega)]
    · rename_i hk
      have hk : k < es.length := by omega
      have he : es[k]? = some es[k] := List.getElem?_eq_getElem hk
      have oke : es[k].Ok := ok _ (List.getElem_mem hk)
      generalize es[k] = e at he oke
      obtain ⟨v, hv, hE⟩ := h3.get he
      obtain ⟨b, iv, rfl, hI, hb⟩ := hE
      refine ⟨_, atI_nat hv, ?_⟩
      have qe : execAt Builtin.bitAnd Builtin.bitOr Builtin.bitXor regs es k = match ex1 regs (es.take k) e with
        | none => none
        | some e' => some (es.take k ++ e' :: tailOf e e' (es.drop (k + 1))) := by
        unfold execAt
        rw [he]
        try rfl
      have no : ex1 regs (es.take k) e = none → ∀ H', Same H H' → Q .non H' := fun z H' s' => q _ _ s' (by rw [qe, z])
      walk_at "rs"
      cases hi : e.ins with
      | none =>
        rw [hi] at hI
        obtain rfl : iv = .non := hI
        walk_at "rs"
        exact no (ex1_none (.inr fun i z => by rw [hi] at z; cases z)) H (Same.refl H)
      | some i =>
        rw [hi] at hI
        obtain ⟨ip, rfl, hip⟩ := hI
        walk_at "rs"
        simp only [oV_non]
        split
        · rename_i hr'
          exact no (ex1_none (.inl hr')) H (Same.refl H)
        · rename_i hr'
          have hres : e.res = none := Decidable.not_not.mp hr'
          intro H1 s1
          have hip1 := s1 _ _ hip
          have h11 := s1 _ _ h1
          have h21 := s1 _ _ h2
          have hb1 := s1 _ _ hb
          cases hx : i.exe with
          | false =>
            have hm : (kd i).isL6 = true := by cases i <;> first | rfl | cases hx
            simp only [hm, if_true]
            exact no (ex1_none (.inr fun j z => by rw [hi] at z; cases z; exact hx)) H1 s1
          | true =>
            have hm : (kd i).isL6 = false := by cases i <;> first | rfl | cases hx
            simp only [hm, if_false, Bool.false_eq_true]
            have oki := oke.ins i hi
            obtain ⟨ra, rb⟩ := regsOf_ok oki hx
            have okp : AllOk (es.take k) := fun x hx => ok x (List.mem_of_mem_take hx)
            have qx := ex1_some hR (pre := es.take k) hi hx hres
            have hP1 := (gr_same s1).pipe hP'
            have hS1 := (gr_same s1).st hS
            refine ⟨_, hb1, _, at0, _, rfl, ?_⟩
            refine ⟨fun σ' H' => Same H1 H' ∧ ∃ (x y : Int) (j1 j2 : Option V), opnd regs (es.take k) (regsOf i).1 = some x ∧ opnd regs (es.take k) (regsOf i).2 = some y ∧
              σ' = [some (V.ref p), some (V.int ↑k), some (V.ref b), some (V.ref ip), some (V.int (resOf i x y)), some (V.int (succOf i e.pc x y)), j1, j2, none, none], ?_, fun σ' H' hm => ?_⟩
            · have opn : ∀ (H2 : Hp) (n : Int) (Q2 : VK) (E2 : XK), Same H1 H2 → Reg n → (∀ H', Same H2 H' → Q2 (oV (opnd regs (es.take k) n)) H') → spOperand [V.ref p, V.int ↑k, V.int n] H2 Q2 E2 := fun H2 n Q2 E2 s2 hn q2 =>
                ⟨V.ref p, k, n, R, es, regs, rfl, (gr_same s2).pipe hP1, (gr_same s2).st hS1, hR, hn, q2⟩
              have noA : opnd regs (es.take k) (regsOf i).1 = none → ∀ H', Same H1 H' → Q V.non H' := fun z H' s' => no (by rw [qx, z]) H' (s1.trans s')
              have noB : opnd regs (es.take k) (regsOf i).2 = none → ∀ H', Same H1 H' → Q V.non H' := fun z H' s' => no (by rw [qx, z]; cases opnd regs (es.take k) (regsOf i).1 <;> rfl) H' (s1.trans s')
              cases i
              case jump t =>
                walk_at "rs"
                exact ⟨Same.refl _, 0, opnd_zero hR _, 0, opnd_zero hR _, rfl, rfl⟩
              case op o d a b =>
                walk_at "rs"
                refine opn _ _ _ _ (Same.refl _) ra fun H2 s2 => ?_
                have hip2 := s2 _ _ hip1
                walk_at "rs"
                refine opn _ _ _ _ s2 rb fun H3 s3 => ?_
                have hip3 := s3 _ _ hip2
                have s13 := s2.trans s3
                walk_at "rs"
                simp only [oV_non]
                split
                · exact noA (by assumption) _ s13
                · split
                  · exact noB (by assumption) _ s13
                  · cases hxa : opnd regs (es.take k) a with
                    | none => contradiction
                    | some x =>
                      cases hya : opnd regs (es.take k) b with
                      | none => contradiction
                      | some y =>
                        refine i_operate (o := o) (E := E0) (opnd_wd hR okp ra hxa) (opnd_wd hR okp rb hya) ⟨s13, x, hxa, y, hya, rfl, rfl⟩
              case addi d a n =>
                walk_at "rs"
                refine opn _ _ _ _ (Same.refl _) ra fun H2 s2 => ?_
                have hip2 := s2 _ _ hip1
                walk_at "rs"
                simp only [oV_non]
                split
                · exact noA (by assumption) _ s2
                · cases hxa : opnd regs (es.take k) a with
                  | none => contradiction
                  | some x =>
                    exact ⟨x, rfl, x, hxa, 0, opnd_zero hR _, rfl, rfl⟩
              case branch r a b t =>
                walk_at "rs"
                refine opn _ _ _ _ (Same.refl _) ra fun H2 s2 => ?_
                have hip2 := s2 _ _ hip1
                walk_at "rs"
                refine opn _ _ _ _ s2 rb fun H3 s3 => ?_
                have hip3 := s3 _ _ hip2
                have s13 := s2.trans s3
                walk_at "rs"
                simp only [oV_non]
                split
                · exact noA (by assumption) _ s13
                · split
                  · exact noB (by assumption) _ s13
                  · cases hxa : opnd regs (es.take k) a with
                    | none => contradiction
                    | some x =>
                      cases hya : opnd regs (es.take k) b with
                      | none => contradiction
                      | some y =>
                        refine i_compare (E := E0) ?_
                        walk_at "rs"
                        split
                        · rename_i hc
                          exact ⟨x, hxa, y, hya, rfl, by simp only [succOf, if_pos hc]⟩
                        · rename_i hc
                          exact ⟨x, hxa, y, hya, rfl, by simp only [succOf, if_neg hc]⟩
              all_goals cases hx
            · obtain ⟨s2, x, y, j1, j2, hxa, hya, rfl⟩ := hm
              have hip2 := s2 _ _ hip1
              have h12 := s2 _ _ h11
              have h22 := s2 _ _ h21
              have hb2 := s2 _ _ hb1
              rw [hxa, hya] at qx
              walk_at "rs"
              intro p1 H3 s3 e3
              refine ⟨_, s3 _ _ h12, _, at1, a, rfl, xs, s3 _ _ h22, fun p2 H4 s4 e4 p3 H5 s5 e5 => ⟨_, s5 _ _ e4, _, e5, ?_, fun p4 H6 s6 e6 => ⟨_, s6 _ _ (s5 _ _ (s4 _ _ (s3 _ _ hb2))), _, at2, rfl, ?_⟩⟩⟩
              · rw [cut_take, List.length_take, List.length_singleton]
                omega
              · have s26 : Same H' H6 := s3.trans (s4.trans (s5.trans s6))
                have h16 := s26 _ _ h12
                have h26 := s26 _ _ h22
                have sT : Same H H6 := s1.trans (s2.trans s26)
                have ecb : cutV [R.st, V.ref a, R.buf, R.held, R.steps] (some 2) none = [R.buf, R.held, R.steps] := cut_drop _ 2
                rw [cut_take] at e6
                have hE6 : EntAt H6 (V.ref p1) { e with succ := succOf i e.pc x y, res := some (resOf i x y) } := by
                  refine ⟨p1, V.ref ip, rfl, ?_, (s4.trans (s5.trans s6)) _ _ e3⟩
                  show OIns H6 (V.ref ip) e.ins
                  rw [hi]
                  exact ⟨ip, rfl, sT _ _ hip⟩
                have hA6 : EntsAt H6 (xs.take k ++ [V.ref p1]) (es.take k ++ [{ e with succ := succOf i e.pc x y, res := some (resOf i x y) }]) := ((gr_same sT).ents (h3.take k)).app (.one hE6)
                rw [qe, qx] at q
                unfold tailOf at q
                simp only [V.int.injEq]
                split
                · rename_i hc
                  simp only [hc, if_true] at q
                  refine ⟨_, h16, _, at1, a, rfl, xs, h26, fun p5 H7 s7 e7 => ⟨_, s7 _ _ e6, _, e7, ?_, fun p6 H8 s8 e8 => ⟨_, s8 _ _ (s7 _ _ h16), _, at0, fun p7 H9 s9 e9 => ⟨_, s9 _ _ (s8 _ _ (s7 _ _ h16)), fun p8 H10 s10 e10 => ⟨_, s10 _ _ e9, _, e10, ?_, fun p9 H11 s11 e11 => ?_⟩⟩⟩⟩⟩
                  · have := cutV_length xs (some ((k : Int) + 1)) none
                    rw [List.length_append, List.length_take, List.length_singleton]
                    omega
                  · rw [ecb]
                    exact (by decide : (2 + 3 : Nat) ≤ 1000)
                  · rw [ecb] at e11
                    have s6T : Same H6 H11 := s7.trans (s8.trans (s9.trans (s10.trans s11)))
                    refine q _ _ (sT.trans s6T) ⟨p9, p6, _, rfl, e11, (s9.trans (s10.trans s11)) _ _ e8, ?_⟩
                    rw [show ((k : Int) + 1) = ((k + 1 : Nat) : Int) from rfl, cut_drop, ← hc]
                    rw [show es.take k ++ { e with succ := succOf i e.pc x y, res := some (resOf i x y) } :: es.drop (k + 1) = (es.take k ++ [{ e with succ := succOf i e.pc x y, res := some (resOf i x y) }]) ++ es.drop (k + 1) by rw [List.append_assoc]; rfl]
                    exact ((gr_same s6T).ents hA6).app ((gr_same (sT.trans s6T)).ents (h3.drop (k + 1)))
                · rename_i hc
                  simp only [hc, if_false] at q
                  refine ⟨_, h16, _, at0, fun p7 H9 s9 e9 => ⟨_, s9 _ _ h16, fun p8 H10 s10 e10 => ⟨_, s10 _ _ e9, _, e10, ?_, fun p9 H11 s11 e11 => ?_⟩⟩⟩
                  · rw [ecb]
                    exact (by decide : (2 + 3 : Nat) ≤ 1000)
                  · rw [ecb] at e11
                    have s6T : Same H6 H11 := s9.trans (s10.trans s11)
                    exact q _ _ (sT.trans s6T) ⟨p9, p4, _, rfl, e11, s6T _ _ e6, (gr_same s6T).ents hA6⟩
end
end KW

namespace KW
open PySem PySem.Spec PyProof.Rows L2 KM
local macro_rules | `(tactic| walk_at "rd") => `(tactic| simp (config := { decide := true, maxSteps := 2000000 }) only [tSeq, tIfS, tTest, tOp, rI0, rI, rEq, rNe, sc_nn, sc_ni, sc_in, sc_nb, sc_bn, sc_ns, sc_sn, sc_ii, sc_bb, sc_ss, sc_is, sc_si, tVar, tC, tRet, tNext, tAsg, gName, tB, tCall, tCons, tNil, tCB, tUn, rU, tAnd, tOr, tNot, tAndV, tOrV, tNotV, tIf, CMul, CDiv, CPow,
  at0, at1, at2, at3, at4, at5, at6, rs_eq, rs_ne, rs_lt, rs_ge, rs_ltu, rs_geu, os_add, os_sub, os_mul, os_and, os_or, os_xor, os_slt, os_sltu, ks_addi, ks_load, ks_store, ks_swap, ks_fadd, ks_ll, ks_sc, ks_fence, ks_branch, ks_jump, ks_halt, in_ops, in_ats,
  rIxTH, rIxLH, rLenT, rLenL, rInC, rInL, rNotInL, rCatH, rSlH, tTupH, tLstH, rTupOf, gSub, rSetL, tDrop, tBM, rAppend, tYes, wipe, upd_same, upd_upd, gTupH, gc_cons, gc_nil, tSl, tPart, tNoPart, fl_n, fl_i, fl_b, fl_s, tInD, tInT, vals, kd_op, rest_op, kd_addi, rest_addi, kd_load, rest_load, kd_store, rest_store, kd_swap, rest_swap, kd_fadd, rest_fadd, kd_ll, rest_ll, kd_sc, rest_sc, kd_fence, rest_fence, kd_branch, rest_branch, kd_jump, rest_jump, kd_halt, rest_halt, in_l1, in_l2, in_l3, in_l4, in_l5, in_l6,
  List.getElem?_cons_zero, List.getElem?_cons_succ, List.set_cons_zero, List.set_cons_succ, Option.some.injEq, exists_eq_left', exists_eq_left, exists_and_left, exists_eq', exists_eq, V.int.injEq, V.bl.injEq, V.str.injEq, V.ref.injEq, HO.tup.injEq, HO.lst.injEq, decide_eq_true_eq, true_and, and_true, false_and, and_false, or_false, false_or, true_or, or_true, List.append_nil, List.cons_append, List.nil_append, List.cons.injEq,
  List.length_cons, List.length_nil, Nat.reduceAdd, Nat.reduceLeDiff, forall_const, reduceCtorEq, Bool.false_eq_true, if_true, if_false, Bool.not_true, Bool.not_false, Bool.not_eq_true', decide_eq_false_iff_not, decide_true, decide_false])
local macro_rules | `(tactic| walk_at "rs") => `(tactic| simp (config := { decide := true, maxSteps := 2000000 }) only [tSeq, tIfS, tTest, tOp, rI0, rI, rEq, rNe, sc_nn, sc_ni, sc_in, sc_nb, sc_bn, sc_ns, sc_sn, sc_ii, sc_bb, sc_ss, sc_is, sc_si, tVar, tC, tRet, tNext, tAsg, gName, tB, tCall, tCons, tNil, tCB, tUn, rU, tAnd, tOr, tNot, tAndV, tOrV, tNotV, tIf, CMul, CDiv, CPow,
  at0, at1, at2, at3, at4, at5, at6, rs_eq, rs_ne, rs_lt, rs_ge, rs_ltu, rs_geu, os_add, os_sub, os_mul, os_and, os_or, os_xor, os_slt, os_sltu, ks_addi, ks_load, ks_store, ks_swap, ks_fadd, ks_ll, ks_sc, ks_fence, ks_branch, ks_jump, ks_halt, in_ops, in_ats,
  rIxTH, rIxLH, rLenT, rLenL, rInC, rInL, rNotInL, rCatH, rSlH, tTupH, tLstH, rTupOf, gSub, rSetL, tDrop, tBM, rAppend, tYes, wipe, upd_same, upd_upd, gTupH, gc_cons, gc_nil, tSl, tPart, tNoPart, fl_n, fl_i, fl_b, fl_s, tInD, tInT, vals, kd_op, rest_op, kd_addi, rest_addi, kd_load, rest_load, kd_store, rest_store, kd_swap, rest_swap, kd_fadd, rest_fadd, kd_ll, rest_ll, kd_sc, rest_sc, kd_fence, rest_fence, kd_branch, rest_branch, kd_jump, rest_jump, kd_halt, rest_halt, in_l1, in_l2, in_l3, in_l4, in_l5, in_l6,
  List.getElem?_cons_zero, List.getElem?_cons_succ, List.set_cons_zero, List.set_cons_succ, Option.some.injEq, exists_eq_left', exists_eq_left, exists_and_left, exists_eq', exists_eq, V.int.injEq, V.bl.injEq, V.str.injEq, V.ref.injEq, HO.tup.injEq, HO.lst.injEq, decide_eq_true_eq, true_and, and_true, false_and, and_false, or_false, false_or, true_or, or_true, List.append_nil, List.cons_append, List.nil_append, List.cons.injEq,
  List.length_cons, List.length_nil, Nat.reduceAdd, Nat.reduceLeDiff, forall_const, reduceCtorEq, Bool.false_eq_true, if_true, if_false, Bool.not_true, Bool.not_false, Bool.not_eq_true', decide_eq_false_iff_not, decide_true, decide_false, *])
theorem execAt_ok {regs : List Int} (B : Bits Builtin.bitAnd Builtin.bitOr Builtin.bitXor) (hR : Regs regs) {es es' : List Ent} {i : Nat} (ok : AllOk es) (h : execAt Builtin.bitAnd Builtin.bitOr Builtin.bitXor regs es i = some es') : AllOk es' ∧ es'.length ≤ es.length := pass_ok B hR ok h
section
variable {P : Program} {w : World} {K : PySem.W.Frag} {mg : Str → Option Value} {base : Heap}
def spOnePass : Sp := fun vs H Q _ => ∃ (v : V) (R : KW.Rest) (es : List Ent) (regs : List Int), vs = [v] ∧ PipeAt H v R es ∧ StAt H R.st regs ∧ Regs regs ∧ AllOk es ∧ es.length ≤ 100 ∧
  ∀ v' H', Same H H' → PipeAt H' v' R (nf Builtin.bitAnd Builtin.bitOr Builtin.bitXor regs [] es) → Q v' H'
theorem ok_lOnePass (B : Bits Builtin.bitAnd Builtin.bitOr Builtin.bitXor) (T : Txt K mg) : FnOk P w K mg base CX0 4 T.lOnePass.f T.lOnePass.fd ["_law_pipeline_here"] spOnePass := by
  refine T.lOnePass.F.ok sc_lOnePass (fun vs H Q E h => ?_) (fun cdv A outer s H vs Q E hr h => ?_)
  · obtain ⟨v, R, es, regs, rfl, _⟩ := h
    rfl
  · obtain ⟨v, R, es, regs, rfl, hP, hS, hR, ok, hl, q⟩ := h
    refine ⟨_, (pss_cons (ps_for PassesOwn.never rfl (pi_range1 rfl T.zrange (pa_cons (pe_callB call_lenT (by rfl) T.zlen PySem.boot_len (pa_cons (pe_ix ix_tupH (pv 0) pe_int (fun _ _ => rfl)) pa_nil)) pa_nil)) (pg_name (i := 1) sc_lOnePass.nd rfl (.inl rfl))
        (pss_cons (ps_set (i := 2) sc_lOnePass.nd rfl (.inl rfl) (pcall T.lExecuted (ok_lExecuted T) hr (by decide) (by rfl) (pa_cons (pv 0) (pa_cons (pv 1) pa_nil))))
        (pss_one (ps_if (pt_cmpR op_notN (pv 2) pe_non (nomark _))
        (pss_one (ps_set (i := 0) sc_lOnePass.nd rfl (.inl rfl) (pv 2)))
        pss_nil))))
      (pss_one (ps_ret (pv 0)))), ?_⟩
    rw [show L2.start N_lOnePass [v] = [some v, none, none] from rfl]
    have hP' := hP
    obtain ⟨p, a, xs, rfl, h1, h2, h3⟩ := hP
    walk_at "rs"
    have ln : xs.length = es.length := h3.1
    refine for_rng es.length (by omega) (fun Qa qa => ?_) (fun i σ H' => Same H H' ∧ ∃ (v' : V) (es' : List Ent) (j1 j2 : Option V), σ = [some v', j1, j2] ∧ PipeAt H' v' R es' ∧ AllOk es' ∧ es'.length ≤ es.length ∧ passN Builtin.bitAnd Builtin.bitOr Builtin.bitXor regs i (es.length - i) es' = passN Builtin.bitAnd Builtin.bitOr Builtin.bitXor regs 0 es.length es)
      ⟨Same.refl _, _, es, none, none, rfl, hP', ok, Nat.le_refl _, rfl⟩ (fun i σ H' hi hv => ?_) (fun σ H' hv => ?_)
    · walk_at "rs"
    · obtain ⟨s1, v', es', j1, j2, rfl, hP1, ok1, hl1, hn⟩ := hv
      walk_at "rs"
      refine ⟨v', i, R, es', regs, rfl, hP1, (gr_same s1).st hS, hR, ok1, by omega, fun v'' H2 s2 hp => ?_⟩
      have hn' : es.length - i = (es.length - (i + 1)) + 1 := by omega
      rw [hn'] at hn
      have hn2 : passN Builtin.bitAnd Builtin.bitOr Builtin.bitXor regs (i + 1) (es.length - (i + 1)) ((execAt Builtin.bitAnd Builtin.bitOr Builtin.bitXor regs es' i).getD es') = passN Builtin.bitAnd Builtin.bitOr Builtin.bitXor regs 0 es.length es := hn
      walk_at "rd"
      have g2 := gr_same s2
      cases hx : execAt Builtin.bitAnd Builtin.bitOr Builtin.bitXor regs es' i with
      | none =>
        rw [hx] at hp hn2
        obtain rfl : v'' = .non := hp
        rw [if_neg (fun h => h rfl)]
        exact ⟨s1.trans s2, v', es', _, _, ⟨rfl, rfl, rfl⟩, g2.pipe hP1, ok1, hl1, hn2⟩
      | some es2 =>
        rw [hx] at hp hn2
        have hv2 : ¬ v'' = .non := by
          obtain ⟨_, _, _, rfl, _⟩ := hp
          exact fun h => nomatch h
        rw [if_pos hv2]
        obtain ⟨o2, l2⟩ := execAt_ok B hR ok1 hx
        exact ⟨s1.trans s2, v'', es2, _, _, ⟨rfl, rfl, rfl⟩, hp, o2, Nat.le_trans l2 hl1, hn2⟩
    · obtain ⟨s1, v', es', j1, j2, rfl, hP1, ok1, hl1, hn⟩ := hv
      walk_at "rd"
      refine q v' H' s1 ?_
      rw [Nat.sub_self] at hn
      have hn2 : es' = passN Builtin.bitAnd Builtin.bitOr Builtin.bitXor regs 0 es.length es := hn
      rw [pass_all] at hn2
      rw [← hn2]
      exact hP1
end
end KW

namespace KW
open PySem PySem.Spec PyProof.Rows L2 KM
local macro_rules | `(tactic| walk_at "rd") => `(tactic| simp (config := { decide := true, maxSteps := 2000000 }) only [tSeq, tIfS, tTest, tOp, rI0, rI, rEq, rNe, sc_nn, sc_ni, sc_in, sc_nb, sc_bn, sc_ns, sc_sn, sc_ii, sc_bb, sc_ss, sc_is, sc_si, tVar, tC, tRet, tNext, tAsg, gName, tB, tCall, tCons, tNil, tCB, tUn, rU, tAnd, tOr, tNot, tAndV, tOrV, tNotV, tIf, CMul, CDiv, CPow,
  at0, at1, at2, at3, at4, at5, at6, rs_eq, rs_ne, rs_lt, rs_ge, rs_ltu, rs_geu, os_add, os_sub, os_mul, os_and, os_or, os_xor, os_slt, os_sltu, ks_addi, ks_load, ks_store, ks_swap, ks_fadd, ks_ll, ks_sc, ks_fence, ks_branch, ks_jump, ks_halt, in_ops, in_ats,
  rIxTH, rIxLH, rLenT, rLenL, rInC, rInL, rNotInL, rCatH, rSlH, tTupH, tLstH, rTupOf, gSub, rSetL, tDrop, tBM, rAppend, tYes, wipe, upd_same, upd_upd, gTupH, gc_cons, gc_nil, tSl, tPart, tNoPart, fl_n, fl_i, fl_b, fl_s, tInD, tInT, vals, kd_op, rest_op, kd_addi, rest_addi, kd_load, rest_load, kd_store, rest_store, kd_swap, rest_swap, kd_fadd, rest_fadd, kd_ll, rest_ll, kd_sc, rest_sc, kd_fence, rest_fence, kd_branch, rest_branch, kd_jump, rest_jump, kd_halt, rest_halt, in_l1, in_l2, in_l3, in_l4, in_l5, in_l6,
  List.getElem?_cons_zero, List.getElem?_cons_succ, List.set_cons_zero, List.set_cons_succ, Option.some.injEq, exists_eq_left', exists_eq_left, exists_and_left, exists_eq', exists_eq, V.int.injEq, V.bl.injEq, V.str.injEq, V.ref.injEq, HO.tup.injEq, HO.lst.injEq, decide_eq_true_eq, true_and, and_true, false_and, and_false, or_false, false_or, true_or, or_true, List.append_nil, List.cons_append, List.nil_append, List.cons.injEq,
  List.length_cons, List.length_nil, Nat.reduceAdd, Nat.reduceLeDiff, forall_const, reduceCtorEq, Bool.false_eq_true, if_true, if_false, Bool.not_true, Bool.not_false, Bool.not_eq_true', decide_eq_false_iff_not, decide_true, decide_false])
local macro_rules | `(tactic| walk_at "rs") => `(tactic| simp (config := { decide := true, maxSteps := 2000000 }) only [tSeq, tIfS, tTest, tOp, rI0, rI, rEq, rNe, sc_nn, sc_ni, sc_in, sc_nb, sc_bn, sc_ns, sc_sn, sc_ii, sc_bb, sc_ss, sc_is, sc_si, tVar, tC, tRet, tNext, tAsg, gName, tB, tCall, tCons, tNil, tCB, tUn, rU, tAnd, tOr, tNot, tAndV, tOrV, tNotV, tIf, CMul, CDiv, CPow,
  at0, at1, at2, at3, at4, at5, at6, rs_eq, rs_ne, rs_lt, rs_ge, rs_ltu, rs_geu, os_add, os_sub, os_mul, os_and, os_or, os_xor, os_slt, os_sltu, ks_addi, ks_load, ks_store, ks_swap, ks_fadd, ks_ll, ks_sc, ks_fence, ks_branch, ks_jump, ks_halt, in_ops, in_ats,
  rIxTH, rIxLH, rLenT, rLenL, rInC, rInL, rNotInL, rCatH, rSlH, tTupH, tLstH, rTupOf, gSub, rSetL, tDrop, tBM, rAppend, tYes, wipe, upd_same, upd_upd, gTupH, gc_cons, gc_nil, tSl, tPart, tNoPart, fl_n, fl_i, fl_b, fl_s, tInD, tInT, vals, kd_op, rest_op, kd_addi, rest_addi, kd_load, rest_load, kd_store, rest_store, kd_swap, rest_swap, kd_fadd, rest_fadd, kd_ll, rest_ll, kd_sc, rest_sc, kd_fence, rest_fence, kd_branch, rest_branch, kd_jump, rest_jump, kd_halt, rest_halt, in_l1, in_l2, in_l3, in_l4, in_l5, in_l6,
  List.getElem?_cons_zero, List.getElem?_cons_succ, List.set_cons_zero, List.set_cons_succ, Option.some.injEq, exists_eq_left', exists_eq_left, exists_and_left, exists_eq', exists_eq, V.int.injEq, V.bl.injEq, V.str.injEq, V.ref.injEq, HO.tup.injEq, HO.lst.injEq, decide_eq_true_eq, true_and, and_true, false_and, and_false, or_false, false_or, true_or, or_true, List.append_nil, List.cons_append, List.nil_append, List.cons.injEq,
  List.length_cons, List.length_nil, Nat.reduceAdd, Nat.reduceLeDiff, forall_const, reduceCtorEq, Bool.false_eq_true, if_true, if_false, Bool.not_true, Bool.not_false, Bool.not_eq_true', decide_eq_false_iff_not, decide_true, decide_false, *])
theorem wd_of {n : Nat} (h : n < 2 ^ 16) : Wd (n : Int) := by
  have e : (2 : Nat) ^ 16 = 65536 := by decide
  rw [e] at h
  exact ⟨by omega, by omega⟩
theorem wd_nat {a : Int} (h : Wd a) : a.toNat < 2 ^ 16 := by
  have e : (2 : Nat) ^ 16 = 65536 := by decide
  have h1 := h.1
  have h2 := h.2
  omega
theorem bits_ok : Bits Builtin.bitAnd Builtin.bitOr Builtin.bitXor where
  and := fun a b ha hb => by
    rw [bitAnd_pp ha.1 hb.1]
    exact wd_of (Nat.and_lt_two_pow _ (wd_nat hb))
  or := fun a b ha hb => by
    rw [_root_.Bits.bitOr_pp ha.1 hb.1]
    exact wd_of (Nat.or_lt_two_pow (wd_nat ha) (wd_nat hb))
  xor := fun a b ha hb => by
    rw [_root_.Bits.bitXor_pp ha.1 hb.1]
    exact wd_of (Nat.xor_lt_two_pow (wd_nat ha) (wd_nat hb))
theorem chg_upd2 {H H' : Hp} {t l : Addr} {ns : List Int} {ws : List V} {i n tot : Int} (k : ∀ b, b ≠ t → H' b = H b) (h1 : H t = some (.lst (.ref l :: ws))) (h2 : H l = some (.lst (ns.map V.int))) (ne : t ≠ l) (hi : 0 ≤ i) (hn : 0 ≤ n) (h0 : 0 ≤ tot) (h3 : tot < 2147483647) : Chg t H (upd H' t (.lst [.ref l, .int i, .int n, .int tot])) :=
  ⟨fun b o hb e => by rw [upd_ne hb, k b hb]; exact e, ⟨l, ns, i, n, tot, upd_same, by rw [upd_ne ne.symm, k l ne.symm]; exact h2, ne, hi, hn, h0, h3⟩, fun l' xs e => ⟨_, by
    have e' := h1.symm.trans e
    have el : l = l' := by
      injection e' with e'
      injection e' with e'
      injection e' with e' _
      injection e'
    subst el
    exact upd_same⟩⟩
theorem chg_upd {H : Hp} {t l : Addr} {ns : List Int} {xs : List V} {i n tot : Int} (h1 : H t = some (.lst (.ref l :: xs))) (h2 : H l = some (.lst (ns.map V.int))) (ne : t ≠ l) (hi : 0 ≤ i) (hn : 0 ≤ n) (h0 : 0 ≤ tot) (h3 : tot < 2147483647) : Chg t H (upd H t (.lst [.ref l, .int i, .int n, .int tot])) :=
  chg_upd2 (fun _ _ => rfl) h1 h2 ne hi hn h0 h3
theorem call_int1I {X : Cx} : CallR X (.type "int") (fun xs H Q => ∃ i, xs = [.int i] ∧ Q (.int i) H) := fun pins s σ H xs us Q I r h => call_int1 pins s σ H xs us Q I r (.inl h)
theorem ix4 : ixN 4 1 = some 1 ∧ ixN 4 2 = some 2 ∧ ixN 4 3 = some 3 := ⟨rfl, rfl, rfl⟩
theorem for_lstH {te : TE} {g : TG} {tb : TS} {D : Ends} {σ : L2.St} {H : Hp} {K : PySem.W.Frag} (a : Addr) (xs : List V) (e : ∀ Qa : VK, Qa (.ref a) H → te σ H Qa) (h : SqL K H a xs) (Pv : Nat → L2.St → Hp → Prop) (h0 : Pv 0 σ H) (hl : ∀ i σ H, Pv i σ H → SqL K H a xs)
    (hs : ∀ i x σ H, xs[i]? = some x → Pv i σ H → g x σ H fun σ2 H2 => tb { D with nx := Pv (i + 1), ct := Pv (i + 1), bk := D.nx } σ2 H2) (hd : ∀ σ H, Pv xs.length σ H → D.nx σ H) : tFor (iList K te) g tb D σ H :=
  e _ ⟨a, rfl, ⟨xs, h⟩, for_list Pv h0 (fun i σ H _ p => hl i σ H p) hs hd⟩
section
variable {P : Program} {w : World} {K : PySem.W.Frag} {mg : Str → Option Value} {base : Heap}
def spTape (K : PySem.W.Frag) : Sp := fun vs H Q _ => ∃ (a : Addr) (ns : List Int), vs = [.ref a] ∧ SqL K H a (ns.map V.int) ∧ ∀ t H', Tape H' t → H t = none → Q (.ref t) H'
theorem ok_lTape (T : Txt K mg) : FnOk P w K mg base CX0 1 T.lTape.f T.lTape.fd ["_law_script"] (spTape K) := by
  refine T.lTape.F.ok sc_lTape (fun vs H Q E h => ?_) (fun cdv A outer s H vs Q E hr h => ?_)
  · obtain ⟨a, ns, rfl, _⟩ := h
    rfl
  · obtain ⟨a, ns, rfl, hS, q⟩ := h
    refine ⟨_, (pss_cons (ps_set (i := 1) sc_lTape.nd rfl (.inl rfl) pe_int)
      (pss_cons (ps_for PassesOwn.never rfl (pi_list (pv 0)) (pg_name (i := 2) sc_lTape.nd rfl (.inl rfl))
        (pss_one (ps_set (i := 1) sc_lTape.nd rfl (.inl rfl) (pe_op op_mod (pe_callTy call_int1 (by rfl) T.zint (by decide +kernel) (pa_cons (pe_op op_add (pe_op op_mul (pv 1) pe_int) (pe_callB call_abs (by rfl) T.zabs (by decide +kernel) (pa_cons (pe_callTy call_int1 (by rfl) T.zint (by decide +kernel) (pa_cons (pv 2) pa_nil)) pa_nil))) pa_nil)) pe_int))))
      (pss_one (ps_ret (pe_lstH (pa_cons (pe_callTy call_list_of (by rfl) T.zlist (by decide +kernel) (pa_cons (pv 0) pa_nil)) (pa_cons pe_int (pa_cons pe_int (pa_cons (pv 1) pa_nil))))))))), ?_⟩
    rw [show L2.start N_lTape [V.ref a] = [some (V.ref a), none, none] from rfl]
    walk_at "rd"
    refine for_lstH a (ns.map V.int) (fun Qa qa => ?_) hS (fun i σ H' => H' = H ∧ ∃ (z : Int) (j : Option V), σ = [some (V.ref a), some (V.int z), j] ∧ 0 ≤ z ∧ z < 2147483647) ⟨rfl, 7, none, rfl, by decide, by decide⟩ (fun i σ H' hv => by rw [hv.1]; exact hS) (fun i x σ H' hx hv => ?_) (fun σ H' hv => ?_)
    · walk_at "rd"
      exact qa
    · obtain ⟨rfl, z, j, rfl, z0, z1⟩ := hv
      rw [List.getElem?_map] at hx
      obtain ⟨c, _, rfl⟩ := Option.map_eq_some_iff.mp hx
      walk_at "rd"
      exact ⟨_, _, ⟨rfl, rfl⟩, Int.emod_nonneg _ (by decide), Int.emod_lt_of_pos _ (by decide)⟩
    · obtain ⟨rfl, z, j, rfl, z0, z1⟩ := hv
      walk_at "rd"
      refine ⟨_, .inl hS, fun l nl p H2 s2 np e2 => ?_⟩
      have el : H2 l = some (.lst (ns.map V.int)) := s2 _ _ upd_same
      have hpl : p ≠ l := fun e => by
        rw [e, upd_same] at np
        cases np
      rw [upd_ne hpl] at np
      exact q p H2 ⟨l, ns, 0, 0, z, e2, el, hpl, by decide, by decide, z0, z1⟩ np
def spDraw : Sp := fun vs H Q _ => ∃ (t : Addr) (m : Int), vs = [.ref t, .int m] ∧ Tape H t ∧ 1 ≤ m ∧ m ≤ 1000000 ∧ ∀ r H', Chg t H H' → 0 ≤ r → r < m → Q (.int r) H'
theorem i_draw {t : Addr} {m : Int} {H : Hp} {Q : VK} {E : XK} (hT : Tape H t) (h1 : 1 ≤ m) (h2 : m ≤ 1000000) (q : ∀ r H', Chg t H H' → 0 ≤ r → r < m → Q (.int r) H') : spDraw [.ref t, .int m] H Q E := ⟨t, m, rfl, hT, h1, h2, q⟩
theorem ok_lDraw (T : Txt K mg) : FnOk P w K mg base CX0 1 T.lDraw.f T.lDraw.fd ["_law_tape_here", "_law_many"] spDraw := by
  refine T.lDraw.F.ok sc_lDraw (fun vs H Q E h => ?_) (fun cdv A outer s H vs Q E hr h => ?_)
  · obtain ⟨t, m, rfl, _⟩ := h
    rfl
  · obtain ⟨t, m, rfl, hT, h1, h2, q⟩ := h
    refine ⟨_, (pss_cons (ps_if (pt_cmpR op_eq (pe_ix ix_listH (pv 0) pe_int (fun _ _ => rfl)) pe_int (nomark _))
        (pss_cons (ps_set (i := 2) sc_lDraw.nd rfl (.inl rfl) (pe_ix ix_listH (pv 0) pe_int (fun _ _ => rfl)))
        (pss_cons (ps_set (i := 3) sc_lDraw.nd rfl (.inl rfl) pe_int)
        (C8.pss_cut (ps_if (pt_cmpR op_lt (pv 2) (pe_callB call_lenL (by rfl) T.zlen PySem.boot_len (pa_cons (pe_ix ix_listH (pv 0) pe_int (fun _ _ => rfl)) pa_nil)) (nomark _))
          (pss_one (ps_set (i := 3) sc_lDraw.nd rfl (.inl rfl) (pe_callB call_abs (by rfl) T.zabs (by decide +kernel) (pa_cons (pe_callTy call_int1I (by rfl) T.zint (by decide +kernel) (pa_cons (pe_ix ix_listH (pe_ix ix_listH (pv 0) pe_int (fun _ _ => rfl)) (pv 2) (fun _ _ => rfl)) pa_nil)) pa_nil))))
          (pss_cons (ps_asg (pe_op op_mod (pe_callTy call_int1I (by rfl) T.zint (by decide +kernel) (pa_cons (pe_op op_add (pe_op op_add (pe_op op_mul (pe_ix ix_listH (pv 0) pe_int (fun _ _ => rfl)) pe_int) (pv 2)) pe_int) pa_nil)) pe_int) (pg_sub (pv 0) pe_int set_list))
          (pss_one (ps_set (i := 3) sc_lDraw.nd rfl (.inl rfl) (pe_ix ix_listH (pv 0) pe_int (fun _ _ => rfl))))))
        (pss_cons (ps_asg (pe_op op_add (pv 2) pe_int) (pg_sub (pv 0) pe_int set_list))
        (pss_cons (ps_if (pt_cmpR op_lt (pv 3) (pe_op op_pow pe_int pe_int) (nomark _))
          (pss_cons (ps_set (i := 3) sc_lDraw.nd rfl (.inl rfl) (pe_op op_mod (pe_callTy call_int1I (by rfl) T.zint (by decide +kernel) (pa_cons (pe_op op_add (pe_op op_add (pe_op op_mul (pv 3) pe_int) (pe_op op_mul (pv 2) pe_int)) pe_int) pa_nil)) pe_int))
          (pss_cons (ps_set (i := 3) sc_lDraw.nd rfl (.inl rfl) (pe_op op_mod (pe_callTy call_int1I (by rfl) T.zint (by decide +kernel) (pa_cons (pe_op op_mul (pv 3) pe_int) pa_nil)) pe_int))
          (pss_one (ps_ret (pe_op op_mod (pe_callTy call_int1I (by rfl) T.zint (by decide +kernel) (pa_cons (pv 3) pa_nil)) (pe_callB (call_max2 rfl) (by rfl) T.zmax (by decide +kernel) (pa_cons (pv 1) (pa_cons pe_int pa_nil))))))))
          pss_nil)
        (pss_one (ps_asg (pv 3) (pg_sub (pv 0) pe_int set_list))))))))
        pss_nil)
      (pss_cons (ps_set (i := 3) sc_lDraw.nd rfl (.inl rfl) (pe_ix ix_listH (pv 0) pe_int (fun _ _ => rfl)))
      (pss_cons (ps_asg (pe_op op_fdiv (pv 3) (pe_callB (call_max2 rfl) (by rfl) T.zmax (by decide +kernel) (pa_cons (pv 1) (pa_cons pe_int pa_nil)))) (pg_sub (pv 0) pe_int set_list))
      (pss_one (ps_ret (pe_op op_mod (pe_callTy call_int1I (by rfl) T.zint (by decide +kernel) (pa_cons (pv 3) pa_nil)) (pe_callB (call_max2 rfl) (by rfl) T.zmax (by decide +kernel) (pa_cons (pv 1) (pa_cons pe_int pa_nil))))))))), ?_⟩
    rw [show L2.start N_lDraw [V.ref t, V.int m] = [some (V.ref t), some (V.int m), none, none] from rfl]
    obtain ⟨l, ns, i, n, tot, g1, g2, ne, i0, n0, t0, t1⟩ := hT
    have hm : (if 1 > m then (1 : Int) else m) = m := if_neg (by omega)
    have hm2 : 0 < (if 2 > m then (2 : Int) else m) ∧ (if 2 > m then (2 : Int) else m) < 1073741824 := by split <;> exact ⟨by omega, by omega⟩
    have fin : ∀ (z : Int) (H' : Hp), Chg t H H' → Q (.int (z % m)) H' := fun z H' c => q _ _ c (Int.emod_nonneg _ (by omega)) (Int.emod_lt_of_pos _ (by omega))
    have m0 : 0 < m := by omega
    walk_at "rs"
    split
    · rename_i e0
      subst e0
      refine ⟨fun σ' H' => ∃ (x tot' : Int), σ' = [some (V.ref t), some (V.int m), some (V.int i), some (V.int x)] ∧ 0 ≤ x ∧ 0 ≤ tot' ∧ tot' < 2147483647 ∧ H' t = some (.lst [.ref l, .int i, .int 0, .int tot']) ∧ ∀ b, b ≠ t → H' b = H b, ?_, fun σ' H' hmid => ?_⟩
      · walk_at "rs"
        split
        · rename_i hlt
          rw [List.length_map] at hlt
          have hj : i.toNat < ns.length := by omega
          refine ⟨.int ns[i.toNat], at_of (j := i.toNat) (by omega) (by rw [List.getElem?_map, List.getElem?_eq_getElem hj]; rfl), ns[i.toNat], rfl, ?_, tot, t0, t1, rfl, fun _ _ => trivial⟩
          split <;> omega
        · refine ⟨3, ix4.2.2, .int ((tot * 48271 + i + 1) % 2147483647), at3, _, rfl, Int.emod_nonneg _ (by decide), (tot * 48271 + i + 1) % 2147483647, Int.emod_nonneg _ (by decide), Int.emod_lt_of_pos _ (by decide), rfl, fun b hb => upd_ne hb⟩
      · obtain ⟨x, tot', rfl, x0, t0', t1', g3, gk⟩ := hmid
        walk_at "rs"
        refine ⟨1, ix4.1, ?_⟩
        split
        · refine ⟨m, 1, ⟨rfl, rfl⟩, ?_⟩
          rw [hm]
          exact ⟨m0, fin _ _ (chg_upd2 gk g1 g2 ne (by omega) (by decide) t0' t1')⟩
        · refine ⟨2, ix4.2.1, .int x, at2, m, 2, ⟨rfl, rfl⟩, x, rfl, hm2, 2, ix4.2.1, x, rfl, m, 1, ⟨rfl, rfl⟩, ?_⟩
          rw [hm]
          exact ⟨m0, fin _ _ (chg_upd2 gk g1 g2 ne (by omega) (Int.ediv_nonneg x0 (Int.le_of_lt hm2.1)) t0' t1')⟩
    · refine ⟨m, 2, ⟨rfl, rfl⟩, hm2, 2, ix4.2.1, m, 1, ⟨rfl, rfl⟩, ?_⟩
      rw [hm]
      exact ⟨m0, fin _ _ (chg_upd g1 g2 ne i0 (Int.ediv_nonneg n0 (Int.le_of_lt hm2.1)) t0 t1)⟩
end
end KW

namespace KW
open PySem PySem.Spec PyProof.Rows L2 KM
local macro_rules | `(tactic| walk_at "rd") => `(tactic| simp (config := { decide := true, maxSteps := 2000000 }) only [tSeq, tIfS, tTest, tOp, rI0, rI, rEq, rNe, sc_nn, sc_ni, sc_in, sc_nb, sc_bn, sc_ns, sc_sn, sc_ii, sc_bb, sc_ss, sc_is, sc_si, tVar, tC, tRet, tNext, tAsg, gName, tB, tCall, tCons, tNil, tCB, tUn, rU, tAnd, tOr, tNot, tAndV, tOrV, tNotV, tIf, CMul, CDiv, CPow,
  at0, at1, at2, at3, at4, at5, at6, rs_eq, rs_ne, rs_lt, rs_ge, rs_ltu, rs_geu, os_add, os_sub, os_mul, os_and, os_or, os_xor, os_slt, os_sltu, ks_addi, ks_load, ks_store, ks_swap, ks_fadd, ks_ll, ks_sc, ks_fence, ks_branch, ks_jump, ks_halt, in_ops, in_ats,
  rIxTH, rIxLH, rLenT, rLenL, rInC, rInL, rNotInL, rCatH, rSlH, tTupH, tLstH, rTupOf, gSub, rSetL, tDrop, tBM, rAppend, tYes, wipe, upd_same, upd_upd, gTupH, gc_cons, gc_nil, tSl, tPart, tNoPart, fl_n, fl_i, fl_b, fl_s, tInD, tInT, vals, kd_op, rest_op, kd_addi, rest_addi, kd_load, rest_load, kd_store, rest_store, kd_swap, rest_swap, kd_fadd, rest_fadd, kd_ll, rest_ll, kd_sc, rest_sc, kd_fence, rest_fence, kd_branch, rest_branch, kd_jump, rest_jump, kd_halt, rest_halt, in_l1, in_l2, in_l3, in_l4, in_l5, in_l6,
  List.getElem?_cons_zero, List.getElem?_cons_succ, List.set_cons_zero, List.set_cons_succ, Option.some.injEq, exists_eq_left', exists_eq_left, exists_and_left, exists_eq', exists_eq, V.int.injEq, V.bl.injEq, V.str.injEq, V.ref.injEq, HO.tup.injEq, HO.lst.injEq, decide_eq_true_eq, true_and, and_true, false_and, and_false, or_false, false_or, true_or, or_true, List.append_nil, List.cons_append, List.nil_append, List.cons.injEq,
  List.length_cons, List.length_nil, Nat.reduceAdd, Nat.reduceLeDiff, forall_const, reduceCtorEq, Bool.false_eq_true, if_true, if_false, Bool.not_true, Bool.not_false, Bool.not_eq_true', decide_eq_false_iff_not, decide_true, decide_false])
local macro_rules | `(tactic| walk_at "rs") => `(tactic| simp (config := { decide := true, maxSteps := 2000000 }) only [tSeq, tIfS, tTest, tOp, rI0, rI, rEq, rNe, sc_nn, sc_ni, sc_in, sc_nb, sc_bn, sc_ns, sc_sn, sc_ii, sc_bb, sc_ss, sc_is, sc_si, tVar, tC, tRet, tNext, tAsg, gName, tB, tCall, tCons, tNil, tCB, tUn, rU, tAnd, tOr, tNot, tAndV, tOrV, tNotV, tIf, CMul, CDiv, CPow,
  at0, at1, at2, at3, at4, at5, at6, rs_eq, rs_ne, rs_lt, rs_ge, rs_ltu, rs_geu, os_add, os_sub, os_mul, os_and, os_or, os_xor, os_slt, os_sltu, ks_addi, ks_load, ks_store, ks_swap, ks_fadd, ks_ll, ks_sc, ks_fence, ks_branch, ks_jump, ks_halt, in_ops, in_ats,
  rIxTH, rIxLH, rLenT, rLenL, rInC, rInL, rNotInL, rCatH, rSlH, tTupH, tLstH, rTupOf, gSub, rSetL, tDrop, tBM, rAppend, tYes, wipe, upd_same, upd_upd, gTupH, gc_cons, gc_nil, tSl, tPart, tNoPart, fl_n, fl_i, fl_b, fl_s, tInD, tInT, vals, kd_op, rest_op, kd_addi, rest_addi, kd_load, rest_load, kd_store, rest_store, kd_swap, rest_swap, kd_fadd, rest_fadd, kd_ll, rest_ll, kd_sc, rest_sc, kd_fence, rest_fence, kd_branch, rest_branch, kd_jump, rest_jump, kd_halt, rest_halt, in_l1, in_l2, in_l3, in_l4, in_l5, in_l6,
  List.getElem?_cons_zero, List.getElem?_cons_succ, List.set_cons_zero, List.set_cons_succ, Option.some.injEq, exists_eq_left', exists_eq_left, exists_and_left, exists_eq', exists_eq, V.int.injEq, V.bl.injEq, V.str.injEq, V.ref.injEq, HO.tup.injEq, HO.lst.injEq, decide_eq_true_eq, true_and, and_true, false_and, and_false, or_false, false_or, true_or, or_true, List.append_nil, List.cons_append, List.nil_append, List.cons.injEq,
  List.length_cons, List.length_nil, Nat.reduceAdd, Nat.reduceLeDiff, forall_const, reduceCtorEq, Bool.false_eq_true, if_true, if_false, Bool.not_true, Bool.not_false, Bool.not_eq_true', decide_eq_false_iff_not, decide_true, decide_false, *])
theorem Chg.then {t : Addr} {H H1 H2 : Hp} (c : Chg t H H1) (s : Same H1 H2) : Chg t H H2 := c.trans (.same c.tape s)
theorem ne_tape {t p : Addr} {H : Hp} (h : Tape H t) (np : H p = none) : p ≠ t := fun e => by
  obtain ⟨ys, z⟩ := h.lst
  rw [e, z] at np
  cases np
theorem i_menu {t p : Addr} {m : Int} {H1 H2 : Hp} {xs : List V} {Q : VK} {E : XK} (hT : Tape H1 t) (s : Same H1 H2) (np : H1 p = none) (e : H2 p = some (.lst xs)) (h1 : 1 ≤ m) (h2 : m ≤ 1000000)
    (q : ∀ r H3, Chg t H1 H3 → H3 p = some (.lst xs) → 0 ≤ r → r < m → Q (.int r) H3) : spDraw [.ref t, .int m] H2 Q E :=
  i_draw (hT.grown s) h1 h2 fun r H3 c r0 r1 => q r H3 ((Chg.same hT s).trans c) (c.keep p _ (ne_tape hT np) e) r0 r1
theorem at7 {a b c d e f g h : V} {xs : List V} : atI (a :: b :: c :: d :: e :: f :: g :: h :: xs) 7 = some h := atI_nat (j := 7) rfl
theorem menu_op {r : Int} (h0 : 0 ≤ r) (h1 : r < 8) : ∃ o : Op, atI [V.str (Str.ofString "add"), V.str (Str.ofString "sub"), V.str (Str.ofString "mul"), V.str (Str.ofString "and"), V.str (Str.ofString "or"), V.str (Str.ofString "xor"), V.str (Str.ofString "slt"), V.str (Str.ofString "sltu")] r = some (V.str (opS o)) := by
  have : r = 0 ∨ r = 1 ∨ r = 2 ∨ r = 3 ∨ r = 4 ∨ r = 5 ∨ r = 6 ∨ r = 7 := by omega
  rcases this with rfl | rfl | rfl | rfl | rfl | rfl | rfl | rfl
  · exact ⟨.add, at0⟩
  · exact ⟨.sub, at1⟩
  · exact ⟨.mul, at2⟩
  · exact ⟨.and, at3⟩
  · exact ⟨.or, at4⟩
  · exact ⟨.xor, at5⟩
  · exact ⟨.slt, at6⟩
  · exact ⟨.sltu, at7⟩
theorem menu_rel {r : Int} (h0 : 0 ≤ r) (h1 : r < 6) : ∃ o : Rel, atI [V.str (Str.ofString "eq"), V.str (Str.ofString "ne"), V.str (Str.ofString "lt"), V.str (Str.ofString "ge"), V.str (Str.ofString "ltu"), V.str (Str.ofString "geu")] r = some (V.str (relS o)) := by
  have : r = 0 ∨ r = 1 ∨ r = 2 ∨ r = 3 ∨ r = 4 ∨ r = 5 := by omega
  rcases this with rfl | rfl | rfl | rfl | rfl | rfl
  · exact ⟨.eq, at0⟩
  · exact ⟨.ne, at1⟩
  · exact ⟨.lt, at2⟩
  · exact ⟨.ge, at3⟩
  · exact ⟨.ltu, at4⟩
  · exact ⟨.geu, at5⟩
theorem menu_fen {r : Int} (h0 : 0 ≤ r) (h1 : r < 4) : ∃ o : Fen, atI [V.str (Str.ofString "loads"), V.str (Str.ofString "stores"), V.str (Str.ofString "full"), V.str (Str.ofString "slot")] r = some (V.str (fenS o)) := by
  have : r = 0 ∨ r = 1 ∨ r = 2 ∨ r = 3 := by omega
  rcases this with rfl | rfl | rfl | rfl
  · exact ⟨.loads, at0⟩
  · exact ⟨.stores, at1⟩
  · exact ⟨.full, at2⟩
  · exact ⟨.slot, at3⟩
theorem menu_mem {r : Int} (h0 : 3 ≤ r) (h1 : r < 7) : ∃ s : Str, atI [V.str (Str.ofString "load"), V.str (Str.ofString "load"), V.str (Str.ofString "store"), V.str (Str.ofString "store")] (r - 3) = some (V.str s) ∧ ∀ d a n, Reg d → Reg a → Wd n → ∃ i : Ins, i.Ok ∧ vals i = [.str s, .int d, .int a, .int n] := by
  have : r = 3 ∨ r = 4 ∨ r = 5 ∨ r = 6 := by omega
  rcases this with rfl | rfl | rfl | rfl
  · exact ⟨_, at0, fun d a n h1 h2 h3 => ⟨.load d a n, ⟨h1, h2, h3⟩, rfl⟩⟩
  · exact ⟨_, at1, fun d a n h1 h2 h3 => ⟨.load d a n, ⟨h1, h2, h3⟩, rfl⟩⟩
  · exact ⟨_, at2, fun d a n h1 h2 h3 => ⟨.store d a n, ⟨h1, h2, h3⟩, rfl⟩⟩
  · exact ⟨_, at3, fun d a n h1 h2 h3 => ⟨.store d a n, ⟨h1, h2, h3⟩, rfl⟩⟩
theorem menu_at {r : Int} (h0 : 7 ≤ r) (h1 : r < 9) : ∃ s : Str, atI [V.str (Str.ofString "swap"), V.str (Str.ofString "fetch add")] (r - 7) = some (V.str s) ∧ ∀ d a n, Reg d → Reg a → Reg n → ∃ i : Ins, i.Ok ∧ vals i = [.str s, .int d, .int a, .int n] := by
  have : r = 7 ∨ r = 8 := by omega
  rcases this with rfl | rfl
  · exact ⟨_, at0, fun d a n h1 h2 h3 => ⟨.swap d a n, ⟨h1, h2, h3⟩, rfl⟩⟩
  · exact ⟨_, at1, fun d a n h1 h2 h3 => ⟨.fadd d a n, ⟨h1, h2, h3⟩, rfl⟩⟩
section
variable {P : Program} {w : World} {K : PySem.W.Frag} {mg : Str → Option Value} {base : Heap}
def spWord : Sp := fun vs H Q _ => ∃ (t : Addr), vs = [.ref t] ∧ Tape H t ∧ ∀ r H', Chg t H H' → Wd r → Q (.int r) H'
theorem i_word {t : Addr} {H : Hp} {Q : VK} {E : XK} (hT : Tape H t) (q : ∀ r H', Chg t H H' → Wd r → Q (.int r) H') : spWord [.ref t] H Q E := ⟨t, rfl, hT, q⟩
theorem ok_lWord (T : Txt K mg) : FnOk P w K mg base CX0 2 T.lWord.f T.lWord.fd ["_law_tape_here"] spWord := by
  refine T.lWord.F.ok sc_lWord (fun vs H Q E h => ?_) (fun cdv A outer s H vs Q E hr h => ?_)
  · obtain ⟨t, rfl, _⟩ := h
    rfl
  · obtain ⟨t, rfl, hT, q⟩ := h
    refine ⟨_, (pss_cons (ps_set (i := 1) sc_lWord.nd rfl (.inl rfl) (pcall T.lDraw (ok_lDraw T) hr (by decide) (by rfl) (pa_cons (pv 0) (pa_cons pe_int pa_nil))))
      (pss_cons (ps_if (pt_cmpR op_lt (pv 1) pe_int (nomark _))
        (pss_one (ps_ret (pcall T.lDraw (ok_lDraw T) hr (by decide) (by rfl) (pa_cons (pv 0) (pa_cons pe_int pa_nil)))))
        pss_nil)
      (pss_cons (ps_if (pt_cmpR op_lt (pv 1) pe_int (nomark _))
        (pss_one (ps_ret (pe_ix ix_listH (pe_lstH (pa_cons pe_int (pa_cons pe_int (pa_cons pe_int (pa_cons pe_int (pa_cons pe_int (pa_cons pe_int pa_nil))))))) (pcall T.lDraw (ok_lDraw T) hr (by decide) (by rfl) (pa_cons (pv 0) (pa_cons pe_int pa_nil))) (fun _ _ => rfl))))
        pss_nil)
      (pss_one (ps_ret (pcall T.lDraw (ok_lDraw T) hr (by decide) (by rfl) (pa_cons (pv 0) (pa_cons pe_int pa_nil)))))))), ?_⟩
    rw [show L2.start N_lWord [V.ref t] = [some (V.ref t), none] from rfl]
    walk_at "rd"
    refine i_draw hT (by decide) (by decide) fun r H1 c1 r0 r1 => ?_
    walk_at "rd"
    split
    · refine i_draw c1.tape (by decide) (by decide) fun r H2 c2 r0 r1 => ?_
      exact q _ _ (c1.trans c2) ⟨r0, by omega⟩
    · split
      · intro p H2 s2 np e2
        refine i_draw (c1.tape.grown s2) (by decide) (by decide) fun r H3 c3 r0 r1 => ?_
        have hpt : p ≠ t := fun e => by
          obtain ⟨ys, z⟩ := c1.tape.lst
          rw [e, z] at np
          cases np
        have e3 := c3.keep p _ hpt e2
        walk_at "rs"
        have cT : Chg t H H3 := (c1.trans (.same c1.tape s2)).trans c3
        have : r = 0 ∨ r = 1 ∨ r = 2 ∨ r = 3 ∨ r = 4 ∨ r = 5 := by omega
        rcases this with rfl | rfl | rfl | rfl | rfl | rfl
        · exact ⟨_, at0, q _ _ cT ⟨by decide, by decide⟩⟩
        · exact ⟨_, at1, q _ _ cT ⟨by decide, by decide⟩⟩
        · exact ⟨_, at2, q _ _ cT ⟨by decide, by decide⟩⟩
        · exact ⟨_, at3, q _ _ cT ⟨by decide, by decide⟩⟩
        · exact ⟨_, at4, q _ _ cT ⟨by decide, by decide⟩⟩
        · exact ⟨_, at5, q _ _ cT ⟨by decide, by decide⟩⟩
      · refine i_draw c1.tape (by decide) (by decide) fun r H2 c2 r0 r1 => ?_
        exact q _ _ (c1.trans c2) ⟨r0, r1⟩
def spInstr : Sp := fun vs H Q _ => ∃ (t : Addr) (size last many share : Int), vs = [.ref t, .int size, .int last, .int many, .int share] ∧ Tape H t ∧ (1 ≤ size ∧ size ≤ 16) ∧ (0 ≤ last ∧ last ≤ 24) ∧ (1 ≤ many ∧ many ≤ 8) ∧ 0 ≤ share ∧ ∀ v i H', Chg t H H' → i.Ok → OIns H' v (some i) → Q v H'
theorem ok_lInstruction (T : Txt K mg) : FnOk P w K mg base CX0 3 T.lInstruction.f T.lInstruction.fd ["_law_tape_here", "_law_size", "_law_last", "_law_many", "_law_share"] spInstr := by
  refine T.lInstruction.F.ok sc_lInstruction (fun vs H Q E h => ?_) (fun cdv A outer s H vs Q E hr h => ?_)
  · obtain ⟨t, _, _, _, _, rfl, _⟩ := h
    rfl
  · obtain ⟨t, size, last, many, share, rfl, hT, hz, hl, hm, hs, q⟩ := h
    refine ⟨_, (pss_cons (ps_set (i := 5) sc_lInstruction.nd rfl (.inl rfl) (pcall T.lDraw (ok_lDraw T) hr (by decide) (by rfl) (pa_cons (pv 0) (pa_cons (pv 3) pa_nil))))
      (pss_cons (ps_set (i := 6) sc_lInstruction.nd rfl (.inl rfl) (pcall T.lDraw (ok_lDraw T) hr (by decide) (by rfl) (pa_cons (pv 0) (pa_cons (pv 3) pa_nil))))
      (pss_cons (ps_set (i := 7) sc_lInstruction.nd rfl (.inl rfl) (pcall T.lDraw (ok_lDraw T) hr (by decide) (by rfl) (pa_cons (pv 0) (pa_cons (pv 3) pa_nil))))
      (pss_cons (ps_if (pt_cmpR op_lt (pv 4) pe_int (nomark _))
        (pss_one (ps_ret (pe_tupH (pa_cons (pe_ix ix_listH (pe_lstH (pa_cons pe_str (pa_cons pe_str (pa_cons pe_str (pa_cons pe_str (pa_cons pe_str (pa_cons pe_str (pa_cons pe_str (pa_cons pe_str pa_nil))))))))) (pcall T.lDraw (ok_lDraw T) hr (by decide) (by rfl) (pa_cons (pv 0) (pa_cons pe_int pa_nil))) (fun _ _ => rfl)) (pa_cons (pv 5) (pa_cons (pv 6) (pa_cons (pv 7) pa_nil)))))))
        pss_nil)
      (pss_cons (ps_if (pt_cmpR op_eq (pv 4) pe_int (nomark _))
        (pss_one (ps_ret (pe_tupH (pa_cons pe_str (pa_cons (pv 5) (pa_cons (pv 6) (pa_cons (pcall T.lWord (ok_lWord T) hr (by decide) (by rfl) (pa_cons (pv 0) pa_nil)) pa_nil)))))))
        pss_nil)
      (pss_cons (ps_if (pt_cmpR op_lt (pv 4) pe_int (nomark _))
        (pss_cons (ps_set (i := 8) sc_lInstruction.nd rfl (.inl rfl) (pcall T.lDraw (ok_lDraw T) hr (by decide) (by rfl) (pa_cons (pv 0) (pa_cons (pe_op op_add (pv 1) pe_int) pa_nil))))
        (pss_cons (ps_if (pt_cmpR op_eq (pcall T.lDraw (ok_lDraw T) hr (by decide) (by rfl) (pa_cons (pv 0) (pa_cons pe_int pa_nil))) pe_int (nomark _))
          (pss_one (ps_set (i := 8) sc_lInstruction.nd rfl (.inl rfl) (pcall T.lWord (ok_lWord T) hr (by decide) (by rfl) (pa_cons (pv 0) pa_nil))))
          pss_nil)
        (pss_one (ps_ret (pe_tupH (pa_cons (pe_ix ix_listH (pe_lstH (pa_cons pe_str (pa_cons pe_str (pa_cons pe_str (pa_cons pe_str pa_nil))))) (pe_op op_sub (pv 4) pe_int) (fun _ _ => rfl)) (pa_cons (pv 5) (pa_cons (pe_ix ix_listH (pe_lstH (pa_cons pe_int (pa_cons (pv 6) pa_nil))) (pcall T.lDraw (ok_lDraw T) hr (by decide) (by rfl) (pa_cons (pv 0) (pa_cons pe_int pa_nil))) (fun _ _ => rfl)) (pa_cons (pv 8) pa_nil)))))))))
        pss_nil)
      (pss_cons (ps_if (pt_cmpR op_lt (pv 4) pe_int (nomark _))
        (pss_one (ps_ret (pe_tupH (pa_cons (pe_ix ix_listH (pe_lstH (pa_cons pe_str (pa_cons pe_str pa_nil))) (pe_op op_sub (pv 4) pe_int) (fun _ _ => rfl)) (pa_cons (pv 5) (pa_cons (pv 6) (pa_cons (pv 7) pa_nil)))))))
        pss_nil)
      (pss_cons (ps_if (pt_cmpR op_eq (pv 4) pe_int (nomark _))
        (pss_one (ps_ret (pe_tupH (pa_cons pe_str (pa_cons (pv 5) (pa_cons (pv 6) pa_nil))))))
        pss_nil)
      (pss_cons (ps_if (pt_cmpR op_eq (pv 4) pe_int (nomark _))
        (pss_one (ps_ret (pe_tupH (pa_cons pe_str (pa_cons (pv 5) (pa_cons (pv 6) (pa_cons (pv 7) pa_nil)))))))
        pss_nil)
      (pss_cons (ps_if (pt_cmpR op_eq (pv 4) pe_int (nomark _))
        (pss_one (ps_ret (pe_tupH (pa_cons pe_str (pa_cons (pe_ix ix_listH (pe_lstH (pa_cons pe_str (pa_cons pe_str (pa_cons pe_str (pa_cons pe_str pa_nil))))) (pcall T.lDraw (ok_lDraw T) hr (by decide) (by rfl) (pa_cons (pv 0) (pa_cons pe_int pa_nil))) (fun _ _ => rfl)) pa_nil)))))
        pss_nil)
      (pss_cons (ps_set (i := 9) sc_lInstruction.nd rfl (.inl rfl) (pe_callB (call_min2 rfl) (by rfl) T.zmin (by decide +kernel) (pa_cons pe_int (pa_cons (pcall T.lDraw (ok_lDraw T) hr (by decide) (by rfl) (pa_cons (pv 0) (pa_cons (pe_op op_add (pv 2) pe_int) pa_nil))) pa_nil))))
      (pss_cons (ps_if (pt_cmpR op_eq (pcall T.lDraw (ok_lDraw T) hr (by decide) (by rfl) (pa_cons (pv 0) (pa_cons pe_int pa_nil))) pe_int (nomark _))
        (pss_one (ps_set (i := 9) sc_lInstruction.nd rfl (.inl rfl) (pcall T.lDraw (ok_lDraw T) hr (by decide) (by rfl) (pa_cons (pv 0) (pa_cons pe_int pa_nil)))))
        pss_nil)
      (pss_cons (ps_if (pt_cmpR op_lt (pv 4) pe_int (nomark _))
        (pss_one (ps_ret (pe_tupH (pa_cons pe_str (pa_cons (pe_ix ix_listH (pe_lstH (pa_cons pe_str (pa_cons pe_str (pa_cons pe_str (pa_cons pe_str (pa_cons pe_str (pa_cons pe_str pa_nil))))))) (pcall T.lDraw (ok_lDraw T) hr (by decide) (by rfl) (pa_cons (pv 0) (pa_cons pe_int pa_nil))) (fun _ _ => rfl)) (pa_cons (pv 6) (pa_cons (pv 7) (pa_cons (pv 9) pa_nil))))))))
        pss_nil)
      (pss_cons (ps_if (pt_cmpR op_eq (pv 4) pe_int (nomark _))
        (pss_one (ps_ret (pe_tupH (pa_cons pe_str (pa_cons (pv 9) pa_nil)))))
        pss_nil)
      (pss_one (ps_ret (pe_tupH (pa_cons pe_str pa_nil)))))))))))))))))), ?_⟩
    rw [show L2.start N_lInstruction [V.ref t, V.int size, V.int last, V.int many, V.int share] = [some (V.ref t), some (V.int size), some (V.int last), some (V.int many), some (V.int share), none, none, none, none, none] from rfl]
    walk_at "rd"
    refine i_draw hT hm.1 (by omega) fun d H1 c1 d0 d1 => ?_
    refine i_draw c1.tape hm.1 (by omega) fun a H2 c2 a0 a1 => ?_
    refine i_draw c2.tape hm.1 (by omega) fun b H3 c3 b0 b1 => ?_
    have hd : Reg d := ⟨d0, by omega⟩
    have ha : Reg a := ⟨a0, by omega⟩
    have hb : Reg b := ⟨b0, by omega⟩
    have hz0 : Reg 0 := ⟨by decide, by decide⟩
    have cc := (c1.trans c2).trans c3
    have out : ∀ (i : Ins) (p : Addr) (H5 : Hp), Chg t H H5 → i.Ok → H5 p = some (.tup (vals i)) → Q (.ref p) H5 := fun i p H5 c ok e => q _ i _ c ok ⟨p, rfl, e⟩
    have mem : ∀ (n : Int) (H4 : Hp), Chg t H H4 → Wd n → 3 ≤ share → share < 7 → ∀ (p : Addr) (H' : Hp), Same H4 H' → H4 p = none → H' p = some (HO.lst [V.str (Str.ofString "load"), V.str (Str.ofString "load"), V.str (Str.ofString "store"), V.str (Str.ofString "store")]) →
        ∃ xs, H' p = some (HO.lst xs) ∧ ∃ v, atI xs (share - 3) = some v ∧ ∀ (p : Addr) (H'_1 : Hp), Same H' H'_1 → H' p = none → H'_1 p = some (HO.lst [V.int 0, V.int a]) →
          spDraw [V.ref t, V.int 2] H'_1 (fun y H2 => ∃ x_6, y = V.int x_6 ∧ ∃ xs, H2 p = some (HO.lst xs) ∧ ∃ v_1, atI xs x_6 = some v_1 ∧ ∀ (p : Addr) (H' : Hp), Same H2 H' → H' p = some (HO.tup [v, V.int d, v_1, V.int n]) → Q (V.ref p) H') E0 := by
      intro n H4 c4 wn s3 s7 p H5 s5 np e5
      obtain ⟨st, e1, e2⟩ := menu_mem s3 s7
      refine ⟨_, e5, _, e1, fun p2 H6 s6 np2 e6 => ?_⟩
      have c5 := c4.then s5
      refine i_menu c5.tape s6 np2 e6 (by decide) (by decide) fun r H7 c7 e7 r0 r1 => ⟨r, rfl, _, e7, ?_⟩
      have : r = 0 ∨ r = 1 := by omega
      rcases this with rfl | rfl
      · refine ⟨_, at0, fun p3 H8 s8 e8 => ?_⟩
        obtain ⟨i, ok, ev⟩ := e2 d 0 n hd hz0 wn
        exact out i p3 H8 ((c5.trans c7).then s8) ok (by rw [ev]; exact e8)
      · refine ⟨_, at1, fun p3 H8 s8 e8 => ?_⟩
        obtain ⟨i, ok, ev⟩ := e2 d a n hd ha wn
        exact out i p3 H8 ((c5.trans c7).then s8) ok (by rw [ev]; exact e8)
    refine ite2 (fun hsh => ?_) (fun hsh => ?_)
    · intro p H4 s4 np e4
      refine i_menu cc.tape s4 np e4 (by decide) (by decide) fun r H5 c5 e5 r0 r1 => ⟨r, rfl, _, e5, ?_⟩
      obtain ⟨o, eo⟩ := menu_op r0 r1
      exact ⟨_, eo, fun p2 H6 s6 e6 => out (.op o d a b) p2 H6 ((cc.trans c5).then s6) ⟨hd, ha, hb⟩ e6⟩
    refine ite2 (fun hsh => ?_) (fun hsh => ?_)
    · refine i_word cc.tape fun n H4 c4 wn => fun p2 H6 s6 e6 => out (.addi d a n) p2 H6 ((cc.trans c4).then s6) ⟨hd, ha, wn⟩ e6
    refine ite2 (fun hsh => ?_) (fun hsh => ?_)
    · refine i_draw cc.tape (by omega) (by omega) fun n H4 c4 n0 n1 => ?_
      have c04 := cc.trans c4
      refine i_draw c04.tape (by decide) (by decide) fun r H5 c5 r0 r1 => ?_
      have c05 := c04.trans c5
      refine ⟨rfl, ?_⟩
      refine ite2 (fun hsh => ?_) (fun hsh => ?_)
      · refine i_word c05.tape fun n H6 c6 wn => ?_
        exact mem n H6 (c05.trans c6) wn (by omega) (by omega)
      · exact mem n H5 c05 ⟨n0, by omega⟩ (by omega) (by omega)
    refine ite2 (fun hsh => ?_) (fun hsh => ?_)
    · intro p H4 s4 np e4
      obtain ⟨st, e1, e2⟩ := menu_at (r := share) (by omega) (by omega)
      refine ⟨_, e4, _, e1, fun p2 H6 s6 e6 => ?_⟩
      obtain ⟨i, ok, ev⟩ := e2 d a b hd ha hb
      exact out i p2 H6 ((cc.then s4).then s6) ok (by rw [ev]; exact e6)
    refine ite2 (fun hsh => ?_) (fun hsh => ?_)
    · exact fun p2 H6 s6 e6 => out (.ll d a) p2 H6 (cc.then s6) ⟨hd, ha⟩ e6
    refine ite2 (fun hsh => ?_) (fun hsh => ?_)
    · exact fun p2 H6 s6 e6 => out (.sc d a b) p2 H6 (cc.then s6) ⟨hd, ha, hb⟩ e6
    refine ite2 (fun hsh => ?_) (fun hsh => ?_)
    · intro p H4 s4 np e4
      refine i_menu cc.tape s4 np e4 (by decide) (by decide) fun r H5 c5 e5 r0 r1 => ⟨r, rfl, _, e5, ?_⟩
      obtain ⟨o, eo⟩ := menu_fen r0 r1
      exact ⟨_, eo, fun p2 H6 s6 e6 => out (.fence o) p2 H6 ((cc.trans c5).then s6) trivial e6⟩
    have tg : ∀ (x : Int) (H1 : Hp), Chg t H H1 → Tgt x → (if share < 14 then
        ∀ (p : Addr) (H' : Hp), Same H1 H' → H1 p = none → H' p = some (HO.lst [V.str (Str.ofString "eq"), V.str (Str.ofString "ne"), V.str (Str.ofString "lt"), V.str (Str.ofString "ge"), V.str (Str.ofString "ltu"), V.str (Str.ofString "geu")]) →
          spDraw [V.ref t, V.int 6] H' (fun y H2 => ∃ x_1, y = V.int x_1 ∧ ∃ xs, H2 p = some (HO.lst xs) ∧ ∃ v, atI xs x_1 = some v ∧ ∀ (p : Addr) (H' : Hp), Same H2 H' → H' p = some (HO.tup [V.str (Str.ofString "branch"), v, V.int a, V.int b, V.int x]) → Q (V.ref p) H') E0
      else if share = 14 then ∀ (p : Addr) (H' : Hp), Same H1 H' → H' p = some (HO.tup [V.str (Str.ofString "jump"), V.int x]) → Q (V.ref p) H'
      else ∀ (p : Addr) (H' : Hp), Same H1 H' → H' p = some (HO.tup [V.str (Str.ofString "halt")]) → Q (V.ref p) H') := by
      intro x H4 c4 tx
      refine ite2 (fun hsh => ?_) (fun hsh => ?_)
      · intro p H5 s5 np e5
        refine i_menu c4.tape s5 np e5 (by decide) (by decide) fun r H6 c6 e6 r0 r1 => ⟨r, rfl, _, e6, ?_⟩
        obtain ⟨o, eo⟩ := menu_rel r0 r1
        exact ⟨_, eo, fun p2 H7 s7 e7 => out (.branch o a b x) p2 H7 ((c4.trans c6).then s7) ⟨ha, hb, tx⟩ e7⟩
      refine ite2 (fun hsh => ?_) (fun hsh => ?_)
      · exact fun p2 H7 s7 e7 => out (.jump x) p2 H7 (c4.then s7) tx e7
      · exact fun p2 H7 s7 e7 => out .halt p2 H7 (c4.then s7) trivial e7
    refine i_draw cc.tape (by omega) (by omega) fun j H4 c4 j0 j1 => ⟨24, j, ⟨rfl, rfl⟩, ?_⟩
    have c04 := cc.trans c4
    refine i_draw c04.tape (by decide) (by decide) fun r H5 c5 r0 r1 => ⟨rfl, ?_⟩
    have c05 := c04.trans c5
    refine ite2 (fun hsh => ?_) (fun hsh => ?_)
    · refine i_draw c05.tape (by decide) (by decide) fun x H6 c6 x0 x1 => ?_
      exact tg x H6 (c05.trans c6) ⟨x0, by omega⟩
    · exact tg _ H5 c05 ⟨by split <;> omega, by split <;> omega⟩
end
end KW

namespace KW
open PySem PySem.Spec PyProof.Rows L2 KM
local macro_rules | `(tactic| walk_at "rd") => `(tactic| simp (config := { decide := true, maxSteps := 2000000 }) only [tSeq, tIfS, tTest, tOp, rI0, rI, rEq, rNe, sc_nn, sc_ni, sc_in, sc_nb, sc_bn, sc_ns, sc_sn, sc_ii, sc_bb, sc_ss, sc_is, sc_si, tVar, tC, tRet, tNext, tAsg, gName, tB, tCall, tCons, tNil, tCB, tUn, rU, tAnd, tOr, tNot, tAndV, tOrV, tNotV, tIf, CMul, CDiv, CPow,
  at0, at1, at2, at3, at4, at5, at6, rs_eq, rs_ne, rs_lt, rs_ge, rs_ltu, rs_geu, os_add, os_sub, os_mul, os_and, os_or, os_xor, os_slt, os_sltu, ks_addi, ks_load, ks_store, ks_swap, ks_fadd, ks_ll, ks_sc, ks_fence, ks_branch, ks_jump, ks_halt, in_ops, in_ats,
  rIxTH, rIxLH, rLenT, rLenL, rInC, rInL, rNotInL, rCatH, rSlH, tTupH, tLstH, rTupOf, gSub, rSetL, tDrop, tBM, rAppend, tYes, wipe, List.map_cons, List.map_nil, upd_same, upd_upd, gTupH, gc_cons, gc_nil, tSl, tPart, tNoPart, fl_n, fl_i, fl_b, fl_s, tInD, tInT, vals, kd_op, rest_op, kd_addi, rest_addi, kd_load, rest_load, kd_store, rest_store, kd_swap, rest_swap, kd_fadd, rest_fadd, kd_ll, rest_ll, kd_sc, rest_sc, kd_fence, rest_fence, kd_branch, rest_branch, kd_jump, rest_jump, kd_halt, rest_halt, in_l1, in_l2, in_l3, in_l4, in_l5, in_l6,
  List.getElem?_cons_zero, List.getElem?_cons_succ, List.set_cons_zero, List.set_cons_succ, Option.some.injEq, exists_eq_left', exists_eq_left, exists_and_left, exists_eq', exists_eq, V.int.injEq, V.bl.injEq, V.str.injEq, V.ref.injEq, HO.tup.injEq, HO.lst.injEq, decide_eq_true_eq, true_and, and_true, false_and, and_false, or_false, false_or, true_or, or_true, List.append_nil, List.cons_append, List.nil_append, List.cons.injEq,
  List.length_cons, List.length_nil, Nat.reduceAdd, Nat.reduceLeDiff, forall_const, reduceCtorEq, Bool.false_eq_true, if_true, if_false, Bool.not_true, Bool.not_false, Bool.not_eq_true', decide_eq_false_iff_not, decide_true, decide_false])
local macro_rules | `(tactic| walk_at "rs") => `(tactic| simp (config := { decide := true, maxSteps := 2000000 }) only [tSeq, tIfS, tTest, tOp, rI0, rI, rEq, rNe, sc_nn, sc_ni, sc_in, sc_nb, sc_bn, sc_ns, sc_sn, sc_ii, sc_bb, sc_ss, sc_is, sc_si, tVar, tC, tRet, tNext, tAsg, gName, tB, tCall, tCons, tNil, tCB, tUn, rU, tAnd, tOr, tNot, tAndV, tOrV, tNotV, tIf, CMul, CDiv, CPow,
  at0, at1, at2, at3, at4, at5, at6, rs_eq, rs_ne, rs_lt, rs_ge, rs_ltu, rs_geu, os_add, os_sub, os_mul, os_and, os_or, os_xor, os_slt, os_sltu, ks_addi, ks_load, ks_store, ks_swap, ks_fadd, ks_ll, ks_sc, ks_fence, ks_branch, ks_jump, ks_halt, in_ops, in_ats,
  rIxTH, rIxLH, rLenT, rLenL, rInC, rInL, rNotInL, rCatH, rSlH, tTupH, tLstH, rTupOf, gSub, rSetL, tDrop, tBM, rAppend, tYes, wipe, List.map_cons, List.map_nil, upd_same, upd_upd, gTupH, gc_cons, gc_nil, tSl, tPart, tNoPart, fl_n, fl_i, fl_b, fl_s, tInD, tInT, vals, kd_op, rest_op, kd_addi, rest_addi, kd_load, rest_load, kd_store, rest_store, kd_swap, rest_swap, kd_fadd, rest_fadd, kd_ll, rest_ll, kd_sc, rest_sc, kd_fence, rest_fence, kd_branch, rest_branch, kd_jump, rest_jump, kd_halt, rest_halt, in_l1, in_l2, in_l3, in_l4, in_l5, in_l6,
  List.getElem?_cons_zero, List.getElem?_cons_succ, List.set_cons_zero, List.set_cons_succ, Option.some.injEq, exists_eq_left', exists_eq_left, exists_and_left, exists_eq', exists_eq, V.int.injEq, V.bl.injEq, V.str.injEq, V.ref.injEq, HO.tup.injEq, HO.lst.injEq, decide_eq_true_eq, true_and, and_true, false_and, and_false, or_false, false_or, true_or, or_true, List.append_nil, List.cons_append, List.nil_append, List.cons.injEq,
  List.length_cons, List.length_nil, Nat.reduceAdd, Nat.reduceLeDiff, forall_const, reduceCtorEq, Bool.false_eq_true, if_true, if_false, Bool.not_true, Bool.not_false, Bool.not_eq_true', decide_eq_false_iff_not, decide_true, decide_false, *])
theorem lc_rng {ta : TA} {g : TG} {tt : TT} {te : TE} {vs : List Nat} {σ : L2.St} {H : Hp} {Q : VK} (n : Nat) (hn : n ≤ 1000) (e : ∀ Qa : List V → Hp → Prop, Qa [.int (n : Int)] H → ta σ H Qa) (Pv : Addr → Nat → Hp → Prop) (h0 : ∀ D, H D = none → Pv D 0 (upd H D (.lst [])))
    (hs : ∀ D, H D = none → ∀ i H', i < n → Pv D i H' → g (.int (i : Int)) (wipe σ vs) H' fun σ2 H2 => wipe σ2 vs = wipe σ vs ∧ tt σ2 H2 fun b H3 => if b = true then te σ2 H3 fun y H4 => ∃ acc, H4 D = some (.lst acc) ∧ acc.length < sizeLine ∧ Pv D (i + 1) (upd H4 D (.lst (acc ++ [y]))) else Pv D (i + 1) H3)
    (hd : ∀ D, H D = none → ∀ H', Pv D n H' → Q (.ref D) H') : tLc (iRng1 ta) g tt te vs σ H Q := by
  refine e _ ⟨(n : Int), rfl, by omega, by omega, ?_⟩
  rw [Int.toNat_natCast]
  exact fun D nD => lc_range (Pv D) (h0 D nD) (fun i H' hi p => by rw [Int.zero_add]; exact hs D nD i H' hi p) (fun H' p => hd D nD H' p)
def Codes (H : Hp) (cs : List V) : Prop := ∀ (i : Nat) (c : V), cs[i]? = some c → ∃ x : Ins, x.Ok ∧ OIns H c (some x)
theorem Gr.codes {H H' : Hp} (g : Gr H H') {cs : List V} (h : Codes H cs) : Codes H' cs := fun i c e => let ⟨x, a, b⟩ := h i c e; ⟨x, a, g.ins b⟩
theorem Codes.snoc {H : Hp} {cs : List V} {v : V} {x : Ins} (h : Codes H cs) (ok : x.Ok) (hv : OIns H v (some x)) : Codes H (cs ++ [v]) := fun i c e => by
  rw [List.getElem?_append] at e
  split at e
  · exact h i c e
  · rename_i hi
    have h0 : i - cs.length = 0 := by
      cases z : i - cs.length with
      | zero => rfl
      | succ k => rw [z] at e; simp at e
    rw [h0] at e
    obtain rfl : v = c := Option.some.inj e
    exact ⟨x, ok, hv⟩
theorem gr_upd {H : Hp} {p : Addr} {xs : List V} {o : HO} (h : H p = some (.lst xs)) : Gr H (upd H p o) := fun a ys e => by
  rw [upd_ne (fun z => by rw [z, h] at e; cases e)]
  exact e
theorem sz1000 {n : Nat} (h : n ≤ 1000) : n < sizeLine := small1000 h
def ProgAt (H : Hp) (v : V) (n m : Nat) : Prop := ∃ (p ca ea ma : Addr) (cs ms : List V), v = .ref p ∧ H p = some (.tup [.ref ca, .ref ea, .ref ma]) ∧ H ca = some (.tup cs) ∧ H ma = some (.tup ms) ∧ cs.length = n ∧ ms.length = m ∧ n ≤ 24 ∧ 1 ≤ m ∧ m ≤ 16 ∧ ∀ (i : Nat) (c : V), cs[i]? = some c → ∃ x : Ins, x.Ok ∧ OIns H c (some x)
theorem Gr.prog {H H' : Hp} (g : Gr H H') {v : V} {n m : Nat} (h : ProgAt H v n m) : ProgAt H' v n m := by
  obtain ⟨p, ca, ea, ma, cs, ms, h1, h2, h3, h4, h5, h6, h7, h8, h9, h10⟩ := h
  exact ⟨p, ca, ea, ma, cs, ms, h1, g _ _ h2, g _ _ h3, g _ _ h4, h5, h6, h7, h8, h9, fun i c e => let ⟨x, a, b⟩ := h10 i c e; ⟨x, a, g.ins b⟩⟩
theorem menu_int {xs : List Int} {r : Int} (h0 : 0 ≤ r) (h1 : r < (xs.length : Int)) : ∃ z, z ∈ xs ∧ atI (xs.map V.int) r = some (.int z) := by
  have hj : r.toNat < xs.length := by omega
  exact ⟨xs[r.toNat], List.getElem_mem hj, at_of (j := r.toNat) (by omega) (by rw [List.getElem?_map, List.getElem?_eq_getElem hj]; rfl)⟩
section
variable {P : Program} {w : World} {K : PySem.W.Frag} {mg : Str → Option Value} {base : Heap}
def spProgram : Sp := fun vs H Q _ => ∃ (t kk : Addr) (ks : List Int), vs = [.ref t, .ref kk] ∧ Tape H t ∧ H kk = some (.lst (ks.map V.int)) ∧ kk ≠ t ∧ 1 ≤ ks.length ∧ ks.length ≤ 1000 ∧ (∀ k ∈ ks, 0 ≤ k) ∧ ∀ v n m H', Chg t H H' → ProgAt H' v n m → Q v H'
theorem ok_lProgram (T : Txt K mg) : FnOk P w K mg base CX0 4 T.lProgram.f T.lProgram.fd ["_law_tape_here", "_law_kinds"] spProgram := by
  refine T.lProgram.F.ok sc_lProgram (fun vs H Q E h => ?_) (fun cdv A outer s H vs Q E hr h => ?_)
  · obtain ⟨t, kk, ks, rfl, _⟩ := h
    rfl
  · obtain ⟨t, kk, ks, rfl, hT, hk, hkt, k1, k2, k0, q⟩ := h
    refine ⟨_, (pss_cons (ps_set (i := 2) sc_lProgram.nd rfl (.inl rfl) (pe_ix ix_listH (pe_lstH (pa_cons pe_int (pa_cons pe_int (pa_cons pe_int (pa_cons pe_int (pa_cons pe_int (pa_cons pe_int (pa_cons pe_int pa_nil)))))))) (pcall T.lDraw (ok_lDraw T) hr (by decide) (by rfl) (pa_cons (pv 0) (pa_cons pe_int pa_nil))) (fun _ _ => rfl)))
      (pss_cons (ps_set (i := 3) sc_lProgram.nd rfl (.inl rfl) (pe_ix ix_listH (pe_lstH (pa_cons pe_int (pa_cons pe_int (pa_cons pe_int (pa_cons pe_int (pa_cons pe_int (pa_cons pe_int (pa_cons pe_int (pa_cons pe_int (pa_cons pe_int pa_nil)))))))))) (pcall T.lDraw (ok_lDraw T) hr (by decide) (by rfl) (pa_cons (pv 0) (pa_cons pe_int pa_nil))) (fun _ _ => rfl)))
      (pss_cons (ps_set (i := 4) sc_lProgram.nd rfl (.inl rfl) (pe_ix ix_listH (pe_lstH (pa_cons pe_int (pa_cons pe_int (pa_cons pe_int pa_nil)))) (pcall T.lDraw (ok_lDraw T) hr (by decide) (by rfl) (pa_cons (pv 0) (pa_cons pe_int pa_nil))) (fun _ _ => rfl)))
      (pss_cons (ps_set (i := 5) sc_lProgram.nd rfl (.inl rfl) (pe_lstH pa_nil))
      (pss_cons (ps_for PassesOwn.never rfl (pi_range1 rfl T.zrange (pa_cons (pv 3) pa_nil)) (pg_name (i := 6) sc_lProgram.nd rfl (.inl rfl))
        (pss_cons (ps_set (i := 7) sc_lProgram.nd rfl (.inl rfl) (pe_ix ix_listH (pv 1) (pcall T.lDraw (ok_lDraw T) hr (by decide) (by rfl) (pa_cons (pv 0) (pa_cons (pe_callB call_lenL (by rfl) T.zlen PySem.boot_len (pa_cons (pv 1) pa_nil)) pa_nil))) (fun _ _ => rfl)))
        (pss_one (ps_expr (pe_bm PySem.F.plainAttrs_list PySem.F.slot_list_append PySem.F.type_list_append mt_append (pv 5) (pa_cons (pcall T.lInstruction (ok_lInstruction T) hr (by decide) (by rfl) (pa_cons (pv 0) (pa_cons (pv 2) (pa_cons (pv 3) (pa_cons (pv 4) (pa_cons (pv 7) pa_nil)))))) pa_nil))))))
      (pss_one (ps_ret (pe_tupH (pa_cons (pe_callTy call_tupOf (by rfl) T.ztuple (by decide +kernel) (pa_cons (pv 5) pa_nil)) (pa_cons (pe_tupH (pa_cons (pcall T.lDraw (ok_lDraw T) hr (by decide) (by rfl) (pa_cons (pv 0) (pa_cons pe_int pa_nil))) pa_nil)) (pa_cons (pe_callTy call_tupOf (by rfl) T.ztuple (by decide +kernel) (pa_cons (pe_lc (own := [("_law_k", 6)]) (g := gName 6) rfl sc_lProgram.nd (pi_range1 rfl T.zrange (pa_cons (pv 2) pa_nil)) (blkOk_by (N := N_lProgram) (sc := defScope s_lProgram) (by decide +kernel)) (fun _ _ _ _ _ => pg_name (i := 6) sc_lProgram.nd rfl (Or.inl rfl)) (fun _ _ _ _ _ => pts_nil) (fun _ _ _ _ _ => (pcall T.lWord (ok_lWord T) hr (by decide) (by rfl) (pa_cons (pv 0) pa_nil)))) pa_nil)) pa_nil))))))))))), ?_⟩
    rw [show L2.start N_lProgram [V.ref t, V.ref kk] = [some (V.ref t), some (V.ref kk), none, none, none, none, none, none] from rfl]
    walk_at "rd"
    intro p1 H1 s1 np1 e1
    refine i_menu hT s1 np1 e1 (by decide) (by decide) fun r H2 c2 e2 r0 r1 => ⟨r, rfl, _, e2, ?_⟩
    obtain ⟨sz, hsz, ez⟩ := menu_int (xs := [2, 3, 1, 4, 2, 5, 16]) r0 r1
    have hsz := (by decide : ∀ z ∈ ([2, 3, 1, 4, 2, 5, 16] : List Int), 1 ≤ z ∧ z ≤ 16) sz hsz
    refine ⟨_, ez, fun p2 H3 s3 np3 e3 => ?_⟩
    refine i_menu c2.tape s3 np3 e3 (by decide) (by decide) fun r H4 c4 e4 r0 r1 => ⟨r, rfl, _, e4, ?_⟩
    obtain ⟨la, hla, ez⟩ := menu_int (xs := [3, 5, 8, 6, 12, 2, 24, 9, 0]) r0 r1
    have hla := (by decide : ∀ z ∈ ([3, 5, 8, 6, 12, 2, 24, 9, 0] : List Int), 0 ≤ z ∧ z ≤ 24) la hla
    refine ⟨_, ez, fun p3 H5 s5 np5 e5 => ?_⟩
    refine i_menu c4.tape s5 np5 e5 (by decide) (by decide) fun r H6 c6 e6 r0 r1 => ⟨r, rfl, _, e6, ?_⟩
    obtain ⟨ma, hma, ez⟩ := menu_int (xs := [3, 8, 4]) r0 r1
    have hma := (by decide : ∀ z ∈ ([3, 8, 4] : List Int), 1 ≤ z ∧ z ≤ 8) ma hma
    refine ⟨_, ez, fun lc H7 s7 np7 e7 => ?_⟩
    have c06 : Chg t H H6 := (c2.trans c4).trans c6
    have hlt : lc ≠ t := ne_tape c06.tape np7
    have hkl : kk ≠ lc := ne_of_none (c06.keep kk _ hkt hk) np7
    obtain ⟨lan, rfl⟩ := Int.eq_ofNat_of_zero_le hla.1
    refine for_rng lan (by omega) (fun Qa qa => ?_) (fun i σ H' => Ch2 t lc H6 H' ∧ ∃ (cs : List V) (j1 j2 : Option V), σ = [some (V.ref t), some (V.ref kk), some (V.int sz), some (V.int lan), some (V.int ma), some (V.ref lc), j1, j2] ∧
        H' lc = some (.lst cs) ∧ cs.length = i ∧ Codes H' cs)
      ⟨.start c06.tape s7, [], none, none, rfl, e7, rfl, fun i c e => by simp at e⟩ (fun i σ H' hi hv => ?_) (fun σ H' hv => ?_)
    · walk_at "rd"
      exact qa
    · obtain ⟨c2', cs, j1, j2, rfl, g1, g2, g3⟩ := hv
      walk_at "rd"
      have hk' := c2'.keep kk _ hkt hkl (c06.keep kk _ hkt hk)
      refine ⟨_, hk', ?_⟩
      rw [List.length_map]
      refine i_draw c2'.tape (by omega) (by omega) fun r H8 c8 r0 r1 => ?_
      obtain ⟨sh, hsh, ez⟩ := menu_int r0 r1
      walk_at "rd"
      refine ⟨_, c8.keep kk _ hkt hk', _, ez, ?_⟩
      have g1' := c8.keep lc _ hlt g1
      refine ⟨.inl ⟨rfl, _, .inl (.inl g1')⟩, ⟨t, _, _, _, _, rfl, c8.tape, hsz, hla, hma, k0 sh hsh, fun v x H9 c9 ok hv => ?_⟩⟩
      have g1'' := c9.keep lc _ hlt g1'
      refine ⟨cs, g1'', sz1000 (by omega), .app c06.tape np7 ((c2'.chg c8).chg c9), _, _, _, ⟨rfl, rfl⟩, rfl, by rw [List.length_append, List.length_singleton, g2], ?_⟩
      refine (gr_upd g1'').codes (Codes.snoc ?_ ok hv)
      exact (c9.gr c8.tape).codes ((c8.gr c2'.tape).codes g3)
    · obtain ⟨c2', cs, j1, j2, rfl, g1, g2, g3⟩ := hv
      walk_at "rs"
      intro p1 H8 s8 e8
      have c08 := (c06.trans (c2'.fin np7)).then s8
      refine i_draw c08.tape (by decide) (by decide) fun r H9 c9 r0 r1 => fun p2 H10 s10 e10 => ?_
      have c010 := (c08.trans c9).then s10
      obtain ⟨szn, hszn⟩ := Int.eq_ofNat_of_zero_le (by omega : 0 ≤ sz)
      subst hszn
      refine lc_rng szn (by omega) (fun Qa qa => ?_) (fun D i H' => Ch2 t D H10 H' ∧ ∃ ws : List Int, H' D = some (.lst (ws.map V.int)) ∧ ws.length = i ∧ ∀ w ∈ ws, Wd w)
        (fun D nD => ⟨.start c010.tape (same_new nD), [], upd_same, rfl, fun w hw => nomatch hw⟩) (fun D nD i H' hi hv => ?_) (fun D nD H' hv => ?_)
      · walk_at "rd"
        exact qa
      · obtain ⟨d2, ws, w1, w2, w3⟩ := hv
        walk_at "rd"
        refine i_word d2.tape fun r H11 c11 wr => ?_
        have hDt : D ≠ t := ne_tape c010.tape nD
        have w1' := c11.keep D _ hDt w1
        walk_at "rs"
        refine ⟨sz1000 (by rw [List.length_map]; omega), .app c010.tape nD (d2.chg c11), ws ++ [r], by rw [List.map_append]; rfl, by rw [List.length_append, List.length_singleton, w2], fun w hw => ?_⟩
        rcases List.mem_append.mp hw with hw | hw
        · exact w3 w hw
        · rcases List.mem_singleton.mp hw with rfl
          exact wr
      · obtain ⟨d2, ws, w1, w2, w3⟩ := hv
        walk_at "rs"
        intro q1 H12 s12 e12 p H13 s13 e13
        have cD := d2.fin nD
        have c8n := ((c9.then s10).trans cD).then (s12.trans s13)
        have g8 : Gr H8 H13 := c8n.gr c08.tape
        have g10 : Gr H10 H13 := (cD.then (s12.trans s13)).gr c010.tape
        refine q (.ref p) lan szn H13 (c08.trans c8n) ⟨p, p1, p2, q1, cs, ws.map V.int, rfl, e13, g8 _ _ e8, s13 _ _ e12, g2, by rw [List.length_map, w2], by omega, by omega, by omega, ?_⟩
        exact g8.codes ((gr_same s8).codes g3)
end
end KW

namespace KW
open PySem PySem.Spec PyProof.Rows L2 KM
local macro_rules | `(tactic| walk_at "rd") => `(tactic| simp (config := { decide := true, maxSteps := 2000000 }) only [tSeq, tIfS, tTest, tOp, rI0, rI, rEq, rNe, sc_nn, sc_ni, sc_in, sc_nb, sc_bn, sc_ns, sc_sn, sc_ii, sc_bb, sc_ss, sc_is, sc_si, tVar, tC, tRet, tNext, tAsg, gName, tB, tCall, tCons, tNil, tCB, tUn, rU, tAnd, tOr, tNot, tAndV, tOrV, tNotV, tIf, CMul, CDiv, CPow,
  at0, at1, at2, at3, at4, at5, at6, rs_eq, rs_ne, rs_lt, rs_ge, rs_ltu, rs_geu, os_add, os_sub, os_mul, os_and, os_or, os_xor, os_slt, os_sltu, ks_addi, ks_load, ks_store, ks_swap, ks_fadd, ks_ll, ks_sc, ks_fence, ks_branch, ks_jump, ks_halt, in_ops, in_ats,
  rIxTH, rIxLH, rLenT, rLenL, rInC, rInL, rNotInL, rCatH, rSlH, tTupH, tLstH, rTupOf, gSub, rSetL, tDrop, tBM, rAppend, tYes, wipe, List.map_cons, List.map_nil, upd_same, upd_upd, gTupH, gc_cons, gc_nil, tSl, tPart, tNoPart, fl_n, fl_i, fl_b, fl_s, tInD, tInT, vals, kd_op, rest_op, kd_addi, rest_addi, kd_load, rest_load, kd_store, rest_store, kd_swap, rest_swap, kd_fadd, rest_fadd, kd_ll, rest_ll, kd_sc, rest_sc, kd_fence, rest_fence, kd_branch, rest_branch, kd_jump, rest_jump, kd_halt, rest_halt, in_l1, in_l2, in_l3, in_l4, in_l5, in_l6,
  List.getElem?_cons_zero, List.getElem?_cons_succ, List.set_cons_zero, List.set_cons_succ, Option.some.injEq, exists_eq_left', exists_eq_left, exists_and_left, exists_eq', exists_eq, V.int.injEq, V.bl.injEq, V.str.injEq, V.ref.injEq, HO.tup.injEq, HO.lst.injEq, decide_eq_true_eq, true_and, and_true, false_and, and_false, or_false, false_or, true_or, or_true, List.append_nil, List.cons_append, List.nil_append, List.cons.injEq,
  List.length_cons, List.length_nil, Nat.reduceAdd, Nat.reduceLeDiff, forall_const, reduceCtorEq, Bool.false_eq_true, if_true, if_false, Bool.not_true, Bool.not_false, Bool.not_eq_true', decide_eq_false_iff_not, decide_true, decide_false])
local macro_rules | `(tactic| walk_at "rs") => `(tactic| simp (config := { decide := true, maxSteps := 2000000 }) only [tSeq, tIfS, tTest, tOp, rI0, rI, rEq, rNe, sc_nn, sc_ni, sc_in, sc_nb, sc_bn, sc_ns, sc_sn, sc_ii, sc_bb, sc_ss, sc_is, sc_si, tVar, tC, tRet, tNext, tAsg, gName, tB, tCall, tCons, tNil, tCB, tUn, rU, tAnd, tOr, tNot, tAndV, tOrV, tNotV, tIf, CMul, CDiv, CPow,
  at0, at1, at2, at3, at4, at5, at6, rs_eq, rs_ne, rs_lt, rs_ge, rs_ltu, rs_geu, os_add, os_sub, os_mul, os_and, os_or, os_xor, os_slt, os_sltu, ks_addi, ks_load, ks_store, ks_swap, ks_fadd, ks_ll, ks_sc, ks_fence, ks_branch, ks_jump, ks_halt, in_ops, in_ats,
  rIxTH, rIxLH, rLenT, rLenL, rInC, rInL, rNotInL, rCatH, rSlH, tTupH, tLstH, rTupOf, gSub, rSetL, tDrop, tBM, rAppend, tYes, wipe, List.map_cons, List.map_nil, upd_same, upd_upd, gTupH, gc_cons, gc_nil, tSl, tPart, tNoPart, fl_n, fl_i, fl_b, fl_s, tInD, tInT, vals, kd_op, rest_op, kd_addi, rest_addi, kd_load, rest_load, kd_store, rest_store, kd_swap, rest_swap, kd_fadd, rest_fadd, kd_ll, rest_ll, kd_sc, rest_sc, kd_fence, rest_fence, kd_branch, rest_branch, kd_jump, rest_jump, kd_halt, rest_halt, in_l1, in_l2, in_l3, in_l4, in_l5, in_l6,
  List.getElem?_cons_zero, List.getElem?_cons_succ, List.set_cons_zero, List.set_cons_succ, Option.some.injEq, exists_eq_left', exists_eq_left, exists_and_left, exists_eq', exists_eq, V.int.injEq, V.bl.injEq, V.str.injEq, V.ref.injEq, HO.tup.injEq, HO.lst.injEq, decide_eq_true_eq, true_and, and_true, false_and, and_false, or_false, false_or, true_or, or_true, List.append_nil, List.cons_append, List.nil_append, List.cons.injEq,
  List.length_cons, List.length_nil, Nat.reduceAdd, Nat.reduceLeDiff, forall_const, reduceCtorEq, Bool.false_eq_true, if_true, if_false, Bool.not_true, Bool.not_false, Bool.not_eq_true', decide_eq_false_iff_not, decide_true, decide_false, *])
section
variable {P : Program} {w : World} {K : PySem.W.Frag} {mg : Str → Option Value} {base : Heap}
def spPc : Sp := fun vs H Q _ => ∃ (t kk : Addr) (v : V) (n m : Nat), vs = [.ref t, v, .ref kk] ∧ Tape H t ∧ H kk = some (.lst []) ∧ kk ≠ t ∧ ProgAt H v n m ∧ ∀ r H', Chg t H H' → 0 ≤ r → r ≤ 24 → Q (.int r) H'
theorem ok_lPc (T : Txt K mg) : FnOk P w K mg base CX0 2 T.lPc.f T.lPc.fd ["_law_tape_here", "_law_program_here", "_law_kinds"] spPc := by
  refine T.lPc.F.ok sc_lPc (fun vs H Q E h => ?_) (fun cdv A outer s H vs Q E hr h => ?_)
  · obtain ⟨t, kk, v, n, m, rfl, _⟩ := h
    rfl
  · obtain ⟨t, kk, v, n, m, rfl, hT, hk, hkt, hP, q⟩ := h
    refine ⟨_, (pss_cons (ps_setLc (i := 3) (own := [("_law_k", 4)]) (g := gName 4) rfl sc_lPc.nd rfl rfl (sw_true rfl rfl rfl (by decide +kernel)) (pi_range1 rfl T.zrange (pa_cons (pe_callB call_lenT (by rfl) T.zlen PySem.boot_len (pa_cons (pe_ix ix_tupH (pv 1) pe_int (fun _ _ => rfl)) pa_nil)) pa_nil)) (blkOk_by (N := N_lPc) (sc := defScope s_lPc) (by decide +kernel)) (fun _ _ _ _ _ => pg_name (i := 4) sc_lPc.nd rfl (Or.inl rfl)) (fun _ _ _ _ _ => (pts_one (pt_cmpR op_inL (pe_ix ix_tupH (pe_ix ix_tupH (pe_ix ix_tupH (pv 1) pe_int (fun _ _ => rfl)) (pv 4) (fun _ _ => rfl)) pe_int (fun _ _ => rfl)) (pv 2) (by rfl)))) (fun _ _ _ _ _ => (pv 4)))
      (pss_cons (ps_if (pt_truth (pv 3) (by intro _; rfl))
        (pss_one (ps_ret (pe_ix ix_listH (pv 3) (pcall T.lDraw (ok_lDraw T) hr (by decide) (by rfl) (pa_cons (pv 0) (pa_cons (pe_callB call_lenL (by rfl) T.zlen PySem.boot_len (pa_cons (pv 3) pa_nil)) pa_nil))) (fun _ _ => rfl))))
        pss_nil)
      (pss_one (ps_ret (pcall T.lDraw (ok_lDraw T) hr (by decide) (by rfl) (pa_cons (pv 0) (pa_cons (pe_op op_add (pe_callB call_lenT (by rfl) T.zlen PySem.boot_len (pa_cons (pe_ix ix_tupH (pv 1) pe_int (fun _ _ => rfl)) pa_nil)) pe_int) pa_nil))))))), ?_⟩
    obtain ⟨p, ca, ea, ma, cs, ms, rfl, h1, h2, h3, h4, h5, h6, h7, h8, h9⟩ := hP
    rw [show L2.start N_lPc [V.ref t, V.ref p, V.ref kk] = [some (V.ref t), some (V.ref p), some (V.ref kk), none, none] from rfl]
    walk_at "rd"
    refine lc_rng n (by omega) (fun Qa qa => ?_) (fun D i H' => Ch2 t D H H' ∧ H' D = some (.lst []))
        (fun D nD => ⟨.start hT (same_new nD), upd_same⟩) (fun D nD i H' hi hv => ?_) (fun D nD H' hv => ?_)
    · walk_at "rs"
    · obtain ⟨d2, g1⟩ := hv
      have g := d2.gr hT nD
      have k1 := g _ _ h1
      have k2 := g _ _ h2
      have hcl : i < cs.length := by omega
      obtain ⟨x, ok, ip, hx, hip⟩ := h9 i cs[i] (List.getElem?_eq_getElem hcl)
      have k3 := g _ _ hip
      have kk1 := d2.keep kk _ hkt (ne_of_none hk nD) hk
      have ha : atI cs (i : Int) = some (.ref ip) := by rw [← hx]; exact atI_nat (List.getElem?_eq_getElem hcl)
      walk_at "rs"
      show if false = true then _ else True
      exact iteF trivial
    · obtain ⟨d2, g1⟩ := hv
      walk_at "rd"
      have cD := d2.fin nD
      have g := d2.gr hT nD
      have k1 := g _ _ h1
      have k2 := g _ _ h2
      refine ⟨false, .inl ⟨[], .inl (.inl g1), rfl⟩, iteF ?_⟩
      walk_at "rs"
      refine i_draw d2.tape (by omega) (by omega) fun r H2 c2 r0 r1 => ?_
      exact q _ _ (cD.trans c2) r0 (by omega)
def spEntry : Sp := fun vs H Q _ => ∃ (t : Addr) (v : V) (n m : Nat) (pc : Int) (b : Bool), vs = [.ref t, v, .int pc, .bl b] ∧ Tape H t ∧ ProgAt H v n m ∧ 0 ≤ pc ∧ pc ≤ 90 ∧
  ∀ w e H', Chg t H H' → e.Ok → e.pc = pc → (e.succ ≤ 24 ∨ e.succ = pc + 1) → EntAt H' w e → Q w H'
theorem ok_lEntry (T : Txt K mg) : FnOk P w K mg base CX0 3 T.lEntry.f T.lEntry.fd ["_law_tape_here", "_law_program_here", "_law_pc_here", "_law_resolved"] spEntry := by
  refine T.lEntry.F.ok sc_lEntry (fun vs H Q E h => ?_) (fun cdv A outer s H vs Q E hr h => ?_)
  · obtain ⟨t, v, n, m, pc, b, rfl, _⟩ := h
    rfl
  · obtain ⟨t, v, n, m, pc, b, rfl, hT, hP, p0, p1, q⟩ := h
    refine ⟨_, (pss_cons (ps_if (pt_cmpR op_ge (pv 2) (pe_callB call_lenT (by rfl) T.zlen PySem.boot_len (pa_cons (pe_ix ix_tupH (pv 1) pe_int (fun _ _ => rfl)) pa_nil)) (nomark _))
        (pss_one (ps_ret (pe_tupH (pa_cons (pv 2) (pa_cons pe_non (pa_cons (pe_op op_add (pv 2) pe_int) (pa_cons pe_non (pa_cons pe_non (pa_cons pe_non (pa_cons pe_non pa_nil))))))))))
        pss_nil)
      (pss_cons (ps_set (i := 4) sc_lEntry.nd rfl (.inl rfl) (pe_ix ix_tupH (pe_ix ix_tupH (pv 1) pe_int (fun _ _ => rfl)) (pv 2) (fun _ _ => rfl)))
      (pss_cons (ps_set (i := 5) sc_lEntry.nd rfl (.inl rfl) (pe_op op_add (pv 2) pe_int))
      (pss_cons (ps_set (i := 6) sc_lEntry.nd rfl (.inl rfl) pe_non)
      (pss_cons (ps_set (i := 7) sc_lEntry.nd rfl (.inl rfl) pe_non)
      (pss_cons (ps_set (i := 8) sc_lEntry.nd rfl (.inl rfl) pe_non)
      (pss_cons (ps_set (i := 9) sc_lEntry.nd rfl (.inl rfl) pe_non)
      (C8.pss_cut (ps_if (pt_cmpR op_eq (pe_ix ix_tupH (pv 4) pe_int (fun _ _ => rfl)) pe_str (nomark _))
        (pss_one (ps_set (i := 5) sc_lEntry.nd rfl (.inl rfl) (pe_ix ix_tupH (pv 4) pe_int (fun _ _ => rfl))))
        pss_nil)
      (C8.pss_cut (ps_if (pt_cmpR op_eq (pe_ix ix_tupH (pv 4) pe_int (fun _ _ => rfl)) pe_str (nomark _))
        (pss_one (ps_set (i := 5) sc_lEntry.nd rfl (.inl rfl) (pe_ix ix_listH (pe_lstH (pa_cons (pe_op op_add (pv 2) pe_int) (pa_cons (pe_ix ix_tupH (pv 4) pe_int (fun _ _ => rfl)) (pa_cons (pcall T.lDraw (ok_lDraw T) hr (by decide) (by rfl) (pa_cons (pv 0) (pa_cons pe_int pa_nil))) pa_nil)))) (pcall T.lDraw (ok_lDraw T) hr (by decide) (by rfl) (pa_cons (pv 0) (pa_cons pe_int pa_nil))) (fun _ _ => rfl))))
        pss_nil)
      (C8.pss_cut (ps_if (PW.pt (pw_and (pt_inD (xs := [.str "load", .str "swap", .str "fetch add", .str "load linked", .str "store conditional"]) (pe_ix ix_tupH (pv 4) pe_int (fun _ _ => rfl)) (pa_cons pe_str (pa_cons pe_str (pa_cons pe_str (pa_cons pe_str (pa_cons pe_str pa_nil))))) (mon_ix mon_var mon_c) rfl rfl (by decide) (by rfl)) (pw_and1 (pt_cmpR op_eq (pcall T.lDraw (ok_lDraw T) hr (by decide) (by rfl) (pa_cons (pv 0) (pa_cons pe_int pa_nil))) pe_int (nomark _)))))
        (pss_one (ps_set (i := 6) sc_lEntry.nd rfl (.inl rfl) (pcall T.lWord (ok_lWord T) hr (by decide) (by rfl) (pa_cons (pv 0) pa_nil))))
        pss_nil)
      (C8.pss_cut (ps_if (pt_inD (xs := [.str "load", .str "store", .str "swap", .str "fetch add", .str "load linked", .str "store conditional"]) (pe_ix ix_tupH (pv 4) pe_int (fun _ _ => rfl)) (pa_cons pe_str (pa_cons pe_str (pa_cons pe_str (pa_cons pe_str (pa_cons pe_str (pa_cons pe_str pa_nil)))))) (mon_ix mon_var mon_c) rfl rfl (by decide) (by rfl))
        (pss_one (ps_if (PW.pt (pw_and (pt_val (pv 3)) (pw_and1 (pt_cmpR op_gt (pcall T.lDraw (ok_lDraw T) hr (by decide) (by rfl) (pa_cons (pv 0) (pa_cons pe_int pa_nil))) pe_int (nomark _)))))
        (pss_cons (ps_set (i := 8) sc_lEntry.nd rfl (.inl rfl) (pcall T.lDraw (ok_lDraw T) hr (by decide) (by rfl) (pa_cons (pv 0) (pa_cons (pe_op op_add (pe_callB call_lenT (by rfl) T.zlen PySem.boot_len (pa_cons (pe_ix ix_tupH (pv 1) pe_int (fun _ _ => rfl)) pa_nil)) pe_int) pa_nil))))
        (pss_cons (ps_if (pt_cmpR op_eq (pv 8) (pe_callB call_lenT (by rfl) T.zlen PySem.boot_len (pa_cons (pe_ix ix_tupH (pv 1) pe_int (fun _ _ => rfl)) pa_nil)) (nomark _))
          (pss_one (ps_set (i := 8) sc_lEntry.nd rfl (.inl rfl) pe_str))
          pss_nil)
        (pss_one (ps_if (PW.pt (pw_and (pt_cmpR op_eq (pe_ix ix_tupH (pv 4) pe_int (fun _ _ => rfl)) pe_str (nomark _)) (pw_and (pt_cmpR op_ne (pv 8) pe_str (nomark _)) (pw_and1 (pt_cmpR op_lt (pcall T.lDraw (ok_lDraw T) hr (by decide) (by rfl) (pa_cons (pv 0) (pa_cons pe_int pa_nil))) pe_int (nomark _))))))
        (pss_cons (ps_set (i := 7) sc_lEntry.nd rfl (.inl rfl) (pcall T.lWord (ok_lWord T) hr (by decide) (by rfl) (pa_cons (pv 0) pa_nil)))
        (pss_one (ps_set (i := 9) sc_lEntry.nd rfl (.inl rfl) (pcall T.lDraw (ok_lDraw T) hr (by decide) (by rfl) (pa_cons (pv 0) (pa_cons pe_int pa_nil))))))
        pss_nil))))
        pss_nil))
        (pss_one (ps_if (PW.pt (pw_and (pt_ninD (xs := [.str "fence", .str "halt"]) (pe_ix ix_tupH (pv 4) pe_int (fun _ _ => rfl)) (pa_cons pe_str (pa_cons pe_str pa_nil)) (mon_ix mon_var mon_c) rfl rfl (by decide) (by rfl)) (pw_and1 (pt_cmpR op_eq (pcall T.lDraw (ok_lDraw T) hr (by decide) (by rfl) (pa_cons (pv 0) (pa_cons pe_int pa_nil))) pe_int (nomark _)))))
        (pss_cons (ps_set (i := 7) sc_lEntry.nd rfl (.inl rfl) (pcall T.lWord (ok_lWord T) hr (by decide) (by rfl) (pa_cons (pv 0) pa_nil)))
        (pss_one (ps_if (pt_inD (xs := [.str "branch", .str "jump"]) (pe_ix ix_tupH (pv 4) pe_int (fun _ _ => rfl)) (pa_cons pe_str (pa_cons pe_str pa_nil)) (mon_ix mon_var mon_c) rfl rfl (by decide) (by rfl))
        (pss_one (ps_set (i := 7) sc_lEntry.nd rfl (.inl rfl) pe_int))
        pss_nil)))
        pss_nil)))
      (pss_one (ps_ret (pe_tupH (pa_cons (pv 2) (pa_cons (pv 4) (pa_cons (pv 5) (pa_cons (pv 6) (pa_cons (pv 7) (pa_cons (pv 8) (pa_cons (pv 9) pa_nil))))))))))))))))))))), ?_⟩
    obtain ⟨p, ca, ea, ma, cs, ms, rfl, h1, h2, h3, h4, h5, h6, h7, h8, h9⟩ := hP
    rw [show L2.start N_lEntry [V.ref t, V.ref p, V.int pc, V.bl b] = [some (V.ref t), some (V.ref p), some (V.int pc), some (V.bl b), none, none, none, none, none, none] from rfl]
    walk_at "rs"
    refine ite2 (fun hge => ?_) (fun hge => ?_)
    · intro p2 H2 s2 e2
      exact q (.ref p2) ⟨pc, none, pc + 1, none, none, .no, none⟩ H2 (.same hT s2) ⟨⟨p0, by dsimp only; omega⟩, (fun i z => nomatch z), ⟨by dsimp only; omega, by dsimp only; omega⟩, trivial, trivial, trivial, trivial, fun i z => nomatch z⟩ rfl (.inr rfl) ⟨p2, .non, rfl, rfl, e2⟩
    · have hcl : pc.toNat < cs.length := by omega
      obtain ⟨x, ok, ip, hx, hip⟩ := h9 pc.toNat cs[pc.toNat] (List.getElem?_eq_getElem hcl)
      have ha : atI cs pc = some (.ref ip) := by rw [← hx]; exact at_of (j := pc.toNat) (by omega) (List.getElem?_eq_getElem hcl)
      refine ⟨_, ha, ?_⟩
      have kj : kd x = .jump → ∃ z, x = .jump z ∧ 0 ≤ z ∧ z ≤ 24 := fun e => by
        cases x <;> first | exact ⟨_, rfl, ok.1, ok.2⟩ | cases e
      have kb : kd x = .branch → ∃ r a b z, x = .branch r a b z ∧ 0 ≤ z ∧ z ≤ 24 := fun e => by
        cases x <;> first | exact ⟨_, _, _, _, rfl, ok.2.2.1, ok.2.2.2⟩ | cases e
      refine ⟨fun σ' H1 => Chg t H H1 ∧ ∃ sc : Int, σ' = [some (V.ref t), some (V.ref p), some (V.int pc), some (V.bl b), some (V.ref ip), some (V.int sc), some V.non, some V.non, some V.non, some V.non] ∧ 0 ≤ sc ∧ (sc ≤ 24 ∨ sc = pc + 1), ?_, fun σ' H1 hm => ?_⟩
      · walk_at "rs"
        refine ite2 (fun e => ?_) (fun e => ?_)
        · obtain ⟨z, rfl, z0, z1⟩ := kj e
          walk_at "rs"
          first | exact ⟨.refl hT, z0, .inl z1⟩ | exact Chg.refl hT
        · first | exact ⟨.refl hT, by omega⟩ | exact Chg.refl hT
      obtain ⟨c1, sc, rfl, sc0, sc1⟩ := hm
      refine ⟨fun σ' H2 => Chg t H H2 ∧ ∃ sc : Int, σ' = [some (V.ref t), some (V.ref p), some (V.int pc), some (V.bl b), some (V.ref ip), some (V.int sc), some V.non, some V.non, some V.non, some V.non] ∧ 0 ≤ sc ∧ (sc ≤ 24 ∨ sc = pc + 1), ?_, fun σ' H2 hm => ?_⟩
      · have hip1 := c1.gr hT _ _ hip
        walk_at "rs"
        refine ite2 (fun e => ?_) (fun e => ?_)
        · obtain ⟨r, a, b, z, rfl, z0, z1⟩ := kb e
          walk_at "rs"
          refine i_draw c1.tape (by decide) (by decide) fun y H2 c2 y0 y1 => fun l H3 s3 nl e3 => ?_
          refine i_menu c2.tape s3 nl e3 (by decide) (by decide) fun r H4 c4 e4 r0 r1 => ⟨r, rfl, _, e4, ?_⟩
          have c04 := (c1.trans c2).trans c4
          have : r = 0 ∨ r = 1 ∨ r = 2 := by omega
          rcases this with rfl | rfl | rfl
          · exact ⟨_, at0, c04, _, rfl, by omega, .inr rfl⟩
          · exact ⟨_, at1, c04, _, rfl, z0, .inl z1⟩
          · exact ⟨_, at2, c04, _, rfl, y0, .inl (by omega)⟩
        · first | exact c1 | trivial
      clear sc1 sc0
      clear sc
      obtain ⟨c2, sc, rfl, sc0, sc1⟩ := hm
      refine ⟨fun σ' H2 => Chg t H H2 ∧ ∃ pr : Option Int, σ' = [some (V.ref t), some (V.ref p), some (V.int pc), some (V.bl b), some (V.ref ip), some (V.int sc), some (oV pr), some V.non, some V.non, some V.non] ∧ OWd pr ∧ (x.exe = true → pr = none), ?_, fun σ' H3 hm => ?_⟩
      · have hip1 := c2.gr hT _ _ hip
        walk_at "rs"
        intro H3 s3
        have c3 := c2.then s3
        refine ite2 (fun e => ?_) (fun e => ?_)
        · have hx0 : x.exe = false := by cases x <;> first | rfl | cases e
          refine i_draw c3.tape (by decide) (by decide) fun r H4 c4 r0 r1 => ⟨rfl, ?_⟩
          have c04 := c3.trans c4
          refine ite2 (fun e => ?_) (fun e => ?_)
          · refine i_word c04.tape fun w' H5 c5 ww => ⟨c04.trans c5, some w', rfl, ww, fun h => by rw [hx0] at h; cases h⟩
          · exact ⟨c04, none, rfl, trivial, fun _ => rfl⟩
        · exact ⟨c3, none, rfl, trivial, fun _ => rfl⟩
      obtain ⟨c3, pr, rfl, pr0, pr1⟩ := hm
      have wz : Wd 0 := ⟨by decide, by decide⟩
      refine ⟨fun σ' H4 => Chg t H H4 ∧ ∃ (rs : Option Int) (pl : KM.Place) (tm : Option Int), σ' = [some (V.ref t), some (V.ref p), some (V.int pc), some (V.bl b), some (V.ref ip), some (V.int sc), some (oV pr), some (oV rs), some (plV pl), some (oV tm)] ∧ OWd rs ∧ pl.Ok ∧ OTm tm, ?_, fun σ' H4 hm => ?_⟩
      · have hip1 := c3.gr hT _ _ hip
        have h11 := c3.gr hT _ _ h1
        have h12 := c3.gr hT _ _ h2
        have h13 := c3.gr hT _ _ h3
        walk_at "rs"
        intro H4 s4
        have c04 := c3.then s4
        refine ite2 (fun e => ?_) (fun e => ?_)
        · refine ite2 (fun eb => ?_) (fun eb => ?_)
          · refine i_draw c04.tape (by decide) (by decide) fun r H5 c5 r0 r1 => ⟨r, rfl, ?_⟩
            have c05 := c04.trans c5
            refine ite2 (fun e => ?_) (fun e => ?_)
            · refine ⟨_, c05.gr hT _ _ h1, _, at2, ma, rfl, ms, c05.gr hT _ _ h3, ?_⟩
              refine i_draw c05.tape (by omega) (by omega) fun d H6 c6 d0 d1 => ?_
              have c06 := c05.trans c6
              refine ⟨_, c06.gr hT _ _ h1, _, at2, ma, rfl, ms, c06.gr hT _ _ h3, rfl, ?_⟩
              refine ite2 (fun e => ?_) (fun e => ?_)
              · refine ⟨_, c06.gr hT _ _ hip, _, at0, rfl, ?_⟩
                refine ite2 (fun e => ?_) (fun e => ?_)
                · exact ⟨c06, none, .out, none, ⟨rfl, rfl, rfl⟩, trivial, trivial, trivial⟩
                · exact ⟨c06, none, .out, none, ⟨rfl, rfl, rfl⟩, trivial, trivial, trivial⟩
              · refine ⟨_, c06.gr hT _ _ hip, _, at0, rfl, ?_⟩
                have pd : (KM.Place.at d).Ok := ⟨d0, by omega⟩
                refine ite2 (fun e => ?_) (fun e => ?_)
                · refine ⟨rfl, ?_⟩
                  refine ite2 (fun e => ?_) (fun e => ?_)
                  · refine i_draw c06.tape (by decide) (by decide) fun r H7 c7 r0 r1 => ?_
                    have c07 := c06.trans c7
                    refine ⟨r, rfl, ?_⟩
                    refine ite2 (fun e => ?_) (fun e => ?_)
                    · refine i_word c07.tape fun w' H8 c8 ww => ?_
                      have c08 := c07.trans c8
                      refine i_draw c08.tape (by decide) (by decide) fun tm H9 c9 t0 t1 => ?_
                      exact ⟨c08.trans c9, some w', .at d, some tm, ⟨rfl, rfl, rfl⟩, ww, pd, ⟨t0, by omega⟩⟩
                    · exact ⟨c07, none, .at d, none, ⟨rfl, rfl, rfl⟩, trivial, pd, trivial⟩
                  · exact ⟨c06, none, .at d, none, ⟨rfl, rfl, rfl⟩, trivial, pd, trivial⟩
                · exact ⟨c06, none, .at d, none, ⟨rfl, rfl, rfl⟩, trivial, pd, trivial⟩
            · exact ⟨c05, none, .no, none, ⟨rfl, rfl, rfl⟩, trivial, trivial, trivial⟩
          · exact ⟨c04, none, .no, none, ⟨rfl, rfl, rfl⟩, trivial, trivial, trivial⟩
        · refine ⟨_, c04.gr hT _ _ hip, _, at0, rfl, fun H5 s5 => ?_⟩
          have c05 := c04.then s5
          refine ite2 (fun e => ?_) (fun e => ?_)
          · refine i_draw c05.tape (by decide) (by decide) fun r H6 c6 r0 r1 => ⟨rfl, ?_⟩
            have c06 := c05.trans c6
            refine ite2 (fun e => ?_) (fun e => ?_)
            · refine i_word c06.tape fun w' H7 c7 ww => ?_
              have c07 := c06.trans c7
              refine ⟨_, c07.gr hT _ _ hip, _, at0, rfl, fun H8 s8 => ?_⟩
              have c08 := c07.then s8
              refine ite2 (fun e => ?_) (fun e => ?_)
              · exact ⟨c08, some 0, .no, none, ⟨rfl, rfl, rfl⟩, wz, trivial, trivial⟩
              · exact ⟨c08, some w', .no, none, ⟨rfl, rfl, rfl⟩, ww, trivial, trivial⟩
            · exact ⟨c06, none, .no, none, ⟨rfl, rfl, rfl⟩, trivial, trivial, trivial⟩
          · exact ⟨c05, none, .no, none, ⟨rfl, rfl, rfl⟩, trivial, trivial, trivial⟩
      obtain ⟨c4, rs, pl, tm, rfl, rs0, pl0, tm0⟩ := hm
      walk_at "rd"
      intro p2 H5 s5 e5
      have c05 := c4.then s5
      refine q (.ref p2) ⟨pc, some x, sc, pr, rs, pl, tm⟩ H5 c05 ⟨⟨p0, by dsimp only; omega⟩, fun i z => by cases z; exact ok, ⟨sc0, by dsimp only; omega⟩, pr0, rs0, pl0, tm0, fun i z hz => by cases z; exact pr1 hz⟩ rfl sc1 ⟨p2, .ref ip, rfl, ⟨ip, rfl, c05.gr hT _ _ hip⟩, e5⟩
end
end KW

namespace KW
open PySem PySem.Spec PyProof.Rows L2 KM
local macro_rules | `(tactic| walk_at "rd") => `(tactic| simp (config := { decide := true, maxSteps := 2000000 }) only [tSeq, tIfS, tTest, tOp, rI0, rI, rEq, rNe, sc_nn, sc_ni, sc_in, sc_nb, sc_bn, sc_ns, sc_sn, sc_ii, sc_bb, sc_ss, sc_is, sc_si, tVar, tC, tRet, tNext, tAsg, gName, tB, tCall, tCons, tNil, tCB, tUn, rU, tAnd, tOr, tNot, tAndV, tOrV, tNotV, tIf, CMul, CDiv, CPow,
  at0, at1, at2, at3, at4, at5, at6, rs_eq, rs_ne, rs_lt, rs_ge, rs_ltu, rs_geu, os_add, os_sub, os_mul, os_and, os_or, os_xor, os_slt, os_sltu, ks_addi, ks_load, ks_store, ks_swap, ks_fadd, ks_ll, ks_sc, ks_fence, ks_branch, ks_jump, ks_halt, in_ops, in_ats,
  rIxTH, rIxLH, rLenT, rLenL, rInC, rInL, rNotInL, rCatH, rSlH, tTupH, tLstH, rTupOf, gSub, rSetL, tDrop, tBM, rAppend, tYes, wipe, List.map_cons, List.map_nil, upd_same, upd_upd, gTupH, gc_cons, gc_nil, tSl, tPart, tNoPart, fl_n, fl_i, fl_b, fl_s, tInD, tInT, vals, kd_op, rest_op, kd_addi, rest_addi, kd_load, rest_load, kd_store, rest_store, kd_swap, rest_swap, kd_fadd, rest_fadd, kd_ll, rest_ll, kd_sc, rest_sc, kd_fence, rest_fence, kd_branch, rest_branch, kd_jump, rest_jump, kd_halt, rest_halt, in_l1, in_l2, in_l3, in_l4, in_l5, in_l6,
  List.getElem?_cons_zero, List.getElem?_cons_succ, List.set_cons_zero, List.set_cons_succ, Option.some.injEq, exists_eq_left', exists_eq_left, exists_and_left, exists_eq', exists_eq, V.int.injEq, V.bl.injEq, V.str.injEq, V.ref.injEq, HO.tup.injEq, HO.lst.injEq, decide_eq_true_eq, true_and, and_true, false_and, and_false, or_false, false_or, true_or, or_true, List.append_nil, List.cons_append, List.nil_append, List.cons.injEq,
  List.length_cons, List.length_nil, Nat.reduceAdd, Nat.reduceLeDiff, forall_const, reduceCtorEq, Bool.false_eq_true, if_true, if_false, Bool.not_true, Bool.not_false, Bool.not_eq_true', decide_eq_false_iff_not, decide_true, decide_false])
local macro_rules | `(tactic| walk_at "rs") => `(tactic| simp (config := { decide := true, maxSteps := 2000000 }) only [tSeq, tIfS, tTest, tOp, rI0, rI, rEq, rNe, sc_nn, sc_ni, sc_in, sc_nb, sc_bn, sc_ns, sc_sn, sc_ii, sc_bb, sc_ss, sc_is, sc_si, tVar, tC, tRet, tNext, tAsg, gName, tB, tCall, tCons, tNil, tCB, tUn, rU, tAnd, tOr, tNot, tAndV, tOrV, tNotV, tIf, CMul, CDiv, CPow,
  at0, at1, at2, at3, at4, at5, at6, rs_eq, rs_ne, rs_lt, rs_ge, rs_ltu, rs_geu, os_add, os_sub, os_mul, os_and, os_or, os_xor, os_slt, os_sltu, ks_addi, ks_load, ks_store, ks_swap, ks_fadd, ks_ll, ks_sc, ks_fence, ks_branch, ks_jump, ks_halt, in_ops, in_ats,
  rIxTH, rIxLH, rLenT, rLenL, rInC, rInL, rNotInL, rCatH, rSlH, tTupH, tLstH, rTupOf, gSub, rSetL, tDrop, tBM, rAppend, tYes, wipe, List.map_cons, List.map_nil, upd_same, upd_upd, gTupH, gc_cons, gc_nil, tSl, tPart, tNoPart, fl_n, fl_i, fl_b, fl_s, tInD, tInT, vals, kd_op, rest_op, kd_addi, rest_addi, kd_load, rest_load, kd_store, rest_store, kd_swap, rest_swap, kd_fadd, rest_fadd, kd_ll, rest_ll, kd_sc, rest_sc, kd_fence, rest_fence, kd_branch, rest_branch, kd_jump, rest_jump, kd_halt, rest_halt, in_l1, in_l2, in_l3, in_l4, in_l5, in_l6,
  List.getElem?_cons_zero, List.getElem?_cons_succ, List.set_cons_zero, List.set_cons_succ, Option.some.injEq, exists_eq_left', exists_eq_left, exists_and_left, exists_eq', exists_eq, V.int.injEq, V.bl.injEq, V.str.injEq, V.ref.injEq, HO.tup.injEq, HO.lst.injEq, decide_eq_true_eq, true_and, and_true, false_and, and_false, or_false, false_or, true_or, or_true, List.append_nil, List.cons_append, List.nil_append, List.cons.injEq,
  List.length_cons, List.length_nil, Nat.reduceAdd, Nat.reduceLeDiff, forall_const, reduceCtorEq, Bool.false_eq_true, if_true, if_false, Bool.not_true, Bool.not_false, Bool.not_eq_true', decide_eq_false_iff_not, decide_true, decide_false, *])
theorem EntsAt.len {H : Hp} {vs : List V} {es : List Ent} (h : EntsAt H vs es) : vs.length = es.length := h.1
theorem gr_ents {H H' : Hp} (g : Gr H H') {vs : List V} {es : List Ent} (h : EntsAt H vs es) : EntsAt H' vs es := g.ents h
section
variable {P : Program} {w : World} {K : PySem.W.Frag} {mg : Str → Option Value} {base : Heap}
def spEntries : Sp := fun vs H Q _ => ∃ (t : Addr) (v : V) (n m : Nat) (pc : Int) (k : Nat), vs = [.ref t, v, .int pc, .int k] ∧ Tape H t ∧ ProgAt H v n m ∧ 0 ≤ pc ∧ pc ≤ 24 ∧ k ≤ 12 ∧
  ∀ a vs es H', Chg t H H' → AllOk es → es.length = k → H' a = some (.tup vs) → EntsAt H' vs es → Q (.ref a) H'
theorem ok_lEntries (T : Txt K mg) : FnOk P w K mg base CX0 4 T.lEntries.f T.lEntries.fd ["_law_tape_here", "_law_program_here", "_law_pc_here", "_law_many"] spEntries := by
  refine T.lEntries.F.ok sc_lEntries (fun vs H Q E h => ?_) (fun cdv A outer s H vs Q E hr h => ?_)
  · obtain ⟨t, v, n, m, pc, k, rfl, _⟩ := h
    rfl
  · obtain ⟨t, v, n, m, pc, k, rfl, hT, hP, p0, p1, hk, q⟩ := h
    refine ⟨_, (pss_cons (ps_set (i := 4) sc_lEntries.nd rfl (.inl rfl) (pe_lstH pa_nil))
      (pss_cons (ps_set (i := 5) sc_lEntries.nd rfl (.inl rfl) pe_bl)
      (pss_cons (ps_for PassesOwn.never rfl (pi_range1 rfl T.zrange (pa_cons (pv 3) pa_nil)) (pg_name (i := 6) sc_lEntries.nd rfl (.inl rfl))
        (pss_cons (ps_set (i := 7) sc_lEntries.nd rfl (.inl rfl) (pcall T.lEntry (ok_lEntry T) hr (by decide) (by rfl) (pa_cons (pv 0) (pa_cons (pv 1) (pa_cons (pv 2) (pa_cons (pv 5) pa_nil))))))
        (pss_cons (ps_if (PW.pt (pw_and (pt_cmpR op_notN (pe_ix ix_tupH (pv 7) pe_int (fun _ _ => rfl)) pe_non (nomark _)) (pw_and1 (pt_inD (xs := [.str "load", .str "store", .str "swap", .str "fetch add", .str "load linked", .str "store conditional"]) (pe_ix ix_tupH (pe_ix ix_tupH (pv 7) pe_int (fun _ _ => rfl)) pe_int (fun _ _ => rfl)) (pa_cons pe_str (pa_cons pe_str (pa_cons pe_str (pa_cons pe_str (pa_cons pe_str (pa_cons pe_str pa_nil)))))) (mon_ix (mon_ix mon_var mon_c) mon_c) rfl rfl (by decide) (by rfl)))))
          (pss_one (ps_set (i := 5) sc_lEntries.nd rfl (.inl rfl) (pe_cmpR op_notN (pe_ix ix_tupH (pv 7) pe_int (fun _ _ => rfl)) pe_non (nomark _))))
          pss_nil)
        (pss_cons (ps_expr (pe_bm PySem.F.plainAttrs_list PySem.F.slot_list_append PySem.F.type_list_append mt_append (pv 4) (pa_cons (pv 7) pa_nil)))
        (pss_one (ps_set (i := 2) sc_lEntries.nd rfl (.inl rfl) (pe_ix ix_tupH (pv 7) pe_int (fun _ _ => rfl))))))))
      (pss_one (ps_ret (pe_callTy call_tupOf (by rfl) T.ztuple (by decide +kernel) (pa_cons (pv 4) pa_nil))))))), ?_⟩
    rw [show L2.start N_lEntries [V.ref t, v, V.int pc, V.int k] = [some (V.ref t), some v, some (V.int pc), some (V.int k), none, none, none, none] from rfl]
    walk_at "rd"
    intro lc H1 s1 nl e1
    have hlt : lc ≠ t := ne_tape hT nl
    refine for_rng k (by omega) (fun Qa qa => ?_) (fun i σ H' => Ch2 t lc H H' ∧ ∃ (es : List Ent) (vs : List V) (b : Bool) (pcx : Int) (j1 j2 : Option V), σ = [some (V.ref t), some v, some (V.int pcx), some (V.int k), some (V.ref lc), some (V.bl b), j1, j2] ∧
        H' lc = some (.lst vs) ∧ EntsAt H' vs es ∧ AllOk es ∧ es.length = i ∧ 0 ≤ pcx ∧ pcx ≤ 24 + i)
      ⟨.start hT s1, [], [], true, pc, none, none, rfl, e1, .nil, fun e he => (nomatch he), rfl, p0, by omega⟩ (fun i σ H' hi hv => ?_) (fun σ H' hv => ?_)
    · walk_at "rd"
      exact qa
    · obtain ⟨c1, es, vs, b, pcx, j1, j2, rfl, g1, g2, g3, g4, g5, g6⟩ := hv
      walk_at "rd"
      have gP := (c1.gr hT nl).prog hP
      refine ⟨t, v, n, m, pcx, b, rfl, c1.tape, gP, g5, by omega, fun w' e H2 c2 oe epc esc hE => ?_⟩
      have hE' := hE
      obtain ⟨a, iv, rfl, hI, ha⟩ := hE
      have g1' := c2.keep lc _ hlt g1
      have c12 := c1.chg c2
      have g2' := (c2.gr c1.tape).ents g2
      have app : ∀ (H' : Hp) (b' : Bool), Same H2 H' → ∃ x, H' lc = some (HO.lst x) ∧ x.length < sizeLine ∧ ∃ xs, upd H' lc (HO.lst (x ++ [V.ref a])) a = some (HO.tup xs) ∧ ∃ v, atI xs 2 = some v ∧ Ch2 t lc H (upd H' lc (HO.lst (x ++ [V.ref a]))) ∧
          ∃ es vs b pcx j1 j2, (v = V.int pcx ∧ b' = b ∧ some (V.int ↑i) = j1 ∧ some (V.ref a) = j2) ∧ x ++ [V.ref a] = vs ∧ EntsAt (upd H' lc (HO.lst (x ++ [V.ref a]))) vs es ∧ AllOk es ∧ es.length = i + 1 ∧ 0 ≤ pcx ∧ pcx ≤ 24 + ↑(i + 1) := by
        intro H' b' s'
        have q1 := s' _ _ g1'
        have gu := gr_upd (o := .lst (vs ++ [V.ref a])) q1
        have gg : Gr H2 (upd H' lc (.lst (vs ++ [V.ref a]))) := (gr_same s').trans gu
        have os := oe.succ
        refine ⟨vs, q1, sz1000 (by rw [g2.1]; omega), _, gg _ _ ha, _, at2, .app hT nl (c12.chg (.same c12.tape s')), es ++ [e], _, b', e.succ, _, _, ⟨rfl, rfl, rfl, rfl⟩, rfl, (gg.ents g2').app (.one (gg.ent hE')), fun x hx => ?_, by rw [List.length_append, List.length_singleton, g4], os.1, ?_⟩
        · rcases List.mem_append.mp hx with hx | hx
          · exact g3 x hx
          · rcases List.mem_singleton.mp hx with rfl
            exact oe
        · rcases esc with z | z <;> omega
      have ty : ∀ H', Same H2 H' → tyV K "list" (V.ref lc) H' := fun H' s' => .inl ⟨rfl, _, .inl (.inl (s' _ _ g1'))⟩
      walk_at "rs"
      refine ite2 (fun hn => ?_) (fun hn => ?_)
      · cases hi2 : e.ins with
        | none =>
          rw [hi2] at hI
          exact absurd hI hn
        | some x =>
          rw [hi2] at hI
          obtain ⟨ip, rfl, hip⟩ := hI
          refine ⟨ip, rfl, _, hip, _, at0, rfl, fun H' s' => ?_⟩
          refine ite2 (fun _ => ?_) (fun _ => ?_)
          · exact ⟨_, s' _ _ ha, _, at5, ty H' s', app H' _ s'⟩
          · exact ⟨ty H' s', app H' _ s'⟩
      · refine ⟨ty H2 (Same.refl _), ?_⟩
        obtain ⟨x, hx, r⟩ := app H2 b (Same.refl _)
        rw [g1'] at hx
        cases hx
        exact r
    · obtain ⟨c1, es, vs, b, pcx, j1, j2, rfl, g1, g2, g3, g4, g5, g6⟩ := hv
      walk_at "rs"
      intro a H2 s2 e2
      exact q a vs es H2 ((c1.fin nl).then s2) g3 g4 e2 ((gr_same s2).ents g2)
end
end KW

namespace KW
open PySem PySem.Spec PyProof.Rows L2 KM
local macro_rules | `(tactic| walk_at "rd") => `(tactic| simp (config := { decide := true, maxSteps := 2000000 }) only [tSeq, tIfS, tTest, tOp, rI0, rI, rEq, rNe, sc_nn, sc_ni, sc_in, sc_nb, sc_bn, sc_ns, sc_sn, sc_ii, sc_bb, sc_ss, sc_is, sc_si, tVar, tC, tRet, tNext, tAsg, gName, tB, tCall, tCons, tNil, tCB, tUn, rU, tAnd, tOr, tNot, tAndV, tOrV, tNotV, tIf, CMul, CDiv, CPow,
  at0, at1, at2, at3, at4, at5, at6, rs_eq, rs_ne, rs_lt, rs_ge, rs_ltu, rs_geu, os_add, os_sub, os_mul, os_and, os_or, os_xor, os_slt, os_sltu, ks_addi, ks_load, ks_store, ks_swap, ks_fadd, ks_ll, ks_sc, ks_fence, ks_branch, ks_jump, ks_halt, in_ops, in_ats,
  rIxTH, rIxLH, rLenT, rLenL, rInC, rInL, rNotInL, rCatH, rSlH, tTupH, tLstH, rTupOf, gSub, rSetL, tDrop, tBM, rAppend, tYes, wipe, List.map_cons, List.map_nil, upd_same, upd_upd, gTupH, gc_cons, gc_nil, tSl, tPart, tNoPart, fl_n, fl_i, fl_b, fl_s, tInD, tInT, vals, kd_op, rest_op, kd_addi, rest_addi, kd_load, rest_load, kd_store, rest_store, kd_swap, rest_swap, kd_fadd, rest_fadd, kd_ll, rest_ll, kd_sc, rest_sc, kd_fence, rest_fence, kd_branch, rest_branch, kd_jump, rest_jump, kd_halt, rest_halt, in_l1, in_l2, in_l3, in_l4, in_l5, in_l6,
  List.getElem?_cons_zero, List.getElem?_cons_succ, List.set_cons_zero, List.set_cons_succ, Option.some.injEq, exists_eq_left', exists_eq_left, exists_and_left, exists_eq', exists_eq, V.int.injEq, V.bl.injEq, V.str.injEq, V.ref.injEq, HO.tup.injEq, HO.lst.injEq, decide_eq_true_eq, true_and, and_true, false_and, and_false, or_false, false_or, true_or, or_true, List.append_nil, List.cons_append, List.nil_append, List.cons.injEq,
  List.length_cons, List.length_nil, Nat.reduceAdd, Nat.reduceLeDiff, forall_const, reduceCtorEq, Bool.false_eq_true, if_true, if_false, Bool.not_true, Bool.not_false, Bool.not_eq_true', decide_eq_false_iff_not, decide_true, decide_false])
local macro_rules | `(tactic| walk_at "rs") => `(tactic| simp (config := { decide := true, maxSteps := 2000000 }) only [tSeq, tIfS, tTest, tOp, rI0, rI, rEq, rNe, sc_nn, sc_ni, sc_in, sc_nb, sc_bn, sc_ns, sc_sn, sc_ii, sc_bb, sc_ss, sc_is, sc_si, tVar, tC, tRet, tNext, tAsg, gName, tB, tCall, tCons, tNil, tCB, tUn, rU, tAnd, tOr, tNot, tAndV, tOrV, tNotV, tIf, CMul, CDiv, CPow,
  at0, at1, at2, at3, at4, at5, at6, rs_eq, rs_ne, rs_lt, rs_ge, rs_ltu, rs_geu, os_add, os_sub, os_mul, os_and, os_or, os_xor, os_slt, os_sltu, ks_addi, ks_load, ks_store, ks_swap, ks_fadd, ks_ll, ks_sc, ks_fence, ks_branch, ks_jump, ks_halt, in_ops, in_ats,
  rIxTH, rIxLH, rLenT, rLenL, rInC, rInL, rNotInL, rCatH, rSlH, tTupH, tLstH, rTupOf, gSub, rSetL, tDrop, tBM, rAppend, tYes, wipe, List.map_cons, List.map_nil, upd_same, upd_upd, gTupH, gc_cons, gc_nil, tSl, tPart, tNoPart, fl_n, fl_i, fl_b, fl_s, tInD, tInT, vals, kd_op, rest_op, kd_addi, rest_addi, kd_load, rest_load, kd_store, rest_store, kd_swap, rest_swap, kd_fadd, rest_fadd, kd_ll, rest_ll, kd_sc, rest_sc, kd_fence, rest_fence, kd_branch, rest_branch, kd_jump, rest_jump, kd_halt, rest_halt, in_l1, in_l2, in_l3, in_l4, in_l5, in_l6,
  List.getElem?_cons_zero, List.getElem?_cons_succ, List.set_cons_zero, List.set_cons_succ, Option.some.injEq, exists_eq_left', exists_eq_left, exists_and_left, exists_eq', exists_eq, V.int.injEq, V.bl.injEq, V.str.injEq, V.ref.injEq, HO.tup.injEq, HO.lst.injEq, decide_eq_true_eq, true_and, and_true, false_and, and_false, or_false, false_or, true_or, or_true, List.append_nil, List.cons_append, List.nil_append, List.cons.injEq,
  List.length_cons, List.length_nil, Nat.reduceAdd, Nat.reduceLeDiff, forall_const, reduceCtorEq, Bool.false_eq_true, if_true, if_false, Bool.not_true, Bool.not_false, Bool.not_eq_true', decide_eq_false_iff_not, decide_true, decide_false, *])
def BItem (H : Hp) (v : V) : Prop := ∃ p xs, v = .ref p ∧ H p = some (.tup xs) ∧ (xs = [.str (Str.ofString "fence")] ∨ ∃ a w s : Int, xs = [.str (Str.ofString "store"), .int a, .int w, .int s] ∧ (0 ≤ a ∧ a ≤ 100000) ∧ (0 ≤ w ∧ w ≤ 100000) ∧ 0 ≤ s ∧ s ≤ 100000)
def BItems (H : Hp) (vs : List V) : Prop := ∀ v ∈ vs, BItem H v
def BufAt (H : Hp) (v : V) : Prop := ∃ a vs, v = .ref a ∧ H a = some (.tup vs) ∧ vs.length ≤ 40 ∧ BItems H vs
theorem Gr.bitem {H H' : Hp} (g : Gr H H') {v : V} (h : BItem H v) : BItem H' v := by
  obtain ⟨p, xs, h1, h2, h3⟩ := h
  exact ⟨p, xs, h1, g _ _ h2, h3⟩
theorem Gr.bitems {H H' : Hp} (g : Gr H H') {vs : List V} (h : BItems H vs) : BItems H' vs := fun v hv => g.bitem (h v hv)
theorem Gr.buf {H H' : Hp} (g : Gr H H') {v : V} (h : BufAt H v) : BufAt H' v := by
  obtain ⟨a, vs, h1, h2, h3, h4⟩ := h
  exact ⟨a, vs, h1, g _ _ h2, h3, g.bitems h4⟩
theorem BItems.snoc {H : Hp} {vs : List V} {v : V} (h : BItems H vs) (k : BItem H v) : BItems H (vs ++ [v]) := fun x hx => by
  rcases List.mem_append.mp hx with hx | hx
  · exact h x hx
  · rcases List.mem_singleton.mp hx with rfl
    exact k
section
variable {P : Program} {w : World} {K : PySem.W.Frag} {mg : Str → Option Value} {base : Heap}
def spBuffer : Sp := fun vs H Q _ => ∃ (t : Addr) (o : Str) (size most : Int), vs = [.ref t, .str o, .int size, .int most] ∧ Tape H t ∧ 1 ≤ size ∧ size ≤ 16 ∧ 0 ≤ most ∧ most ≤ 10 ∧
  ∀ p v z H', Chg t H H' → H' p = some (.tup [v, .int z]) → BufAt H' v → 0 ≤ z → z ≤ 1000 → Q (.ref p) H'
theorem ok_lBuffer (T : Txt K mg) : FnOk P w K mg base CX0 3 T.lBuffer.f T.lBuffer.fd ["_law_tape_here", "_law_order", "_law_size", "_law_most"] spBuffer := by
  refine T.lBuffer.F.ok sc_lBuffer (fun vs H Q E h => ?_) (fun cdv A outer s H vs Q E hr h => ?_)
  · obtain ⟨t, o, size, most, rfl, _⟩ := h
    rfl
  · obtain ⟨t, o, size, most, rfl, hT, z1, z2, m0, m1, q⟩ := h
    refine ⟨_, (pss_cons (ps_set (i := 4) sc_lBuffer.nd rfl (.inl rfl) (pe_lstH pa_nil))
      (pss_cons (ps_set (i := 5) sc_lBuffer.nd rfl (.inl rfl) pe_int)
      (pss_cons (ps_set (i := 6) sc_lBuffer.nd rfl (.inl rfl) (pcall T.lDraw (ok_lDraw T) hr (by decide) (by rfl) (pa_cons (pv 0) (pa_cons (pe_op op_add (pv 3) pe_int) pa_nil))))
      (C8.pss_cut (ps_if (pt_cmpR op_eq (pv 1) pe_str (nomark _))
        (pss_one (ps_set (i := 6) sc_lBuffer.nd rfl (.inl rfl) (pe_callB (call_min2 rfl) (by rfl) T.zmin (by decide +kernel) (pa_cons (pv 6) (pa_cons pe_int pa_nil)))))
        pss_nil)
      (pss_cons (ps_for PassesOwn.never rfl (pi_range1 rfl T.zrange (pa_cons (pv 6) pa_nil)) (pg_name (i := 7) sc_lBuffer.nd rfl (.inl rfl))
        (pss_cons (ps_set (i := 5) sc_lBuffer.nd rfl (.inl rfl) (pe_op op_add (pe_op op_add (pv 5) pe_int) (pcall T.lDraw (ok_lDraw T) hr (by decide) (by rfl) (pa_cons (pv 0) (pa_cons pe_int pa_nil)))))
        (C8.pss_cut (ps_if (PW.pt (pw_and (pt_cmpR op_gt (pv 7) pe_int (nomark _)) (pw_and1 (pt_cmpR op_eq (pcall T.lDraw (ok_lDraw T) hr (by decide) (by rfl) (pa_cons (pv 0) (pa_cons pe_int pa_nil))) pe_int (nomark _)))))
          (pss_one (ps_expr (pe_bm PySem.F.plainAttrs_list PySem.F.slot_list_append PySem.F.type_list_append mt_append (pv 4) (pa_cons (pe_tupH (pa_cons pe_str pa_nil)) pa_nil))))
          pss_nil)
        (pss_one (ps_expr (pe_bm PySem.F.plainAttrs_list PySem.F.slot_list_append PySem.F.type_list_append mt_append (pv 4) (pa_cons (pe_tupH (pa_cons pe_str (pa_cons (pcall T.lDraw (ok_lDraw T) hr (by decide) (by rfl) (pa_cons (pv 0) (pa_cons (pv 2) pa_nil))) (pa_cons (pcall T.lWord (ok_lWord T) hr (by decide) (by rfl) (pa_cons (pv 0) pa_nil)) (pa_cons (pe_op op_sub (pv 5) pe_int) pa_nil))))) pa_nil)))))))
      (C8.pss_cut (ps_if (PW.pt (pw_and (pt_cmpR op_gt (pv 6) pe_int (nomark _)) (pw_and (pt_cmpR op_ne (pv 1) pe_str (nomark _)) (pw_and1 (pt_cmpR op_eq (pcall T.lDraw (ok_lDraw T) hr (by decide) (by rfl) (pa_cons (pv 0) (pa_cons pe_int pa_nil))) pe_int (nomark _))))))
        (pss_one (ps_expr (pe_bm PySem.F.plainAttrs_list PySem.F.slot_list_append PySem.F.type_list_append mt_append (pv 4) (pa_cons (pe_tupH (pa_cons pe_str pa_nil)) pa_nil))))
        pss_nil)
      (pss_one (ps_ret (pe_tupH (pa_cons (pe_callTy call_tupOf (by rfl) T.ztuple (by decide +kernel) (pa_cons (pv 4) pa_nil)) (pa_cons (pe_op op_add (pv 5) (pcall T.lDraw (ok_lDraw T) hr (by decide) (by rfl) (pa_cons (pv 0) (pa_cons pe_int pa_nil)))) pa_nil))))))))))), ?_⟩
    rw [show L2.start N_lBuffer [V.ref t, V.str o, V.int size, V.int most] = [some (V.ref t), some (V.str o), some (V.int size), some (V.int most), none, none, none, none] from rfl]
    walk_at "rd"
    intro lc H1 s1 nl e1
    have hlt : lc ≠ t := ne_tape hT nl
    refine i_draw (hT.grown s1) (by omega) (by omega) fun r H2 c2 r0 r1 => ?_
    have e2 := c2.keep lc _ hlt e1
    have d2 : Ch2 t lc H H2 := (Ch2.start hT s1).chg c2
    refine ⟨fun σ' H' => H' = H2 ∧ ∃ k : Nat, k ≤ 10 ∧ σ' = [some (V.ref t), some (V.str o), some (V.int size), some (V.int most), some (V.ref lc), some (V.int 0), some (V.int k), none], ?_, fun σ' H' hm => ?_⟩
    · walk_at "rs"
      refine ite2 (fun _ => ?_) (fun _ => ?_)
      · refine ⟨r, 1, ⟨rfl, rfl⟩, (if (1 : Int) < r then (1 : Int) else r).toNat, ?_, ?_⟩
        · split <;> omega
        · split <;> omega
      · exact ⟨r.toNat, by omega, by omega⟩
    obtain ⟨rfl, k, hk, rfl⟩ := hm
    have app : ∀ (H3 H4 : Hp) (vs : List V) (v : V), Ch2 t lc H H3 → H3 lc = some (.lst vs) → BItems H3 vs → Chg t H3 H4 → BItem H4 v →
        H4 lc = some (.lst vs) ∧ Ch2 t lc H (upd H4 lc (.lst (vs ++ [v]))) ∧ BItems (upd H4 lc (.lst (vs ++ [v]))) (vs ++ [v]) := fun H3 H4 vs v c3 g3 b3 c4 b4 => by
      have g4 := c4.keep lc _ hlt g3
      have gu := gr_upd (o := .lst (vs ++ [v])) g4
      exact ⟨g4, .app hT nl (c3.chg c4), BItems.snoc (((c4.gr c3.tape).trans gu).bitems b3) (gu.bitem b4)⟩
    have ty : ∀ (H3 : Hp) (vs : List V), H3 lc = some (.lst vs) → tyV K "list" (V.ref lc) H3 := fun H3 vs g => .inl ⟨rfl, _, .inl (.inl g)⟩
    have fen : ∀ (H3 : Hp) (p : Addr), H3 p = some (.tup [.str (Str.ofString "fence")]) → BItem H3 (.ref p) := fun H3 p e => ⟨p, _, rfl, e, .inl rfl⟩
    walk_at "rd"
    refine for_rng k (by omega) (fun Qa qa => ?_) (fun i σ H3 => Ch2 t lc H H3 ∧ ∃ (vs : List V) (st : Int) (j : Option V), σ = [some (V.ref t), some (V.str o), some (V.int size), some (V.int most), some (V.ref lc), some (V.int st), some (V.int k), j] ∧
        H3 lc = some (.lst vs) ∧ BItems H3 vs ∧ vs.length ≤ 2 * i ∧ 0 ≤ st ∧ st ≤ 3 * i)
      ⟨d2, [], 0, none, rfl, e2, fun v hv => (nomatch hv), Nat.zero_le _, by decide, by omega⟩ (fun i σ H3 hi hv => ?_) (fun σ H3 hv => ?_)
    · walk_at "rd"
      exact qa
    · obtain ⟨c3, vs, st, j, rfl, g3, b3, l3, s0, s3⟩ := hv
      walk_at "rd"
      refine i_draw c3.tape (by decide) (by decide) fun r4 H4 c4 r40 r41 => ?_
      have g4 := c4.keep lc _ hlt g3
      have c04 := c3.chg c4
      have b4 := (c4.gr c3.tape).bitems b3
      walk_at "rd"
      refine ⟨fun σ' H5 => Ch2 t lc H H5 ∧ ∃ (vs : List V), σ' = [some (V.ref t), some (V.str o), some (V.int size), some (V.int most), some (V.ref lc), some (V.int (st + 1 + r4)), some (V.int k), some (V.int i)] ∧ H5 lc = some (.lst vs) ∧ BItems H5 vs ∧ vs.length ≤ 2 * i + 1, ?_, fun σ' H5 hm => ?_⟩
      · walk_at "rs"
        refine ite2 (fun _ => ?_) (fun _ => ?_)
        · refine i_draw c04.tape (by decide) (by decide) fun r5 H5 c5 r50 r51 => ⟨rfl, ?_⟩
          have g5 := c5.keep lc _ hlt g4
          refine ite2 (fun _ => ?_) (fun _ => ?_)
          · refine ⟨ty _ _ g5, fun p H6 s6 e6 => ?_⟩
            have c46 := c5.then s6
            obtain ⟨g6, c6, b6⟩ := app H4 H6 vs (.ref p) c04 g4 b4 c46 (fen H6 p e6)
            refine ⟨vs, g6, sz1000 (by omega), c6, b6, ?_⟩
            rw [List.length_append, List.length_singleton]
            omega
          · exact ⟨c04.chg c5, vs, g5, (c5.gr c04.tape).bitems b4, by omega⟩
        · omega
      · obtain ⟨c5, vs, rfl, g5, b5, l5⟩ := hm
        walk_at "rd"
        refine ⟨ty _ _ g5, ?_⟩
        refine i_draw c5.tape (by omega) (by omega) fun a H6 c6 a0 a1 => ?_
        have g6 := c6.keep lc _ hlt g5
        have c06 := c5.chg c6
        refine i_word c06.tape fun w' H7 c7 ww => fun p H8 s8 e8 => ?_
        have c58 := (c6.trans c7).then s8
        obtain ⟨g8, c8, b8⟩ := app H5 H8 vs (.ref p) c5 g5 b5 c58 ⟨p, _, rfl, e8, .inr ⟨_, _, _, rfl, ⟨a0, by omega⟩, ⟨ww.1, by have := ww.2; omega⟩, by omega, by omega⟩⟩
        refine ⟨vs, g8, sz1000 (by omega), c8, _, _, _, ⟨rfl, rfl⟩, rfl, b8, ?_, ?_, ?_⟩
        · rw [List.length_append, List.length_singleton]
          omega
        · omega
        · omega
    · obtain ⟨c3, vs, st, j, rfl, g3, b3, l3, s0, s3⟩ := hv
      refine ⟨fun σ' H5 => Ch2 t lc H H5 ∧ ∃ (vs : List V), σ' = [some (V.ref t), some (V.str o), some (V.int size), some (V.int most), some (V.ref lc), some (V.int st), some (V.int k), j] ∧ H5 lc = some (.lst vs) ∧ BItems H5 vs ∧ vs.length ≤ 2 * k + 1, ?_, fun σ' H5 hm => ?_⟩
      · walk_at "rs"
        refine ite2 (fun _ => ?_) (fun _ => ?_)
        · refine ite2 (fun _ => ?_) (fun _ => ?_)
          · refine i_draw c3.tape (by decide) (by decide) fun r5 H5 c5 r50 r51 => ⟨rfl, ?_⟩
            have g5 := c5.keep lc _ hlt g3
            refine ite2 (fun _ => ?_) (fun _ => ?_)
            · refine ⟨ty _ _ g5, fun p H6 s6 e6 => ?_⟩
              have c46 := c5.then s6
              obtain ⟨g6, c6, b6⟩ := app H3 H6 vs (.ref p) c3 g3 b3 c46 (fen H6 p e6)
              refine ⟨vs, g6, sz1000 (by omega), c6, b6, ?_⟩
              rw [List.length_append, List.length_singleton]
              omega
            · exact ⟨c3.chg c5, vs, g5, (c5.gr c3.tape).bitems b3, by omega⟩
          · omega
        · omega
      · obtain ⟨c5, vs, rfl, g5, b5, l5⟩ := hm
        walk_at "rs"
        intro a H6 s6 e6
        refine i_draw (c5.tape.grown s6) (by decide) (by decide) fun z H7 c7 z0 z1 => ⟨z, rfl, fun p H8 s8 e8 => ?_⟩
        have c58 := ((Chg.same c5.tape s6).trans c7).then s8
        have c68 : Chg t H6 H8 := c7.then s8
        refine q p (.ref a) (st + z) H8 ((c5.fin nl).trans c58) e8 ⟨a, vs, rfl, c68.gr (c5.tape.grown s6) _ _ e6, by omega, (c58.gr c5.tape).bitems b5⟩ (by omega) (by omega)
end
end KW

namespace KW
open PySem PySem.Spec PyProof.Rows L2 KM
local macro_rules | `(tactic| walk_at "rd") => `(tactic| simp (config := { decide := true, maxSteps := 2000000 }) only [tSeq, tIfS, tTest, tOp, rI0, rI, rEq, rNe, sc_nn, sc_ni, sc_in, sc_nb, sc_bn, sc_ns, sc_sn, sc_ii, sc_bb, sc_ss, sc_is, sc_si, tVar, tC, tRet, tNext, tAsg, gName, tB, tCall, tCons, tNil, tCB, tUn, rU, tAnd, tOr, tNot, tAndV, tOrV, tNotV, tIf, CMul, CDiv, CPow,
  at0, at1, at2, at3, at4, at5, at6, rs_eq, rs_ne, rs_lt, rs_ge, rs_ltu, rs_geu, os_add, os_sub, os_mul, os_and, os_or, os_xor, os_slt, os_sltu, ks_addi, ks_load, ks_store, ks_swap, ks_fadd, ks_ll, ks_sc, ks_fence, ks_branch, ks_jump, ks_halt, in_ops, in_ats,
  rIxTH, rIxLH, rLenT, rLenL, rInC, rInL, rNotInL, rCatH, rSlH, tTupH, tLstH, rTupOf, gSub, rSetL, tDrop, tBM, rAppend, tYes, wipe, List.map_cons, List.map_nil, upd_same, upd_upd, gTupH, gc_cons, gc_nil, tSl, tPart, tNoPart, fl_n, fl_i, fl_b, fl_s, tInD, tInT, vals, kd_op, rest_op, kd_addi, rest_addi, kd_load, rest_load, kd_store, rest_store, kd_swap, rest_swap, kd_fadd, rest_fadd, kd_ll, rest_ll, kd_sc, rest_sc, kd_fence, rest_fence, kd_branch, rest_branch, kd_jump, rest_jump, kd_halt, rest_halt, in_l1, in_l2, in_l3, in_l4, in_l5, in_l6,
  List.getElem?_cons_zero, List.getElem?_cons_succ, List.set_cons_zero, List.set_cons_succ, Option.some.injEq, exists_eq_left', exists_eq_left, exists_and_left, exists_eq', exists_eq, V.int.injEq, V.bl.injEq, V.str.injEq, V.ref.injEq, HO.tup.injEq, HO.lst.injEq, decide_eq_true_eq, true_and, and_true, false_and, and_false, or_false, false_or, true_or, or_true, List.append_nil, List.cons_append, List.nil_append, List.cons.injEq,
  List.length_cons, List.length_nil, Nat.reduceAdd, Nat.reduceLeDiff, forall_const, reduceCtorEq, Bool.false_eq_true, if_true, if_false, Bool.not_true, Bool.not_false, Bool.not_eq_true', decide_eq_false_iff_not, decide_true, decide_false])
local macro_rules | `(tactic| walk_at "rs") => `(tactic| simp (config := { decide := true, maxSteps := 2000000 }) only [tSeq, tIfS, tTest, tOp, rI0, rI, rEq, rNe, sc_nn, sc_ni, sc_in, sc_nb, sc_bn, sc_ns, sc_sn, sc_ii, sc_bb, sc_ss, sc_is, sc_si, tVar, tC, tRet, tNext, tAsg, gName, tB, tCall, tCons, tNil, tCB, tUn, rU, tAnd, tOr, tNot, tAndV, tOrV, tNotV, tIf, CMul, CDiv, CPow,
  at0, at1, at2, at3, at4, at5, at6, rs_eq, rs_ne, rs_lt, rs_ge, rs_ltu, rs_geu, os_add, os_sub, os_mul, os_and, os_or, os_xor, os_slt, os_sltu, ks_addi, ks_load, ks_store, ks_swap, ks_fadd, ks_ll, ks_sc, ks_fence, ks_branch, ks_jump, ks_halt, in_ops, in_ats,
  rIxTH, rIxLH, rLenT, rLenL, rInC, rInL, rNotInL, rCatH, rSlH, tTupH, tLstH, rTupOf, gSub, rSetL, tDrop, tBM, rAppend, tYes, wipe, List.map_cons, List.map_nil, upd_same, upd_upd, gTupH, gc_cons, gc_nil, tSl, tPart, tNoPart, fl_n, fl_i, fl_b, fl_s, tInD, tInT, vals, kd_op, rest_op, kd_addi, rest_addi, kd_load, rest_load, kd_store, rest_store, kd_swap, rest_swap, kd_fadd, rest_fadd, kd_ll, rest_ll, kd_sc, rest_sc, kd_fence, rest_fence, kd_branch, rest_branch, kd_jump, rest_jump, kd_halt, rest_halt, in_l1, in_l2, in_l3, in_l4, in_l5, in_l6,
  List.getElem?_cons_zero, List.getElem?_cons_succ, List.set_cons_zero, List.set_cons_succ, Option.some.injEq, exists_eq_left', exists_eq_left, exists_and_left, exists_eq', exists_eq, V.int.injEq, V.bl.injEq, V.str.injEq, V.ref.injEq, HO.tup.injEq, HO.lst.injEq, decide_eq_true_eq, true_and, and_true, false_and, and_false, or_false, false_or, true_or, or_true, List.append_nil, List.cons_append, List.nil_append, List.cons.injEq,
  List.length_cons, List.length_nil, Nat.reduceAdd, Nat.reduceLeDiff, forall_const, reduceCtorEq, Bool.false_eq_true, if_true, if_false, Bool.not_true, Bool.not_false, Bool.not_eq_true', decide_eq_false_iff_not, decide_true, decide_false, *])
structure RestOk (H : Hp) (R : KW.Rest) (regs : List Int) : Prop where
  st : ∃ s w pc lk, R.st = .ref s ∧ H s = some (.tup [.int pc, .ref w, .bl false, .int lk]) ∧ H w = some (.tup (regs.map V.int)) ∧ (0 ≤ pc ∧ pc ≤ 100) ∧ -1 ≤ lk ∧ lk ≤ 100
  regs : Regs regs
  buf : BufAt H R.buf
  held : ∃ b, R.held = .bl b
  steps : ∃ z, R.steps = .int z ∧ 0 ≤ z ∧ z ≤ 1000
theorem RestOk.stAt {H : Hp} {R : KW.Rest} {regs : List Int} (h : RestOk H R regs) : StAt H R.st regs := by
  obtain ⟨s, w, pc, lk, h1, h2, h3, _⟩ := h.st
  exact ⟨s, w, pc, lk, h1, h2, h3⟩
theorem Gr.rest {H H' : Hp} (g : Gr H H') {R : KW.Rest} {regs : List Int} (h : RestOk H R regs) : RestOk H' R regs := by
  obtain ⟨s, w, pc, lk, h1, h2, h3, h4⟩ := h.st
  exact ⟨⟨s, w, pc, lk, h1, g _ _ h2, g _ _ h3, h4⟩, h.regs, g.buf h.buf, h.held, h.steps⟩
section
variable {P : Program} {w : World} {K : PySem.W.Frag} {mg : Str → Option Value} {base : Heap}
def spPipe : Sp := fun vs H Q _ => ∃ (t : Addr) (v : V) (n m : Nat) (o : Str) (pc room most : Int), vs = [.ref t, v, .str o, .int pc, .int room, .int most] ∧ Tape H t ∧ ProgAt H v n m ∧ (0 ≤ pc ∧ pc ≤ 24) ∧ (0 ≤ room ∧ room ≤ 12) ∧ (0 ≤ most ∧ most ≤ 10) ∧
  ∀ v R es regs H', Chg t H H' → PipeAt H' v R es → RestOk H' R regs → AllOk es → es.length ≤ 12 → Q v H'
theorem ok_lPipeline (T : Txt K mg) : FnOk P w K mg base CX0 5 T.lPipeline.f T.lPipeline.fd ["_law_tape_here", "_law_program_here", "_law_order", "_law_pc_here", "_law_room", "_law_most"] spPipe := by
  refine T.lPipeline.F.ok sc_lPipeline (fun vs H Q E h => ?_) (fun cdv A outer s H vs Q E hr h => ?_)
  · obtain ⟨t, v, n, m, o, pc, room, most, rfl, _⟩ := h
    rfl
  · obtain ⟨t, v, n, m, o, pc, room, most, rfl, hT, hP, hpc, hrm, hmo, q⟩ := h
    refine ⟨_, (pss_cons (ps_set (i := 6) sc_lPipeline.nd rfl (.inl rfl) (pe_op op_catH (pe_tupH (pa_cons pe_int pa_nil)) (pe_callTy call_tupOf (by rfl) T.ztuple (by decide +kernel) (pa_cons (pe_lc (own := [("_law_k", 7)]) (g := gName 7) rfl sc_lPipeline.nd (pi_range1 rfl T.zrange (pa_cons pe_int pa_nil)) (blkOk_by (N := N_lPipeline) (sc := defScope s_lPipeline) (by decide +kernel)) (fun _ _ _ _ _ => pg_name (i := 7) sc_lPipeline.nd rfl (Or.inl rfl)) (fun _ _ _ _ _ => pts_nil) (fun _ _ _ _ _ => (pcall T.lWord (ok_lWord T) hr (by decide) (by rfl) (pa_cons (pv 0) pa_nil)))) pa_nil))))
      (pss_cons (ps_set (i := 8) sc_lPipeline.nd rfl (.inl rfl) (pe_op op_sub (pcall T.lDraw (ok_lDraw T) hr (by decide) (by rfl) (pa_cons (pv 0) (pa_cons (pe_op op_add (pe_callB call_lenT (by rfl) T.zlen PySem.boot_len (pa_cons (pe_ix ix_tupH (pv 1) pe_int (fun _ _ => rfl)) pa_nil)) pe_int) pa_nil))) pe_int))
      (pss_cons (ps_set (i := 9) sc_lPipeline.nd rfl (.inl rfl) (pe_callB (call_max2 rfl) (by rfl) T.zmax (by decide +kernel) (pa_cons (pcall T.lDraw (ok_lDraw T) hr (by decide) (by rfl) (pa_cons (pv 0) (pa_cons (pe_op op_add (pv 4) pe_int) pa_nil))) (pa_cons (pcall T.lDraw (ok_lDraw T) hr (by decide) (by rfl) (pa_cons (pv 0) (pa_cons (pe_op op_add (pv 4) pe_int) pa_nil))) pa_nil))))
      (pss_cons (ps_set (i := 10) sc_lPipeline.nd rfl (.inl rfl) (pcall T.lEntries (ok_lEntries T) hr (by decide) (by rfl) (pa_cons (pv 0) (pa_cons (pv 1) (pa_cons (pv 3) (pa_cons (pv 9) pa_nil))))))
      (pss_cons (ps_asg (pcall T.lBuffer (ok_lBuffer T) hr (by decide) (by rfl) (pa_cons (pv 0) (pa_cons (pv 2) (pa_cons (pe_callB call_lenT (by rfl) T.zlen PySem.boot_len (pa_cons (pe_ix ix_tupH (pv 1) pe_int (fun _ _ => rfl)) pa_nil)) (pa_cons (pv 5) pa_nil))))) (pg_tupH (pg_tup rfl (pgs_cons (pg_name (i := 11) sc_lPipeline.nd rfl (.inl rfl)) (pgs_cons (pg_name (i := 12) sc_lPipeline.nd rfl (.inl rfl)) pgs_nil)))))
      (pss_cons (ps_set (i := 13) sc_lPipeline.nd rfl (.inl rfl) (pe_and (pe_cmpR op_ge (pv 8) pe_int (nomark _)) (pe_one (pe_cmpR op_gt (pcall T.lDraw (ok_lDraw T) hr (by decide) (by rfl) (pa_cons (pv 0) (pa_cons pe_int pa_nil))) pe_int (nomark _)))))
      (pss_one (ps_ret (pe_tupH (pa_cons (pe_tupH (pa_cons (pv 3) (pa_cons (pv 6) (pa_cons pe_bl (pa_cons (pv 8) pa_nil))))) (pa_cons (pv 10) (pa_cons (pv 11) (pa_cons (pv 13) (pa_cons (pv 12) pa_nil)))))))))))))), ?_⟩
    rw [show L2.start N_lPipeline [V.ref t, v, V.str o, V.int pc, V.int room, V.int most] = [some (V.ref t), some v, some (V.str o), some (V.int pc), some (V.int room), some (V.int most), none, none, none, none, none, none, none, none] from rfl]
    walk_at "rd"
    intro p1 H1 s1 e1
    have c1 : Chg t H H1 := .same hT s1
    refine lc_rng 7 (by omega) (fun Qa qa => ?_) (fun D i H' => Ch2 t D H1 H' ∧ ∃ ws : List Int, H' D = some (.lst (ws.map V.int)) ∧ ws.length = i ∧ ∀ w ∈ ws, Wd w)
        (fun D nD => ⟨.start c1.tape (same_new nD), [], upd_same, rfl, fun w hw => nomatch hw⟩) (fun D nD i H' hi hv => ?_) (fun D nD H' hv => ?_)
    · walk_at "rd"
      exact qa
    · obtain ⟨d2, ws, w1, w2, w3⟩ := hv
      walk_at "rd"
      refine i_word d2.tape fun r H11 c11 wr => ?_
      have hDt : D ≠ t := ne_tape c1.tape nD
      have w1' := c11.keep D _ hDt w1
      walk_at "rs"
      refine ⟨sz1000 (by rw [List.length_map]; omega), .app c1.tape nD (d2.chg c11), ws ++ [r], by rw [List.map_append]; rfl, by rw [List.length_append, List.length_singleton, w2], fun w hw => ?_⟩
      rcases List.mem_append.mp hw with hw | hw
      · exact w3 w hw
      · rcases List.mem_singleton.mp hw with rfl
        exact wr
    obtain ⟨d2, ws, w1, w2, w3⟩ := hv
    have c2 := d2.fin nD
    walk_at "rd"
    have hP0 := hP
    obtain ⟨p, ca, ea, ma, cs, ms, rfl, h1, h2, h3, h4, h5, h6, h7, h8, h9⟩ := hP
    refine ⟨_, w1, fun q1 H3 s3 e3 => ?_⟩
    have g13 : Gr H1 H3 := (c2.then s3).gr c1.tape
    refine ⟨_, g13 _ _ e1, _, e3, by rw [List.length_map, List.length_singleton]; omega, fun q2 H4 s4 e4 => ?_⟩
    have c04 : Chg t H H4 := (c1.trans (c2.then s3)).then s4
    have k4 := c04.gr hT
    refine ⟨p, rfl, _, k4 _ _ h1, _, at2, ma, rfl, ms, k4 _ _ h3, ?_⟩
    refine i_draw c04.tape (by omega) (by omega) fun lk H5 c5 lk0 lk1 => ⟨lk, rfl, ?_⟩
    have c05 := c04.trans c5
    refine i_draw c05.tape (by omega) (by omega) fun x1 H6 c6 x10 x11 => ?_
    have c06 := c05.trans c6
    refine i_draw c06.tape (by omega) (by omega) fun x2 H7 c7 x20 x21 => ⟨x1, x2, ⟨rfl, rfl⟩, ?_⟩
    have c07 := c06.trans c7
    have hmx : ∃ k : Nat, k ≤ 12 ∧ (if x2 > x1 then x2 else x1) = (k : Int) := ⟨(if x2 > x1 then x2 else x1).toNat, by split <;> omega, by split <;> omega⟩
    obtain ⟨k, hk, ek⟩ := hmx
    rw [ek]
    refine ⟨t, V.ref p, n, m, pc, k, rfl, c07.tape, (c07.gr hT).prog hP0, hpc.1, hpc.2, hk, fun ae vs es H8 c8 ok8 len8 e8 ents8 => ?_⟩
    have c08 := c07.trans c8
    walk_at "rd"
    refine ⟨_, c08.gr hT _ _ h1, _, at2, ma, rfl, ms, c08.gr hT _ _ h3, ?_⟩
    refine ⟨t, o, _, most, rfl, c08.tape, by omega, by omega, hmo.1, hmo.2, fun pb vb z H9 c9 e9 hb z0 z1 => ⟨pb, rfl, _, e9, rfl, ?_⟩⟩
    have c09 := c08.trans c9
    have fin : ∀ (b : Bool) (H10 : Hp), Chg t H9 H10 → ∀ (p : Addr) (H' : Hp), Same H10 H' → H' p = some (HO.tup [V.int pc, V.ref q2, V.bl false, V.int (lk - 1)]) → ∀ (p_1 : Addr) (H'_1 : Hp), Same H' H'_1 →
        H'_1 p_1 = some (HO.tup [V.ref p, V.ref ae, vb, V.bl b, V.int z]) → Q (V.ref p_1) H'_1 := by
      intro b H10 c10 ps H11 s11 e11 pp H12 s12 e12
      have c9n : Chg t H9 H12 := (c10.then s11).then s12
      have c8n : Chg t H8 H12 := c9.trans c9n
      have c4n : Chg t H4 H12 := (((c5.trans c6).trans c7).trans c8).trans c8n
      have g8 := c8n.gr c08.tape
      refine q (.ref pp) ⟨.ref ps, vb, .bl b, .int z⟩ es (0 :: ws) H12 (c09.trans c9n) ⟨pp, ae, vs, rfl, e12, g8 _ _ e8, g8.ents ents8⟩ ⟨⟨ps, q2, pc, lk - 1, rfl, s12 _ _ e11, c4n.gr c04.tape _ _ e4, ⟨by omega, by omega⟩, by omega, by omega⟩, ⟨?_, ?_, rfl⟩, (c9n.gr c09.tape).buf hb, ⟨b, rfl⟩, ⟨z, rfl, z0, z1⟩⟩ ok8 (by omega)
      · rw [List.length_cons, w2]
      · intro w hw
        rcases List.mem_cons.mp hw with rfl | hw
        · exact ⟨by decide, by decide⟩
        · exact w3 w hw
    walk_at "rd"
    refine ite2 (fun _ => ?_) (fun _ => ?_)
    · refine i_draw c09.tape (by decide) (by decide) fun r H10 c10 r0 r1 => ?_
      exact ⟨r, rfl, fin _ H10 c10⟩
    · exact fin false H9 (.refl c09.tape)
end
end KW

namespace KW
open PySem PySem.Spec PyProof.Rows L2 KM
local macro_rules | `(tactic| walk_at "rd") => `(tactic| simp (config := { decide := true, maxSteps := 2000000 }) only [tSeq, tIfS, tTest, tOp, rI0, rI, rEq, rNe, sc_nn, sc_ni, sc_in, sc_nb, sc_bn, sc_ns, sc_sn, sc_ii, sc_bb, sc_ss, sc_is, sc_si, tVar, tC, tRet, tNext, tAsg, gName, tB, tCall, tCons, tNil, tCB, tUn, rU, tAnd, tOr, tNot, tAndV, tOrV, tNotV, tIf, CMul, CDiv, CPow,
  at0, at1, at2, at3, at4, at5, at6, rs_eq, rs_ne, rs_lt, rs_ge, rs_ltu, rs_geu, os_add, os_sub, os_mul, os_and, os_or, os_xor, os_slt, os_sltu, ks_addi, ks_load, ks_store, ks_swap, ks_fadd, ks_ll, ks_sc, ks_fence, ks_branch, ks_jump, ks_halt, in_ops, in_ats,
  rIxTH, rIxLH, rLenT, rLenL, rInC, rInL, rNotInL, rCatH, rSlH, tTupH, tLstH, rTupOf, gSub, rSetL, tDrop, tBM, rAppend, tYes, wipe, List.map_cons, List.map_nil, upd_same, upd_upd, gTupH, gc_cons, gc_nil, tSl, tPart, tNoPart, fl_n, fl_i, fl_b, fl_s, tInD, tInT, vals, kd_op, rest_op, kd_addi, rest_addi, kd_load, rest_load, kd_store, rest_store, kd_swap, rest_swap, kd_fadd, rest_fadd, kd_ll, rest_ll, kd_sc, rest_sc, kd_fence, rest_fence, kd_branch, rest_branch, kd_jump, rest_jump, kd_halt, rest_halt, in_l1, in_l2, in_l3, in_l4, in_l5, in_l6,
  List.getElem?_cons_zero, List.getElem?_cons_succ, List.set_cons_zero, List.set_cons_succ, Option.some.injEq, exists_eq_left', exists_eq_left, exists_and_left, exists_eq', exists_eq, V.int.injEq, V.bl.injEq, V.str.injEq, V.ref.injEq, HO.tup.injEq, HO.lst.injEq, decide_eq_true_eq, true_and, and_true, false_and, and_false, or_false, false_or, true_or, or_true, List.append_nil, List.cons_append, List.nil_append, List.cons.injEq,
  List.length_cons, List.length_nil, Nat.reduceAdd, Nat.reduceLeDiff, forall_const, reduceCtorEq, Bool.false_eq_true, if_true, if_false, Bool.not_true, Bool.not_false, Bool.not_eq_true', decide_eq_false_iff_not, decide_true, decide_false])
local macro_rules | `(tactic| walk_at "rs") => `(tactic| simp (config := { decide := true, maxSteps := 2000000 }) only [tSeq, tIfS, tTest, tOp, rI0, rI, rEq, rNe, sc_nn, sc_ni, sc_in, sc_nb, sc_bn, sc_ns, sc_sn, sc_ii, sc_bb, sc_ss, sc_is, sc_si, tVar, tC, tRet, tNext, tAsg, gName, tB, tCall, tCons, tNil, tCB, tUn, rU, tAnd, tOr, tNot, tAndV, tOrV, tNotV, tIf, CMul, CDiv, CPow,
  at0, at1, at2, at3, at4, at5, at6, rs_eq, rs_ne, rs_lt, rs_ge, rs_ltu, rs_geu, os_add, os_sub, os_mul, os_and, os_or, os_xor, os_slt, os_sltu, ks_addi, ks_load, ks_store, ks_swap, ks_fadd, ks_ll, ks_sc, ks_fence, ks_branch, ks_jump, ks_halt, in_ops, in_ats,
  rIxTH, rIxLH, rLenT, rLenL, rInC, rInL, rNotInL, rCatH, rSlH, tTupH, tLstH, rTupOf, gSub, rSetL, tDrop, tBM, rAppend, tYes, wipe, List.map_cons, List.map_nil, upd_same, upd_upd, gTupH, gc_cons, gc_nil, tSl, tPart, tNoPart, fl_n, fl_i, fl_b, fl_s, tInD, tInT, vals, kd_op, rest_op, kd_addi, rest_addi, kd_load, rest_load, kd_store, rest_store, kd_swap, rest_swap, kd_fadd, rest_fadd, kd_ll, rest_ll, kd_sc, rest_sc, kd_fence, rest_fence, kd_branch, rest_branch, kd_jump, rest_jump, kd_halt, rest_halt, in_l1, in_l2, in_l3, in_l4, in_l5, in_l6,
  List.getElem?_cons_zero, List.getElem?_cons_succ, List.set_cons_zero, List.set_cons_succ, Option.some.injEq, exists_eq_left', exists_eq_left, exists_and_left, exists_eq', exists_eq, V.int.injEq, V.bl.injEq, V.str.injEq, V.ref.injEq, HO.tup.injEq, HO.lst.injEq, decide_eq_true_eq, true_and, and_true, false_and, and_false, or_false, false_or, true_or, or_true, List.append_nil, List.cons_append, List.nil_append, List.cons.injEq,
  List.length_cons, List.length_nil, Nat.reduceAdd, Nat.reduceLeDiff, forall_const, reduceCtorEq, Bool.false_eq_true, if_true, if_false, Bool.not_true, Bool.not_false, Bool.not_eq_true', decide_eq_false_iff_not, decide_true, decide_false, *])
theorem lc_lst {K : PySem.W.Frag} {te : TE} {g : TG} {tt : TT} {te' : TE} {vs : List Nat} {σ : L2.St} {H : Hp} {Q : VK} (a : Addr) (xs : List V) (h : H a = some (.lst xs)) (e : ∀ Qa : VK, Qa (.ref a) H → te σ H Qa) (Pv : Addr → Nat → Hp → Prop) (h0 : ∀ D, H D = none → Pv D 0 (upd H D (.lst [])))
    (hl : ∀ D, H D = none → ∀ i H', Pv D i H' → H' a = some (.lst xs))
    (hs : ∀ D, H D = none → ∀ i x H', xs[i]? = some x → Pv D i H' → g x (wipe σ vs) H' fun σ2 H2 => wipe σ2 vs = wipe σ vs ∧ tt σ2 H2 fun b H3 => if b = true then te' σ2 H3 fun y H4 => ∃ acc, H4 D = some (.lst acc) ∧ acc.length < sizeLine ∧ Pv D (i + 1) (upd H4 D (.lst (acc ++ [y]))) else Pv D (i + 1) H3)
    (hd : ∀ D, H D = none → ∀ H', Pv D xs.length H' → Q (.ref D) H') : tLc (iList K te) g tt te' vs σ H Q := by
  refine e _ ⟨a, rfl, ⟨xs, .inl (.inl h)⟩, ?_⟩
  exact fun D nD => lc_list (Pv D) (h0 D nD) (fun i H' _ p => .inl (.inl (hl D nD i H' p))) (fun i x H' hx p => hs D nD i x H' hx p) (fun H' p => hd D nD H' p)
abbrev exAt (regs : List Int) (es : List Ent) (i : Nat) : Option (List Ent) := execAt Builtin.bitAnd Builtin.bitOr Builtin.bitXor regs es i
def Res (H : Hp) (R : KW.Rest) (regs : List Int) (es : List Ent) (i : Nat) (v : V) : Prop := match exAt regs es i with
  | none => v = .non
  | some es' => PipeAt H v R es'
theorem Gr.res {H H' : Hp} (g : Gr H H') {R : KW.Rest} {regs : List Int} {es : List Ent} {i : Nat} {v : V} (h : Res H R regs es i v) : Res H' R regs es i v := by
  unfold Res at h ⊢
  cases e : exAt regs es i with
  | none => rw [e] at h; exact h
  | some es' => rw [e] at h; exact g.pipe h
theorem pipe_ref {H : Hp} {v : V} {R : KW.Rest} {es : List Ent} (h : PipeAt H v R es) : v ≠ .non := by
  obtain ⟨p, _, _, rfl, _⟩ := h
  exact fun z => (nomatch z)
section
variable {P : Program} {w : World} {K : PySem.W.Frag} {mg : Str → Option Value} {base : Heap}
def spRow : Sp := fun vs H Q _ => ∃ (t : Addr) (v : V) (R : KW.Rest) (es : List Ent) (regs : List Int), vs = [.ref t, v] ∧ Tape H t ∧ PipeAt H v R es ∧ RestOk H R regs ∧ AllOk es ∧ es.length ≤ 12 ∧
  ∀ v' es' H', Chg t H H' → PipeAt H' v' R es' → RowAt Builtin.bitAnd Builtin.bitOr Builtin.bitXor regs es es.length es' → Q v' H'
theorem ok_lSomeRow (T : Txt K mg) : FnOk P w K mg base CX0 6 T.lSomeRow.f T.lSomeRow.fd ["_law_tape_here", "_law_pipeline_here"] spRow := by
  refine T.lSomeRow.F.ok sc_lSomeRow (fun vs H Q E h => ?_) (fun cdv A outer s H vs Q E hr h => ?_)
  · obtain ⟨t, v, R, es, regs, rfl, _⟩ := h
    rfl
  · obtain ⟨t, v, R, es, regs, rfl, hT, hP, hR, ok, hl, q⟩ := h
    refine ⟨_, (pss_cons (ps_for PassesOwn.never rfl (pi_range1 rfl T.zrange (pa_cons (pe_callB call_lenT (by rfl) T.zlen PySem.boot_len (pa_cons (pe_ix ix_tupH (pv 1) pe_int (fun _ _ => rfl)) pa_nil)) pa_nil)) (pg_name (i := 2) sc_lSomeRow.nd rfl (.inl rfl))
        (pss_cons (ps_setLc (i := 3) (own := [("_law_index", 4)]) (g := gName 4) rfl sc_lSomeRow.nd rfl rfl (sw_true rfl rfl rfl (by decide +kernel)) (pi_range1 rfl T.zrange (pa_cons (pe_callB call_lenT (by rfl) T.zlen PySem.boot_len (pa_cons (pe_ix ix_tupH (pv 1) pe_int (fun _ _ => rfl)) pa_nil)) pa_nil)) (blkOk_by (N := N_lSomeRow) (sc := defScope s_lSomeRow) (by decide +kernel)) (fun _ _ _ _ _ => pg_name (i := 4) sc_lSomeRow.nd rfl (Or.inl rfl)) (fun _ _ _ _ _ => pts_nil) (fun _ _ _ _ _ => (pcall T.execute (ok_execute T) hr (by decide) (by rfl) (pa_cons (pv 1) (pa_cons (pv 4) pa_nil)))))
        (pss_cons (ps_setLc (i := 5) (own := [("_law_told", 6)]) (g := gName 6) rfl sc_lSomeRow.nd rfl rfl (sw_true rfl rfl rfl (by decide +kernel)) (pi_list (pv 3)) (blkOk_by (N := N_lSomeRow) (sc := defScope s_lSomeRow) (by decide +kernel)) (fun _ _ _ _ _ => pg_name (i := 6) sc_lSomeRow.nd rfl (Or.inl rfl)) (fun _ _ _ _ _ => (pts_one (pt_cmpR op_notN (pv 6) pe_non (nomark _)))) (fun _ _ _ _ _ => (pv 6)))
        (pss_one (ps_if (pt_truth (pv 5) (by intro _; rfl))
        (pss_one (ps_set (i := 1) sc_lSomeRow.nd rfl (.inr rfl) (pe_ix ix_listH (pv 5) (pcall T.lDraw (ok_lDraw T) hr (by decide) (by rfl) (pa_cons (pv 0) (pa_cons (pe_callB call_lenL (by rfl) T.zlen PySem.boot_len (pa_cons (pv 5) pa_nil)) pa_nil))) (fun _ _ => rfl))))
        pss_nil)))))
      (pss_one (ps_ret (pv 1)))), ?_⟩
    rw [show L2.start N_lSomeRow [V.ref t, v] = [some (V.ref t), some v, none, none, none, none, none] from rfl]
    have hP0 := hP
    obtain ⟨p, a, xs, rfl, h1, h2, h3⟩ := hP
    have ln : xs.length = es.length := h3.1
    walk_at "rd"
    refine for_rng es.length (by omega) (fun Qa qa => ?_) (fun i σ H' => Chg t H H' ∧ ∃ (v' : V) (es' : List Ent) (j1 j2 j3 j4 j5 : Option V), σ = [some (V.ref t), some v', j1, j2, j3, j4, j5] ∧ PipeAt H' v' R es' ∧ RowAt Builtin.bitAnd Builtin.bitOr Builtin.bitXor regs es i es')
      ⟨.refl hT, _, es, none, none, none, none, none, rfl, hP0, .start ok⟩ (fun i σ H1 hi hv => ?_) (fun σ H1 hv => ?_)
    · walk_at "rs"
    · obtain ⟨c1, v', es', j1, j2, j3, j4, j5, rfl, hP1, row⟩ := hv
      have hP1' := hP1
      obtain ⟨p', a', xs', rfl, k1, k2, k3⟩ := hP1
      have ln' : xs'.length = es'.length := k3.1
      have le' := row.len
      have hR1 := (c1.gr hT).rest hR
      walk_at "rd"
      refine lc_rng es'.length (by omega) (fun Qa qa => ?_) (fun D i H' => Ch2 t D H1 H' ∧ ∃ rs : List V, H' D = some (.lst rs) ∧ rs.length = i ∧ ∀ (j : Nat) (r : V), rs[j]? = some r → Res H' R regs es' j r)
        (fun D nD => ⟨.start c1.tape (same_new nD), [], upd_same, rfl, fun j r e => by simp at e⟩) (fun D nD i2 H' hi2 hv => ?_) (fun D nD H' hv => ?_)
      · walk_at "rs"
      · obtain ⟨d2, rs, w1, w2, w3⟩ := hv
        have g := d2.gr c1.tape nD
        walk_at "rd"
        refine ⟨.ref p', i2, R, es', regs, rfl, g.pipe hP1', (g.rest hR1).stAt, hR1.regs, row.ok, by omega, fun v'' H2 s2 hp => ?_⟩
        have w1' := s2 _ _ w1
        walk_at "rs"
        refine ⟨sz1000 (by omega), .app c1.tape nD (d2.chg (.same d2.tape s2)), by rw [List.length_append, List.length_singleton, w2], fun j r e => ?_⟩
        have gu := gr_upd (o := .lst (rs ++ [v''])) w1'
        have gg : Gr H' (upd H2 D (.lst (rs ++ [v'']))) := (gr_same s2).trans gu
        rw [List.getElem?_append] at e
        split at e
        · exact gg.res (w3 j r e)
        · rename_i hj
          have h0 : j - rs.length = 0 := by
            cases z : j - rs.length with
            | zero => rfl
            | succ k => rw [z] at e; simp at e
          rw [h0] at e
          obtain rfl : v'' = r := Option.some.inj e
          have ej : j = i2 := by omega
          subst ej
          exact gu.res hp
      obtain ⟨d2, rs, w1, w2, w3⟩ := hv
      (try walk_at "rd")
      have c2 : Chg t H1 H' := d2.fin nD
      have hDt : D ≠ t := ne_tape c1.tape nD
      refine lc_lst D rs w1 (fun Qa qa => ?_) (fun D2 i H2 => Ch2 t D2 H' H2 ∧ ∃ fs : List V, H2 D2 = some (.lst fs) ∧ fs.length ≤ i ∧ (∀ f ∈ fs, ∃ (j : Nat) (es2 : List Ent), j < es'.length ∧ exAt regs es' j = some es2 ∧ PipeAt H2 f R es2) ∧ (fs = [] → ∀ j, j < i → exAt regs es' j = none))
        (fun D2 nD2 => ⟨.start c2.tape (same_new nD2), [], upd_same, Nat.le_refl _, fun f hf => (nomatch hf), fun _ j hj => absurd hj (Nat.not_lt_zero _)⟩)
        (fun D2 nD2 i H2 z => z.1.keep D _ hDt (ne_of_none w1 nD2) w1) (fun D2 nD2 i2 x H2 hx hv => ?_) (fun D2 nD2 H2 hv => ?_)
      · walk_at "rd"
        exact qa
      · obtain ⟨f2, fs, g1, g2, g3, g4⟩ := hv
        have hi2 : i2 < rs.length := (List.getElem?_eq_some_iff.mp hx).1
        have hres : Res H2 R regs es' i2 x := (f2.gr c2.tape nD2).res (w3 i2 x hx)
        walk_at "rd"
        unfold Res at hres
        cases e : exAt regs es' i2 with
        | none =>
          rw [e] at hres
          obtain rfl : x = .non := hres
          rw [if_neg (fun h => h rfl)]
          refine ⟨f2, fs, g1, by omega, fun f hf => let ⟨j, e3, q1, q2, q3⟩ := g3 f hf; ⟨j, q1, e3, q2, q3⟩, fun hf j hj => ?_⟩
          by_cases hj2 : j < i2
          · exact g4 hf j hj2
          · rw [show j = i2 by omega]
            exact e
        | some es2 =>
          rw [e] at hres
          have hres : PipeAt H2 x R es2 := hres
          rw [if_pos (pipe_ref hres)]
          have gu := gr_upd (o := .lst (fs ++ [x])) g1
          refine ⟨fs, g1, sz1000 (by omega), .app c2.tape nD2 f2, by rw [List.length_append, List.length_singleton]; omega, fun f hf => ?_, fun hf => absurd hf (by simp)⟩
          rcases List.mem_append.mp hf with hf | hf
          · obtain ⟨j, e3, q1, q2, q3⟩ := g3 f hf
            exact ⟨j, q1, e3, q2, gu.pipe q3⟩
          · rcases List.mem_singleton.mp hf with rfl
            exact ⟨i2, by omega, es2, e, gu.pipe hres⟩
      obtain ⟨f2, fs, g1, g2, g3, g4⟩ := hv
      have c3 : Chg t H1 H2 := c2.trans (f2.fin nD2)
      have c03 := c1.trans c3
      rw [w2] at g2 g4
      have hD2t : D2 ≠ t := ne_tape c2.tape nD2
      refine ⟨!fs.isEmpty, .inl ⟨fs, .inl (.inl g1), rfl⟩, ?_⟩
      cases fs with
      | nil =>
        refine iteF ?_
        refine ⟨c03, _, es', _, _, _, _, _, ⟨rfl, rfl, rfl, rfl, rfl, rfl⟩, (c3.gr c1.tape).pipe hP1', row.turn bits_ok hR.regs (.inr ⟨fun j => ?_, rfl⟩)⟩
        by_cases hj : j < es'.length
        · exact g4 rfl j hj
        · exact execAt_end (by omega)
      | cons f0 fr =>
        refine iteT ?_
        have hlen : (f0 :: fr).length = fr.length + 1 := rfl
        walk_at "rd"
        refine ⟨_, g1, ?_⟩
        refine i_draw c03.tape (by rw [hlen]; omega) (by omega) fun r H3 c4 r0 r1 => ?_
        refine ⟨r, rfl, _, c4.keep D2 _ hD2t g1, ?_⟩
        have hr : r.toNat < (f0 :: fr).length := by omega
        obtain ⟨j, es2, q1, q2, q3⟩ := g3 _ (List.getElem_mem hr)
        refine ⟨_, at_of (j := r.toNat) (by omega) (List.getElem?_eq_getElem hr), c03.trans c4, _, es2, _, _, _, _, _, ⟨rfl, rfl, rfl, rfl, rfl, rfl⟩, (c4.gr c03.tape).pipe q3, row.turn bits_ok hR.regs (.inl ⟨j, q1, q2⟩)⟩
    · obtain ⟨c1, v', es', j1, j2, j3, j4, j5, rfl, hP1, row⟩ := hv
      walk_at "rd"
      exact q v' es' H1 c1 hP1 row
end
end KW

namespace KW
open PySem PySem.Spec PyProof.Rows L2 KM
local macro_rules | `(tactic| walk_at "rd") => `(tactic| simp (config := { decide := true, maxSteps := 2000000 }) only [tSeq, tIfS, tTest, tOp, rI0, rI, rEq, rNe, sc_nn, sc_ni, sc_in, sc_nb, sc_bn, sc_ns, sc_sn, sc_ii, sc_bb, sc_ss, sc_is, sc_si, tVar, tC, tRet, tNext, tAsg, gName, tB, tCall, tCons, tNil, tCB, tUn, rU, tAnd, tOr, tNot, tAndV, tOrV, tNotV, tIf, CMul, CDiv, CPow,
  at0, at1, at2, at3, at4, at5, at6, rs_eq, rs_ne, rs_lt, rs_ge, rs_ltu, rs_geu, os_add, os_sub, os_mul, os_and, os_or, os_xor, os_slt, os_sltu, ks_addi, ks_load, ks_store, ks_swap, ks_fadd, ks_ll, ks_sc, ks_fence, ks_branch, ks_jump, ks_halt, in_ops, in_ats,
  rIxTH, rIxLH, rLenT, rLenL, rInC, rInL, rNotInL, rCatH, rSlH, tTupH, tLstH, rTupOf, gSub, rSetL, tDrop, tBM, rAppend, tYes, wipe, List.map_cons, List.map_nil, upd_same, upd_upd, gTupH, gc_cons, gc_nil, tSl, tPart, tNoPart, fl_n, fl_i, fl_b, fl_s, tInD, tInT, vals, kd_op, rest_op, kd_addi, rest_addi, kd_load, rest_load, kd_store, rest_store, kd_swap, rest_swap, kd_fadd, rest_fadd, kd_ll, rest_ll, kd_sc, rest_sc, kd_fence, rest_fence, kd_branch, rest_branch, kd_jump, rest_jump, kd_halt, rest_halt, in_l1, in_l2, in_l3, in_l4, in_l5, in_l6,
  List.getElem?_cons_zero, List.getElem?_cons_succ, List.set_cons_zero, List.set_cons_succ, Option.some.injEq, exists_eq_left', exists_eq_left, exists_and_left, exists_eq', exists_eq, V.int.injEq, V.bl.injEq, V.str.injEq, V.ref.injEq, HO.tup.injEq, HO.lst.injEq, decide_eq_true_eq, true_and, and_true, false_and, and_false, or_false, false_or, true_or, or_true, List.append_nil, List.cons_append, List.nil_append, List.cons.injEq,
  List.length_cons, List.length_nil, Nat.reduceAdd, Nat.reduceLeDiff, forall_const, reduceCtorEq, Bool.false_eq_true, if_true, if_false, Bool.not_true, Bool.not_false, Bool.not_eq_true', decide_eq_false_iff_not, decide_true, decide_false])
local macro_rules | `(tactic| walk_at "rs") => `(tactic| simp (config := { decide := true, maxSteps := 2000000 }) only [tSeq, tIfS, tTest, tOp, rI0, rI, rEq, rNe, sc_nn, sc_ni, sc_in, sc_nb, sc_bn, sc_ns, sc_sn, sc_ii, sc_bb, sc_ss, sc_is, sc_si, tVar, tC, tRet, tNext, tAsg, gName, tB, tCall, tCons, tNil, tCB, tUn, rU, tAnd, tOr, tNot, tAndV, tOrV, tNotV, tIf, CMul, CDiv, CPow,
  at0, at1, at2, at3, at4, at5, at6, rs_eq, rs_ne, rs_lt, rs_ge, rs_ltu, rs_geu, os_add, os_sub, os_mul, os_and, os_or, os_xor, os_slt, os_sltu, ks_addi, ks_load, ks_store, ks_swap, ks_fadd, ks_ll, ks_sc, ks_fence, ks_branch, ks_jump, ks_halt, in_ops, in_ats,
  rIxTH, rIxLH, rLenT, rLenL, rInC, rInL, rNotInL, rCatH, rSlH, tTupH, tLstH, rTupOf, gSub, rSetL, tDrop, tBM, rAppend, tYes, wipe, List.map_cons, List.map_nil, upd_same, upd_upd, gTupH, gc_cons, gc_nil, tSl, tPart, tNoPart, fl_n, fl_i, fl_b, fl_s, tInD, tInT, vals, kd_op, rest_op, kd_addi, rest_addi, kd_load, rest_load, kd_store, rest_store, kd_swap, rest_swap, kd_fadd, rest_fadd, kd_ll, rest_ll, kd_sc, rest_sc, kd_fence, rest_fence, kd_branch, rest_branch, kd_jump, rest_jump, kd_halt, rest_halt, in_l1, in_l2, in_l3, in_l4, in_l5, in_l6,
  List.getElem?_cons_zero, List.getElem?_cons_succ, List.set_cons_zero, List.set_cons_succ, Option.some.injEq, exists_eq_left', exists_eq_left, exists_and_left, exists_eq', exists_eq, V.int.injEq, V.bl.injEq, V.str.injEq, V.ref.injEq, HO.tup.injEq, HO.lst.injEq, decide_eq_true_eq, true_and, and_true, false_and, and_false, or_false, false_or, true_or, or_true, List.append_nil, List.cons_append, List.nil_append, List.cons.injEq,
  List.length_cons, List.length_nil, Nat.reduceAdd, Nat.reduceLeDiff, forall_const, reduceCtorEq, Bool.false_eq_true, if_true, if_false, Bool.not_true, Bool.not_false, Bool.not_eq_true', decide_eq_false_iff_not, decide_true, decide_false, *])
/-! ### what is shown: the data of a pipeline -/
structure DOk (d : PyData) (N k : Nat) : Prop where
  sh : d.showable = true
  nd : d.hasDict = false
  lv : d.leavesShort 13 = true
  wt : d.weight ≤ N
  dp : d.depth ≤ k
theorem DOk.mono {d : PyData} {N M k l : Nat} (h : DOk d N k) (a : N ≤ M) (b : k ≤ l) : DOk d M l := ⟨h.sh, h.nd, h.lv, Nat.le_trans h.wt a, Nat.le_trans h.dp b⟩
theorem log_lt {n k : Nat} (h : n < 2 ^ k) (hk : 0 < k) : n.log2 < k := by
  by_cases h0 : n = 0
  · subst h0
    exact hk
  · exact (Nat.log2_lt h0).mpr h
theorem dok_none : DOk .none 0 0 := ⟨rfl, by simp only [PyData.hasDict], by simp only [PyData.leavesShort], by simp only [PyData.weight]; exact Nat.le_refl _, by simp only [PyData.depth]; exact Nat.le_refl _⟩
theorem dok_bool (b : Bool) : DOk (.bool b) 0 0 := ⟨rfl, by simp only [PyData.hasDict], by simp only [PyData.leavesShort], by simp only [PyData.weight]; exact Nat.le_refl _, by simp only [PyData.depth]; exact Nat.le_refl _⟩
theorem dok_int {i : Int} (h0 : -1000000 ≤ i) (h1 : i ≤ 1000000) : DOk (.int i) 30 0 := by
  have hn : i.natAbs < 2 ^ 20 := by
    have e : (2 : Nat) ^ 20 = 1048576 := by decide
    rw [e]
    omega
  have hl := log_lt hn (by decide)
  refine ⟨?_, by simp only [PyData.hasDict], ?_, ?_, by simp only [PyData.depth]; exact Nat.le_refl _⟩
  · simp only [PyData.showable, decide_eq_true_eq]
    omega
  · simp only [PyData.leavesShort, PyData.shown]
    have h2 : i.natAbs < 10 ^ 8 := by
      have e : (10 : Nat) ^ 8 = 100000000 := by decide
      rw [e]
      omega
    have h3 := int_text_length_le10 (k := 8) (by decide) h2
    have h4 : (Str.ofString (toString i)).length = (toString i).length := PySem.ofString_length _
    have h5 : ((toString i : String) : Str).length ≤ 13 := by
      show (Str.ofString (toString i)).length ≤ 13
      omega
    exact decide_eq_true h5
  · simp only [PyData.weight]
    split <;> omega
theorem dok_str {x : Str} (h : x.cps.size ≤ 30) (hc : (x.cps.toList.all fun c => decide (c < 16 ^ 8)) = true) : DOk (.str x) 30 0 :=
  ⟨rfl, by simp only [PyData.hasDict], by simp only [PyData.leavesShort]; exact hc, by simp only [PyData.weight]; exact h, by simp only [PyData.depth]; exact Nat.le_refl _⟩
theorem dok_all {N k : Nat} : ∀ {ds : List PyData}, (∀ d ∈ ds, DOk d N k) → PyData.showableAll ds = true ∧ PyData.hasDictAll ds = false ∧ PyData.leavesShortAll 13 ds = true ∧ PyData.weightAll ds ≤ ds.length * (N + 1) ∧ PyData.depthAll ds ≤ k
  | [], _ => by simp [PyData.showableAll, PyData.hasDictAll, PyData.leavesShortAll, PyData.weightAll, PyData.depthAll]
  | d :: r, h => by
    obtain ⟨a1, a2, a3, a4, a5⟩ := dok_all (ds := r) fun x hx => h x (List.mem_cons_of_mem _ hx)
    have b := h d List.mem_cons_self
    refine ⟨by simp only [PyData.showableAll, b.sh, a1, Bool.and_self], by simp only [PyData.hasDictAll, b.nd, a2, Bool.or_self], by simp only [PyData.leavesShortAll, b.lv, a3, Bool.and_self], ?_, ?_⟩
    · simp only [PyData.weightAll, List.length_cons, Nat.add_mul, Nat.one_mul]
      have := b.wt
      omega
    · simp only [PyData.depthAll]
      exact Nat.max_le.mpr ⟨b.dp, a5⟩
theorem dok_tup {N k M : Nat} {ds : List PyData} (h : ∀ d ∈ ds, DOk d N k) (hl : ds.length ≤ M) : DOk (.tuple ds) (M * (N + 1)) (k + 1) := by
  obtain ⟨a1, a2, a3, a4, a5⟩ := dok_all h
  refine ⟨by simp only [PyData.showable]; exact a1, by simp only [PyData.hasDict]; exact a2, by simp only [PyData.leavesShort]; exact a3, ?_, ?_⟩
  · simp only [PyData.weight]
    exact Nat.le_trans a4 (Nat.mul_le_mul_right _ hl)
  · simp only [PyData.depth]
    exact Nat.succ_le_succ a5
/-! flat values -/
def flD : V → PyData
  | .int i => .int i
  | .str x => .str x
  | .bl b => .bool b
  | _ => .none
structure FlOk (v : V) : Prop where
  dok : DOk (flD v) 30 0
  dp : ∀ (K : PySem.W.Frag) (H : Hp), Dp K H v (flD v)
theorem fl_int {i : Int} (h0 : -1000000 ≤ i) (h1 : i ≤ 1000000) : FlOk (.int i) := ⟨dok_int h0 h1, fun K H => .int i⟩
theorem fl_str {x : Str} (h : x.cps.size ≤ 30) (hc : (x.cps.toList.all fun c => decide (c < 16 ^ 8)) = true) : FlOk (.str x) := ⟨dok_str h hc, fun K H => .str x⟩
theorem fl_non : FlOk .non := ⟨dok_none.mono (by decide) (by decide), fun K H => .non⟩
theorem fl_bl (b : Bool) : FlOk (.bl b) := ⟨(dok_bool b).mono (by decide) (by decide), fun K H => .bl b⟩
theorem dp_fl {K : PySem.W.Frag} {H : Hp} : ∀ {xs : List V}, (∀ x ∈ xs, FlOk x) → DpAll K H xs (xs.map flD)
  | [], _ => .nil
  | x :: r, h => .cons ((h x List.mem_cons_self).dp K H) (dp_fl fun y hy => h y (List.mem_cons_of_mem _ hy))
theorem dp_flat {K : PySem.W.Frag} {H : Hp} {p : Addr} {xs : List V} (h : H p = some (.tup xs)) (f : ∀ x ∈ xs, FlOk x) (hl : xs.length ≤ 10) : Dp K H (.ref p) (.tuple (xs.map flD)) ∧ DOk (.tuple (xs.map flD)) 310 1 := by
  refine ⟨.tup (.inl (.inl h)) (dp_fl f), ?_⟩
  refine dok_tup (N := 30) (k := 0) (M := 10) (fun d hd => ?_) (by rw [List.length_map]; exact hl)
  obtain ⟨x, hx, rfl⟩ := List.mem_map.mp hd
  exact (f x hx).dok
theorem fl_reg {n : Int} (h : Reg n) : FlOk (.int n) := fl_int (by have := h.1; omega) (by have := h.2; omega)
theorem fl_wd {n : Int} (h : Wd n) : FlOk (.int n) := fl_int (by have := h.1; omega) (by have := h.2; omega)
theorem fl_tgt {n : Int} (h : Tgt n) : FlOk (.int n) := fl_int (by have := h.1; omega) (by have := h.2; omega)
theorem fl_kd (k : Kd) : FlOk (.str (kdS k)) := by
  rcases k with o | _ | _ | _ | _ | _ | _ | _ | _ | _ | _ | _
  · cases o <;> exact fl_str (by decide +kernel) (by decide +kernel)
  all_goals exact fl_str (by decide +kernel) (by decide +kernel)
theorem fl_rel (r : Rel) : FlOk (.str (relS r)) := by cases r <;> exact fl_str (by decide +kernel) (by decide +kernel)
theorem fl_fen (r : Fen) : FlOk (.str (fenS r)) := by cases r <;> exact fl_str (by decide +kernel) (by decide +kernel)
theorem all3 {a b c : V} (h1 : FlOk a) (h2 : FlOk b) (h3 : FlOk c) : ∀ x ∈ [a, b, c], FlOk x := fun x hx => by
  rcases List.mem_cons.mp hx with rfl | hx
  · exact h1
  rcases List.mem_cons.mp hx with rfl | hx
  · exact h2
  rcases List.mem_singleton.mp hx with rfl
  exact h3
theorem all2 {a b : V} (h1 : FlOk a) (h2 : FlOk b) : ∀ x ∈ [a, b], FlOk x := fun x hx => by
  rcases List.mem_cons.mp hx with rfl | hx
  · exact h1
  rcases List.mem_singleton.mp hx with rfl
  exact h2
theorem all1 {a : V} (h1 : FlOk a) : ∀ x ∈ [a], FlOk x := fun x hx => by
  rcases List.mem_singleton.mp hx with rfl
  exact h1
theorem fl_rest {i : Ins} (ok : i.Ok) : ∀ x ∈ KW.rest i, FlOk x := by
  cases i with
  | op o d a b => exact all3 (fl_reg ok.1) (fl_reg ok.2.1) (fl_reg ok.2.2)
  | addi d a n => exact all3 (fl_reg ok.1) (fl_reg ok.2.1) (fl_wd ok.2.2)
  | load d a n => exact all3 (fl_reg ok.1) (fl_reg ok.2.1) (fl_wd ok.2.2)
  | store d a n => exact all3 (fl_reg ok.1) (fl_reg ok.2.1) (fl_wd ok.2.2)
  | swap d a b => exact all3 (fl_reg ok.1) (fl_reg ok.2.1) (fl_reg ok.2.2)
  | fadd d a b => exact all3 (fl_reg ok.1) (fl_reg ok.2.1) (fl_reg ok.2.2)
  | ll d a => exact all2 (fl_reg ok.1) (fl_reg ok.2)
  | sc d a b => exact all3 (fl_reg ok.1) (fl_reg ok.2.1) (fl_reg ok.2.2)
  | fence z => exact all1 (fl_fen z)
  | branch r a b t =>
    intro x hx
    rcases List.mem_cons.mp hx with rfl | hx
    · exact fl_rel r
    · exact all3 (fl_reg ok.1) (fl_reg ok.2.1) (fl_tgt ok.2.2) x hx
  | jump t => exact all1 (fl_tgt ok)
  | halt => exact fun x hx => (nomatch hx)
theorem fl_vals {i : Ins} (ok : i.Ok) : ∀ x ∈ vals i, FlOk x := fun x hx => by
  rcases List.mem_cons.mp hx with rfl | hx
  · exact fl_kd _
  · exact fl_rest ok x hx
theorem vals_len (i : Ins) : (vals i).length ≤ 10 := by cases i <;> (show _ ≤ 10; simp [vals, KW.rest])
def insD : Option Ins → PyData
  | none => .none
  | some i => .tuple ((vals i).map flD)
theorem dp_ins {K : PySem.W.Frag} {H : Hp} {v : V} {i : Option Ins} (h : OIns H v i) (ok : ∀ x, i = some x → x.Ok) : Dp K H v (insD i) ∧ DOk (insD i) 310 1 := by
  cases i with
  | none =>
    obtain rfl : v = .non := h
    exact ⟨.non, dok_none.mono (by decide) (by decide)⟩
  | some i =>
    obtain ⟨p, rfl, h⟩ := h
    exact dp_flat h (fl_vals (ok i rfl)) (vals_len i)
theorem fl_o {o : Option Int} (h : ∀ n, o = some n → -1000000 ≤ n ∧ n ≤ 1000000) : FlOk (oV o) := by
  cases o with
  | none => exact fl_non
  | some n => exact fl_int (h n rfl).1 (h n rfl).2
theorem fl_owd {o : Option Int} (h : OWd o) : FlOk (oV o) := fl_o fun n e => by
  subst e
  exact ⟨by have := h.1; omega, by have := h.2; omega⟩
theorem fl_otm {o : Option Int} (h : OTm o) : FlOk (oV o) := fl_o fun n e => by
  subst e
  exact ⟨by have := h.1; omega, by have := h.2; omega⟩
theorem fl_pl {p : KM.Place} (h : p.Ok) : FlOk (plV p) := by
  cases p with
  | no => exact fl_non
  | out => exact fl_str (by decide +kernel) (by decide +kernel)
  | «at» a => exact fl_int (by have := h.1; omega) (by have := h.2; omega)
def entD (e : Ent) : PyData := .tuple [.int e.pc, insD e.ins, .int e.succ, flD (oV e.pred), flD (oV e.res), flD (plV e.place), flD (oV e.time)]
theorem dp_ent {K : PySem.W.Frag} {H : Hp} {v : V} {e : Ent} (h : EntAt H v e) (ok : e.Ok) : Dp K H v (entD e) ∧ DOk (entD e) 3000 2 := by
  obtain ⟨a, iv, rfl, hI, ha⟩ := h
  obtain ⟨d1, d2⟩ := dp_ins (K := K) hI ok.ins
  have f1 : FlOk (.int e.pc) := fl_int (by have := ok.pc.1; omega) (by have := ok.pc.2; omega)
  have f2 : FlOk (.int e.succ) := fl_int (by have := ok.succ.1; omega) (by have := ok.succ.2; omega)
  have f3 := fl_owd ok.pred
  have f4 := fl_owd ok.res
  have f5 := fl_pl ok.place
  have f6 := fl_otm ok.time
  refine ⟨.tup (.inl (.inl ha)) (.cons (.int _) (.cons d1 (.cons (.int _) (.cons (f3.dp K H) (.cons (f4.dp K H) (.cons (f5.dp K H) (.cons (f6.dp K H) .nil))))))), ?_⟩
  have up : ∀ {d : PyData}, DOk d 30 0 → DOk d 310 1 := fun h => h.mono (by decide) (by decide)
  refine (dok_tup (N := 310) (k := 1) (M := 7) (fun d hd => ?_) (Nat.le_refl _)).mono (by decide) (by decide)
  simp only [List.mem_cons, List.not_mem_nil, or_false] at hd
  rcases hd with rfl | rfl | rfl | rfl | rfl | rfl | rfl
  · exact up f1.dok
  · exact d2
  · exact up f2.dok
  · exact up f3.dok
  · exact up f4.dok
  · exact up f5.dok
  · exact up f6.dok
theorem dp_ents {K : PySem.W.Frag} {H : Hp} : ∀ {vs : List V} {es : List Ent}, EntsAt H vs es → AllOk es → DpAll K H vs (es.map entD)
  | [], [], _, _ => .nil
  | v :: vs, e :: es, h, ok => .cons (dp_ent (h.2 0 v e rfl rfl) (ok e List.mem_cons_self)).1 (dp_ents ⟨Nat.succ.inj h.1, fun i v' e' h1 h2 => h.2 (i + 1) v' e' h1 h2⟩ fun x hx => ok x (List.mem_cons_of_mem _ hx))
  | [], _ :: _, h, _ => nomatch h.1
  | _ :: _, [], h, _ => nomatch h.1
theorem dp_pipe {K : PySem.W.Frag} {H : Hp} {v : V} {R : KW.Rest} {es : List Ent} {d1 d3 d4 d5 : PyData} (h : PipeAt H v R es) (ok : AllOk es) (hl : es.length ≤ 12) (h1 : Dp K H R.st d1) (h3 : Dp K H R.buf d3) (h4 : Dp K H R.held d4) (h5 : Dp K H R.steps d5)
    (o1 : DOk d1 40000 3) (o3 : DOk d3 40000 3) (o4 : DOk d4 40000 3) (o5 : DOk d5 40000 3) : Dp K H v (.tuple [d1, .tuple (es.map entD), d3, d4, d5]) ∧ DOk (.tuple [d1, .tuple (es.map entD), d3, d4, d5]) 300000 4 := by
  obtain ⟨p, a, vs, rfl, g1, g2, g3⟩ := h
  have oe : DOk (.tuple (es.map entD)) 40000 3 := by
    refine (dok_tup (N := 3000) (k := 2) (M := 12) (fun d hd => ?_) (by rw [List.length_map]; exact hl)).mono (by decide) (by decide)
    obtain ⟨e, he, rfl⟩ := List.mem_map.mp hd
    obtain ⟨i, hi, rfl⟩ := List.getElem_of_mem he
    obtain ⟨v, _, hv⟩ := g3.get (List.getElem?_eq_getElem hi)
    exact (dp_ent (K := K) hv (ok _ he)).2
  refine ⟨.tup (.inl (.inl g1)) (.cons h1 (.cons (.tup (.inl (.inl g2)) (dp_ents g3 ok)) (.cons h3 (.cons h4 (.cons h5 .nil))))), ?_⟩
  refine (dok_tup (N := 40000) (k := 3) (M := 5) (fun d hd => ?_) (Nat.le_refl _)).mono (by decide) (by decide)
  simp only [List.mem_cons, List.not_mem_nil, or_false] at hd
  rcases hd with rfl | rfl | rfl | rfl | rfl
  · exact o1
  · exact oe
  · exact o3
  · exact o4
  · exact o5
theorem dp_items {K : PySem.W.Frag} {H : Hp} : ∀ {vs : List V}, BItems H vs → ∃ ds, DpAll K H vs ds ∧ ds.length = vs.length ∧ ∀ d ∈ ds, DOk d 310 1
  | [], _ => ⟨[], .nil, rfl, fun d hd => nomatch hd⟩
  | v :: vs, h => by
    obtain ⟨ds, h1, h2, h3⟩ := dp_items (K := K) (vs := vs) fun x hx => h x (List.mem_cons_of_mem _ hx)
    obtain ⟨p, xs, rfl, hp, hx⟩ := h v List.mem_cons_self
    have hf : ∀ x ∈ xs, FlOk x := by
      rcases hx with rfl | ⟨a, w, s, rfl, ha, hw, hs⟩
      · exact fun x hx => by rcases List.mem_singleton.mp hx with rfl; exact fl_str (by decide +kernel) (by decide +kernel)
      · intro x hx
        rcases List.mem_cons.mp hx with rfl | hx
        · exact fl_str (by decide +kernel) (by decide +kernel)
        · exact all3 (fl_int (by omega) (by omega)) (fl_int (by omega) (by omega)) (fl_int (by omega) (by omega)) x hx
    have hl : xs.length ≤ 10 := by
      rcases hx with rfl | ⟨a, w, s, rfl, _⟩
      · exact (by decide : (1 : Nat) ≤ 10)
      · exact (by decide : (4 : Nat) ≤ 10)
    obtain ⟨q1, q2⟩ := dp_flat (K := K) hp hf hl
    exact ⟨_ :: ds, .cons q1 h1, by rw [List.length_cons, List.length_cons, h2], fun d hd => by
      rcases List.mem_cons.mp hd with rfl | hd
      · exact q2
      · exact h3 d hd⟩
theorem dp_rest {K : PySem.W.Frag} {H : Hp} {R : KW.Rest} {regs : List Int} (h : RestOk H R regs) : ∃ d1 d3 d4 d5, (Dp K H R.st d1 ∧ Dp K H R.buf d3 ∧ Dp K H R.held d4 ∧ Dp K H R.steps d5) ∧ DOk d1 40000 3 ∧ DOk d3 40000 3 ∧ DOk d4 40000 3 ∧ DOk d5 40000 3 := by
  obtain ⟨s, w, pc, lk, e1, h1, h2, hpc, hlk⟩ := h.st
  obtain ⟨ab, vs, e3, g1, g2, g3⟩ := h.buf
  obtain ⟨b, e4⟩ := h.held
  obtain ⟨z, e5, z0, z1⟩ := h.steps
  obtain ⟨ds, b1, b2, b3⟩ := dp_items (K := K) g3
  have hw : ∀ x ∈ regs.map V.int, FlOk x := fun x hx => by
    obtain ⟨n, hn, rfl⟩ := List.mem_map.mp hx
    exact fl_wd (h.regs.2.1 n hn)
  obtain ⟨w1, w2⟩ := dp_flat (K := K) h2 hw (by rw [List.length_map, h.regs.1]; decide)
  have up : ∀ {d : PyData}, DOk d 30 0 → DOk d 310 1 := fun h => h.mono (by decide) (by decide)
  have f1 : FlOk (.int pc) := fl_int (by omega) (by omega)
  have f2 : FlOk (.int lk) := fl_int (by omega) (by omega)
  have f5 : FlOk (.int z) := fl_int (by omega) (by omega)
  rw [e1, e3, e4, e5]
  refine ⟨_, _, _, _, ⟨.tup (.inl (.inl h1)) (.cons (.int _) (.cons w1 (.cons (.bl _) (.cons (.int _) .nil)))), .tup (.inl (.inl g1)) b1, .bl b, .int z⟩, ?_, ?_, (dok_bool b).mono (by decide) (by decide), f5.dok.mono (by decide) (by decide)⟩
  · refine (dok_tup (N := 310) (k := 1) (M := 4) (fun d hd => ?_) (Nat.le_refl _)).mono (by decide) (by decide)
    simp only [List.mem_cons, List.not_mem_nil, or_false] at hd
    rcases hd with rfl | rfl | rfl | rfl
    · exact up f1.dok
    · exact w2
    · exact (dok_bool false).mono (by decide) (by decide)
    · exact up f2.dok
  · exact (dok_tup (N := 310) (k := 1) (M := 40) b3 (by omega)).mono (by decide) (by decide)
/-- repr of such data, where nothing is being shown around -/
theorem call_reprD {X : Cx} {k : Nat} (hg : X.A.guards = some []) (hr : Room k X.A) : CallR X (.builtin "repr") (fun xs H Q => ∃ a d, xs = [.ref a] ∧ Dp X.K H (.ref a) d ∧ DOk d 300000 4 ∧ Q (.str d.shown) H) := by
  intro pins s σ H xs us Q I r h
  obtain ⟨a, d, rfl, hd, ok, q⟩ := h
  obtain ⟨u, rfl, ru⟩ := vals1 r
  cases ru
  obtain ⟨as, rd⟩ := Dp.reads I d (.ref a) (.ref a) hd rfl
  have hu := hr.un
  have hdp := ok.dp
  refine repr_of_reads' rd ok.sh (PyData.noDict_hsm ok.nd) hg (by omega) (fun _ _ e => e) (fun h' u tk hk => ⟨.str d.shown, H, I.kept (t' := tk) hk, ⟨u, rfl⟩, q⟩) ?_
  exact PyData.shown_fits (B := 13) (by decide) (by decide) ok.lv (Nat.le_trans ok.wt (by decide))
end KW

namespace KW
open PySem PySem.Spec PyProof.Rows L2 KM
local macro_rules | `(tactic| walk_at "rd") => `(tactic| simp (config := { decide := true, maxSteps := 2000000 }) only [tSeq, tIfS, tTest, tOp, rI0, rI, rEq, rNe, sc_nn, sc_ni, sc_in, sc_nb, sc_bn, sc_ns, sc_sn, sc_ii, sc_bb, sc_ss, sc_is, sc_si, tVar, tC, tRet, tNext, tAsg, gName, tB, tCall, tCons, tNil, tCB, tUn, rU, tAnd, tOr, tNot, tAndV, tOrV, tNotV, tIf, CMul, CDiv, CPow,
  at0, at1, at2, at3, at4, at5, at6, rs_eq, rs_ne, rs_lt, rs_ge, rs_ltu, rs_geu, os_add, os_sub, os_mul, os_and, os_or, os_xor, os_slt, os_sltu, ks_addi, ks_load, ks_store, ks_swap, ks_fadd, ks_ll, ks_sc, ks_fence, ks_branch, ks_jump, ks_halt, in_ops, in_ats,
  rIxTH, rIxLH, rLenT, rLenL, rInC, rInL, rNotInL, rCatH, rSlH, tTupH, tLstH, rTupOf, gSub, rSetL, tDrop, tBM, rAppend, tYes, wipe, List.map_cons, List.map_nil, upd_same, upd_upd, gTupH, gc_cons, gc_nil, tSl, tPart, tNoPart, fl_n, fl_i, fl_b, fl_s, tInD, tInT, vals, kd_op, rest_op, kd_addi, rest_addi, kd_load, rest_load, kd_store, rest_store, kd_swap, rest_swap, kd_fadd, rest_fadd, kd_ll, rest_ll, kd_sc, rest_sc, kd_fence, rest_fence, kd_branch, rest_branch, kd_jump, rest_jump, kd_halt, rest_halt, in_l1, in_l2, in_l3, in_l4, in_l5, in_l6,
  List.getElem?_cons_zero, List.getElem?_cons_succ, List.set_cons_zero, List.set_cons_succ, Option.some.injEq, exists_eq_left', exists_eq_left, exists_and_left, exists_eq', exists_eq, V.int.injEq, V.bl.injEq, V.str.injEq, V.ref.injEq, HO.tup.injEq, HO.lst.injEq, decide_eq_true_eq, true_and, and_true, false_and, and_false, or_false, false_or, true_or, or_true, List.append_nil, List.cons_append, List.nil_append, List.cons.injEq,
  List.length_cons, List.length_nil, Nat.reduceAdd, Nat.reduceLeDiff, forall_const, reduceCtorEq, Bool.false_eq_true, if_true, if_false, Bool.not_true, Bool.not_false, Bool.not_eq_true', decide_eq_false_iff_not, decide_true, decide_false])
local macro_rules | `(tactic| walk_at "rs") => `(tactic| simp (config := { decide := true, maxSteps := 2000000 }) only [tSeq, tIfS, tTest, tOp, rI0, rI, rEq, rNe, sc_nn, sc_ni, sc_in, sc_nb, sc_bn, sc_ns, sc_sn, sc_ii, sc_bb, sc_ss, sc_is, sc_si, tVar, tC, tRet, tNext, tAsg, gName, tB, tCall, tCons, tNil, tCB, tUn, rU, tAnd, tOr, tNot, tAndV, tOrV, tNotV, tIf, CMul, CDiv, CPow,
  at0, at1, at2, at3, at4, at5, at6, rs_eq, rs_ne, rs_lt, rs_ge, rs_ltu, rs_geu, os_add, os_sub, os_mul, os_and, os_or, os_xor, os_slt, os_sltu, ks_addi, ks_load, ks_store, ks_swap, ks_fadd, ks_ll, ks_sc, ks_fence, ks_branch, ks_jump, ks_halt, in_ops, in_ats,
  rIxTH, rIxLH, rLenT, rLenL, rInC, rInL, rNotInL, rCatH, rSlH, tTupH, tLstH, rTupOf, gSub, rSetL, tDrop, tBM, rAppend, tYes, wipe, List.map_cons, List.map_nil, upd_same, upd_upd, gTupH, gc_cons, gc_nil, tSl, tPart, tNoPart, fl_n, fl_i, fl_b, fl_s, tInD, tInT, vals, kd_op, rest_op, kd_addi, rest_addi, kd_load, rest_load, kd_store, rest_store, kd_swap, rest_swap, kd_fadd, rest_fadd, kd_ll, rest_ll, kd_sc, rest_sc, kd_fence, rest_fence, kd_branch, rest_branch, kd_jump, rest_jump, kd_halt, rest_halt, in_l1, in_l2, in_l3, in_l4, in_l5, in_l6,
  List.getElem?_cons_zero, List.getElem?_cons_succ, List.set_cons_zero, List.set_cons_succ, Option.some.injEq, exists_eq_left', exists_eq_left, exists_and_left, exists_eq', exists_eq, V.int.injEq, V.bl.injEq, V.str.injEq, V.ref.injEq, HO.tup.injEq, HO.lst.injEq, decide_eq_true_eq, true_and, and_true, false_and, and_false, or_false, false_or, true_or, or_true, List.append_nil, List.cons_append, List.nil_append, List.cons.injEq,
  List.length_cons, List.length_nil, Nat.reduceAdd, Nat.reduceLeDiff, forall_const, reduceCtorEq, Bool.false_eq_true, if_true, if_false, Bool.not_true, Bool.not_false, Bool.not_eq_true', decide_eq_false_iff_not, decide_true, decide_false, *])
section
variable {P : Program} {w : World} {K : PySem.W.Frag} {mg : Str → Option Value} {base : Heap}
theorem same_chg {t : Addr} {H H' : Hp} (hT : Tape H t) (s : Same H H') : Chg t H H' := .same hT s
theorem law_body (T : Txt K mg) (cdv : Value) (A : Around) (outer : List Env) (s : Shared) (H : Hp) (a : Addr) (ns : List Int) (Q : VK) (E : XK) (hr : Room 6 (A.deeper (envOfC (Str.ofString "law") (defScope s_law) s.heap.objs.size T.law.f cdv))) (hg : (A.deeper (envOfC (Str.ofString "law") (defScope s_law) s.heap.objs.size T.law.f cdv)).guards = some [])
    (hS : SqL K H a (ns.map V.int)) (q : ∀ H', Q (.bl true) H') : ∃ t, PSs (cxOf CX0 P w K mg base N_law (Str.ofString "law") (defScope s_law) T.law.f cdv A outer s H E).nox (defBody s_law) t ∧ t { nx := fun _ H' => Q .non H', rt := Q } (L2.start N_law [V.ref a]) H := by
  refine ⟨_, (pss_cons (ps_set (i := 1) sc_law.nd rfl (.inl rfl) (pcall T.lTape (ok_lTape T) hr (by decide) (by rfl) (pa_cons (pv 0) pa_nil)))
      (pss_cons (ps_set (i := 2) sc_law.nd rfl (.inl rfl) (pcall T.lProgram (ok_lProgram T) hr (by decide) (by rfl) (pa_cons (pv 1) (pa_cons (pe_lstH (pa_cons pe_int (pa_cons pe_int (pa_cons pe_int (pa_cons pe_int (pa_cons pe_int (pa_cons pe_int (pa_cons pe_int (pa_cons pe_int (pa_cons pe_int (pa_cons pe_int (pa_cons pe_int (pa_cons pe_int (pa_cons pe_int (pa_cons pe_int (pa_cons pe_int (pa_cons pe_int (pa_cons pe_int (pa_cons pe_int (pa_cons pe_int pa_nil)))))))))))))))))))) pa_nil))))
      (pss_cons (ps_set (i := 3) sc_law.nd rfl (.inl rfl) (pe_ix ix_listH (pe_lstH (pa_cons pe_str (pa_cons pe_str (pa_cons pe_str (pa_cons pe_str pa_nil))))) (pcall T.lDraw (ok_lDraw T) hr (by decide) (by rfl) (pa_cons (pv 1) (pa_cons pe_int pa_nil))) (fun _ _ => rfl)))
      (pss_cons (ps_set (i := 4) sc_law.nd rfl (.inl rfl) (pe_ix ix_listH (pe_lstH (pa_cons pe_int (pa_cons pe_int (pa_cons pe_int (pa_cons pe_int (pa_cons pe_int (pa_cons pe_int (pa_cons pe_int (pa_cons pe_int pa_nil))))))))) (pcall T.lDraw (ok_lDraw T) hr (by decide) (by rfl) (pa_cons (pv 1) (pa_cons pe_int pa_nil))) (fun _ _ => rfl)))
      (pss_cons (ps_set (i := 5) sc_law.nd rfl (.inl rfl) (pcall T.lPipeline (ok_lPipeline T) hr (by decide) (by rfl) (pa_cons (pv 1) (pa_cons (pv 2) (pa_cons (pv 3) (pa_cons (pcall T.lPc (ok_lPc T) hr (by decide) (by rfl) (pa_cons (pv 1) (pa_cons (pv 2) (pa_cons (pe_lstH pa_nil) pa_nil)))) (pa_cons (pe_op op_add pe_int (pe_op op_mul pe_int (pv 4))) (pa_cons (pe_op op_add pe_int (pe_op op_mul pe_int (pv 4))) pa_nil))))))))
      (pss_cons (ps_set (i := 6) sc_law.nd rfl (.inl rfl) (pcall T.lOnePass (ok_lOnePass bits_ok T) hr (by decide) (by rfl) (pa_cons (pv 5) pa_nil)))
      (pss_cons (ps_for PassesOwn.never rfl (pi_range1 rfl T.zrange (pa_cons pe_int pa_nil)) (pg_name (i := 7) sc_law.nd rfl (.inl rfl))
        (pss_cons (ps_set (i := 8) sc_law.nd rfl (.inl rfl) (pcall T.lSomeRow (ok_lSomeRow T) hr (by decide) (by rfl) (pa_cons (pv 1) (pa_cons (pv 5) pa_nil))))
        (pss_cons (ps_if (pt_cmpR op_ne (pe_callB (call_reprD hg hr) (by rfl) T.zrepr (by decide +kernel) (pa_cons (pv 8) pa_nil)) (pe_callB (call_reprD hg hr) (by rfl) T.zrepr (by decide +kernel) (pa_cons (pv 6) pa_nil)) (nomark _))
          (pss_one (ps_ret pe_bl))
          pss_nil)
        (pss_one (ps_for PassesOwn.never rfl (pi_range1 rfl T.zrange (pa_cons (pe_callB call_lenT (by rfl) T.zlen PySem.boot_len (pa_cons (pe_ix ix_tupH (pv 8) pe_int (fun _ _ => rfl)) pa_nil)) pa_nil)) (pg_name (i := 9) sc_law.nd rfl (.inl rfl))
        (pss_one (ps_if (pt_cmpR op_notN (pcall T.execute (ok_execute T) hr (by decide) (by rfl) (pa_cons (pv 8) (pa_cons (pv 9) pa_nil))) pe_non (nomark _))
        (pss_one (ps_ret pe_bl))
        pss_nil)))))))
      (pss_one (ps_ret pe_bl))))))))), ?_⟩
  rw [show L2.start N_law [V.ref a] = [some (V.ref a), none, none, none, none, none, none, none, none, none] from rfl]
  walk_at "rd"
  refine ⟨a, ns, rfl, hS, fun t H1 hT nt => ?_⟩
  walk_at "rd"
  intro pk H2 s2 nk e2
  have hkt : pk ≠ t := ne_tape hT nk
  refine ⟨t, pk, [0, 1, 0, 2, 2, 1, 3, 4, 5, 12, 13, 12, 14, 7, 8, 9, 10, 11, 15], rfl, hT.grown s2, e2, hkt, by decide, by decide, by decide, fun pv n m H3 c3 hP => ?_⟩
  intro p4 H4 s4 n4 e4
  refine i_menu c3.tape s4 n4 e4 (by decide) (by decide) fun r H5 c5 e5 r0 r1 => ⟨r, rfl, _, e5, ?_⟩
  have hord : ∃ o : Str, atI [V.str (Str.ofString "sc"), V.str (Str.ofString "tso"), V.str (Str.ofString "pso"), V.str (Str.ofString "wmm")] r = some (V.str o) := by
    have : r = 0 ∨ r = 1 ∨ r = 2 ∨ r = 3 := by omega
    rcases this with rfl | rfl | rfl | rfl
    · exact ⟨_, at0⟩
    · exact ⟨_, at1⟩
    · exact ⟨_, at2⟩
    · exact ⟨_, at3⟩
  obtain ⟨o, eo⟩ := hord
  refine ⟨_, eo, fun p6 H6 s6 n6 e6 => ?_⟩
  refine i_menu c5.tape s6 n6 e6 (by decide) (by decide) fun r2 H7 c7 e7 r20 r21 => ⟨r2, rfl, _, e7, ?_⟩
  obtain ⟨lg, hlg, elg⟩ := menu_int (xs := [0, 0, 0, 0, 0, 0, 0, 1]) r20 r21
  have hlg := (by decide : ∀ z ∈ ([0, 0, 0, 0, 0, 0, 0, 1] : List Int), 0 ≤ z ∧ z ≤ 1) lg hlg
  refine ⟨_, elg, fun p8 H8 s8 n8 e8 => ?_⟩
  have c38 : Chg t H3 H8 := (c5.trans c7).then s8
  refine ⟨t, p8, pv, n, m, rfl, c38.tape, e8, ne_tape c7.tape n8, (c38.gr c3.tape).prog hP, fun pc H9 c9 pc0 pc1 => ?_⟩
  have c39 := c38.trans c9
  walk_at "rd"
  refine ⟨t, pv, n, m, o, pc, _, _, rfl, c39.tape, (c39.gr c3.tape).prog hP, ⟨pc0, pc1⟩, ⟨by omega, by omega⟩, ⟨by omega, by omega⟩, fun pipe R es regs H10 c10 hp hrest ok hl => ?_⟩
  walk_at "rd"
  refine ⟨pipe, R, es, regs, rfl, hp, hrest.stAt, hrest.regs, ok, by omega, fun due H11 s11 hdue => ?_⟩
  have c11 : Chg t H11 H11 := .refl (c10.tape.grown s11)
  have hp11 := (gr_same s11).pipe hp
  have hr11 := (gr_same s11).rest hrest
  walk_at "rd"
  refine for_rng 2 (by omega) (fun Qa qa => ?_) (fun i σ H' => Chg t H11 H' ∧ ∃ j1 j2 j3 : Option V, σ = [some (V.ref a), some (V.ref t), some pv, some (V.str o), some (V.int lg), some pipe, some due, j1, j2, j3])
    ⟨c11, none, none, none, rfl⟩ (fun i σ H12 hi hv => ?_) (fun σ H12 hv => ?_)
  · walk_at "rd"
    exact qa
  · obtain ⟨c12, j1, j2, j3, rfl⟩ := hv
    have g12 := c12.gr c11.tape
    walk_at "rd"
    refine ⟨t, pipe, R, es, regs, rfl, c12.tape, g12.pipe hp11, g12.rest hr11, ok, hl, fun told es' H13 c13 htold row => ?_⟩
    have c113 := c12.trans c13
    have g13 := c113.gr c11.tape
    have hdue13 := g13.pipe hdue
    have hr13 := g13.rest hr11
    obtain ⟨stuck, est⟩ := row.done
    obtain ⟨d1, d3, d4, d5, ⟨q1, q3, q4, q5⟩, o1, o3, o4, o5⟩ := dp_rest (K := K) hr13
    have hl' : es'.length ≤ 12 := Nat.le_trans row.len hl
    obtain ⟨w1, w2⟩ := dp_pipe (K := K) htold row.ok hl' q1 q3 q4 q5 o1 o3 o4 o5
    rw [← est] at hdue13
    obtain ⟨v1, v2⟩ := dp_pipe (K := K) hdue13 row.ok hl' q1 q3 q4 q5 o1 o3 o4 o5
    clear est
    have htold0 := htold
    obtain ⟨pt, ta, txs, rfl, t1, t2, t3⟩ := htold
    obtain ⟨pd, da, dxs, rfl, _⟩ := hdue13
    walk_at "rd"
    refine ⟨_, w1, w2, _, v1, v2, ?_⟩
    rw [if_neg (fun h => h rfl)]
    have lt : txs.length = es'.length := t3.1
    refine for_rng es'.length (by omega) (fun Qa qa => ?_) (fun i2 σ H' => Same H13 H' ∧ ∃ j3 : Option V, σ = [some (V.ref a), some (V.ref t), some pv, some (V.str o), some (V.int lg), some pipe, some (V.ref pd), some (V.int i), some (V.ref pt), j3])
      ⟨Same.refl _, j3, rfl⟩ (fun i2 σ H14 hi2 hv => ?_) (fun σ H14 hv => ?_)
    · walk_at "rs"
      try exact qa
    · obtain ⟨s14, j, rfl⟩ := hv
      have g14 := gr_same s14
      walk_at "rd"
      refine ⟨V.ref pt, i2, R, es', regs, rfl, g14.pipe htold0, (g14.rest hr13).stAt, hr13.regs, row.ok, by omega, fun v' H15 s15 hv' => ?_⟩
      rw [stuck i2] at hv'
      obtain rfl : v' = .non := hv'
      walk_at "rd"
      exact s14.trans s15
    · obtain ⟨s14, j, rfl⟩ := hv
      exact ⟨c113.then s14, _, _, _, rfl⟩
  · obtain ⟨c12, j1, j2, j3, rfl⟩ := hv
    walk_at "rd"
    exact q H12
end
end KW

namespace KW
open PySem PySem.Spec PyProof.Rows L2 KM
local macro_rules | `(tactic| walk_at "rd") => `(tactic| simp (config := { decide := true, maxSteps := 2000000 }) only [tSeq, tIfS, tTest, tOp, rI0, rI, rEq, rNe, sc_nn, sc_ni, sc_in, sc_nb, sc_bn, sc_ns, sc_sn, sc_ii, sc_bb, sc_ss, sc_is, sc_si, tVar, tC, tRet, tNext, tAsg, gName, tB, tCall, tCons, tNil, tCB, tUn, rU, tAnd, tOr, tNot, tAndV, tOrV, tNotV, tIf, CMul, CDiv, CPow,
  at0, at1, at2, at3, at4, at5, at6, rs_eq, rs_ne, rs_lt, rs_ge, rs_ltu, rs_geu, os_add, os_sub, os_mul, os_and, os_or, os_xor, os_slt, os_sltu, ks_addi, ks_load, ks_store, ks_swap, ks_fadd, ks_ll, ks_sc, ks_fence, ks_branch, ks_jump, ks_halt, in_ops, in_ats,
  rIxTH, rIxLH, rLenT, rLenL, rInC, rInL, rNotInL, rCatH, rSlH, tTupH, tLstH, rTupOf, gSub, rSetL, tDrop, tBM, rAppend, tYes, wipe, List.map_cons, List.map_nil, upd_same, upd_upd, gTupH, gc_cons, gc_nil, tSl, tPart, tNoPart, fl_n, fl_i, fl_b, fl_s, tInD, tInT, vals, kd_op, rest_op, kd_addi, rest_addi, kd_load, rest_load, kd_store, rest_store, kd_swap, rest_swap, kd_fadd, rest_fadd, kd_ll, rest_ll, kd_sc, rest_sc, kd_fence, rest_fence, kd_branch, rest_branch, kd_jump, rest_jump, kd_halt, rest_halt, in_l1, in_l2, in_l3, in_l4, in_l5, in_l6,
  List.getElem?_cons_zero, List.getElem?_cons_succ, List.set_cons_zero, List.set_cons_succ, Option.some.injEq, exists_eq_left', exists_eq_left, exists_and_left, exists_eq', exists_eq, V.int.injEq, V.bl.injEq, V.str.injEq, V.ref.injEq, HO.tup.injEq, HO.lst.injEq, decide_eq_true_eq, true_and, and_true, false_and, and_false, or_false, false_or, true_or, or_true, List.append_nil, List.cons_append, List.nil_append, List.cons.injEq,
  List.length_cons, List.length_nil, Nat.reduceAdd, Nat.reduceLeDiff, forall_const, reduceCtorEq, Bool.false_eq_true, if_true, if_false, Bool.not_true, Bool.not_false, Bool.not_eq_true', decide_eq_false_iff_not, decide_true, decide_false])
local macro_rules | `(tactic| walk_at "rs") => `(tactic| simp (config := { decide := true, maxSteps := 2000000 }) only [tSeq, tIfS, tTest, tOp, rI0, rI, rEq, rNe, sc_nn, sc_ni, sc_in, sc_nb, sc_bn, sc_ns, sc_sn, sc_ii, sc_bb, sc_ss, sc_is, sc_si, tVar, tC, tRet, tNext, tAsg, gName, tB, tCall, tCons, tNil, tCB, tUn, rU, tAnd, tOr, tNot, tAndV, tOrV, tNotV, tIf, CMul, CDiv, CPow,
  at0, at1, at2, at3, at4, at5, at6, rs_eq, rs_ne, rs_lt, rs_ge, rs_ltu, rs_geu, os_add, os_sub, os_mul, os_and, os_or, os_xor, os_slt, os_sltu, ks_addi, ks_load, ks_store, ks_swap, ks_fadd, ks_ll, ks_sc, ks_fence, ks_branch, ks_jump, ks_halt, in_ops, in_ats,
  rIxTH, rIxLH, rLenT, rLenL, rInC, rInL, rNotInL, rCatH, rSlH, tTupH, tLstH, rTupOf, gSub, rSetL, tDrop, tBM, rAppend, tYes, wipe, List.map_cons, List.map_nil, upd_same, upd_upd, gTupH, gc_cons, gc_nil, tSl, tPart, tNoPart, fl_n, fl_i, fl_b, fl_s, tInD, tInT, vals, kd_op, rest_op, kd_addi, rest_addi, kd_load, rest_load, kd_store, rest_store, kd_swap, rest_swap, kd_fadd, rest_fadd, kd_ll, rest_ll, kd_sc, rest_sc, kd_fence, rest_fence, kd_branch, rest_branch, kd_jump, rest_jump, kd_halt, rest_halt, in_l1, in_l2, in_l3, in_l4, in_l5, in_l6,
  List.getElem?_cons_zero, List.getElem?_cons_succ, List.set_cons_zero, List.set_cons_succ, Option.some.injEq, exists_eq_left', exists_eq_left, exists_and_left, exists_eq', exists_eq, V.int.injEq, V.bl.injEq, V.str.injEq, V.ref.injEq, HO.tup.injEq, HO.lst.injEq, decide_eq_true_eq, true_and, and_true, false_and, and_false, or_false, false_or, true_or, or_true, List.append_nil, List.cons_append, List.nil_append, List.cons.injEq,
  List.length_cons, List.length_nil, Nat.reduceAdd, Nat.reduceLeDiff, forall_const, reduceCtorEq, Bool.false_eq_true, if_true, if_false, Bool.not_true, Bool.not_false, Bool.not_eq_true', decide_eq_false_iff_not, decide_true, decide_false, *])
/-! ### the law's own call: what runs around it shows nothing (repr asks that), so it is entered here and not by a promise for every caller -/
section
variable {P : Program} {w : World} {K : PySem.W.Frag} {mg mb : Str → Option Value} {s1 : Shared} {a : Addr} {vs : List Value} {ns : List Int} {H : Hp}
structure Entry (P : Program) (w : World) (K : PySem.W.Frag) (mg : Str → Option Value) (s1 : Shared) (a : Addr) (H : Hp) : Prop where
  kin : K.In s1.heap
  glob : s1.heap.Ns mainGlobals mg
  blt : ∃ mb, s1.heap.Ns builtinsNs mb ∧ ∀ x : Str, x ≠ "__name__" → mb x = bootBuiltins x
  lim : s1.heap.NoLimit
  bare : s1.gens = #[]
  script : ∃ vs : List Value, s1.heap.get? a = some { cls := .type "list", data := .seq vs.toArray }
  hok : HOk P w H s1.heap
  only : ∀ b, H b ≠ none → b = a
  free : H a ≠ none → K.lookup a = none
theorem Entry.untracked (e : Entry P w K mg s1 a H) {b : Addr} (h : b ≠ a) : H b = none := Decidable.byContradiction fun z => h (e.only b z)
theorem Entry.stays (e : Entry P w K mg s1 a H) {b : Addr} {o : Obj} (h : s1.heap.get? b = some o) (n : b ≠ a) : (hidT s1.heap H).get? b = some o := hidT_get h (e.untracked n)
theorem Entry.space (e : Entry P w K mg s1 a H) {b : Addr} {m : Str → Option Value} (h : s1.heap.Ns b m) : (hidT s1.heap H).Ns b m := by
  obtain ⟨o, es, ep, h1, h2, h3⟩ := h
  refine ⟨o, es, ep, e.stays h1 fun z => ?_, h2, h3⟩
  obtain ⟨ws, hw⟩ := e.script
  rw [z, hw] at h1
  have h1 := Option.some.inj h1
  rw [← h1] at h2
  exact nomatch h2
theorem Entry.known (e : Entry P w K mg s1 a H) : K.In (hidT s1.heap H) := fun b o h => by
  have h1 := e.kin b o h
  by_cases z : b = a
  · refine hidT_get h1 ?_
    cases y : H b with
    | none => rfl
    | some u =>
      rw [z] at y h
      have := e.free (by rw [y]; exact nofun)
      rw [this] at h
      exact nomatch h
  · exact e.stays h1 z
theorem Entry.mod (e : Entry P w K mg s1 a H) : Mod K mg (hidT s1.heap H) := by
  obtain ⟨mb, b1, b2⟩ := e.blt
  obtain ⟨mc, l1, l2⟩ := e.lim
  exact { kin := e.known, glob := e.space e.glob, blt := ⟨mb, e.space b1, b2⟩, nolimit := ⟨mc, e.space l1, l2⟩ }
theorem Entry.env (e : Entry P w K mg s1 a H) : Env0 P w K mg (hidT s1.heap H) callerA [] s1 H :=
  { frames := rfl, mod := e.mod, bs := fun b o h => of_hidT h, bsz := Nat.le_of_eq (hidT_size _ _), funs := trivial, frf := fun b hb => absurd hb List.not_mem_nil, hok := e.hok, bare := .of_eq e.bare }
theorem room_law : Room 7 callerA := { hd := rfl, dp := by decide, un := by decide }
theorem enter (T : Txt K mg) (e : Entry P w K mg s1 a H) (hS : SqL K H a (ns.map V.int)) (hfrz : ∀ b u, H b = some u → ∃ o x, u = .frz o x) :
    codeAny (model P w) callerA (.call (.ref T.law.f) ⟨[.ref a], []⟩) (fun r s' => r = .ok (.ret (.bool true)) ∧ OldK s1.heap s'.heap ∧ s'.os = s1.os ∧ AllBare s'.gens) s1 := by
  have E0' := e.env
  have rm := room_law
  obtain ⟨oc, od, kV, doc, pm, an, cdv, ct, osl, hfd, lk, hcd⟩ := T.law.F.ex
  have hbind := T.law.b s1 [.ref a] e.kin rfl
  rw [hfd] at hbind lk
  have par : ∀ y ∈ (["_law_script"] : List Str).zip ([Value.ref a] ++ []), (defScope s_law).names.lookup y.1 = some .local ∨ ((defScope s_law).names.lookup y.1 = some .cell ∧ ((cellsFrom (s1.heap.objs.size + 1) (defScope s_law).names []).lookup y.1).isSome = true) := fun y hy => by
    rcases List.mem_singleton.mp hy with rfl
    exact .inl rfl
  refine codeAny_call_function rm.depth (e.kin _ _ lk) rfl sc_law.co sc_law.gen rfl (PySem.W.codeRec_of e.kin hcd) (hbind _ _ _ _ ?_)
  refine wpAny_newFunctionEnv_cells sc_law.kind par fun env he s2 x => ?_
  subst he
  refine ⟨e.lim.keeps x.toInCall.keep, codeAny_func ?_⟩
  obtain ⟨t, ht, hq⟩ := law_body (P := P) (w := w) (base := hidT s1.heap H) T cdv callerA [] s1 H a ns (fun v _ => v = .bl true) E0 (rm.deeper _) rfl hS (fun _ => rfl)
  have I := inv_start (CX := CX0) (E := E0) (f := T.law.f) (cd := cdv) (qual := Str.ofString "law") sc_law rm.hd E0' (vs := [V.ref a]) (us := [.ref a]) rfl (.cons rfl .nil) x
  refine wpAny_mono (ht.nox.run [] s2 (L2.start N_law [V.ref a]) H _ I hq) (fun fl s' hs => ?_) fun z s' hs => ?_
  · have fin : ∀ {σ' : L2.St} {H' : Hp} {v : V} {u : Value}, Inv (cxOf CX0 P w K mg (hidT s1.heap H) N_law (Str.ofString "law") (defScope s_law) T.law.f cdv callerA [] s1 H E0) [] σ' H' s' → RelV v u → v = .bl true →
        (Except.ok (Flow.ret u) : Result) = .ok (.ret (.bool true)) ∧ OldK s1.heap s'.heap ∧ s'.os = s1.os ∧ AllBare s'.gens := by
      intro σ' H' v u J rv ev
      subst ev
      obtain rfl : u = Value.bool true := rv
      refine ⟨rfl, OldK.of_keep fun b o hb => ?_, J.os, J.bare⟩
      cases y : H b with
      | none => exact J.base.keep b o hb y (fun z => absurd z List.not_mem_nil) (fun z => absurd z List.not_mem_nil)
      | some u =>
        obtain ⟨o', x', rfl⟩ := hfrz b u y
        obtain ⟨e1, _⟩ := e.hok b _ y
        obtain ⟨e2, _⟩ := J.hok b _ (J.base.frzs b o' x' y)
        rw [hb] at e1
        rw [Option.some.inj e1]
        exact e2
    cases fl with
    | ret u =>
      obtain ⟨v, σ', H', J, rv, ev⟩ := hs
      exact fin J rv ev
    | next =>
      obtain ⟨σ', H', J, ev⟩ := hs
      exact nomatch ev
    | brk =>
      obtain ⟨_, _, _, ev⟩ := hs
      exact False.elim ev
    | cont =>
      obtain ⟨_, _, _, ev⟩ := hs
      exact False.elim ev
  · exact wpAny_mono hs (fun _ _ h => False.elim h) fun _ _ h => False.elim h
end
end KW

namespace KW
open PySem PySem.Spec PyProof.Rows L2 KM
local macro_rules | `(tactic| walk_at "rd") => `(tactic| simp (config := { decide := true, maxSteps := 2000000 }) only [tSeq, tIfS, tTest, tOp, rI0, rI, rEq, rNe, sc_nn, sc_ni, sc_in, sc_nb, sc_bn, sc_ns, sc_sn, sc_ii, sc_bb, sc_ss, sc_is, sc_si, tVar, tC, tRet, tNext, tAsg, gName, tB, tCall, tCons, tNil, tCB, tUn, rU, tAnd, tOr, tNot, tAndV, tOrV, tNotV, tIf, CMul, CDiv, CPow,
  at0, at1, at2, at3, at4, at5, at6, rs_eq, rs_ne, rs_lt, rs_ge, rs_ltu, rs_geu, os_add, os_sub, os_mul, os_and, os_or, os_xor, os_slt, os_sltu, ks_addi, ks_load, ks_store, ks_swap, ks_fadd, ks_ll, ks_sc, ks_fence, ks_branch, ks_jump, ks_halt, in_ops, in_ats,
  rIxTH, rIxLH, rLenT, rLenL, rInC, rInL, rNotInL, rCatH, rSlH, tTupH, tLstH, rTupOf, gSub, rSetL, tDrop, tBM, rAppend, tYes, wipe, List.map_cons, List.map_nil, upd_same, upd_upd, gTupH, gc_cons, gc_nil, tSl, tPart, tNoPart, fl_n, fl_i, fl_b, fl_s, tInD, tInT, vals, kd_op, rest_op, kd_addi, rest_addi, kd_load, rest_load, kd_store, rest_store, kd_swap, rest_swap, kd_fadd, rest_fadd, kd_ll, rest_ll, kd_sc, rest_sc, kd_fence, rest_fence, kd_branch, rest_branch, kd_jump, rest_jump, kd_halt, rest_halt, in_l1, in_l2, in_l3, in_l4, in_l5, in_l6,
  List.getElem?_cons_zero, List.getElem?_cons_succ, List.set_cons_zero, List.set_cons_succ, Option.some.injEq, exists_eq_left', exists_eq_left, exists_and_left, exists_eq', exists_eq, V.int.injEq, V.bl.injEq, V.str.injEq, V.ref.injEq, HO.tup.injEq, HO.lst.injEq, decide_eq_true_eq, true_and, and_true, false_and, and_false, or_false, false_or, true_or, or_true, List.append_nil, List.cons_append, List.nil_append, List.cons.injEq,
  List.length_cons, List.length_nil, Nat.reduceAdd, Nat.reduceLeDiff, forall_const, reduceCtorEq, Bool.false_eq_true, if_true, if_false, Bool.not_true, Bool.not_false, Bool.not_eq_true', decide_eq_false_iff_not, decide_true, decide_false])
local macro_rules | `(tactic| walk_at "rs") => `(tactic| simp (config := { decide := true, maxSteps := 2000000 }) only [tSeq, tIfS, tTest, tOp, rI0, rI, rEq, rNe, sc_nn, sc_ni, sc_in, sc_nb, sc_bn, sc_ns, sc_sn, sc_ii, sc_bb, sc_ss, sc_is, sc_si, tVar, tC, tRet, tNext, tAsg, gName, tB, tCall, tCons, tNil, tCB, tUn, rU, tAnd, tOr, tNot, tAndV, tOrV, tNotV, tIf, CMul, CDiv, CPow,
  at0, at1, at2, at3, at4, at5, at6, rs_eq, rs_ne, rs_lt, rs_ge, rs_ltu, rs_geu, os_add, os_sub, os_mul, os_and, os_or, os_xor, os_slt, os_sltu, ks_addi, ks_load, ks_store, ks_swap, ks_fadd, ks_ll, ks_sc, ks_fence, ks_branch, ks_jump, ks_halt, in_ops, in_ats,
  rIxTH, rIxLH, rLenT, rLenL, rInC, rInL, rNotInL, rCatH, rSlH, tTupH, tLstH, rTupOf, gSub, rSetL, tDrop, tBM, rAppend, tYes, wipe, List.map_cons, List.map_nil, upd_same, upd_upd, gTupH, gc_cons, gc_nil, tSl, tPart, tNoPart, fl_n, fl_i, fl_b, fl_s, tInD, tInT, vals, kd_op, rest_op, kd_addi, rest_addi, kd_load, rest_load, kd_store, rest_store, kd_swap, rest_swap, kd_fadd, rest_fadd, kd_ll, rest_ll, kd_sc, rest_sc, kd_fence, rest_fence, kd_branch, rest_branch, kd_jump, rest_jump, kd_halt, rest_halt, in_l1, in_l2, in_l3, in_l4, in_l5, in_l6,
  List.getElem?_cons_zero, List.getElem?_cons_succ, List.set_cons_zero, List.set_cons_succ, Option.some.injEq, exists_eq_left', exists_eq_left, exists_and_left, exists_eq', exists_eq, V.int.injEq, V.bl.injEq, V.str.injEq, V.ref.injEq, HO.tup.injEq, HO.lst.injEq, decide_eq_true_eq, true_and, and_true, false_and, and_false, or_false, false_or, true_or, or_true, List.append_nil, List.cons_append, List.nil_append, List.cons.injEq,
  List.length_cons, List.length_nil, Nat.reduceAdd, Nat.reduceLeDiff, forall_const, reduceCtorEq, Bool.false_eq_true, if_true, if_false, Bool.not_true, Bool.not_false, Bool.not_eq_true', decide_eq_false_iff_not, decide_true, decide_false, *])
theorem pick {P : Program} {w : World} {K : PySem.W.Frag} {mg mb : Str → Option Value} {s1 : Shared} {a : Addr} {vs : List Value} {ns : List Int} (kin : K.In s1.heap) (glob : s1.heap.Ns mainGlobals mg) (blt : s1.heap.Ns builtinsNs mb) (bb : ∀ x : Str, x ≠ "__name__" → mb x = bootBuiltins x) (lim : s1.heap.NoLimit) (bare : s1.gens = #[])
    (ha : s1.heap.get? a = some { cls := .type "list", data := .seq vs.toArray }) (hi : IntsAre vs ns) (hl : ns.length ≤ 63) :
    ∃ H : Hp, Entry P w K mg s1 a H ∧ SqL K H a (ns.map V.int) ∧ ∀ b u, H b = some u → ∃ o x, u = .frz o x := by
  have rv := vals_ints hi
  have lenV : vs.length = ns.length := hi.length
  have small : ns.length ≤ sizeLine := Nat.le_of_lt (small1000 (by omega))
  cases hk : K.lookup a with
  | some o =>
    have e := kin a o hk
    rw [ha] at e
    have e := Option.some.inj e
    subst e
    refine ⟨fun _ => none, { kin := kin, glob := glob, blt := ⟨mb, blt, bb⟩, lim := lim, bare := bare, script := ⟨vs, ha⟩, hok := fun b u z => ?_, only := fun b z => absurd rfl z, free := fun z => absurd rfl z }, .inr ⟨_, vs.toArray, _, hk, rfl, rfl, rfl, ?_, by simpa using rv⟩, fun b u z => ?_⟩
    · exact absurd (show (none : Option HO) = some u from z) nofun
    · rw [List.size_toArray, lenV]
      exact small
    · exact absurd (show (none : Option HO) = some u from z) nofun
  | none =>
    have at_a : ∀ (b : Addr) (u : HO), (if b = a then some (HO.frz { cls := .type "list", data := .seq vs.toArray } (.lst (ns.map V.int))) else none) = some u → b = a ∧ u = HO.frz { cls := .type "list", data := .seq vs.toArray } (.lst (ns.map V.int)) := fun b u z => by
      by_cases hb : b = a
      · rw [if_pos hb] at z
        exact ⟨hb, (Option.some.inj z).symm⟩
      · rw [if_neg hb] at z
        exact nomatch z
    refine ⟨fun b => if b = a then some (HO.frz { cls := .type "list", data := .seq vs.toArray } (.lst (ns.map V.int))) else none, { kin := kin, glob := glob, blt := ⟨mb, blt, bb⟩, lim := lim, bare := bare, script := ⟨vs, ha⟩, hok := fun b u z => ?_, only := fun b z => ?_, free := fun _ => hk }, .inl (.inr ⟨_, if_pos rfl⟩), fun b u z => ?_⟩
    · obtain ⟨rfl, rfl⟩ := at_a b u z
      exact ⟨ha, by rw [List.length_map]; exact small, vs, _, rv, ha⟩
    · refine Decidable.byContradiction fun hb => z ?_
      exact if_neg hb
    · exact ⟨_, _, (at_a b u z).2⟩
theorem walkG {l : PySem.W.OpenLaw} {q : Program} {loose : List Str} {XP : (Str → Option Value) → Heap → Prop} {YP : World → Heap → Prop} {d : DefRec} {K : Params → PySem.W.Frag} (hn : l.most = some 63) (hdf : d.params.defaults = []) (hY : ∀ (w : World) (h : Heap), YP w h → (K w.params).In h)
    (F : ∀ (w : World) (mg : Str → Option Value) (fa : Addr) (h : Heap), (K w.params).In h → h.Ns mainGlobals mg → mg d.name = some (.ref fa) → ∃ T : Txt (K w.params) mg, T.law.f = fa) :
    PySem.W.WalkO q loose XP YP l.row.toRowW d [] (fun f vs => PySem.call f vs) := by
  refine Att.attach_call hn hdf fun w s0 s1 mg mb fa o pm cd doc a vs ns G Y _ _ _ hmg hobj hints hlen hgens => ?_
  have kin := hY w _ Y
  obtain ⟨T, rfl⟩ := F w mg fa _ kin G.T.g hmg
  obtain ⟨H, e, hS, hz⟩ := pick (P := l.prog) (w := w) kin G.T.g G.T.b G.T.builtins G.T.nolimit hgens hobj hints hlen
  exact enter T e hS hz
end KW

namespace KW
open PySem PySem.Spec PyProof.Rows L2 KM
theorem df_mk {K : PySem.W.Frag} {mg : Str → Option Value} {h : Heap} {x : Str} {st : Stmt} {ps : List Str} {f : Addr} {oc : Value} {od an : Option Addr} {osl : Array (Option Value)} {kV doc pm cdv ct : Value} (X : K.In h) (G : h.Ns mainGlobals mg)
    (a : PySem.W.nsIn K mainGlobals x = some (some (.ref f))) (l : K.lookup f = some ⟨oc, od, .func (PySem.W.fnOf x x (defArgs st) (defBody st) (defScope st) .none kV doc pm an cdv ct), osl⟩) (c : PySem.W.codeIn K cdv x = true) (k : PySem.W.keepIn K (.ref f) = true)
    (hb : ∀ (kV doc pm : Value) (an : Option Addr) (cdv ct : Value) (us : List Value), us.length = ps.length → bindArgs (PySem.W.fnOf x x (defArgs st) (defBody st) (defScope st) .none kV doc pm an cdv ct) ⟨us, []⟩ = pure (ps.zip us)) : ∃ D : Df K mg x st ps, D.f = f :=
  ⟨⟨f, _, fun_mk l c k, (fun_mk l c k).binds hb, PySem.W.mg_of X G a⟩, rfl⟩
theorem sqt_mk {K : PySem.W.Frag} {p : Addr} {od : Option Addr} {sl : Array (Option Value)} {its : Array Value} {n : Nat} {xs : List V} (l : K.lookup p = some ⟨.type "tuple", od, .seq its n, sl⟩) (hz : its.size ≤ 1000) (r : Vals xs its.toList) : ∀ H, SqT K H p xs :=
  fun _ => .inr ⟨_, its, n, l, rfl, rfl, Nat.le_of_lt (small1000 hz), r⟩
theorem all_mk {K : PySem.W.Frag} {h : Heap} {mg : Str → Option Value} {fa : Addr} (X : K.In h) (G : h.Ns mainGlobals mg) (hfa : mg "law" = some (.ref fa))
    {f0 f1 f2 f3 f4 f5 f6 f7 f8 f9 f10 f11 f12 f13 f14 f15 f16 f17 f18 f19 f20 f21 f22 f23 f24 f25 f26 f27 f28 f29 f30 f31 : Addr} {od0 od1 od2 od3 od4 od5 od6 od7 od8 od9 od10 od11 od12 od13 od14 od15 od16 od17 od18 od19 od20 od21 od22 od23 od24 od25 od26 od27 od28 od29 od30 od31 an0 an1 an2 an3 an4 an5 an6 an7 an8 an9 an10 an11 an12 an13 an14 an15 an16 an17 an18 an19 an20 an21 an22 an23 an24 an25 an26 an27 an28 an29 an30 an31 : Option Addr} {sl0 sl1 sl2 sl3 sl4 sl5 sl6 sl7 sl8 sl9 sl10 sl11 sl12 sl13 sl14 sl15 sl16 sl17 sl18 sl19 sl20 sl21 sl22 sl23 sl24 sl25 sl26 sl27 sl28 sl29 sl30 sl31 : Array (Option Value)} {oc0 oc1 oc2 oc3 oc4 oc5 oc6 oc7 oc8 oc9 oc10 oc11 oc12 oc13 oc14 oc15 oc16 oc17 oc18 oc19 oc20 oc21 oc22 oc23 oc24 oc25 oc26 oc27 oc28 oc29 oc30 oc31 kV0 kV1 kV2 kV3 kV4 kV5 kV6 kV7 kV8 kV9 kV10 kV11 kV12 kV13 kV14 kV15 kV16 kV17 kV18 kV19 kV20 kV21 kV22 kV23 kV24 kV25 kV26 kV27 kV28 kV29 kV30 kV31 dc0 dc1 dc2 dc3 dc4 dc5 dc6 dc7 dc8 dc9 dc10 dc11 dc12 dc13 dc14 dc15 dc16 dc17 dc18 dc19 dc20 dc21 dc22 dc23 dc24 dc25 dc26 dc27 dc28 dc29 dc30 dc31 pm0 pm1 pm2 pm3 pm4 pm5 pm6 pm7 pm8 pm9 pm10 pm11 pm12 pm13 pm14 pm15 pm16 pm17 pm18 pm19 pm20 pm21 pm22 pm23 pm24 pm25 pm26 pm27 pm28 pm29 pm30 pm31 cd0 cd1 cd2 cd3 cd4 cd5 cd6 cd7 cd8 cd9 cd10 cd11 cd12 cd13 cd14 cd15 cd16 cd17 cd18 cd19 cd20 cd21 cd22 cd23 cd24 cd25 cd26 cd27 cd28 cd29 cd30 cd31 ct0 ct1 ct2 ct3 ct4 ct5 ct6 ct7 ct8 ct9 ct10 ct11 ct12 ct13 ct14 ct15 ct16 ct17 ct18 ct19 ct20 ct21 ct22 ct23 ct24 ct25 ct26 ct27 ct28 ct29 ct30 ct31 : Value} {tm ts to0 to1 to2 to3 to4 to5 to6 to7 ta0 ta1 ta2 ta3 : Tok} {ao aa : Addr} {odo oda : Option Addr} {slo sla : Array (Option Value)} {no na : Nat}
    (a0 : PySem.W.nsIn K mainGlobals "signed" = some (some (.ref f0))) (l0 : K.lookup f0 = some ⟨oc0, od0, .func (PySem.W.fnOf "signed" "signed" (defArgs s_signed) (defBody s_signed) (defScope s_signed) .none kV0 dc0 pm0 an0 cd0 ct0), sl0⟩) (c0 : PySem.W.codeIn K cd0 "signed" = true) (k0 : PySem.W.keepIn K (.ref f0) = true)
    (a1 : PySem.W.nsIn K mainGlobals "compare" = some (some (.ref f1))) (l1 : K.lookup f1 = some ⟨oc1, od1, .func (PySem.W.fnOf "compare" "compare" (defArgs s_compare) (defBody s_compare) (defScope s_compare) .none kV1 dc1 pm1 an1 cd1 ct1), sl1⟩) (c1 : PySem.W.codeIn K cd1 "compare" = true) (k1 : PySem.W.keepIn K (.ref f1) = true)
    (a2 : PySem.W.nsIn K mainGlobals "operate" = some (some (.ref f2))) (l2 : K.lookup f2 = some ⟨oc2, od2, .func (PySem.W.fnOf "operate" "operate" (defArgs s_operate) (defBody s_operate) (defScope s_operate) .none kV2 dc2 pm2 an2 cd2 ct2), sl2⟩) (c2 : PySem.W.codeIn K cd2 "operate" = true) (k2 : PySem.W.keepIn K (.ref f2) = true)
    (a3 : PySem.W.nsIn K mainGlobals "operand_registers" = some (some (.ref f3))) (l3 : K.lookup f3 = some ⟨oc3, od3, .func (PySem.W.fnOf "operand_registers" "operand_registers" (defArgs s_operandRegisters) (defBody s_operandRegisters) (defScope s_operandRegisters) .none kV3 dc3 pm3 an3 cd3 ct3), sl3⟩) (c3 : PySem.W.codeIn K cd3 "operand_registers" = true) (k3 : PySem.W.keepIn K (.ref f3) = true)
    (a4 : PySem.W.nsIn K mainGlobals "result_of" = some (some (.ref f4))) (l4 : K.lookup f4 = some ⟨oc4, od4, .func (PySem.W.fnOf "result_of" "result_of" (defArgs s_resultOf) (defBody s_resultOf) (defScope s_resultOf) .none kV4 dc4 pm4 an4 cd4 ct4), sl4⟩) (c4 : PySem.W.codeIn K cd4 "result_of" = true) (k4 : PySem.W.keepIn K (.ref f4) = true)
    (a5 : PySem.W.nsIn K mainGlobals "address_after" = some (some (.ref f5))) (l5 : K.lookup f5 = some ⟨oc5, od5, .func (PySem.W.fnOf "address_after" "address_after" (defArgs s_addressAfter) (defBody s_addressAfter) (defScope s_addressAfter) .none kV5 dc5 pm5 an5 cd5 ct5), sl5⟩) (c5 : PySem.W.codeIn K cd5 "address_after" = true) (k5 : PySem.W.keepIn K (.ref f5) = true)
    (a6 : PySem.W.nsIn K mainGlobals "is_predictable" = some (some (.ref f6))) (l6 : K.lookup f6 = some ⟨oc6, od6, .func (PySem.W.fnOf "is_predictable" "is_predictable" (defArgs s_isPredictable) (defBody s_isPredictable) (defScope s_isPredictable) .none kV6 dc6 pm6 an6 cd6 ct6), sl6⟩) (c6 : PySem.W.codeIn K cd6 "is_predictable" = true) (k6 : PySem.W.keepIn K (.ref f6) = true)
    (a7 : PySem.W.nsIn K mainGlobals "has_result" = some (some (.ref f7))) (l7 : K.lookup f7 = some ⟨oc7, od7, .func (PySem.W.fnOf "has_result" "has_result" (defArgs s_hasResult) (defBody s_hasResult) (defScope s_hasResult) .none kV7 dc7 pm7 an7 cd7 ct7), sl7⟩) (c7 : PySem.W.codeIn K cd7 "has_result" = true) (k7 : PySem.W.keepIn K (.ref f7) = true)
    (a8 : PySem.W.nsIn K mainGlobals "destination" = some (some (.ref f8))) (l8 : K.lookup f8 = some ⟨oc8, od8, .func (PySem.W.fnOf "destination" "destination" (defArgs s_destination) (defBody s_destination) (defScope s_destination) .none kV8 dc8 pm8 an8 cd8 ct8), sl8⟩) (c8 : PySem.W.codeIn K cd8 "destination" = true) (k8 : PySem.W.keepIn K (.ref f8) = true)
    (a9 : PySem.W.nsIn K mainGlobals "operand" = some (some (.ref f9))) (l9 : K.lookup f9 = some ⟨oc9, od9, .func (PySem.W.fnOf "operand" "operand" (defArgs s_operand) (defBody s_operand) (defScope s_operand) .none kV9 dc9 pm9 an9 cd9 ct9), sl9⟩) (c9 : PySem.W.codeIn K cd9 "operand" = true) (k9 : PySem.W.keepIn K (.ref f9) = true)
    (a10 : PySem.W.nsIn K mainGlobals "with_entry" = some (some (.ref f10))) (l10 : K.lookup f10 = some ⟨oc10, od10, .func (PySem.W.fnOf "with_entry" "with_entry" (defArgs s_withEntry) (defBody s_withEntry) (defScope s_withEntry) .none kV10 dc10 pm10 an10 cd10 ct10), sl10⟩) (c10 : PySem.W.codeIn K cd10 "with_entry" = true) (k10 : PySem.W.keepIn K (.ref f10) = true)
    (a11 : PySem.W.nsIn K mainGlobals "is_executed" = some (some (.ref f11))) (l11 : K.lookup f11 = some ⟨oc11, od11, .func (PySem.W.fnOf "is_executed" "is_executed" (defArgs s_isExecuted) (defBody s_isExecuted) (defScope s_isExecuted) .none kV11 dc11 pm11 an11 cd11 ct11), sl11⟩) (c11 : PySem.W.codeIn K cd11 "is_executed" = true) (k11 : PySem.W.keepIn K (.ref f11) = true)
    (a12 : PySem.W.nsIn K mainGlobals "execute" = some (some (.ref f12))) (l12 : K.lookup f12 = some ⟨oc12, od12, .func (PySem.W.fnOf "execute" "execute" (defArgs s_execute) (defBody s_execute) (defScope s_execute) .none kV12 dc12 pm12 an12 cd12 ct12), sl12⟩) (c12 : PySem.W.codeIn K cd12 "execute" = true) (k12 : PySem.W.keepIn K (.ref f12) = true)
    (a13 : PySem.W.nsIn K mainGlobals "_law_tape" = some (some (.ref f13))) (l13 : K.lookup f13 = some ⟨oc13, od13, .func (PySem.W.fnOf "_law_tape" "_law_tape" (defArgs s_lTape) (defBody s_lTape) (defScope s_lTape) .none kV13 dc13 pm13 an13 cd13 ct13), sl13⟩) (c13 : PySem.W.codeIn K cd13 "_law_tape" = true) (k13 : PySem.W.keepIn K (.ref f13) = true)
    (a14 : PySem.W.nsIn K mainGlobals "_law_draw" = some (some (.ref f14))) (l14 : K.lookup f14 = some ⟨oc14, od14, .func (PySem.W.fnOf "_law_draw" "_law_draw" (defArgs s_lDraw) (defBody s_lDraw) (defScope s_lDraw) .none kV14 dc14 pm14 an14 cd14 ct14), sl14⟩) (c14 : PySem.W.codeIn K cd14 "_law_draw" = true) (k14 : PySem.W.keepIn K (.ref f14) = true)
    (a15 : PySem.W.nsIn K mainGlobals "_law_word" = some (some (.ref f15))) (l15 : K.lookup f15 = some ⟨oc15, od15, .func (PySem.W.fnOf "_law_word" "_law_word" (defArgs s_lWord) (defBody s_lWord) (defScope s_lWord) .none kV15 dc15 pm15 an15 cd15 ct15), sl15⟩) (c15 : PySem.W.codeIn K cd15 "_law_word" = true) (k15 : PySem.W.keepIn K (.ref f15) = true)
    (a16 : PySem.W.nsIn K mainGlobals "_law_instruction" = some (some (.ref f16))) (l16 : K.lookup f16 = some ⟨oc16, od16, .func (PySem.W.fnOf "_law_instruction" "_law_instruction" (defArgs s_lInstruction) (defBody s_lInstruction) (defScope s_lInstruction) .none kV16 dc16 pm16 an16 cd16 ct16), sl16⟩) (c16 : PySem.W.codeIn K cd16 "_law_instruction" = true) (k16 : PySem.W.keepIn K (.ref f16) = true)
    (a17 : PySem.W.nsIn K mainGlobals "_law_program" = some (some (.ref f17))) (l17 : K.lookup f17 = some ⟨oc17, od17, .func (PySem.W.fnOf "_law_program" "_law_program" (defArgs s_lProgram) (defBody s_lProgram) (defScope s_lProgram) .none kV17 dc17 pm17 an17 cd17 ct17), sl17⟩) (c17 : PySem.W.codeIn K cd17 "_law_program" = true) (k17 : PySem.W.keepIn K (.ref f17) = true)
    (a18 : PySem.W.nsIn K mainGlobals "_law_pc" = some (some (.ref f18))) (l18 : K.lookup f18 = some ⟨oc18, od18, .func (PySem.W.fnOf "_law_pc" "_law_pc" (defArgs s_lPc) (defBody s_lPc) (defScope s_lPc) .none kV18 dc18 pm18 an18 cd18 ct18), sl18⟩) (c18 : PySem.W.codeIn K cd18 "_law_pc" = true) (k18 : PySem.W.keepIn K (.ref f18) = true)
    (a19 : PySem.W.nsIn K mainGlobals "_law_entry" = some (some (.ref f19))) (l19 : K.lookup f19 = some ⟨oc19, od19, .func (PySem.W.fnOf "_law_entry" "_law_entry" (defArgs s_lEntry) (defBody s_lEntry) (defScope s_lEntry) .none kV19 dc19 pm19 an19 cd19 ct19), sl19⟩) (c19 : PySem.W.codeIn K cd19 "_law_entry" = true) (k19 : PySem.W.keepIn K (.ref f19) = true)
    (a20 : PySem.W.nsIn K mainGlobals "_law_entries" = some (some (.ref f20))) (l20 : K.lookup f20 = some ⟨oc20, od20, .func (PySem.W.fnOf "_law_entries" "_law_entries" (defArgs s_lEntries) (defBody s_lEntries) (defScope s_lEntries) .none kV20 dc20 pm20 an20 cd20 ct20), sl20⟩) (c20 : PySem.W.codeIn K cd20 "_law_entries" = true) (k20 : PySem.W.keepIn K (.ref f20) = true)
    (a21 : PySem.W.nsIn K mainGlobals "_law_buffer" = some (some (.ref f21))) (l21 : K.lookup f21 = some ⟨oc21, od21, .func (PySem.W.fnOf "_law_buffer" "_law_buffer" (defArgs s_lBuffer) (defBody s_lBuffer) (defScope s_lBuffer) .none kV21 dc21 pm21 an21 cd21 ct21), sl21⟩) (c21 : PySem.W.codeIn K cd21 "_law_buffer" = true) (k21 : PySem.W.keepIn K (.ref f21) = true)
    (a22 : PySem.W.nsIn K mainGlobals "_law_pipeline" = some (some (.ref f22))) (l22 : K.lookup f22 = some ⟨oc22, od22, .func (PySem.W.fnOf "_law_pipeline" "_law_pipeline" (defArgs s_lPipeline) (defBody s_lPipeline) (defScope s_lPipeline) .none kV22 dc22 pm22 an22 cd22 ct22), sl22⟩) (c22 : PySem.W.codeIn K cd22 "_law_pipeline" = true) (k22 : PySem.W.keepIn K (.ref f22) = true)
    (a23 : PySem.W.nsIn K mainGlobals "_law_signed" = some (some (.ref f23))) (l23 : K.lookup f23 = some ⟨oc23, od23, .func (PySem.W.fnOf "_law_signed" "_law_signed" (defArgs s_lSigned) (defBody s_lSigned) (defScope s_lSigned) .none kV23 dc23 pm23 an23 cd23 ct23), sl23⟩) (c23 : PySem.W.codeIn K cd23 "_law_signed" = true) (k23 : PySem.W.keepIn K (.ref f23) = true)
    (a24 : PySem.W.nsIn K mainGlobals "_law_operate" = some (some (.ref f24))) (l24 : K.lookup f24 = some ⟨oc24, od24, .func (PySem.W.fnOf "_law_operate" "_law_operate" (defArgs s_lOperate) (defBody s_lOperate) (defScope s_lOperate) .none kV24 dc24 pm24 an24 cd24 ct24), sl24⟩) (c24 : PySem.W.codeIn K cd24 "_law_operate" = true) (k24 : PySem.W.keepIn K (.ref f24) = true)
    (a25 : PySem.W.nsIn K mainGlobals "_law_compare" = some (some (.ref f25))) (l25 : K.lookup f25 = some ⟨oc25, od25, .func (PySem.W.fnOf "_law_compare" "_law_compare" (defArgs s_lCompare) (defBody s_lCompare) (defScope s_lCompare) .none kV25 dc25 pm25 an25 cd25 ct25), sl25⟩) (c25 : PySem.W.codeIn K cd25 "_law_compare" = true) (k25 : PySem.W.keepIn K (.ref f25) = true)
    (a26 : PySem.W.nsIn K mainGlobals "_law_destination" = some (some (.ref f26))) (l26 : K.lookup f26 = some ⟨oc26, od26, .func (PySem.W.fnOf "_law_destination" "_law_destination" (defArgs s_lDestination) (defBody s_lDestination) (defScope s_lDestination) .none kV26 dc26 pm26 an26 cd26 ct26), sl26⟩) (c26 : PySem.W.codeIn K cd26 "_law_destination" = true) (k26 : PySem.W.keepIn K (.ref f26) = true)
    (a27 : PySem.W.nsIn K mainGlobals "_law_operand" = some (some (.ref f27))) (l27 : K.lookup f27 = some ⟨oc27, od27, .func (PySem.W.fnOf "_law_operand" "_law_operand" (defArgs s_lOperand) (defBody s_lOperand) (defScope s_lOperand) .none kV27 dc27 pm27 an27 cd27 ct27), sl27⟩) (c27 : PySem.W.codeIn K cd27 "_law_operand" = true) (k27 : PySem.W.keepIn K (.ref f27) = true)
    (a28 : PySem.W.nsIn K mainGlobals "_law_executed" = some (some (.ref f28))) (l28 : K.lookup f28 = some ⟨oc28, od28, .func (PySem.W.fnOf "_law_executed" "_law_executed" (defArgs s_lExecuted) (defBody s_lExecuted) (defScope s_lExecuted) .none kV28 dc28 pm28 an28 cd28 ct28), sl28⟩) (c28 : PySem.W.codeIn K cd28 "_law_executed" = true) (k28 : PySem.W.keepIn K (.ref f28) = true)
    (a29 : PySem.W.nsIn K mainGlobals "_law_one_pass" = some (some (.ref f29))) (l29 : K.lookup f29 = some ⟨oc29, od29, .func (PySem.W.fnOf "_law_one_pass" "_law_one_pass" (defArgs s_lOnePass) (defBody s_lOnePass) (defScope s_lOnePass) .none kV29 dc29 pm29 an29 cd29 ct29), sl29⟩) (c29 : PySem.W.codeIn K cd29 "_law_one_pass" = true) (k29 : PySem.W.keepIn K (.ref f29) = true)
    (a30 : PySem.W.nsIn K mainGlobals "_law_some_row" = some (some (.ref f30))) (l30 : K.lookup f30 = some ⟨oc30, od30, .func (PySem.W.fnOf "_law_some_row" "_law_some_row" (defArgs s_lSomeRow) (defBody s_lSomeRow) (defScope s_lSomeRow) .none kV30 dc30 pm30 an30 cd30 ct30), sl30⟩) (c30 : PySem.W.codeIn K cd30 "_law_some_row" = true) (k30 : PySem.W.keepIn K (.ref f30) = true)
    (a31 : PySem.W.nsIn K mainGlobals "law" = some (some (.ref f31))) (l31 : K.lookup f31 = some ⟨oc31, od31, .func (PySem.W.fnOf "law" "law" (defArgs s_law) (defBody s_law) (defScope s_law) .none kV31 dc31 pm31 an31 cd31 ct31), sl31⟩) (c31 : PySem.W.codeIn K cd31 "law" = true) (k31 : PySem.W.keepIn K (.ref f31) = true)
    (am : PySem.W.nsIn K mainGlobals "MODULUS" = some (some (.int 65536 tm))) (as : PySem.W.nsIn K mainGlobals "SIGN" = some (some (.int 32768 ts)))
    (ap : PySem.W.nsIn K mainGlobals "OPERATIONS" = some (some (.ref ao))) (lp : K.lookup ao = some ⟨.type "tuple", odo, .seq #[.str "add" to0, .str "sub" to1, .str "mul" to2, .str "and" to3, .str "or" to4, .str "xor" to5, .str "slt" to6, .str "sltu" to7] no, slo⟩)
    (aq : PySem.W.nsIn K mainGlobals "ATOMIC" = some (some (.ref aa))) (lq : K.lookup aa = some ⟨.type "tuple", oda, .seq #[.str "swap" ta0, .str "fetch add" ta1, .str "load linked" ta2, .str "store conditional" ta3] na, sla⟩)
    (zlen : PySem.W.nsIn K mainGlobals "len" = some none)
    (zabs : PySem.W.nsIn K mainGlobals "abs" = some none)
    (zmax : PySem.W.nsIn K mainGlobals "max" = some none)
    (zmin : PySem.W.nsIn K mainGlobals "min" = some none)
    (zint : PySem.W.nsIn K mainGlobals "int" = some none)
    (zlist : PySem.W.nsIn K mainGlobals "list" = some none)
    (ztuple : PySem.W.nsIn K mainGlobals "tuple" = some none)
    (zrange : PySem.W.nsIn K mainGlobals "range" = some none)
    (zreversed : PySem.W.nsIn K mainGlobals "reversed" = some none)
    (zrepr : PySem.W.nsIn K mainGlobals "repr" = some none) :
    ∃ T : Txt K mg, T.law.f = fa := by
  obtain ⟨D0, e0⟩ := df_mk (ps := ["word"]) X G a0 l0 c0 k0 fun _ _ _ _ _ _ us hl => match us, hl with | [_], _ => rfl
  obtain ⟨D1, e1⟩ := df_mk (ps := ["relation", "left", "right"]) X G a1 l1 c1 k1 fun _ _ _ _ _ _ us hl => match us, hl with | [_, _, _], _ => rfl
  obtain ⟨D2, e2⟩ := df_mk (ps := ["operation", "left", "right"]) X G a2 l2 c2 k2 fun _ _ _ _ _ _ us hl => match us, hl with | [_, _, _], _ => rfl
  obtain ⟨D3, e3⟩ := df_mk (ps := ["instruction"]) X G a3 l3 c3 k3 fun _ _ _ _ _ _ us hl => match us, hl with | [_], _ => rfl
  obtain ⟨D4, e4⟩ := df_mk (ps := ["instruction", "a", "b"]) X G a4 l4 c4 k4 fun _ _ _ _ _ _ us hl => match us, hl with | [_, _, _], _ => rfl
  obtain ⟨D5, e5⟩ := df_mk (ps := ["instruction", "pc", "a", "b"]) X G a5 l5 c5 k5 fun _ _ _ _ _ _ us hl => match us, hl with | [_, _, _, _], _ => rfl
  obtain ⟨D6, e6⟩ := df_mk (ps := ["instruction"]) X G a6 l6 c6 k6 fun _ _ _ _ _ _ us hl => match us, hl with | [_], _ => rfl
  obtain ⟨D7, e7⟩ := df_mk (ps := ["instruction"]) X G a7 l7 c7 k7 fun _ _ _ _ _ _ us hl => match us, hl with | [_], _ => rfl
  obtain ⟨D8, e8⟩ := df_mk (ps := ["instruction"]) X G a8 l8 c8 k8 fun _ _ _ _ _ _ us hl => match us, hl with | [_], _ => rfl
  obtain ⟨D9, e9⟩ := df_mk (ps := ["pipeline", "index", "number"]) X G a9 l9 c9 k9 fun _ _ _ _ _ _ us hl => match us, hl with | [_, _, _], _ => rfl
  obtain ⟨D10, e10⟩ := df_mk (ps := ["pipeline", "index", "entry", "keep"]) X G a10 l10 c10 k10 fun _ _ _ _ _ _ us hl => match us, hl with | [_, _, _, _], _ => rfl
  obtain ⟨D11, e11⟩ := df_mk (ps := ["instruction"]) X G a11 l11 c11 k11 fun _ _ _ _ _ _ us hl => match us, hl with | [_], _ => rfl
  obtain ⟨D12, e12⟩ := df_mk (ps := ["pipeline", "index"]) X G a12 l12 c12 k12 fun _ _ _ _ _ _ us hl => match us, hl with | [_, _], _ => rfl
  obtain ⟨D13, e13⟩ := df_mk (ps := ["_law_script"]) X G a13 l13 c13 k13 fun _ _ _ _ _ _ us hl => match us, hl with | [_], _ => rfl
  obtain ⟨D14, e14⟩ := df_mk (ps := ["_law_tape_here", "_law_many"]) X G a14 l14 c14 k14 fun _ _ _ _ _ _ us hl => match us, hl with | [_, _], _ => rfl
  obtain ⟨D15, e15⟩ := df_mk (ps := ["_law_tape_here"]) X G a15 l15 c15 k15 fun _ _ _ _ _ _ us hl => match us, hl with | [_], _ => rfl
  obtain ⟨D16, e16⟩ := df_mk (ps := ["_law_tape_here", "_law_size", "_law_last", "_law_many", "_law_share"]) X G a16 l16 c16 k16 fun _ _ _ _ _ _ us hl => match us, hl with | [_, _, _, _, _], _ => rfl
  obtain ⟨D17, e17⟩ := df_mk (ps := ["_law_tape_here", "_law_kinds"]) X G a17 l17 c17 k17 fun _ _ _ _ _ _ us hl => match us, hl with | [_, _], _ => rfl
  obtain ⟨D18, e18⟩ := df_mk (ps := ["_law_tape_here", "_law_program_here", "_law_kinds"]) X G a18 l18 c18 k18 fun _ _ _ _ _ _ us hl => match us, hl with | [_, _, _], _ => rfl
  obtain ⟨D19, e19⟩ := df_mk (ps := ["_law_tape_here", "_law_program_here", "_law_pc_here", "_law_resolved"]) X G a19 l19 c19 k19 fun _ _ _ _ _ _ us hl => match us, hl with | [_, _, _, _], _ => rfl
  obtain ⟨D20, e20⟩ := df_mk (ps := ["_law_tape_here", "_law_program_here", "_law_pc_here", "_law_many"]) X G a20 l20 c20 k20 fun _ _ _ _ _ _ us hl => match us, hl with | [_, _, _, _], _ => rfl
  obtain ⟨D21, e21⟩ := df_mk (ps := ["_law_tape_here", "_law_order", "_law_size", "_law_most"]) X G a21 l21 c21 k21 fun _ _ _ _ _ _ us hl => match us, hl with | [_, _, _, _], _ => rfl
  obtain ⟨D22, e22⟩ := df_mk (ps := ["_law_tape_here", "_law_program_here", "_law_order", "_law_pc_here", "_law_room", "_law_most"]) X G a22 l22 c22 k22 fun _ _ _ _ _ _ us hl => match us, hl with | [_, _, _, _, _, _], _ => rfl
  obtain ⟨D23, e23⟩ := df_mk (ps := ["_law_word_here"]) X G a23 l23 c23 k23 fun _ _ _ _ _ _ us hl => match us, hl with | [_], _ => rfl
  obtain ⟨D24, e24⟩ := df_mk (ps := ["_law_op", "_law_a", "_law_b"]) X G a24 l24 c24 k24 fun _ _ _ _ _ _ us hl => match us, hl with | [_, _, _], _ => rfl
  obtain ⟨D25, e25⟩ := df_mk (ps := ["_law_test", "_law_a", "_law_b"]) X G a25 l25 c25 k25 fun _ _ _ _ _ _ us hl => match us, hl with | [_, _, _], _ => rfl
  obtain ⟨D26, e26⟩ := df_mk (ps := ["_law_now"]) X G a26 l26 c26 k26 fun _ _ _ _ _ _ us hl => match us, hl with | [_], _ => rfl
  obtain ⟨D27, e27⟩ := df_mk (ps := ["_law_pipeline_here", "_law_index", "_law_number"]) X G a27 l27 c27 k27 fun _ _ _ _ _ _ us hl => match us, hl with | [_, _, _], _ => rfl
  obtain ⟨D28, e28⟩ := df_mk (ps := ["_law_pipeline_here", "_law_index"]) X G a28 l28 c28 k28 fun _ _ _ _ _ _ us hl => match us, hl with | [_, _], _ => rfl
  obtain ⟨D29, e29⟩ := df_mk (ps := ["_law_pipeline_here"]) X G a29 l29 c29 k29 fun _ _ _ _ _ _ us hl => match us, hl with | [_], _ => rfl
  obtain ⟨D30, e30⟩ := df_mk (ps := ["_law_tape_here", "_law_pipeline_here"]) X G a30 l30 c30 k30 fun _ _ _ _ _ _ us hl => match us, hl with | [_, _], _ => rfl
  obtain ⟨D31, e31⟩ := df_mk (ps := ["_law_script"]) X G a31 l31 c31 k31 fun _ _ _ _ _ _ us hl => match us, hl with | [_], _ => rfl
  refine ⟨{ signed := D0, compare := D1, operate := D2, operandRegisters := D3, resultOf := D4, addressAfter := D5, isPredictable := D6, hasResult := D7, destination := D8, operand := D9, withEntry := D10, isExecuted := D11, execute := D12, lTape := D13, lDraw := D14, lWord := D15, lInstruction := D16, lProgram := D17, lPc := D18, lEntry := D19, lEntries := D20, lBuffer := D21, lPipeline := D22, lSigned := D23, lOperate := D24, lCompare := D25, lDestination := D26, lOperand := D27, lExecuted := D28, lOnePass := D29, lSomeRow := D30, law := D31, mMODULUS := ⟨_, PySem.W.mg_of X G am, _, rfl⟩, mSIGN := ⟨_, PySem.W.mg_of X G as, _, rfl⟩, aOps := ao, mOPERATIONS := ⟨_, PySem.W.mg_of X G ap, rfl⟩, tOps := sqt_mk lp (by show 8 ≤ 1000; decide) (.cons ⟨_, rfl⟩ (.cons ⟨_, rfl⟩ (.cons ⟨_, rfl⟩ (.cons ⟨_, rfl⟩ (.cons ⟨_, rfl⟩ (.cons ⟨_, rfl⟩ (.cons ⟨_, rfl⟩ (.cons ⟨_, rfl⟩ .nil)))))))), aAts := aa, mATOMIC := ⟨_, PySem.W.mg_of X G aq, rfl⟩, tAts := sqt_mk lq (by show 4 ≤ 1000; decide) (.cons ⟨_, rfl⟩ (.cons ⟨_, rfl⟩ (.cons ⟨_, rfl⟩ (.cons ⟨_, rfl⟩ .nil)))), zlen := PySem.W.mg_none_of X G zlen, zabs := PySem.W.mg_none_of X G zabs, zmax := PySem.W.mg_none_of X G zmax, zmin := PySem.W.mg_none_of X G zmin, zint := PySem.W.mg_none_of X G zint, zlist := PySem.W.mg_none_of X G zlist, ztuple := PySem.W.mg_none_of X G ztuple, zrange := PySem.W.mg_none_of X G zrange, zreversed := PySem.W.mg_none_of X G zreversed, zrepr := PySem.W.mg_none_of X G zrepr }, ?_⟩
  have e := hfa.symm.trans (PySem.W.mg_of X G a31)
  injection e with e
  injection e with e
  exact e31.trans e.symm
end KW

namespace KW
open PySem PySem.Spec PyProof.Rows L2 KM
end KW
open PySem PySem.W PyProof.Rows
set_option maxHeartbeats 0 in
theorem PySem.Challenge.cw_litmuscore_k60_whole_order_of_execution_holds : PySem.Challenge.rw_litmuscore_k60_whole_order_of_execution.Holds := by
  w_on; o_law; k_head; (case hw => w_witness2)
  k_fill
  refine KW.walkG (l := PySem.Challenge.rw_litmuscore_k60_whole_order_of_execution) rfl rfl (fun w h Y => PySem.W.kIn_of Y) ?F
  case F =>
    intro w mg fa h KX G hmg
    refine' KW.all_mk KX G hmg ?a0 ?l0 ?c0 ?k0 ?a1 ?l1 ?c1 ?k1 ?a2 ?l2 ?c2 ?k2 ?a3 ?l3 ?c3 ?k3 ?a4 ?l4 ?c4 ?k4 ?a5 ?l5 ?c5 ?k5 ?a6 ?l6 ?c6 ?k6 ?a7 ?l7 ?c7 ?k7 ?a8 ?l8 ?c8 ?k8 ?a9 ?l9 ?c9 ?k9 ?a10 ?l10 ?c10 ?k10 ?a11 ?l11 ?c11 ?k11 ?a12 ?l12 ?c12 ?k12 ?a13 ?l13 ?c13 ?k13 ?a14 ?l14 ?c14 ?k14 ?a15 ?l15 ?c15 ?k15 ?a16 ?l16 ?c16 ?k16 ?a17 ?l17 ?c17 ?k17 ?a18 ?l18 ?c18 ?k18 ?a19 ?l19 ?c19 ?k19 ?a20 ?l20 ?c20 ?k20 ?a21 ?l21 ?c21 ?k21 ?a22 ?l22 ?c22 ?k22 ?a23 ?l23 ?c23 ?k23 ?a24 ?l24 ?c24 ?k24 ?a25 ?l25 ?c25 ?k25 ?a26 ?l26 ?c26 ?k26 ?a27 ?l27 ?c27 ?k27 ?a28 ?l28 ?c28 ?k28 ?a29 ?l29 ?c29 ?k29 ?a30 ?l30 ?c30 ?k30 ?a31 ?l31 ?c31 ?k31 ?am ?as ?ap ?lp ?aq ?lq ?zlen ?zabs ?zmax ?zmin ?zint ?zlist ?ztuple ?zrange ?zreversed ?zrepr
    (case a0 => k_is)
    (case l0 => k_is)
    (case c0 => k_is)
    (case k0 => k_is)
    (case a1 => k_is)
    (case l1 => k_is)
    (case c1 => k_is)
    (case k1 => k_is)
    (case a2 => k_is)
    (case l2 => k_is)
    (case c2 => k_is)
    (case k2 => k_is)
    (case a3 => k_is)
    (case l3 => k_is)
    (case c3 => k_is)
    (case k3 => k_is)
    (case a4 => k_is)
    (case l4 => k_is)
    (case c4 => k_is)
    (case k4 => k_is)
    (case a5 => k_is)
    (case l5 => k_is)
    (case c5 => k_is)
    (case k5 => k_is)
    (case a6 => k_is)
    (case l6 => k_is)
    (case c6 => k_is)
    (case k6 => k_is)
    (case a7 => k_is)
    (case l7 => k_is)
    (case c7 => k_is)
    (case k7 => k_is)
    (case a8 => k_is)
    (case l8 => k_is)
    (case c8 => k_is)
    (case k8 => k_is)
    (case a9 => k_is)
    (case l9 => k_is)
    (case c9 => k_is)
    (case k9 => k_is)
    (case a10 => k_is)
    (case l10 => k_is)
    (case c10 => k_is)
    (case k10 => k_is)
    (case a11 => k_is)
    (case l11 => k_is)
    (case c11 => k_is)
    (case k11 => k_is)
    (case a12 => k_is)
    (case l12 => k_is)
    (case c12 => k_is)
    (case k12 => k_is)
    (case a13 => k_is)
    (case l13 => k_is)
    (case c13 => k_is)
    (case k13 => k_is)
    (case a14 => k_is)
    (case l14 => k_is)
    (case c14 => k_is)
    (case k14 => k_is)
    (case a15 => k_is)
    (case l15 => k_is)
    (case c15 => k_is)
    (case k15 => k_is)
    (case a16 => k_is)
    (case l16 => k_is)
    (case c16 => k_is)
    (case k16 => k_is)
    (case a17 => k_is)
    (case l17 => k_is)
    (case c17 => k_is)
    (case k17 => k_is)
    (case a18 => k_is)
    (case l18 => k_is)
    (case c18 => k_is)
    (case k18 => k_is)
    (case a19 => k_is)
    (case l19 => k_is)
    (case c19 => k_is)
    (case k19 => k_is)
    (case a20 => k_is)
    (case l20 => k_is)
    (case c20 => k_is)
    (case k20 => k_is)
    (case a21 => k_is)
    (case l21 => k_is)
    (case c21 => k_is)
    (case k21 => k_is)
    (case a22 => k_is)
    (case l22 => k_is)
    (case c22 => k_is)
    (case k22 => k_is)
    (case a23 => k_is)
    (case l23 => k_is)
    (case c23 => k_is)
    (case k23 => k_is)
    (case a24 => k_is)
    (case l24 => k_is)
    (case c24 => k_is)
    (case k24 => k_is)
    (case a25 => k_is)
    (case l25 => k_is)
    (case c25 => k_is)
    (case k25 => k_is)
    (case a26 => k_is)
    (case l26 => k_is)
    (case c26 => k_is)
    (case k26 => k_is)
    (case a27 => k_is)
    (case l27 => k_is)
    (case c27 => k_is)
    (case k27 => k_is)
    (case a28 => k_is)
    (case l28 => k_is)
    (case c28 => k_is)
    (case k28 => k_is)
    (case a29 => k_is)
    (case l29 => k_is)
    (case c29 => k_is)
    (case k29 => k_is)
    (case a30 => k_is)
    (case l30 => k_is)
    (case c30 => k_is)
    (case k30 => k_is)
    (case a31 => k_is)
    (case l31 => k_is)
    (case c31 => k_is)
    (case k31 => k_is)
    (case am => k_is)
    (case as => k_is)
    (case ap => k_is)
    (case lp => k_is)
    (case aq => k_is)
    (case lq => k_is)
    (case zlen => k_is)
    (case zabs => k_is)
    (case zmax => k_is)
    (case zmin => k_is)
    (case zint => k_is)
    (case zlist => k_is)
    (case ztuple => k_is)
    (case zrange => k_is)
    (case zreversed => k_is)
    (case zrepr => k_is)
