/- An abstract machine that runs the program's code, and the proof that the model runs it so. (Part 3.) -/
import Derived.Test.YteljmjpmhhofoabGreatDoorAm2
set_option maxRecDepth 10000
set_option linter.unusedVariables false
set_option linter.unusedSimpArgs false
/- The machine as a whole: what a state stands for. -/
namespace Am
open Go

/-- What is still to be done in a frame. -/
inductive IR (P : Program) (ρ : Rho) (nt : Nat) : AIt → Item → Prop
  | cd (c : Code) : IR P ρ nt (.cd (trC P nt c)) (.code c)
  | blk (n : Nat) : IR P ρ nt (.blk n) (.inBlock n)
  | lop (c : Code) : IR P ρ nt (.lop (trC P nt c)) (.inLoop c)
  | scp (c : Code) : IR P ρ nt (.scp (trC P nt c)) (.inScope c)
  | rfn {l : Pos} {k : Blk} (h : ρ l = some k) : IR P ρ nt (.rfn l) (.inRangeFunc k.b)
  | erf {l : Pos} {k : Blk} (h : ρ l = some k) : IR P ρ nt (.erf l) (.endRangeFunc k.b)
  | brd : IR P ρ nt .brd .beginRound

inductive KR (P : Program) (ρ : Rho) (nt : Nat) : List AIt → List Item → Prop
  | nil : KR P ρ nt [] []
  | cons {x : AIt} {y : Item} {l : List AIt} {m : List Item} (h : IR P ρ nt x y) (hl : KR P ρ nt l m) : KR P ρ nt (x :: l) (y :: m)

theorem IR.mono {P : Program} {ρ ρ' : Rho} {nt : Nat} (e : Ext ρ ρ') {x : AIt} {y : Item} (h : IR P ρ nt x y) : IR P ρ' nt x y := by
  cases h with
  | cd c => exact .cd c
  | blk n => exact .blk n
  | lop c => exact .lop c
  | scp c => exact .scp c
  | rfn h => exact .rfn (e _ _ h)
  | erf h => exact .erf (e _ _ h)
  | brd => exact .brd

theorem KR.mono {P : Program} {ρ ρ' : Rho} {nt : Nat} (e : Ext ρ ρ') : ∀ {x : List AIt} {y : List Item}, KR P ρ nt x y → KR P ρ' nt x y
  | _, _, .nil => .nil
  | _, _, .cons h hl => .cons (h.mono e) (KR.mono e hl)

section
variable {P : Program} {ρ : Rho} {nt : Nat}

theorem exitTo_ok (n : Nat) : ∀ {k : List AIt} {k' : List Item}, KR P ρ nt k k' → match exitTo n k with
    | some q => ∃ q', Go.exitTo n k' = some q' ∧ KR P ρ nt q q'
    | none => Go.exitTo n k' = none
  | _, _, .nil => rfl
  | _, _, .cons (l := l) (m := m) h hl => by
    have ih := exitTo_ok n hl
    cases h with
    | blk x =>
      have e : exitTo n (.blk x :: l) = (match Nat.beq x n with
        | true => some l
        | false => exitTo n l) := rfl
      rw [e]
      by_cases hx : x = n
      · subst hx
        have : Nat.beq x x = true := by rw [nbeq]; simp
        rw [this]
        exact ⟨m, by simp [Go.exitTo], hl⟩
      · have : Nat.beq x n = false := by rw [nbeq]; simp [hx]
        rw [this]
        have hg : Go.exitTo n (.inBlock x :: m) = Go.exitTo n m := by
          have : (x == n) = false := by simp [hx]
          simp [Go.exitTo, this]
        rw [hg]; exact ih
    | _ => exact ih

theorem trC_seq (a b : Code) : trC P nt (.seq a b) = .seq (trC P nt a) (trC P nt b) := rfl

theorem findLabel_ok (l : Nat) : ∀ c : Code, findLabel l (trC P nt c) = (Go.findLabel c l).map (trC P nt)
  | .seq a b => by
    have ha := findLabel_ok l a
    have hb := findLabel_ok l b
    have e : findLabel l (trC P nt (.seq a b)) = (match findLabel l (trC P nt a) with
      | some r => some (.seq r (trC P nt b))
      | none => findLabel l (trC P nt b)) := rfl
    rw [e, ha, hb]
    simp only [Go.findLabel]
    cases Go.findLabel a l <;> rfl
  | .label m => by
    have e : findLabel l (trC P nt (.label m)) = (match Nat.beq m l with
      | true => some .skip
      | false => none) := rfl
    rw [e]
    simp only [Go.findLabel]
    by_cases h : m = l
    · subst h
      rw [show Nat.beq m m = true from by rw [nbeq]; simp]
      simp; rfl
    · rw [show Nat.beq m l = false from by rw [nbeq]; simp [h]]
      simp [h]
  | .region id ops d => by
    have e : trC P nt (.region id ops d) = trR P nt ops d := rfl
    rw [e]
    unfold trR
    split
    · rfl
    · split <;> rfl
  | .skip => rfl
  | .cond .. => rfl
  | .block .. => rfl
  | .loop .. => rfl
  | .rangeFunc .. => rfl
  | .exit .. => rfl
  | .scope .. => rfl
  | .goto .. => rfl
  | .ret => rfl
  | .refuse .. => rfl

theorem gotoIn_ok (n : Nat) : ∀ {k : List AIt} {k' : List Item}, KR P ρ nt k k' → match gotoIn n k with
    | some q => ∃ q', Go.gotoIn n k' = some q' ∧ KR P ρ nt q q'
    | none => Go.gotoIn n k' = none
  | _, _, .nil => rfl
  | _, _, .cons (l := l) (m := m) h hl => by
    have ih := gotoIn_ok n hl
    cases h with
    | scp c =>
      have e : gotoIn n (.scp (trC P nt c) :: l) = (match findLabel n (trC P nt c) with
        | some r => some (.cd r :: .scp (trC P nt c) :: l)
        | none => gotoIn n l) := rfl
      rw [e, findLabel_ok]
      simp only [Go.gotoIn]
      cases hf : Go.findLabel c n with
      | some r => exact ⟨_, rfl, .cons (.cd r) (.cons (.scp c) hl)⟩
      | none => exact ih
    | _ => exact ih
end

/-- Where a frame stands in a region. -/
inductive RegR (P : Program) (nt lo nb : Nat) (ρ : Rho) (w : World) (nx : Pos) (hp : T AObj) (tm : T AV) (tmps : Array Value) : List MOp → Array Oper → List Nat → Prop
  | nd {ops : Array Oper} (i : Nat) (ht : TR ρ tm tmps) : RegR P nt lo nb ρ w nx hp tm tmps ((ops.toList.drop i).map (trM P nt ops.toList)) ops ((List.range ops.size).drop i)
  | dr {ops : Array Oper} {l : List PO} {pr : Option Pair} {pl : List (Bool × Nat)} {E M V : Nat} {D : Nat → Prop} {rest : List Nat} (hI : RI P nt ops l pr) (hg : okGo l pl E M V = true) (hl : Lin ops D rest)
      (hd : DI P ops l pr lo nb ρ w nx hp tm tmps E M V D) : RegR P nt lo nb ρ w nx hp tm tmps (pl.map (toM l)) ops rest

def kdOf : Kd → CallKind
  | .nrm => .normal
  | .dfd => .deferred

/-- What does not turn while a frame lives. -/
structure FB (P : Program) (ρ : Rho) (fi : FI) (b : Frame) (nt : Nat) : Prop where
  fn : b.fn = fi.f
  fc : ∃ fnc, P.funcs[fi.f]? = some fnc ∧ fnc.ntmps = nt ∧ (fi.rnd = none → fi.res = mapL (trRV P) fnc.results.toList)
  kind : b.kind = kdOf fi.kd
  rnd : match fi.rnd with
    | none => b.roundOf = none
    | some l => fi.kd = .nrm ∧ ∃ k, ρ l = some k ∧ b.roundOf = some k.b

theorem FB.mono {P : Program} {ρ ρ' : Rho} {fi : FI} {b : Frame} {nt : Nat} (e : Ext ρ ρ') (h : FB P ρ fi b nt) : FB P ρ' fi b nt := by
  refine ⟨h.fn, h.fc, h.kind, ?_⟩
  have := h.rnd
  cases hr : fi.rnd with
  | none => rw [hr] at this; exact this
  | some l =>
    rw [hr] at this
    exact ⟨this.1, this.2.imp fun k h => ⟨e _ _ h.1, h.2⟩⟩

/-- The frame that runs. -/
inductive Cur (P : Program) (lo nb : Nat) (ρ : Rho) (w : World) (nx : Pos) (hp : T AObj) : List MOp → T AV → List AIt → FI → List ADef → Bool → Frame → Prop
  | ret {tm : T AV} {k : List AIt} {fi : FI} {df : List ADef} {b : Frame} {a : Act} {todo : List Item} {nt : Nat} (hb : FB P ρ fi b nt) (hd : DL ρ df a.defers) (hs : nt ≤ a.tmps.size)
      (ht : TR ρ tm a.tmps) (hr : fi.rnd = none) : Cur P lo nb ρ w nx hp [] tm k fi df true { b.atR a todo with mode := .returning }
  | out {tm : T AV} {k : List AIt} {fi : FI} {df : List ADef} {b : Frame} {a : Act} {todo : List Item} {nt : Nat} (hb : FB P ρ fi b nt) (hd : DL ρ df a.defers) (hs : nt ≤ a.tmps.size)
      (ht : TR ρ tm a.tmps) (hk : KR P ρ nt k todo) : Cur P lo nb ρ w nx hp [] tm k fi df false (b.atR a todo)
  | reg {ms : List MOp} {tm : T AV} {k : List AIt} {fi : FI} {df : List ADef} {b : Frame} {a : Act} {ops : Array Oper} {rest : List Nat} {k' : List Item} {nt : Nat} (hb : FB P ρ fi b nt) (hd : DL ρ df a.defers) (hs : nt ≤ a.tmps.size)
      (hk : KR P ρ nt k k') (hr : RegR P nt lo nb ρ w nx hp tm a.tmps ms ops rest) : Cur P lo nb ρ w nx hp ms tm k fi df false (b.atR a (.inRegion ops rest :: k'))

/-- How a frame goes on that has waited. -/
def resMs (s : Sus) : List MOp := s.ms
noncomputable def resTm (kd : Kd) (v : AV) (s : Sus) : T AV := match kd with
  | .nrm => (match s.k with
    | .rfn _ :: _ => s.tm
    | _ => setD s.d v s.tm)
  | .dfd => s.tm
def resK (kd : Kd) (s : Sus) : List AIt := match kd with
  | .nrm => (match s.k with
    | .rfn l :: k => .erf l :: k
    | k => k)
  | .dfd => s.k
def resF (kd : Kd) (v : Value) (f : Frame) : Frame := match kd with
  | .nrm => f.finish v
  | .dfd => f

/-- The frames that wait. -/
inductive StkR (P : Program) (f0 : Nat) (w0 : World) (cs0 : List Frame) : Nat → Nat → Rho → World → FI → List Sus → List Frame → Prop
  | nil {ρ : Rho} {w : World} {fi : FI} (hg : Grow w0.heap.size 0 (fun _ => none) ρ w0 w) (hf : fi.f = f0) (hk : fi.kd = .nrm) (hr : fi.rnd = none) : StkR P f0 w0 cs0 w0.heap.size 0 ρ w fi [] cs0
  | cons {ρ ρs : Rho} {w ws : World} {fi : FI} {s : Sus} {st : List Sus} {fr : Frame} {cs : List Frame} {nxs : Pos} {lo nb : Nat} (hst : StkR P f0 w0 cs0 lo nb ρs ws s.fr st cs) (hg : Grow ws.heap.size nxs.num ρs ρ ws w)
      (hl : lo ≤ ws.heap.size) (hn : nb ≤ nxs.num) (hm : fi.kd = .dfd → fr.mode = .returning)
      (hk : ∀ (ρ' : Rho) (w' : World) (hp' : T AObj) (nx' : Pos) (v : AV) (v' : Value), Grow ws.heap.size nxs.num ρs ρ' ws w' → nxs.num ≤ nx'.num → V ρ' v v' →
        Cur P lo nb ρ' w' nx' hp' s.ms (resTm fi.kd v s) (resK fi.kd s) s.fr s.df s.md (resF fi.kd v' fr)) :
      StkR P f0 w0 cs0 ws.heap.size nxs.num ρ w fi (s :: st) (fr :: cs)

theorem StkR.mono {P : Program} {f0 : Nat} {w0 : World} {cs0 : List Frame} {lo nb : Nat} {ρ ρ' : Rho} {w w' : World} {fi : FI} {st : List Sus} {cs : List Frame} (h : StkR P f0 w0 cs0 lo nb ρ w fi st cs) (hg : Grow lo nb ρ ρ' w w') :
    StkR P f0 w0 cs0 lo nb ρ' w' fi st cs := by
  cases h with
  | nil h1 h2 h3 h4 => exact .nil (h1.trans hg) h2 h3 h4
  | cons h1 h2 h3 h4 h5 h6 => exact .cons h1 (h2.trans hg) h3 h4 h5 h6

/-- What a state stands for. -/
structure Sim (P : Program) (f0 : Nat) (w0 : World) (cs0 : List Frame) (s : S) (m : Machine) : Prop where
  ex : ∃ f cs w ρ lo nb, m = lone f cs w ∧ Rel P ρ s.hp s.z.nx w ∧ lo ≤ w.heap.size ∧ nb ≤ s.z.nx.num ∧ Cur P lo nb ρ w s.z.nx s.hp s.ms s.tm s.z.k s.z.fr s.z.df s.z.md f ∧ StkR P f0 w0 cs0 lo nb ρ w s.z.fr s.z.st cs

/-- What a step owes. -/
def Ok (P : Program) (f0 : Nat) (w0 : World) (cs0 : List Frame) (r : R) (m : Machine) : Prop := match r with
  | .more s => ∃ m', Steps P m m' ∧ Sim P f0 w0 cs0 s m'
  | .done v hp nx => ∃ v' w' fr ρ, Steps P m (lone fr cs0 w') ∧ fr.fn = f0 ∧ fr.leaving P w' (.returned v') ∧ V ρ v v' ∧ Rel P ρ hp nx w' ∧ Grow w0.heap.size 0 (fun _ => none) ρ w0 w'
  | .bad _ => True

theorem Ok.before {P : Program} {f0 : Nat} {w0 : World} {cs0 : List Frame} {r : R} {m m' : Machine} (hs : Steps P m m') (h : Ok P f0 w0 cs0 r m') : Ok P f0 w0 cs0 r m := by
  cases r with
  | more s => exact h.imp fun m2 h => ⟨hs.trans h.1, h.2⟩
  | done v hp nx =>
    obtain ⟨v', w', fr, ρ, h1, h2⟩ := h
    exact ⟨v', w', fr, ρ, hs.trans h1, h2⟩
  | bad n => trivial
end Am

/- Steps between regions. -/
namespace Am
open Go

section
variable {P : Program} {f0 : Nat} {w0 : World} {cs0 : List Frame} {lo nb nt : Nat} {ρ : Rho} {w : World} {nx : Pos} {hp : T AObj} {tm : T AV} {k : List AIt} {fi : FI} {df : List ADef} {st : List Sus} {cs : List Frame}
  {b : Frame} {a : Act} {todo : List Item}

/-- A frame that runs, outside of a region. -/
structure Out (P : Program) (f0 : Nat) (w0 : World) (cs0 : List Frame) (lo nb : Nat) (ρ : Rho) (w : World) (nx : Pos) (hp : T AObj) (tm : T AV) (k : List AIt) (fi : FI) (df : List ADef) (st : List Sus) (cs : List Frame)
    (b : Frame) (a : Act) (todo : List Item) (nt : Nat) : Prop where
  hR : Rel P ρ hp nx w
  hlo : lo ≤ w.heap.size
  hnb : nb ≤ nx.num
  hb : FB P ρ fi b nt
  hd : DL ρ df a.defers
  hs : nt ≤ a.tmps.size
  ht : TR ρ tm a.tmps
  hk : KR P ρ nt k todo
  hst : StkR P f0 w0 cs0 lo nb ρ w fi st cs

theorem Out.ok (h : Out P f0 w0 cs0 lo nb ρ w nx hp tm k fi df st cs b a todo nt) : Ok P f0 w0 cs0 (.more ⟨[], tm, hp, ⟨nx, k, fi, df, st, false⟩⟩) (lone (b.atR a todo) cs w) :=
  ⟨_, Steps.refl P _, ⟨_, _, _, _, _, _, rfl, h.hR, h.hlo, h.hnb, .out h.hb h.hd h.hs h.ht h.hk, h.hst⟩⟩

theorem Out.to (h : Out P f0 w0 cs0 lo nb ρ w nx hp tm k fi df st cs b a todo nt) {k2 : List AIt} {todo2 : List Item} (hs : Go.step P (lone (b.atR a todo) cs w) = Stepped.next (lone (b.atR a todo2) cs w)) (hk : KR P ρ nt k2 todo2) :
    Ok P f0 w0 cs0 (.more ⟨[], tm, hp, ⟨nx, k2, fi, df, st, false⟩⟩) (lone (b.atR a todo) cs w) :=
  Ok.before (.one hs) (Out.ok (nt := nt) { h with hk := hk })

/-- A region is left. -/
theorem reg_out {ops : Array Oper} {rest : List Nat} {k' : List Item} (hR : Rel P ρ hp nx w) (hlo : lo ≤ w.heap.size) (hs : nt ≤ a.tmps.size) {ms : List MOp} (hms : ms = []) (hr : RegR P nt lo nb ρ w nx hp tm a.tmps ms ops rest) :
    ∃ w' ρ' a', Steps P (lone (b.atR a (.inRegion ops rest :: k')) cs w) (lone (b.atR a' k') cs w') ∧ Rel P ρ' hp nx w' ∧ Grow lo nb ρ ρ' w w' ∧ TR ρ' tm a'.tmps ∧ a'.defers = a.defers ∧ a'.tmps.size = a.tmps.size := by
  cases hr with
  | nd i ht =>
    have hi : ops.size ≤ i := by
      have := congrArg List.length hms
      simp at this; omega
    have hr : (List.range ops.size).drop i = [] := by simp [hi]
    rw [hr]
    exact ⟨w, ρ, a, .one stepR_region_end, hR, Grow.refl _ _ _ _, ht, rfl, rfl⟩
  | @dr ops l pr pl E M V D rest hI hg hl hd =>
    have hpl : pl = [] := by
      cases pl with
      | nil => rfl
      | cons e pl => cases hms
    subst hpl
    obtain ⟨h1, h2⟩ := okGo_end hg
    obtain ⟨rest', D', a', w', ρ', g1, g2, ⟨rfl, g3⟩, g4, g5, g6, g7, g8⟩ := flush_end (b := b) (k := k') (cs := cs) hI h1 h2 hl hd hR hs hlo
    exact ⟨w', ρ', a', g1.trans (.one stepR_region_end), g5, g6, g4.end_TR hI g3, g7, g8⟩

theorem back_eq (v : AV) (hp : T AObj) (nx : Pos) (kd : Kd) (s : Sus) (st : List Sus) : back v hp nx kd (s :: st) = .more ⟨s.ms, resTm kd v s, hp, ⟨nx, resK kd s, s.fr, s.df, st, s.md⟩⟩ := by
  obtain ⟨d, ms, tm, k, fr, df, md⟩ := s
  cases kd with
  | dfd => rfl
  | nrm =>
    cases k with
    | nil => rfl
    | cons x k => cases x <;> rfl

theorem back_ok {s : Sus} {fr : Frame} {v : AV} {v' : Value} (hR : Rel P ρ hp nx w) (hlo : lo ≤ w.heap.size) (hnb : nb ≤ nx.num) (hst : StkR P f0 w0 cs0 lo nb ρ w fi (s :: st) (fr :: cs)) (hv : V ρ v v') :
    Ok P f0 w0 cs0 (back v hp nx fi.kd (s :: st)) (lone (resF fi.kd v' fr) cs w) := by
  cases hst with
  | cons h1 h2 h3 h4 h5 h6 =>
    have hc := h6 ρ w hp nx v v' h2 hnb hv
    rw [back_eq]
    exact ⟨_, Steps.refl P _, ⟨_, _, _, _, _, _, rfl, hR, Nat.le_trans h3 hlo, Nat.le_trans h4 hnb, hc, h1.mono (h2.weaken h3 h4)⟩⟩

theorem run_getLoop {c : Nat} {l : Loop} (h : w.heap[c]? = some (.loop l)) : (Instr.getLoop c).run P w = .ok l w := by
  simp [Instr.getLoop, getObj, Sem.run, h]

/-- A loop's object. -/
theorem loop_at (hR : Rel P ρ hp nx w) {l : Pos} {kb : Blk} (hl : ρ l = some kb) {r : ALoop} (ho : hp.get .none l = .loop r) : ∃ lp, w.heap[kb.b]? = some (.loop lp) ∧ LoopR P ρ r lp := by
  obtain ⟨ob, h1, h2⟩ := hR.obj l kb hl (by rw [ho]; simp)
  rw [ho] at h2
  cases h2 with
  | loop h => exact ⟨_, h1, h⟩

theorem set_turned {c : Nat} {ob ob' : Obj} (h : w.heap[c]? = some ob) (hne : ∀ x y z, ob ≠ .cells x y z) : ∃ w', (setObj c ob').run P w = .ok () w' ∧ Turned w c ob' w' := by
  have hc : c < w.heap.size := by
    rcases Nat.lt_or_ge c w.heap.size with h' | h'
    · exact h'
    · rw [Array.getElem?_eq_none h'] at h; cases h
  refine ⟨{ w with heap := w.heap.setIfInBounds c ob' }, by
    simp only [setObj, Sem.run, h]
    done, ⟨by simp [hc], by simp, fun d hd => by simp [Ne.symm hd], ⟨rfl, rfl, rfl⟩⟩⟩

/-- An object is turned, and nothing else. -/
theorem turn_grow (hR : Rel P ρ hp nx w) {l : Pos} {kb : Blk} (hl : ρ l = some kb) {w' : World} {ob' : Obj} (ht : Turned w kb.b ob' w') (hlo : lo ≤ w.heap.size) : Grow lo nb ρ ρ w w' :=
  grow_of (Ex.refl _ _) (fun _ _ => rfl) (ht.fr hl rfl) hlo
end
end Am

/- Calls. -/
namespace Am
open Go

section
variable {P : Program} {f0 : Nat} {w0 : World} {cs0 : List Frame} {lo nb nt : Nat} {ρ : Rho} {w : World} {nx : Pos} {hp : T AObj} {tm : T AV} {k : List AIt} {fi : FI} {df : List ADef} {st : List Sus} {cs : List Frame}
  {b : Frame} {a : Act} {todo : List Item}

noncomputable def argsGo (vs : List AV) (t : T AV) (p : Pos) : T AV := lrec (fun t _ => t) (fun v _ ih t p => ih (t.set .undef v p) (Pos.succ p)) vs t p

theorem argsGo_cons (v : AV) (vs : List AV) (t : T AV) (p : Pos) : argsGo (v :: vs) t p = argsGo vs (t.set .undef v p) p.succ := rfl
theorem argsGo_nil (t : T AV) (p : Pos) : argsGo [] t p = t := rfl

theorem argsGo_get : ∀ (vs : List AV) (t : T AV) (m j : Nat), (argsGo vs t (posOf m)).get .undef (posOf j) = if j < m then t.get .undef (posOf j) else (vs[j - m]?).getD (t.get .undef (posOf j))
  | [], t, m, j => by rw [argsGo_nil]; simp
  | v :: vs, t, m, j => by
    rw [argsGo_cons, ← posOf_succ, argsGo_get vs]
    by_cases h1 : j < m
    · have : j < m + 1 := by omega
      simp only [h1, this, if_true]
      exact T.get_set_ne _ _ _ _ _ fun e => by have := posOf_inj e; omega
    · by_cases h2 : j = m
      · subst h2
        simp only [Nat.lt_succ_self, if_true, Nat.lt_irrefl, if_false, Nat.sub_self, List.getElem?_cons_zero, Option.getD_some]
        exact T.get_set_same _ _ _ _
      · have h3 : ¬ j < m + 1 := by omega
        simp only [h1, h3, if_false]
        rw [show j - m = (j - (m + 1)) + 1 by omega, List.getElem?_cons_succ]
        rw [T.get_set_ne _ _ _ _ _ fun e => by have := posOf_inj e; omega]

theorem args0_TR {args : List AV} {args' : Array Value} (h : VL ρ args args'.toList) (n : Nat) : TR ρ (args0 args) (args' ++ Array.replicate n Go.undef) := by
  intro j
  have e : (args0 args).get .undef (posOf j) = (args[j]?).getD .undef := by
    have := argsGo_get args .lf 0 j
    rw [posOf_zero] at this
    have h2 : args0 args = argsGo args .lf .e := rfl
    rw [h2, this]
    simp [T.get_lf]
  rw [e]
  have hl : args.length = args'.size := by have := h.length; simpa using this
  cases hj : args[j]? with
  | some v =>
    obtain ⟨v', h1, h2⟩ := h.get j v hj
    rw [Array.getElem?_toList] at h1
    have hlt : j < args'.size := by
      rcases Nat.lt_or_ge j args'.size with h | h
      · exact h
      · rw [Array.getElem?_eq_none h] at h1; cases h1
    have : (args' ++ Array.replicate n Go.undef).getD j Go.undef = v' := by
      rw [Array.getD_eq_getD_getElem?, Array.getElem?_append_left hlt, h1]; rfl
    rw [this]; exact h2
  | none =>
    have hge : args'.size ≤ j := by
      rcases Nat.lt_or_ge j args.length with h | h
      · rw [List.getElem?_eq_getElem h] at hj; cases hj
      · omega
    have : (args' ++ Array.replicate n Go.undef).getD j Go.undef = Go.undef := by
      rw [Array.getD_eq_getD_getElem?, Array.getElem?_append_right hge]
      cases e : (Array.replicate n Go.undef)[j - args'.size]? with
      | none => rfl
      | some v =>
        rw [Array.getElem?_replicate] at e
        split at e
        · cases e; rfl
        · cases e
    rw [this]; exact .undef rfl

/-- A function is entered. -/
theorem enter_ok {f : Nat} {args : List AV} {args' : Array Value} {kd : Kd} (hR : Rel P ρ hp nx w) (hlo : lo ≤ w.heap.size) (hnb : nb ≤ nx.num) (ha : VL ρ args args'.toList)
    (hst : ∀ res, StkR P f0 w0 cs0 lo nb ρ w ⟨f, res, kd, none⟩ st cs) : Ok P f0 w0 cs0 (enter P f args kd hp nx st) (lone (Frame.enter P f args' (kdOf kd)) cs w) := by
  unfold enter
  split
  · trivial
  · next fn hf =>
    split
    · trivial
    · next c hc =>
      split
      · next h1 h2 =>
        have hlen : args'.size ≤ fn.ntmps := by
          have h3 : args.length = args'.size := by have := ha.length; simpa using this
          have h4 := Nat.le_of_ble_eq_true h1
          rw [len_eq] at h4; omega
        let b : Frame := { (default : Frame) with fn := f, kind := kdOf kd }
        have he : Frame.enter P f args' (kdOf kd) = b.atR ⟨args' ++ Array.replicate (fn.ntmps - args'.size) Go.undef, []⟩ [.code c] := by
          simp [Frame.enter, hf, hc, Frame.atR, b]
          rfl
        rw [he]
        refine Out.ok (nt := fn.ntmps) ⟨hR, hlo, hnb, ⟨rfl, ⟨fn, hf, rfl, fun _ => rfl⟩, rfl, rfl⟩, .nil, by simp; omega, args0_TR ha _, .cons (.cd c) .nil, hst _⟩
      · trivial

/-- The name of a function that the machine enters. -/
theorem enter_some {f : Nat} {args : List AV} {kd : Kd} {s : S} (h : enter P f args kd hp nx st = .more s) : ∃ fn c, P.funcs[f]? = some fn ∧ fn.body = some c ∧ (fn.name == "runtime.NumGoroutine") = false := by
  unfold enter at h
  split at h
  · cases h
  · next fn hf =>
    split at h
    · cases h
    · next c hc =>
      split at h
      · next h1 h2 => exact ⟨fn, c, hf, hc, h2⟩
      · cases h

theorem run_callFunc {f : Nat} {args : Array Value} {fn : Func} {c : Code} (hf : P.funcs[f]? = some fn) (hc : fn.body = some c) (hn : (fn.name == "runtime.NumGoroutine") = false) :
    (callFunc f args).run P w = .ok (.enter f args) w := by
  have hn' : fn.name ≠ "runtime.NumGoroutine" := by simpa using hn
  simp [callFunc, hf, hc, hn']

theorem enter_not_done {f : Nat} {args : List AV} {kd : Kd} {v : AV} {hp' : T AObj} {nx' : Pos} : enter P f args kd hp nx st ≠ .done v hp' nx' := by
  unfold enter
  split
  · simp
  · split
    · simp
    · split <;> simp

/-- What is called. -/
theorem call_run {fv : AV} {fv' : Value} {args : List AV} {args' : Array Value} (hv : V ρ fv fv') (ha : VL ρ args args'.toList) {f : Nat} {x c : List AV} (hf : fv = .fn f x c) :
    ∃ d : Deferred, (Deferred.ofValue fv' args').run P w = .ok d w ∧ ∃ cs, d.target = .fn (.func f) cs ∧ VL ρ (app x (app args c)) (d.args ++ cs).toList := by
  subst hf
  cases hv with
  | @fn _ _ _ as cs h1 h2 =>
    refine ⟨{ target := .fn (.func f) cs, args := as ++ args' }, rfl, cs, rfl, ?_⟩
    rw [app_eq, app_eq]
    simp only [Array.toList_append, List.append_assoc]
    exact h1.append (ha.append h2)
end
end Am

/- Steps between regions, each. -/
namespace Am
open Go

section
variable {P : Program} {f0 : Nat} {w0 : World} {cs0 : List Frame} {lo nb nt : Nat} {ρ : Rho} {w : World} {nx : Pos} {hp : T AObj} {tm : T AV} {k : List AIt} {fi : FI} {df : List ADef} {st : List Sus} {cs : List Frame}
  {b : Frame} {a : Act} {todo : List Item}

theorem stepR_scope {c : Code} {k : List Item} : Go.step P (lone (b.atR a (.code (.scope c) :: k)) cs w) = Stepped.next (lone (b.atR a (.code c :: .inScope c :: k)) cs w) :=
  step_lone_go (by simp [stepG, stepG.exec, Frame.atR])
theorem stepR_inScope {c : Code} {k : List Item} : Go.step P (lone (b.atR a (.inScope c :: k)) cs w) = Stepped.next (lone (b.atR a k) cs w) :=
  step_lone_go (by simp [stepG, stepG.exec, Frame.atR])
theorem stepR_endRange {l : Nat} {j : Option Code} {w' : World} {k : List Item} (hr : (Instr.endLoop l).run P w = .ok j w') :
    Go.step P (lone (b.atR a (.endRangeFunc l :: k)) cs w) = Stepped.next (lone (b.atR a ((j.map Item.code).toList ++ k)) cs w') :=
  step_lone_go (by simp [stepG, stepG.exec, Frame.atR, Sem.runT_eq, hr])

/-- A round ends. -/
theorem round_ok (h : Out P f0 w0 cs0 lo nb ρ w nx hp tm k fi df st cs b a todo nt) {l : Pos} (hr : fi.rnd = some l) {jump : Option IC} {j' : Option Code} (hj : jumpC jump j')
    (hstep : ∀ lb v w' c cs', b.roundOf = some lb → b.kind = .normal → (Instr.endRound lb j').run P w = .ok v w' → Go.step P (lone (b.atR a todo) (c :: cs') w) = Stepped.next (lone (c.finish v) cs' w')) :
    Ok P f0 w0 cs0 (endRound l jump hp nx st) (lone (b.atR a todo) cs w) := by
  have hrnd := h.hb.rnd
  rw [hr] at hrnd
  obtain ⟨hkd, kb, hl, hro⟩ := hrnd
  have hkind : b.kind = .normal := by rw [h.hb.kind, hkd]; rfl
  unfold endRound
  split
  · next r ho =>
    obtain ⟨lp, h1, h2⟩ := loop_at h.hR hl ho
    have hlive : hp.get .none l ≠ .none := by rw [ho]; simp
    obtain ⟨w', g1, g2⟩ := set_turned (P := P) (ob' := .loop { lp with state := if j'.isNone then .ready else .done, pending := j' }) h1 (by intro x y z; simp)
    have hrun : (Instr.endRound kb.b j').run P w = .ok (.bool j'.isNone) w' := by
      simp only [Instr.endRound, Sem.run_bind, run_getLoop h1, Result.andThen_ok, g1, Sem.run_pure]
    have hgrow : Grow lo nb ρ ρ w w' := turn_grow h.hR hl g2 h.hlo
    -- what comes after
    have go : ∀ (x : ALoop) (bb : Bool), bb = j'.isNone → LoopR P ρ x { lp with state := if j'.isNone then .ready else .done, pending := j' } →
        Ok P f0 w0 cs0 (back (.bool bb) (hp.set .none (.loop x) l) nx .nrm st) (lone (b.atR a todo) cs w) := by
      intro x bb hbb hx
      have hR' : Rel P ρ (hp.set .none (.loop x) l) nx w' := h.hR.turn hl hlive g2 fun _ => .loop hx
      have hst' := h.hst.mono hgrow
      have hlo' : lo ≤ w'.heap.size := Nat.le_trans h.hlo hgrow.size
      cases hst' with
      | nil q1 q2 q3 q4 => rw [hr] at q4; cases q4
      | @cons _ _ _ _ _ s st fr cs nxs lo' nb' q1 q2 q3 q4 q5 q6 =>
        have hb := back_ok (v := .bool bb) (v' := .bool bb) hR' hlo' h.hnb (StkR.cons q1 q2 q3 q4 q5 q6) (.bool bb)
        rw [hkd] at hb
        refine Ok.before (.one (hstep kb.b (.bool j'.isNone) w' fr cs hro hkind hrun)) ?_
        rw [← hbb]
        exact hb
    cases jump with
    | none =>
      cases j' with
      | some c => exact hj.elim
      | none => exact go _ true rfl ⟨rfl, trivial, h2.f, h2.tm, h2.nt, h2.ps, h2.dfb⟩
    | some c =>
      cases j' with
      | none => cases c <;> exact hj.elim
      | some c' => exact go _ false rfl ⟨rfl, hj, h2.f, h2.tm, h2.nt, h2.ps, h2.dfb⟩
  · trivial

theorem leave_ok (h : Out P f0 w0 cs0 lo nb ρ w nx hp tm k fi df st cs b a todo nt) {jump : Option IC} {j' : Option Code} (hj : jumpC jump j')
    (hstep : ∀ lb v w' c cs', b.roundOf = some lb → b.kind = .normal → (Instr.endRound lb j').run P w = .ok v w' → Go.step P (lone (b.atR a todo) (c :: cs') w) = Stepped.next (lone (c.finish v) cs' w'))
    (hret : (jump = none ∨ jump = some .ret) → b.roundOf = none → Go.step P (lone (b.atR a todo) cs w) = Stepped.next (lone { b.atR a todo with mode := .returning } cs w)) :
    Ok P f0 w0 cs0 (leave jump ⟨[], tm, hp, ⟨nx, k, fi, df, st, false⟩⟩) (lone (b.atR a todo) cs w) := by
  unfold leave
  simp only
  split
  · next l hr => exact round_ok h hr hj hstep
  · next hr =>
    have hrnd := h.hb.rnd
    rw [hr] at hrnd
    have fin : Sim P f0 w0 cs0 ⟨[], tm, hp, ⟨nx, [], fi, df, st, true⟩⟩ (lone { b.atR a todo with mode := .returning } cs w) :=
      ⟨_, _, _, _, _, _, rfl, h.hR, h.hlo, h.hnb, .ret h.hb h.hd h.hs h.ht hr, h.hst⟩
    split
    · exact ⟨_, .one (hret (.inl rfl) hrnd), fin⟩
    · exact ⟨_, .one (hret (.inr rfl) hrnd), fin⟩
    · trivial

theorem mapL_posOf (ps : Array Tmp) : mapL posOf ps.toList = ps.toList.map posOf := mapL_eq _ _

theorem run_endLoop {c : Nat} {lp : Loop} (h : w.heap[c]? = some (.loop lp)) (hs : lp.state ≠ .busy) : ∃ w', (Instr.endLoop c).run P w = .ok lp.pending w' ∧ Turned w c (.loop { lp with state := .exhausted }) w' := by
  obtain ⟨w', g1, g2⟩ := set_turned (P := P) (ob' := .loop { lp with state := .exhausted }) h (by intro x y z; simp)
  refine ⟨w', ?_, g2⟩
  have : (lp.state == LoopState.busy) = false := by cases hs' : lp.state <;> first | rfl | exact absurd hs' hs
  simp [Instr.endLoop, run_getLoop h, this, g1]
  exact fun h => absurd h hs

theorem run_beginRound {c : Nat} {lp : Loop} (h : w.heap[c]? = some (.loop lp)) (hs : lp.state = .ready) : ∃ w', (Instr.beginRound c).run P w = .ok () w' ∧ Turned w c (.loop { lp with state := .busy }) w' := by
  obtain ⟨w', g1, g2⟩ := set_turned (P := P) (ob' := .loop { lp with state := .busy }) h (by intro x y z; simp)
  refine ⟨w', ?_, g2⟩
  simp [Instr.beginRound, run_getLoop h, hs, g1]
end
end Am

/- A step between regions. -/
namespace Am
open Go

section
variable {P : Program} {f0 : Nat} {w0 : World} {cs0 : List Frame} {lo nb nt : Nat} {ρ : Rho} {w : World} {nx : Pos} {hp : T AObj} {tm : T AV} {k : List AIt} {fi : FI} {df : List ADef} {st : List Sus} {cs : List Frame}
  {b : Frame} {a : Act} {todo : List Item}

/-- A loop's object is turned. -/
theorem loop_ok (h : Out P f0 w0 cs0 lo nb ρ w nx hp tm k fi df st cs b a todo nt) {l : Pos} {kb : Blk} (hl : ρ l = some kb) {r r' : ALoop} (ho : hp.get .none l = .loop r) {lp' : Loop} {w' : World} (ht : Turned w kb.b (.loop lp') w')
    (hx : LoopR P ρ r' lp') {k2 : List AIt} {todo2 : List Item} (hs : Go.step P (lone (b.atR a todo) cs w) = Stepped.next (lone (b.atR a todo2) cs w')) (hk : KR P ρ nt k2 todo2) :
    Ok P f0 w0 cs0 (.more ⟨[], tm, hp.set .none (.loop r') l, ⟨nx, k2, fi, df, st, false⟩⟩) (lone (b.atR a todo) cs w) := by
  have hgrow : Grow lo nb ρ ρ w w' := turn_grow h.hR hl ht h.hlo
  have hlive : hp.get .none l ≠ .none := by rw [ho]; simp
  exact Ok.before (.one hs) (Out.ok (nt := nt) ⟨h.hR.turn hl hlive ht fun _ => .loop hx, Nat.le_trans h.hlo hgrow.size, h.hnb, h.hb, h.hd, h.hs, h.ht, hk, h.hst.mono hgrow⟩)

/-- A region is entered. -/
theorem region_ok (hmix : P.follows .mixedOrders = true) {id : Nat} {ops : Array Oper} {d : Bool} {k' : List Item} {k0 : List AIt} (h : Out P f0 w0 cs0 lo nb ρ w nx hp tm k0 fi df st cs b a (.code (.region id ops d) :: k') nt) (hk : KR P ρ nt k k') :
    match trR P nt ops d with
    | .reg ms => Ok P f0 w0 cs0 (.more ⟨ms, tm, hp, ⟨nx, k, fi, df, st, false⟩⟩) (lone (b.atR a (.code (.region id ops d) :: k')) cs w)
    | _ => True := by
  cases d with
  | false =>
    show Ok P f0 w0 cs0 (.more ⟨mapL (trM P nt ops.toList) ops.toList, tm, hp, ⟨nx, k, fi, df, st, false⟩⟩) _
    rw [mapL_eq]
    have hr : RegR P nt lo nb ρ w nx hp tm a.tmps ((ops.toList.drop 0).map (trM P nt ops.toList)) ops ((List.range ops.size).drop 0) := .nd 0 h.ht
    exact ⟨_, .one stepR_region, ⟨_, _, _, _, _, _, rfl, h.hR, h.hlo, h.hnb, .reg h.hb h.hd h.hs hk hr, h.hst⟩⟩
  | true =>
    simp only [trR]
    cases hp : planR P nt ops.toList with
    | none => trivial
    | some ms =>
      obtain ⟨l, pr, pl, E0, h1, h2, rfl, h4⟩ := planR_spec hp
      have hstep := stepR_region_draw (P := P) (b := b) (a := a) (k := k') (cs := cs) (w := w) (ops := ops) (id := id)
      rw [hmix] at hstep
      refine ⟨_, .one hstep, ⟨_, _, { w with drawn := w.drawn + 1 }, ρ, _, _, rfl, h.hR.of_heap rfl, h.hlo, h.hnb, .reg h.hb h.hd h.hs hk (.dr h1 h2 (lin_schedule h1.ed _) (DI.start h1 h4 h.ht)), h.hst.mono ?_⟩⟩
      exact ⟨Ext.refl ρ, fun _ _ => rfl, fun _ _ h => .inl h, Nat.le_refl _, fun _ _ _ => rfl, rfl, rfl, rfl⟩

theorem jump_cd {c : IC} {c' : Code} (h : jumpC (some c) (some c')) : IR P ρ nt (.cd c) (.code c') := by
  cases c with
  | ret => cases c' <;> first | exact .cd .ret | exact h.elim
  | exit n => cases c' with
    | exit m => obtain rfl : n = m := h; exact .cd (.exit n)
    | _ => exact h.elim
  | goto n => cases c' with
    | goto m => obtain rfl : n = m := h; exact .cd (.goto n)
    | _ => exact h.elim
  | _ => cases c' <;> exact h.elim

/-- A range over a function begins. -/
def RangeOk (P : Program) (f0 : Nat) (w0 : World) (cs0 : List Frame) : Prop :=
  ∀ {lo nb nt : Nat} {ρ : Rho} {w : World} {nx : Pos} {hp : T AObj} {tm : T AV} {k : List AIt} {fi : FI} {df : List ADef} {st : List Sus} {cs : List Frame} {b : Frame} {a : Act} {f : Operand} {ps : Array Tmp} {x y : Code} {k' : List Item},
    Out P f0 w0 cs0 lo nb ρ w nx hp tm (.cd (trC P nt (.rangeFunc f ps x y)) :: k) fi df st cs b a (.code (.rangeFunc f ps x y) :: k') nt → KR P ρ nt k k' →
    Ok P f0 w0 cs0 (rangeF P ⟨[], tm, hp, ⟨nx, .cd (trC P nt (.rangeFunc f ps x y)) :: k, fi, df, st, false⟩⟩ (trX f) (mapL posOf ps.toList) (trC P nt x) (trC P nt y) k) (lone (b.atR a (.code (.rangeFunc f ps x y) :: k')) cs w)

theorem ev_bool {x : Operand} {c : Bool} (ht : TR ρ tm a.tmps) (h : ev tm (trX x) = .bool c) : a.eval x = .bool c := by
  by_cases hx : okX (trX x) = true
  · have := ev_V ht x hx
    rw [h] at this
    generalize a.eval x = v at this
    cases this; rfl
  · exfalso
    have hb : trX x = .bad := by
      cases hx' : trX x with
      | bad => rfl
      | t p => rw [hx'] at hx; exact absurd rfl hx
      | c v => rw [hx'] at hx; exact absurd rfl hx
    rw [hb] at h; cases h

theorem item_ok (hmix : P.follows .mixedOrders = true) (hrange : RangeOk P f0 w0 cs0) (h : Out P f0 w0 cs0 lo nb ρ w nx hp tm k fi df st cs b a todo nt) :
    Ok P f0 w0 cs0 (item P ⟨[], tm, hp, ⟨nx, k, fi, df, st, false⟩⟩) (lone (b.atR a todo) cs w) := by
  have hk := h.hk
  cases hk with
  | nil =>
    exact leave_ok h (jump := none) (j' := none) trivial (fun lb v w' c cs' h1 h2 h3 => stepR_round_end h1 h2 h3) (fun _ h1 => stepR_end h1)
  | @cons x y k2 todo2 hx hl =>
    cases hx with
    | blk n => exact h.to stepR_inBlock hl
    | lop c => exact h.to stepR_inLoop (.cons (.cd c) (.cons (.lop c) hl))
    | scp c => exact h.to stepR_inScope hl
    | rfn hρ => exact trivial
    | @erf l kb hρ =>
      show Ok P f0 w0 cs0 (match hp.get .none l with
        | .loop r => (match r.st with
          | .busy => .bad 16
          | _ => .more ⟨[], tm, hp.set .none (.loop ⟨.exhausted, r.pend, r.f, r.tm, r.ps, r.asg, r.bdy, r.dfb⟩) l, ⟨nx, (match r.pend with | some c => .cd c :: k2 | none => k2), fi, df, st, false⟩⟩)
        | _ => .bad 17) _
      split
      · next r ho =>
        obtain ⟨lp, h1, h2⟩ := loop_at h.hR hρ ho
        split
        · trivial
        · next hst =>
          obtain ⟨w', g1, g2⟩ := run_endLoop (P := P) h1 (by rw [← h2.st]; exact hst)
          refine loop_ok (r' := ⟨.exhausted, r.pend, r.f, r.tm, r.ps, r.asg, r.bdy, r.dfb⟩) h hρ ho g2 ⟨rfl, h2.pend, h2.f, h2.tm, h2.nt, h2.ps, h2.dfb⟩ (stepR_endRange g1) ?_
          have hp := h2.pend
          cases hr : r.pend with
          | none =>
            rw [hr] at hp
            cases hl' : lp.pending with
            | none => exact hl
            | some c => rw [hl'] at hp; exact hp.elim
          | some c =>
            rw [hr] at hp
            cases hl' : lp.pending with
            | none => rw [hl'] at hp; cases c <;> exact hp.elim
            | some c' => rw [hl'] at hp; exact .cons (jump_cd hp) hl
      · trivial
    | brd =>
      show Ok P f0 w0 cs0 (match fi.rnd with
        | some l => (match hp.get .none l with
          | .loop r => (match r.st with
            | .ready => .more ⟨[], tm, hp.set .none (.loop ⟨.busy, r.pend, r.f, r.tm, r.ps, r.asg, r.bdy, r.dfb⟩) l, ⟨nx, k2, fi, df, st, false⟩⟩
            | _ => .bad 18)
          | _ => .bad 19)
        | none => .bad 20) _
      have hrnd := h.hb.rnd
      split
      · next l hr =>
        rw [hr] at hrnd
        obtain ⟨hkd, kb, hρ, hro⟩ := hrnd
        split
        · next r ho =>
          obtain ⟨lp, h1, h2⟩ := loop_at h.hR hρ ho
          split
          · next hst =>
            obtain ⟨w', g1, g2⟩ := run_beginRound (P := P) h1 (by rw [← h2.st]; exact hst)
            exact loop_ok (r' := ⟨.busy, r.pend, r.f, r.tm, r.ps, r.asg, r.bdy, r.dfb⟩) h hρ ho g2 ⟨rfl, h2.pend, h2.f, h2.tm, h2.nt, h2.ps, h2.dfb⟩ (stepR_beginRound hro g1) hl
          · trivial
        · trivial
      · trivial
    | cd c =>
      cases c with
      | skip => exact h.to stepR_skip hl
      | region id ops d =>
        have hreg := region_ok hmix h hl
        show Ok P f0 w0 cs0 (item P ⟨[], tm, hp, ⟨nx, .cd (trR P nt ops d) :: k2, fi, df, st, false⟩⟩) _
        have hcase : (∃ ms, trR P nt ops d = .reg ms) ∨ trR P nt ops d = .bad := by
          unfold trR
          split
          · exact .inl ⟨_, rfl⟩
          · split
            · exact .inl ⟨_, rfl⟩
            · exact .inr rfl
        rcases hcase with ⟨ms, hms⟩ | hms
        · rw [hms] at hreg ⊢; exact hreg
        · rw [hms]; exact trivial
      | seq x y => exact h.to stepR_seq (.cons (.cd x) (.cons (.cd y) hl))
      | cond c x y =>
        show Ok P f0 w0 cs0 (match ev tm (trX c) with
          | .bool true => .more ⟨[], tm, hp, ⟨nx, .cd (trC P nt x) :: k2, fi, df, st, false⟩⟩
          | .bool false => .more ⟨[], tm, hp, ⟨nx, .cd (trC P nt y) :: k2, fi, df, st, false⟩⟩
          | _ => .bad 13) _
        split
        · next hc => exact h.to (stepR_cond (ev_bool h.ht hc)) (.cons (.cd x) hl)
        · next hc => exact h.to (stepR_cond (ev_bool h.ht hc)) (.cons (.cd y) hl)
        · trivial
      | block n x => exact h.to stepR_block (.cons (.cd x) (.cons (.blk n) hl))
      | loop x => exact h.to stepR_loop (.cons (.cd x) (.cons (.lop x) hl))
      | rangeFunc f ps x y => exact hrange h hl
      | exit n =>
        show Ok P f0 w0 cs0 (match exitTo n k2 with
          | some k => .more ⟨[], tm, hp, ⟨nx, k, fi, df, st, false⟩⟩
          | none => leave (some (.exit n)) ⟨[], tm, hp, ⟨nx, .cd (.exit n) :: k2, fi, df, st, false⟩⟩) _
        have he := exitTo_ok n hl
        split
        · next q hq =>
          rw [hq] at he
          obtain ⟨q', h1, h2⟩ := he
          exact h.to (stepR_exit h1) h2
        · next hq =>
          rw [hq] at he
          exact leave_ok h (jump := some (.exit n)) (j' := some (.exit n)) rfl (fun lb v w' c cs' h1 h2 h3 => stepR_round_exit h1 h2 he h3) (fun h1 => by rcases h1 with h1 | h1 <;> cases h1)
      | scope x => exact h.to stepR_scope (.cons (.cd x) (.cons (.scp x) hl))
      | label n => exact h.to stepR_label hl
      | goto n =>
        show Ok P f0 w0 cs0 (match gotoIn n k2 with
          | some k => .more ⟨[], tm, hp, ⟨nx, k, fi, df, st, false⟩⟩
          | none => leave (some (.goto n)) ⟨[], tm, hp, ⟨nx, .cd (.goto n) :: k2, fi, df, st, false⟩⟩) _
        have he := gotoIn_ok n hl
        split
        · next q hq =>
          rw [hq] at he
          obtain ⟨q', h1, h2⟩ := he
          exact h.to (stepR_goto h1) h2
        · next hq =>
          rw [hq] at he
          exact leave_ok h (jump := some (.goto n)) (j' := some (.goto n)) rfl (fun lb v w' c cs' h1 h2 h3 => stepR_round_goto h1 h2 he h3) (fun h1 => by rcases h1 with h1 | h1 <;> cases h1)
      | ret =>
        exact leave_ok h (jump := some .ret) (j' := some .ret) trivial (fun lb v w' c cs' h1 h2 h3 => stepR_round_ret h1 h2 h3) (fun _ h1 => stepR_ret h1)
      | refuse s => exact trivial
end
end Am

/- A step within a region that the run takes too. -/
namespace Am
open Go

section
variable {P : Program} {f0 : Nat} {w0 : World} {cs0 : List Frame} {lo nb nt : Nat} {ρ : Rho} {w : World} {nx : Pos} {hp : T AObj} {tm tms : T AV} {k : List AIt} {fi : FI} {df : List ADef} {st : List Sus} {cs : List Frame}
  {b : Frame} {a : Act} {ops : Array Oper} {i : Nat} {rest : List Nat} {k' : List Item} {o : Oper} {ms : List MOp}

theorem trO_call {f : X} {args : List X} (h : trO P o.op = .call f args) : ∃ c fv, o.op = .call c ∧ c.callee = .value fv ∧ f = trX fv ∧ args = mapL trX c.args.toList := by
  cases hop : o.op with
  | call c =>
    rw [hop] at h
    simp only [trO] at h
    cases hc : c.callee with
    | value fv =>
      unfold trCall at h
      rw [hc] at h
      cases h
      exact ⟨c, fv, rfl, hc, rfl, rfl⟩
    | invoke r m => unfold trCall at h; rw [hc] at h; cases h
    | builtin bb =>
      exfalso
      unfold trCall at h
      rw [hc] at h
      simp only at h
      split at h
      · split at h
        · split at h
          · cases h
          · cases h
          · cases h
          · cases h
          · split at h <;> cases h
          · cases h
        · cases h
      · split at h
        · split at h <;> cases h
        · cases h
      · split at h
        · split at h <;> cases h
        · cases h
      · split at h
        · split at h <;> cases h
        · cases h
      · split at h
        · split at h <;> cases h
        · cases h
      · cases h
      · cases h
      · cases h
  | alloc y => rw [hop] at h; simp only [trO] at h; split at h <;> cases h
  | box y z => rw [hop] at h; simp only [trO] at h; split at h <;> cases h
  | buildSlice t n ps => rw [hop] at h; simp only [trO] at h; split at h <;> (try split at h) <;> cases h
  | makeMap t r => rw [hop] at h; simp only [trO] at h; split at h <;> cases h
  | makeSlice t l c => rw [hop] at h; simp only [trO] at h; split at h <;> cases h
  | build t ps =>
    rw [hop] at h
    simp only [trO] at h
    split at h
    · split at h
      · split at h <;> cases h
      · cases h
    · split at h
      · split at h <;> cases h
      · cases h
    · cases h
  | load t y => rw [hop] at h; simp only [trO] at h; split at h <;> cases h
  | unOp op t y => rw [hop] at h; simp only [trO] at h; split at h <;> cases h
  | makeInterface t y => rw [hop] at h; simp only [trO] at h; split at h <;> cases h
  | makeFunc fn xs ys => rw [hop] at h; simp only [trO] at h; split at h <;> cases h
  | slice t y lo hi mx => rw [hop] at h; simp only [trO] at h; split at h <;> cases h
  | fieldAddr t y f => rw [hop] at h; simp only [trO] at h; split at h <;> cases h
  | field t y f => rw [hop] at h; simp only [trO] at h; split at h <;> (try split at h) <;> cases h
  | indexAddr t y i => rw [hop] at h; simp only [trO] at h; split at h <;> (try split at h) <;> cases h
  | index t y i => rw [hop] at h; simp only [trO] at h; split at h <;> (try split at h) <;> cases h
  | lookup t y i ok => rw [hop] at h; simp only [trO] at h; split at h <;> cases h
  | insert t m y z => rw [hop] at h; simp only [trO] at h; split at h <;> cases h
  | store t y z => rw [hop] at h; simp only [trO] at h; split at h <;> cases h
  | mapUpdate t m y z => rw [hop] at h; simp only [trO] at h; split at h <;> cases h
  | mapEntry t m y => rw [hop] at h; simp only [trO] at h; split at h <;> cases h
  | defer c => rw [hop] at h; simp only [trO] at h; split at h <;> cases h
  | range t x => rw [hop] at h; simp only [trO] at h; split at h <;> cases h
  | next i s => rw [hop] at h; cases s <;> cases h
  | entry i => rw [hop] at h; cases h
  | _ => rw [hop] at h; cases h

theorem trO_dfr {f : X} {args : List X} (h : trO P o.op = .dfr f args) : ∃ c fv, o.op = .defer c ∧ c.callee = .value fv ∧ f = trX fv ∧ args = mapL trX c.args.toList := by
  cases hop : o.op with
  | defer c =>
    rw [hop] at h
    simp only [trO] at h
    split at h
    · next fv hc => cases h; exact ⟨c, fv, rfl, hc, rfl, rfl⟩
    · cases h
  | call c =>
    rw [hop] at h
    simp only [trO, trCall] at h
    split at h
    · cases h
    · cases h
    · split at h
      · split at h
        · split at h
          · cases h
          · cases h
          · cases h
          · cases h
          · split at h <;> cases h
          · cases h
        · cases h
      · split at h
        · split at h <;> cases h
        · cases h
      · split at h
        · split at h <;> cases h
        · cases h
      · split at h
        · split at h <;> cases h
        · cases h
      · split at h
        · split at h <;> cases h
        · cases h
      · cases h
      · cases h
      · cases h
  | alloc y => rw [hop] at h; simp only [trO] at h; split at h <;> cases h
  | box y z => rw [hop] at h; simp only [trO] at h; split at h <;> cases h
  | buildSlice t n ps => rw [hop] at h; simp only [trO] at h; split at h <;> (try split at h) <;> cases h
  | makeMap t r => rw [hop] at h; simp only [trO] at h; split at h <;> cases h
  | makeSlice t l c => rw [hop] at h; simp only [trO] at h; split at h <;> cases h
  | build t ps =>
    rw [hop] at h
    simp only [trO] at h
    split at h
    · split at h
      · split at h <;> cases h
      · cases h
    · split at h
      · split at h <;> cases h
      · cases h
    · cases h
  | load t y => rw [hop] at h; simp only [trO] at h; split at h <;> cases h
  | unOp op t y => rw [hop] at h; simp only [trO] at h; split at h <;> cases h
  | makeInterface t y => rw [hop] at h; simp only [trO] at h; split at h <;> cases h
  | makeFunc fn xs ys => rw [hop] at h; simp only [trO] at h; split at h <;> cases h
  | slice t y lo hi mx => rw [hop] at h; simp only [trO] at h; split at h <;> cases h
  | fieldAddr t y f => rw [hop] at h; simp only [trO] at h; split at h <;> cases h
  | field t y f => rw [hop] at h; simp only [trO] at h; split at h <;> (try split at h) <;> cases h
  | indexAddr t y i => rw [hop] at h; simp only [trO] at h; split at h <;> (try split at h) <;> cases h
  | index t y i => rw [hop] at h; simp only [trO] at h; split at h <;> (try split at h) <;> cases h
  | lookup t y i ok => rw [hop] at h; simp only [trO] at h; split at h <;> cases h
  | insert t m y z => rw [hop] at h; simp only [trO] at h; split at h <;> cases h
  | store t y z => rw [hop] at h; simp only [trO] at h; split at h <;> cases h
  | mapUpdate t m y z => rw [hop] at h; simp only [trO] at h; split at h <;> cases h
  | mapEntry t m y => rw [hop] at h; simp only [trO] at h; split at h <;> cases h
  | range t x => rw [hop] at h; simp only [trO] at h; split at h <;> cases h
  | next i s => rw [hop] at h; cases s <;> cases h
  | entry i => rw [hop] at h; cases h
  | _ => rw [hop] at h; cases h

theorem trO_recov (h : trO P o.op = .recov) : ∃ c, o.op = .call c ∧ c.callee = .builtin .recover := by
  cases hop : o.op with
  | call c =>
    rw [hop] at h
    simp only [trO, trCall] at h
    split at h
    · cases h
    · cases h
    · next bb hc =>
      split at h
      · split at h
        · split at h
          · cases h
          · cases h
          · cases h
          · cases h
          · split at h <;> cases h
          · cases h
        · cases h
      · split at h
        · split at h <;> cases h
        · cases h
      · split at h
        · split at h <;> cases h
        · cases h
      · split at h
        · split at h <;> cases h
        · cases h
      · split at h
        · split at h <;> cases h
        · cases h
      · cases h
      · exact ⟨c, rfl, hc⟩
      · cases h
  | alloc y => rw [hop] at h; simp only [trO] at h; split at h <;> cases h
  | box y z => rw [hop] at h; simp only [trO] at h; split at h <;> cases h
  | buildSlice t n ps => rw [hop] at h; simp only [trO] at h; split at h <;> (try split at h) <;> cases h
  | makeMap t r => rw [hop] at h; simp only [trO] at h; split at h <;> cases h
  | makeSlice t l c => rw [hop] at h; simp only [trO] at h; split at h <;> cases h
  | build t ps =>
    rw [hop] at h
    simp only [trO] at h
    split at h
    · split at h
      · split at h <;> cases h
      · cases h
    · split at h
      · split at h <;> cases h
      · cases h
    · cases h
  | load t y => rw [hop] at h; simp only [trO] at h; split at h <;> cases h
  | unOp op t y => rw [hop] at h; simp only [trO] at h; split at h <;> cases h
  | makeInterface t y => rw [hop] at h; simp only [trO] at h; split at h <;> cases h
  | makeFunc fn xs ys => rw [hop] at h; simp only [trO] at h; split at h <;> cases h
  | slice t y lo hi mx => rw [hop] at h; simp only [trO] at h; split at h <;> cases h
  | fieldAddr t y f => rw [hop] at h; simp only [trO] at h; split at h <;> cases h
  | field t y f => rw [hop] at h; simp only [trO] at h; split at h <;> (try split at h) <;> cases h
  | indexAddr t y i => rw [hop] at h; simp only [trO] at h; split at h <;> (try split at h) <;> cases h
  | index t y i => rw [hop] at h; simp only [trO] at h; split at h <;> (try split at h) <;> cases h
  | lookup t y i ok => rw [hop] at h; simp only [trO] at h; split at h <;> cases h
  | insert t m y z => rw [hop] at h; simp only [trO] at h; split at h <;> cases h
  | store t y z => rw [hop] at h; simp only [trO] at h; split at h <;> cases h
  | mapUpdate t m y z => rw [hop] at h; simp only [trO] at h; split at h <;> cases h
  | mapEntry t m y => rw [hop] at h; simp only [trO] at h; split at h <;> cases h
  | defer c => rw [hop] at h; simp only [trO] at h; split at h <;> cases h
  | range t x => rw [hop] at h; simp only [trO] at h; split at h <;> cases h
  | next i s => rw [hop] at h; cases s <;> cases h
  | entry i => rw [hop] at h; cases h
  | _ => rw [hop] at h; cases h

/-! ### The run's steps -/

theorem stepR_enter {f : Nat} {args : Array Value} {w' : World} (ho : ops[i]? = some o) (hw : Region.wanted o (yielded ops a.tmps) = true) (hnd : ∀ c, o.op ≠ .defer c) (hr : (execOp a.eval o).run P w = .ok (.enter f args) w') :
    Go.step P (lone (b.atR a (.inRegion ops (i :: rest) :: k')) cs w) = Stepped.next (lone (Frame.enter P f args .normal) (b.atR a (.inRegion ops (i :: rest) :: k') :: cs) w') := by
  have hg := stepGR_op (P := P) (b := b) (k := k') (cs := cs) (w := w) (rest := rest) ho hw
  rw [Oper.semAt_eq _ _ _ hnd] at hg
  refine step_lone_go ?_
  rw [hg]
  simp [stepG.apply, hr, Frame.atR]

theorem stepR_round {l f : Nat} {tmps : Array Value} {x y : Code} {w' : World} (ho : ops[i]? = some o) (hw : Region.wanted o (yielded ops a.tmps) = true) (hnd : ∀ c, o.op ≠ .defer c) (hr : (execOp a.eval o).run P w = .ok (.round l f tmps x y) w') :
    Go.step P (lone (b.atR a (.inRegion ops (i :: rest) :: k')) cs w) = Stepped.next (lone (Frame.round l f tmps x y .normal) (b.atR a (.inRegion ops (i :: rest) :: k') :: cs) w') := by
  have hg := stepGR_op (P := P) (b := b) (k := k') (cs := cs) (w := w) (rest := rest) ho hw
  rw [Oper.semAt_eq _ _ _ hnd] at hg
  refine step_lone_go ?_
  rw [hg]
  simp [stepG.apply, hr]

theorem stepR_defer {d : Deferred} {w' : World} (ho : ops[i]? = some o) (hw : Region.wanted o (yielded ops a.tmps) = true) (hb : b.roundOf = none) (hr : (execOp a.eval o).run P w = .ok (.defer d) w') :
    Go.step P (lone (b.atR a (.inRegion ops (i :: rest) :: k')) cs w) = Stepped.next (lone (b.atR ({ a with defers := d :: a.defers }.put o.dst Go.undef) (.inRegion ops rest :: k')) cs w') := by
  have hg := stepGR_op (P := P) (b := b) (k := k') (cs := cs) (w := w) (rest := rest) ho hw
  rw [hb, Oper.semAt_none] at hg
  refine step_lone_go ?_
  rw [hg]
  have hfin : ({ b.atR a (.inRegion ops (i :: rest) :: k') with defers := d :: a.defers } : Frame).finish Go.undef = b.atR ({ a with defers := d :: a.defers }.put o.dst Go.undef) (.inRegion ops rest :: k') := by
    have := Frame.finish_atR b { a with defers := d :: a.defers } ops i rest k' Go.undef
    rw [ho] at this; exact this
  simp only [stepG.apply, Sem.runT_eq, if_true, hr, GStep.bare_after]
  exact congrArg (fun fr => GStep.go { frame := fr, callers := cs, status := .running, dying := none } w') hfin

theorem stepR_recov {c : Frame} {w' : World} (ho : ops[i]? = some o) (hw : Region.wanted o (yielded ops a.tmps) = true) (hnd : ∀ c, o.op ≠ .defer c) (hb : b.roundOf = none) (hk : b.kind = .deferred) (hc : c.mode = .returning) (hr : (execOp a.eval o).run P w = .ok .recover w') :
    Go.step P (lone (b.atR a (.inRegion ops (i :: rest) :: k')) (c :: cs) w) = Stepped.next (lone (b.atR (a.put o.dst .nilIface) (.inRegion ops rest :: k')) (c :: cs) w') := by
  have hg := stepGR_op (P := P) (b := b) (k := k') (cs := c :: cs) (w := w) (rest := rest) ho hw
  rw [Oper.semAt_eq _ _ _ hnd] at hg
  have hfin : (b.atR a (.inRegion ops (i :: rest) :: k')).finish .nilIface = b.atR (a.put o.dst .nilIface) (.inRegion ops rest :: k') := by
    rw [Frame.finish_atR, ho]; rfl
  refine step_lone_go ?_
  rw [hg, ← hfin]
  have hro : (b.atR a (.inRegion ops (i :: rest) :: k')).roundOf = none := hb
  have hkd : (b.atR a (.inRegion ops (i :: rest) :: k')).kind = .deferred := hk
  simp only [stepG.apply, Sem.runT_eq, if_true, hr, GStep.bare_after, hro, tryRecover, hkd, hc]
  rfl
end
end Am

/- An operation of a region is done, here and in the run. -/
namespace Am
open Go

section
variable {P : Program} {W f0 : Nat} {w0 : World} {cs0 : List Frame} {lo nb nt : Nat} {ρ : Rho} {w : World} {nx : Pos} {hp : T AObj} {tm tms : T AV} {k : List AIt} {fi : FI} {df : List ADef} {st : List Sus} {cs : List Frame}
  {b : Frame} {a : Act} {ops : Array Oper} {i : Nat} {rest : List Nat} {k' : List Item} {o : Oper} {ms : List MOp}

/-- bytes.Buffer's WriteByte, as one operation: what is owed of it. -/
def WB (P : Program) (W : Nat) : Prop := W < P.funcs.size → ∀ (ρ : Rho) (hp : T AObj) (nx : Pos) (w : World) (args : List AV) (args' : Array Value) (e : Eff), Rel P ρ hp nx w → VL ρ args args'.toList → wbE hp nx args = some e → nx.num ≤ e.nx.num ∧
  (∃ fn c, P.funcs[W]? = some fn ∧ fn.body = some c ∧ (fn.name == "runtime.NumGoroutine") = false) ∧
  Calls P W args' w fun x w' => ∃ v' ρ', x = .returned v' ∧ V ρ' e.v v' ∧ Exn nx ρ ρ' w ∧ Rel P ρ' e.hp e.nx w' ∧ Fr ρ w w'

theorem appendE_nx {z bt : Nat} {s x : AV} {e : Eff} (h : appendE hp nx z bt s x = some e) : nx.num ≤ e.nx.num := by
  unfold appendE at h
  repeat' split at h
  all_goals first
    | (cases h; done)
    | (cases h; exact Nat.le_refl _)
    | (cases h; rw [Pos.num_succ]; omega)

theorem effI_nx {j : Ins} {e : Eff} (h : effI P tm hp nx j = some e) : nx.num ≤ e.nx.num := by
  cases j with
  | app z bt s x => exact appendE_nx h
  | st n x v =>
    simp only [effI] at h
    repeat' split at h
    all_goals first
      | (cases h; done)
      | (cases h; exact Nat.le_refl _)
  | cpy z d s =>
    simp only [effI] at h
    repeat' split at h
    all_goals first
      | (cases h; done)
      | (cases h; exact Nat.le_refl _)
  | rng x =>
    simp only [effI, rangeE] at h
    repeat' split at h
    all_goals first
      | (cases h; done)
      | (cases h; rw [Pos.num_succ]; omega)
  | nxt x =>
    simp only [effI, next1, nextE] at h
    repeat' split at h
    all_goals first
      | (cases h; done)
      | (cases h; exact Nat.le_refl _)
  | clr z zs x =>
    simp only [effI] at h
    repeat' split at h
    all_goals first
      | (cases h; done)
      | (cases h; exact Nat.le_refl _)
  | mup kt m x v =>
    simp only [effI] at h
    repeat' split at h
    all_goals first
      | (cases h; done)
      | (cases h; exact Nat.le_refl _)
  | men kt z m x =>
    simp only [effI] at h
    repeat' split at h
    all_goals first
      | (cases h; done)
      | (cases h; exact Nat.le_refl _)
  | mes m s v =>
    simp only [effI] at h
    repeat' split at h
    all_goals first
      | (cases h; done)
      | (cases h; exact Nat.le_refl _)
  | _ => cases h

noncomputable def psGo (ps : List Pos) (tm : T AV) (vs : List AV) : T AV := lrec (fun tm _ => tm) (fun p _ ih tm vs => match vs with | v :: vs => ih (tm.set .undef v p) vs | [] => tm) ps tm vs

theorem psGo_nil (tm : T AV) (vs : List AV) : psGo [] tm vs = tm := rfl
theorem psGo_cons (p : Pos) (ps : List Pos) (tm : T AV) (vs : List AV) : psGo (p :: ps) tm vs = (match vs with | v :: vs => psGo ps (tm.set .undef v p) vs | [] => tm) := rfl

theorem params_TR : ∀ (ts : List Tmp) (vs : List AV) (vs' : List Value) (tm : T AV) (tmps : Array Value), VL ρ vs vs' → TR ρ tm tmps → (∀ t ∈ ts, t < tmps.size) →
    TR ρ (psGo (ts.map posOf) tm vs) ((ts.zip vs').foldl (fun tmps p => tmps.setIfInBounds p.1 p.2) tmps) ∧ ((ts.zip vs').foldl (fun tmps p => tmps.setIfInBounds p.1 p.2) tmps).size = tmps.size
  | [], vs, vs', tm, tmps, _, ht, _ => ⟨by simpa [psGo_nil] using ht, by simp⟩
  | t :: ts, _, _, tm, tmps, .nil, ht, _ => ⟨by simpa [psGo_cons] using ht, by simp⟩
  | t :: ts, _, _, tm, tmps, .cons (a := v) (v := v') h hl, ht, hs => by
    have := params_TR ts _ _ (tm.set .undef v (posOf t)) (tmps.setIfInBounds t v') hl (ht.set h t (hs t (by simp))) (fun u hu => by simpa using hs u (by simp [hu]))
    simp only [List.map_cons, psGo_cons, List.zip_cons_cons, List.foldl_cons]
    exact ⟨this.1, by rw [this.2]; simp⟩

theorem mapL_V (ht : TR ρ tm a.tmps) {xs : List Operand} (h : ∀ x ∈ xs, okX (trX x) = true) : VL ρ (mapL (ev tm) (mapL trX xs)) (xs.map a.eval) := by
  rw [mapL_eq, mapL_eq, List.map_map]
  exact VL.map' _ _ xs fun x hx => ev_V ht x (h x hx)

/-- A frame that is about to wait. -/
theorem wait_ok {lo nb : Nat} {sus : Sus} {fr : Frame} {fi2 : FI} (hst : StkR P f0 w0 cs0 lo nb ρ w fi st cs) (hlo : lo ≤ w.heap.size) (hnb : nb ≤ nx.num) (hfi : sus.fr = fi) (hm : fi2.kd = .dfd → fr.mode = .returning)
    (hk : ∀ (ρ' : Rho) (w' : World) (hp' : T AObj) (nx' : Pos) (v : AV) (v' : Value), Grow w.heap.size nx.num ρ ρ' w w' → nx.num ≤ nx'.num → V ρ' v v' →
        Cur P lo nb ρ' w' nx' hp' sus.ms (resTm fi2.kd v sus) (resK fi2.kd sus) sus.fr sus.df sus.md (resF fi2.kd v' fr)) :
    StkR P f0 w0 cs0 w.heap.size nx.num ρ w fi2 (sus :: st) (fr :: cs) := by
  subst hfi
  exact .cons hst (Grow.refl _ _ _ _) hlo hnb hm hk

/-- What is called is entered. -/
theorem callV_ok {fv : AV} {fv' : Value} {args : List AV} {args' : Array Value} (hR : Rel P ρ hp nx w) (hv : V ρ fv fv') (ha : VL ρ args args'.toList) {st : List Sus} {cs : List Frame} {m : Machine}
    (hst : ∀ fi2 : FI, fi2.kd = .nrm → StkR P f0 w0 cs0 w.heap.size nx.num ρ w fi2 st cs)
    (hent : ∀ f args2, (do let d ← Deferred.ofValue fv' args'; invoke d.target d.args : Sem Next).run P w = .ok (.enter f args2) w → Steps P m (lone (Frame.enter P f args2 .normal) cs w))
    (hrnd : ∀ l f tmps x y, (do let d ← Deferred.ofValue fv' args'; invoke d.target d.args : Sem Next).run P w = .ok (.round l f tmps x y) w → Steps P m (lone (Frame.round l f tmps x y .normal) cs w)) :
    Ok P f0 w0 cs0 (callV P hp nx fv args .nrm st) m := by
  cases hv with
  | @fn f x c as cps h1 h2 =>
    show Ok P f0 w0 cs0 (enter P f (app x (app args c)) .nrm hp nx st) m
    have hV : VL ρ (app x (app args c)) (as ++ args' ++ cps).toList := by
      rw [app_eq, app_eq]
      simp only [Array.toList_append, List.append_assoc]
      exact h1.append (ha.append h2)
    have hok := enter_ok (kd := .nrm) (f := f) hR (Nat.le_refl _) (Nat.le_refl _) hV (fun res => hst ⟨f, res, .nrm, none⟩ rfl)
    cases he : enter P f (app x (app args c)) .nrm hp nx st with
    | bad n => trivial
    | done v h n => exact absurd he enter_not_done
    | more s =>
      obtain ⟨fn, c', q1, q2, q3⟩ := enter_some he
      rw [he] at hok
      refine Ok.before (hent f (as ++ args' ++ cps) ?_) hok
      have := run_callFunc (P := P) (w := w) (args := as ++ args' ++ cps) q1 q2 q3
      simpa [Deferred.ofValue, invoke] using this
  | @yld l kb h1 =>
    show Ok P f0 w0 cs0 (match hp.get .none l, Kd.nrm with
      | .loop r, .nrm => (match Nat.beq (len args) (len r.ps) with
        | true => R.more ⟨[], lrec (fun tm _ => tm) (fun p _ ih tm vs => match vs with | v :: vs => ih (tm.set .undef v p) vs | [] => tm) r.ps r.tm args, hp,
            ⟨nx, [.cd r.asg, .brd, .cd r.bdy], ⟨r.f, [], .nrm, some l⟩, [], st, false⟩⟩
        | false => .bad 4)
      | _, _ => .bad 5) m
    split
    · next r ho hx =>
      obtain ⟨lp, g1, g2⟩ := loop_at hR h1 ho
      split
      · next hlen =>
        rw [nbeq, decide_eq_true_iff, len_eq, len_eq, g2.ps, List.length_map] at hlen
        have hsz : args'.size = lp.params.size := by
          have := ha.length
          simp at this hlen; omega
        obtain ⟨fn, n1, n2, n3, n4, n5⟩ := g2.nt
        obtain ⟨p1, p2⟩ := params_TR (ρ := ρ) lp.params.toList args args'.toList r.tm lp.tmps ha g2.tm (fun t ht => Nat.lt_of_lt_of_le (n5 t ht) n2)
        have hrun : (do let d ← Deferred.ofValue (.func (.yield kb.b) #[] #[]) args'; invoke d.target d.args : Sem Next).run P w =
            .ok (.round kb.b lp.fn ((lp.params.zip args').foldl (fun tmps (t, a) => tmps.setIfInBounds t a) lp.tmps) lp.assign lp.body) w := by
          simp [Deferred.ofValue, invoke, Instr.yield, run_getLoop g1, hsz]
        refine Ok.before (hrnd _ _ _ _ _ hrun) ?_
        have hfold : (lp.params.zip args').foldl (fun tmps (t, a) => tmps.setIfInBounds t a) lp.tmps = (lp.params.toList.zip args'.toList).foldl (fun tmps p => tmps.setIfInBounds p.1 p.2) lp.tmps := by
          rw [← Array.foldl_toList, Array.toList_zip]
        rw [hfold]
        let b : Frame := { (default : Frame) with fn := lp.fn, kind := .normal, roundOf := some kb.b }
        have hfr : Frame.round kb.b lp.fn ((lp.params.toList.zip args'.toList).foldl (fun tmps p => tmps.setIfInBounds p.1 p.2) lp.tmps) lp.assign lp.body .normal =
            b.atR ⟨(lp.params.toList.zip args'.toList).foldl (fun tmps p => tmps.setIfInBounds p.1 p.2) lp.tmps, []⟩ [.code lp.assign, .beginRound, .code lp.body] := by
          simp [Frame.round, Frame.atR, b]
        rw [hfr]
        have hps : lrec (fun tm _ => tm) (fun p _ ih tm vs => match vs with | v :: vs => ih (tm.set .undef v p) vs | [] => tm) r.ps r.tm args = psGo (lp.params.toList.map posOf) r.tm args := by
          rw [g2.ps]; rfl
        rw [hps, n3, n4]
        refine Out.ok (nt := fn.ntmps) ⟨hR, Nat.le_refl _, Nat.le_refl _, ⟨g2.f.symm, ⟨fn, ?_, rfl, fun h => by cases h⟩, rfl, ⟨rfl, kb, h1, rfl⟩⟩, .nil, Nat.le_trans n2 (Nat.le_of_eq p2.symm), p1, .cons (.cd _) (.cons .brd (.cons (.cd _) .nil)), hst _ rfl⟩
        rw [g2.f]; exact n1
      · trivial
    · trivial
  | _ => trivial
end
end Am

/- An operation of a region is done, here and in the run: each kind. -/
namespace Am
open Go

section
variable {P : Program} {W f0 : Nat} {w0 : World} {cs0 : List Frame} {lo nb nt : Nat} {ρ : Rho} {w : World} {nx : Pos} {hp : T AObj} {tm tms : T AV} {k : List AIt} {fi : FI} {df : List ADef} {st : List Sus} {cs : List Frame}
  {b : Frame} {a : Act} {ops : Array Oper} {i : Nat} {rest : List Nat} {k' : List Item} {o : Oper} {ms : List MOp}

theorem isRfn_false {k : List AIt} (h : isRfn k = false) (kd : Kd) (hk : kd = .nrm) (v : AV) (d : Option Pos) (ms : List MOp) (tm : T AV) (fr : FI) (df : List ADef) (md : Bool) :
    resTm kd v ⟨d, ms, tm, k, fr, df, md⟩ = setD d v tm ∧ resK kd ⟨d, ms, tm, k, fr, df, md⟩ = k := by
  subst hk
  cases k with
  | nil => exact ⟨rfl, rfl⟩
  | cons x k => cases x <;> first | exact ⟨rfl, rfl⟩ | cases h

theorem isW_eq {v : AV} (h : isW W v = true) : v = .fn W [] [] := by
  unfold isW at h
  split at h
  · next f => rw [nbeq, decide_eq_true_iff] at h; rw [h]
  · cases h

theorem eff_not_defer {e : Eff} (h : effI P tm hp nx (trO P o.op) = some e) : ∀ c, o.op ≠ .defer c := by
  intro c hc
  rw [hc] at h
  simp only [trO] at h
  split at h <;> cases h

theorem op_ok (hWB : WB P W) (ho : ops[i]? = some o) {d : Option Pos} {g : Option (Pos × Bool)} (hd1 : trD nt o.dst = some d) (hg1 : trG ops.toList o.guard = some g) (hok : okOs o.op = true)
    (hR : Rel P ρ hp nx w) (hlo : lo ≤ w.heap.size) (hnb : nb ≤ nx.num) (hb : FB P ρ fi b nt) (hdf : DL ρ df a.defers) (hs : nt ≤ a.tmps.size) (hts : TR ρ tms a.tmps)
    (hag : ∀ t ∈ rdM ⟨false, g, d, trO P o.op⟩, tms.get .undef t = tm.get .undef t) (hk : KR P ρ nt k k') (hst : StkR P f0 w0 cs0 lo nb ρ w fi st cs)
    (hcont : ∀ (ρ' : Rho) (w' : World) (nx' : Pos) (hp' : T AObj) (v : AV) (v' : Value), Grow w.heap.size nx.num ρ ρ' w w' → nx.num ≤ nx'.num → V ρ' v v' → RegR P nt lo nb ρ' w' nx' hp' (setD d v tm) (a.put o.dst v').tmps ms ops rest) :
    Ok P f0 w0 cs0 (micro P W ⟨⟨false, g, d, trO P o.op⟩ :: ms, tm, hp, ⟨nx, k, fi, df, st, false⟩⟩ ⟨false, g, d, trO P o.op⟩ ms) (lone (b.atR a (.inRegion ops (i :: rest) :: k')) cs w) := by
  have hwt := wanted_eq_of hag
  have hev := ev_eq_of hag
  have hm := okOs_mem hok
  have fin : ∀ (ρ' : Rho) (w' : World) (nx' : Pos) (hp' : T AObj) (v : AV) (v' : Value) (a2 : Act) (df2 : List ADef), Grow w.heap.size nx.num ρ ρ' w w' → nx.num ≤ nx'.num → V ρ' v v' → Rel P ρ' hp' nx' w' →
      a2.tmps = (a.put o.dst v').tmps → DL ρ' df2 a2.defers →
      Ok P f0 w0 cs0 (.more ⟨ms, setD d v tm, hp', ⟨nx', k, fi, df2, st, false⟩⟩) (lone (b.atR a2 (.inRegion ops rest :: k')) cs w') := by
    intro ρ' w' nx' hp' v v' a2 df2 h1 h2 h3 h4 h5 h6
    refine ⟨_, Steps.refl P _, ⟨_, _, _, _, _, _, rfl, h4, Nat.le_trans hlo h1.size, Nat.le_trans hnb h2, .reg (hb.mono h1.ext) h6 ?_ (hk.mono h1.ext) ?_, hst.mono (h1.weaken hlo hnb)⟩⟩
    · rw [h5, put_size]; exact hs
    · rw [h5]; exact hcont ρ' w' nx' hp' v v' h1 h2 h3
  unfold micro
  simp only
  split
  · trivial
  · next wd hw =>
    rw [← hwt] at hw
    have hw' : Region.wanted o (yielded ops a.tmps) = wd := wanted_ok hg1 hts hw
    cases wd with
    | false =>
      refine Ok.before (.one (stepR_unwanted ho hw')) ?_
      exact fin ρ w nx hp (.tup []) Go.undef _ df (Grow.refl _ _ _ _) (Nat.le_refl _) (.tup .nil) hR rfl (by rw [put_defers]; exact hdf)
    | true =>
      simp only
      split
      · -- a call
        next f args hi =>
        obtain ⟨c, fv, hop, hcal, rfl, rfl⟩ := trO_call hi
        have hnd : ∀ c, o.op ≠ .defer c := by intro c' e; rw [hop] at e; cases e
        have hfx : okX (trX fv) = true := hm fv (by rw [hop]; simp [Op.operands, Call.operands, hcal])
        have hargs : ∀ x ∈ c.args.toList, okX (trX x) = true := fun x hx => hm x (by rw [hop]; simp [Op.operands, Call.operands]; exact .inr (by simpa using hx))
        have hev' := hev
        simp only at hev'
        rw [hi] at hev'
        have e1 : ev tm (trX fv) = ev tms (trX fv) := (hev' _ (by simp [rdI])).symm
        have e2 : mapL (ev tm) (mapL trX c.args.toList) = mapL (ev tms) (mapL trX c.args.toList) := (mapL_tm fun x hx => hev' x (by simp [rdI, hx])).symm
        have hfv := ev_V hts fv hfx
        have hav : VL ρ (mapL (ev tms) (mapL trX c.args.toList)) (c.args.map a.eval).toList := by rw [Array.toList_map]; exact mapL_V hts hargs
        have hexec : execOp a.eval o = (do let d ← Deferred.ofValue (a.eval fv) (c.args.map a.eval); invoke d.target d.args) := by
          simp only [execOp, hop, resolve, hcal]
        rw [e1, e2]
        split
        · next hisW =>
          split
          · next e hW he =>
            obtain ⟨hnx, ⟨fn, cc, hf1, hf2, hf3⟩, hcalls⟩ := hWB (Nat.le_of_ble_eq_true hW) ρ hp nx w _ _ e hR hav he
            have hval := isW_eq hisW
            rw [hval] at hfv
            have hrun : (execOp a.eval o).run P w = .ok (.enter W (c.args.map a.eval)) w := by
              rw [hexec]
              have hv2 : a.eval fv = .func (.func W) #[] #[] := by
                generalize a.eval fv = z at hfv
                cases hfv with
                | @fn _ _ _ as cs h1 h2 =>
                  have h3 := h1.length
                  have h4 := h2.length
                  simp at h3 h4
                  have h3' : as = #[] := by simpa using h3.symm
                  have h4' : cs = #[] := by simpa using h4.symm
                  rw [h3', h4']
              rw [hv2]
              have := run_callFunc (P := P) (w := w) (args := c.args.map a.eval) hf1 hf2 hf3
              simpa [Deferred.ofValue, invoke] using this
            obtain ⟨x, w', fr, ⟨v', ρ', rfl, h1, h2, h3, h4⟩, hcomes, hfn, hleave⟩ := hcalls (b.atR a (.inRegion ops (i :: rest) :: k') :: cs)
            have hfin : (b.atR a (.inRegion ops (i :: rest) :: k')).finish v' = b.atR (a.put o.dst v') (.inRegion ops rest :: k') := by
              rw [Frame.finish_atR, ho]; rfl
            have hsteps : Steps P (lone (b.atR a (.inRegion ops (i :: rest) :: k')) cs w) (lone (b.atR (a.put o.dst v') (.inRegion ops rest :: k')) cs w') := by
              rw [← hfin]
              exact .head (stepR_enter ho hw' hnd hrun) (Steps.trans hcomes (.one (step_leave_returned hleave)))
            have hg : Grow w.heap.size nx.num ρ ρ' w w' := grow_of h2.1 (fun o ho => h2.2 o ho) h4 (Nat.le_refl _)
            exact Ok.before hsteps (fin ρ' w' e.nx e.hp e.v v' _ df hg hnx h1 h3 rfl (by rw [put_defers]; exact hdf.mono hg.ext))
          · trivial
        · next hisW =>
          split
          · trivial
          · next hrfn =>
            refine callV_ok (cs := b.atR a (.inRegion ops (i :: rest) :: k') :: cs) hR hfv hav (fun fi2 hfi2 => wait_ok hst hlo hnb rfl (fun h => by rw [hfi2] at h; cases h) fun ρ' w' hp' nx' v v' h1 h2 h3 => ?_) (fun f args2 hrun => ?_) (fun l f tmps x y hrun => ?_)
            · obtain ⟨q1, q2⟩ := isRfn_false hrfn fi2.kd hfi2 v d ms tm fi df false
              simp only [q1, q2]
              have hF : resF fi2.kd v' (b.atR a (.inRegion ops (i :: rest) :: k')) = b.atR (a.put o.dst v') (.inRegion ops rest :: k') := by
                rw [hfi2]
                show (b.atR a (.inRegion ops (i :: rest) :: k')).finish v' = _
                rw [Frame.finish_atR, ho]; rfl
              rw [hF]
              exact .reg (hb.mono h1.ext) (by rw [put_defers]; exact hdf.mono h1.ext) (by rw [put_size]; exact hs) (hk.mono h1.ext) (hcont ρ' w' nx' hp' v v' h1 h2 h3)
            · rw [← hexec] at hrun
              exact .one (stepR_enter ho hw' hnd hrun)
            · rw [← hexec] at hrun
              exact .one (stepR_round ho hw' hnd hrun)
      · -- a deferred call
        next f args hi =>
        obtain ⟨c, fv, hop, hcal, rfl, rfl⟩ := trO_dfr hi
        have hfx : okX (trX fv) = true := hm fv (by rw [hop]; simp [Op.operands, Call.operands, hcal])
        have hargs : ∀ x ∈ c.args.toList, okX (trX x) = true := fun x hx => hm x (by rw [hop]; simp [Op.operands, Call.operands]; exact .inr (by simpa using hx))
        have hev' := hev
        simp only at hev'
        rw [hi] at hev'
        have e1 : ev tm (trX fv) = ev tms (trX fv) := (hev' _ (by simp [rdI])).symm
        have e2 : mapL (ev tm) (mapL trX c.args.toList) = mapL (ev tms) (mapL trX c.args.toList) := (mapL_tm fun x hx => hev' x (by simp [rdI, hx])).symm
        have hfv := ev_V hts fv hfx
        have hav : VL ρ (mapL (ev tms) (mapL trX c.args.toList)) (c.args.map a.eval).toList := by rw [Array.toList_map]; exact mapL_V hts hargs
        rw [e1, e2]
        split
        · next f x cc hfe hrn =>
          obtain ⟨dd, r1, cps, r2, r3⟩ := call_run (P := P) (w := w) hfv hav hfe
          have hro : b.roundOf = none := by have := hb.rnd; rw [hrn] at this; exact this
          have hrun : (execOp a.eval o).run P w = .ok (.defer dd) w := by
            simp only [execOp, hop, resolve, hcal, Sem.run_bind, r1, Result.andThen_ok, Sem.run_pure]
          refine Ok.before (.one (stepR_defer ho hw' hro hrun)) ?_
          refine fin ρ w nx hp .undef Go.undef _ _ (Grow.refl _ _ _ _) (Nat.le_refl _) (.undef rfl) hR ?_ ?_
          · cases o.dst <;> rfl
          · rw [put_defers]
            refine .cons ?_ hdf
            obtain ⟨tgt, ar⟩ := dd
            simp only at r2
            subst r2
            exact .call r3
        · trivial
      · -- recover
        next hi =>
        obtain ⟨c, hop, hcal⟩ := trO_recov hi
        have hnd : ∀ c, o.op ≠ .defer c := by intro c' e; rw [hop] at e; cases e
        split
        · next s2 st2 hkd hrn =>
          have hro : b.roundOf = none := by have := hb.rnd; rw [hrn] at this; exact this
          have hkk : b.kind = .deferred := by rw [hb.kind, hkd]; rfl
          have hrun : (execOp a.eval o).run P w = .ok .recover w := by
            simp only [execOp, hop, resolve, hcal]
            rfl
          have hcs : ∃ c cs', cs = c :: cs' ∧ c.mode = .returning := by
            cases hst with
            | cons h1 h2 h3 h4 h5 h6 => exact ⟨_, _, rfl, h5 hkd⟩
          obtain ⟨c1, cs1, rfl, hmode⟩ := hcs
          refine Ok.before (.one (stepR_recov ho hw' hnd hro hkk hmode hrun)) ?_
          exact fin ρ w nx hp .inil .nilIface _ df (Grow.refl _ _ _ _) (Nat.le_refl _) .inil hR rfl (by rw [put_defers]; exact hdf)
        · trivial
      · -- what computes, makes or writes
        next hi1 hi2 hi3 =>
        split
        · next hcl =>
          split
          · next v hv =>
            have hnd : ∀ c, o.op ≠ .defer c := not_defer (P := P) (by rw [hcl]; rfl)
            rw [← pureI_tm hev] at hv
            obtain ⟨v', hr, hV⟩ := pure_sim hR hts hok hv
            refine Ok.before (.one (stepR_value ho hw' hnd hr (.inl rfl))) ?_
            exact fin ρ w nx hp v v' _ df (Grow.refl _ _ _ _) (Nat.le_refl _) hV hR rfl (by rw [put_defers]; exact hdf)
          · trivial
        · next hcl =>
          split
          · next x kk hv =>
            have hnd : ∀ c, o.op ≠ .defer c := not_defer (P := P) (by rw [hcl]; rfl)
            rw [← allocI_tm hev] at hv
            obtain ⟨ob, v', w', n, hr, hheap, hsame, hobj, hV⟩ := alloc_sim hts hok hv
            have hx := ex_born (w := w) (q := nx) (k0 := ⟨w.heap.size, 0, n⟩) rfl hR.fresh
            have hg : Grow w.heap.size nx.num ρ (upd ρ nx ⟨w.heap.size, 0, n⟩) w w' := grow_of hx (fun o ho => upd_ne _ (by rintro rfl; omega)) (fr_push hheap hsame) (Nat.le_refl _)
            refine Ok.before (.one (stepR_value ho hw' hnd hr (.inl rfl))) ?_
            exact fin _ w' nx.succ _ (mkA kk nx) v' _ df hg (by rw [Pos.num_succ]; omega) (hV _ nx (upd_same _ _ _)) (hR.alloc hheap hobj) rfl (by rw [put_defers]; exact hdf.mono hg.ext)
          · trivial
        · next hcl =>
          split
          · next e hv =>
            have hnx := effI_nx hv
            have hnd := eff_not_defer hv
            rw [← effI_tm hev] at hv
            obtain ⟨n, v', w', ρ', hr, hn, hx, hR', hV, hF⟩ := eff_sim hR hts hok hv
            have hg : Grow w.heap.size nx.num ρ ρ' w w' := grow_of hx.1 (fun o ho => hx.2 o ho) hF (Nat.le_refl _)
            refine Ok.before (.one (stepR_value ho hw' hnd hr hn)) ?_
            exact fin ρ' w' e.nx e.hp e.v v' _ df hg hnx hV hR' rfl (by rw [put_defers]; exact hdf.mono hg.ext)
          · trivial
end
end Am

/- A step within a region. -/
namespace Am
open Go

section
variable {P : Program} {W f0 : Nat} {w0 : World} {cs0 : List Frame} {lo nb nt : Nat} {ρ : Rho} {w : World} {nx : Pos} {hp : T AObj} {tm : T AV} {k : List AIt} {fi : FI} {df : List ADef} {st : List Sus} {cs : List Frame}
  {b : Frame} {a : Act} {ops : Array Oper} {rest : List Nat} {k' : List Item} {o : Oper} {m : MOp} {ms : List MOp}

theorem trM_cases (l : List Oper) : (∃ d g, trD nt o.dst = some d ∧ trG l o.guard = some g ∧ okOs o.op = true ∧ trM P nt l o = ⟨false, g, d, trO P o.op⟩) ∨ trM P nt l o = badM := by
  unfold trM
  split
  · next d g hd hg ho => exact .inl ⟨d, g, hd, hg, ho, rfl⟩
  · exact .inr rfl

theorem micro_bad (s : S) (c : Bool) (h : c = false) : micro P W s ⟨c, badM.g, badM.d, badM.i⟩ ms = .bad 27 := by subst h; rfl

theorem isSkip_eq {v : AV} (h : isSkip v = true) : v = .tup [] := by
  unfold isSkip at h
  split at h
  · rfl
  · cases h

theorem micro_ok (hWB : WB P W) (hR : Rel P ρ hp nx w) (hlo : lo ≤ w.heap.size) (hnb : nb ≤ nx.num) (hb : FB P ρ fi b nt) (hdf : DL ρ df a.defers) (hs : nt ≤ a.tmps.size) (hk : KR P ρ nt k k') (hst : StkR P f0 w0 cs0 lo nb ρ w fi st cs)
    {ms0 : List MOp} (hms : ms0 = m :: ms) (hr : RegR P nt lo nb ρ w nx hp tm a.tmps ms0 ops rest) :
    Ok P f0 w0 cs0 (micro P W ⟨m :: ms, tm, hp, ⟨nx, k, fi, df, st, false⟩⟩ m ms) (lone (b.atR a (.inRegion ops rest :: k')) cs w) := by
  cases hr with
  | nd i ht =>
    have hi : i < ops.size := by
      have := congrArg List.length hms
      simp at this; omega
    have hdrop : ops.toList.drop i = ops[i] :: ops.toList.drop (i + 1) := by
      rw [List.drop_eq_getElem_cons (by simpa using hi)]; simp
    have hrange : (List.range ops.size).drop i = i :: (List.range ops.size).drop (i + 1) := by
      rw [List.drop_eq_getElem_cons (by simpa using hi)]; simp
    rw [hdrop, List.map_cons] at hms
    cases hms
    rw [hrange]
    rcases trM_cases (P := P) (nt := nt) (o := ops[i]) ops.toList with ⟨d, g, h1, h2, h3, h4⟩ | h4
    · rw [h4]
      exact op_ok hWB (by simp [hi]) h1 h2 h3 hR hlo hnb hb hdf hs ht (fun _ _ => rfl) hk hst fun ρ' w' nx' hp' v v' g1 g2 g3 => .nd (i + 1) (put_TR h1 hs (ht.mono g1.ext) g3)
    · rw [h4]
      exact (show Ok P f0 w0 cs0 (.bad 27) _ from trivial)
  | @dr ops l pr pl E M V D rest hI hg hl hd =>
    cases pl with
    | nil => cases hms
    | cons e pl =>
      obtain ⟨ck, n⟩ := e
      rw [List.map_cons] at hms
      cases hms
      cases ck with
      | true =>
        obtain ⟨p, hp0, hg2⟩ := okGo_cks hg
        rw [toM_ck hp0]
        have fin : Valid P tm hp p.m → Ok P f0 w0 cs0 (.more ⟨pl.map (toM l), tm, hp, ⟨nx, k, fi, df, st, false⟩⟩) (lone (b.atR a (.inRegion ops rest :: k')) cs w) := fun hv =>
          ⟨_, Steps.refl P _, ⟨_, _, _, _, _, _, rfl, hR, hlo, hnb, .reg hb hdf hs hk (.dr hI hg2 hl (hd.check hI hp0 hv)), hst⟩⟩
        unfold micro
        simp only
        split
        · trivial
        · next wd hw =>
          cases wd with
          | true =>
            simp only
            split
            · next hag => exact fin (again_valid hw hag)
            · trivial
          | false =>
            simp only
            split
            · next t hdt =>
              split
              · next hsk => exact fin (.inr ⟨hw, t, hdt, isSkip_eq hsk⟩)
              · trivial
            · trivial
      | false =>
        obtain ⟨p, hp0, hnE, hbef, hcase⟩ := okGo_exs hg
        rw [toM_ck hp0]
        have hpl : p ∈ l := List.mem_of_getElem? hp0
        obtain ⟨hpn, hprd, o, ho, hpb, hpm⟩ := hI.get n p hp0
        have hnm : ∀ r, pr = some r → n ≠ r.m := by
          intro r hr e
          have := hd.prE r hr
          rw [← e, hnE] at this; cases this
        rcases hcase with ⟨hc, hMV, hall, hg2⟩ | ⟨hc, hg2⟩
        · -- one of the chain
          have hns : n < ops.size := by
            rcases Nat.lt_or_ge n ops.size with h | h
            · exact h
            · rw [Array.getElem?_eq_none h] at ho; cases ho
          have hni : ∀ r, pr = some r → n ≠ r.i := by
            intro r hr e
            obtain ⟨-, -, ty, kt, kk, vv, oi, pi, -, -, -, -, -, -, -, -, -, q10, q11, q12, -⟩ := hI.prI r hr
            rw [← e, hp0] at q10; cases q10
            rw [hc] at q12; cases q12
          have hpm := hpm fun r hr => ⟨hnm r hr, hni r hr⟩
          obtain ⟨rest', D', a', w', ρ', c1, c2, ⟨r', rfl⟩, c4, c5, c6, c7, c8⟩ := flush_to (b := b) (k := k') (cs := cs) hI hns hnE hall hMV hl hd hR hs hlo
          refine Ok.before c1 ?_
          cases c2 with
          | cons q1 q2 q3 q4 =>
            rcases trM_cases (P := P) (nt := nt) (o := o) ops.toList with ⟨d, g, h1, h2, h3, h4⟩ | h4
            · have hpm2 := hpm.trans h4
              obtain ⟨tms, t1, t2⟩ := c4.ts
              have hahead : ∀ j, bit p.bef j = true → D' j := fun j hj => c4.ahead hI hpl (by rw [hpn]; exact q3) hj
              have hrd : ∀ t ∈ rdM p.m, tms.get .undef t = tm.get .undef t := fun t ht => t2 t (c4.reads hI hpl (by rw [hpn]; exact hnm) (.inr (by rw [hpn]; exact hnE)) hahead ht)
              have hpd : p.m.d = d := by rw [hpm2]
              rw [hpm2] at hrd
              simp only [hpm2]
              refine op_ok hWB ho h1 h2 h3 c5 (Nat.le_trans hlo c6.size) hnb (hb.mono c6.ext) (by rw [c7]; exact hdf.mono c6.ext) (by rw [c8]; exact hs) t1 hrd (hk.mono c6.ext) (hst.mono c6) fun ρ2 w2 nx2 hp2 v v' g1 g2 g3 => ?_
              have := c4.chain (hp' := hp2) hI hp0 hnE q3 hc (Nat.le_trans hlo c6.size) hnb g1 g2 (dst := o.dst) (by rw [hpd]; exact h1) (by rw [c8]; exact hs) g3
              rw [hpd] at this
              exact .dr hI hg2 q4 this
            · rw [hpm, h4]
              rw [micro_bad _ false rfl]
              trivial
        · -- a late one
          have hone := hI.one p hpl (by rw [hpn]; exact hnm)
          unfold okOne at hone
          rw [hc, bor_iff] at hone
          have hone := hone.resolve_left (by simp)
          split at hone
          · next t hcl hdt =>
            have hown : t ∉ rdM p.m := by
              intro ht
              rw [← hprd] at ht
              rw [(posIn_iff t p.rd).2 ht] at hone; cases hone
            have hkeep : ∀ (v : AV), ∀ u ∈ rdM p.m, (tm.set .undef v t).get .undef u = tm.get .undef u := fun v u hu => T.get_set_ne _ _ _ _ _ (by rintro rfl; exact hown hu)
            unfold micro
            simp only
            split
            · trivial
            · next wd hw =>
              cases wd with
              | false =>
                simp only [hdt]
                refine ⟨_, Steps.refl P _, ⟨_, _, _, _, _, _, rfl, hR, hlo, hnb, .reg hb hdf hs hk (.dr hI hg2 hl ?_), hst⟩⟩
                refine hd.exec (v := .tup []) hI hp0 hnE hbef hc hdt (Nat.le_refl _) hnb (fun _ _ => rfl) (fun _ _ => rfl) ?_ (fun q h1 h2 => by cases h2)
                exact .inr ⟨by rw [wanted_eq_of (hkeep _)]; exact hw, t, hdt, T.get_set_same _ _ _ _⟩
              | true =>
                simp only
                split
                · next hi => rw [hi] at hcl; cases hcl
                · next hi => rw [hi] at hcl; cases hcl
                · next hi => rw [hi] at hcl; cases hcl
                · split
                  · next hcl2 =>
                    split
                    · next v hv =>
                      simp only [hdt]
                      refine ⟨_, Steps.refl P _, ⟨_, _, _, _, _, _, rfl, hR, hlo, hnb, .reg hb hdf hs hk (.dr hI hg2 hl ?_), hst⟩⟩
                      refine hd.exec (v := v) hI hp0 hnE hbef hc hdt (Nat.le_refl _) hnb (fun _ _ => rfl) (fun _ _ => rfl) ?_ (fun q h1 h2 => by rw [hcl2] at h1; cases h1)
                      refine .inl ⟨by rw [wanted_eq_of (hkeep _)]; exact hw, t, hdt, .inl ⟨hcl2, ?_⟩⟩
                      rw [pureI_tm (ev_eq_of (hkeep v)), T.get_set_same]; exact hv
                    · trivial
                  · next hcl2 =>
                    split
                    · next x kk hv =>
                      simp only [hdt]
                      have hnx : hp.get .none nx = .none := hR.new nx (Nat.le_refl _)
                      refine ⟨_, Steps.refl P _, ⟨_, _, _, _, _, _, rfl, hR.named x, hlo, by show nb ≤ nx.succ.num; rw [Pos.num_succ]; omega, .reg hb hdf hs hk (.dr hI hg2 hl ?_), hst⟩⟩
                      refine hd.exec (v := mkA kk nx) hI hp0 hnE hbef hc hdt (by rw [Pos.num_succ]; omega) hnb (fun o ho => T.get_set_ne _ _ _ _ _ (by rintro rfl; exact ho hnx)) (fun o ho => T.get_set_ne _ _ _ _ _ (by rintro rfl; omega)) ?_ (fun q h1 h2 => ?_)
                      · refine .inl ⟨by rw [wanted_eq_of (hkeep _)]; exact hw, t, hdt, .inr ⟨hcl2, x, kk, nx, ?_, T.get_set_same _ _ _ _, .inl (T.get_set_same _ _ _ _)⟩⟩
                        rw [allocI_tm (ev_eq_of (hkeep _))]; exact hv
                      · rw [objOf_mkA] at h2; cases h2
                        exact ⟨hR.fresh, rfl, by rw [Pos.num_succ]; omega⟩
                    · trivial
                  · next hcl2 => rw [hcl2] at hcl; cases hcl
          · cases hone
end
end Am

/- A frame is left. -/
namespace Am
open Go

section
variable {P : Program} {W f0 : Nat} {w0 : World} {cs0 : List Frame} {lo nb nt : Nat} {ρ : Rho} {w : World} {nx : Pos} {hp : T AObj} {tm : T AV} {fi : FI} {df : List ADef} {st : List Sus} {cs : List Frame}
  {b : Frame} {a : Act} {todo : List Item}

def resSem (tmps : Array Value) : ResultVar → Sem Value
  | .tmp t => pure (tmps.getD t Go.undef)
  | .cell a t => do loadVar t (← asAddr (tmps.getD a Go.undef))

theorem results_eq (fn : Func) (tmps : Array Value) : results fn tmps = (do
    let vs ← fn.results.mapM (resSem tmps)
    pure (if h : vs.size = 1 then vs[0] else .tuple vs)) := by
  unfold results
  congr 1

theorem resV_ok (hR : Rel P ρ hp nx w) (ht : TR ρ tm a.tmps) {r : ResultVar} {v : AV} (h : resV tm hp (trRV P r) = some v) : ∃ v', (resSem a.tmps r).run P w = .ok v' w ∧ V ρ v v' := by
  cases r with
  | tmp t =>
    have h' : (match tm.get .undef (posOf t) with
      | .undef => none
      | v => some v) = some v := h
    refine ⟨_, rfl, ?_⟩
    split at h'
    · cases h'
    · cases h'; exact ht t
  | cell x t =>
    have hv := ht x
    simp only [trRV] at h
    generalize hx : a.tmps.getD x Go.undef = y at hv
    split at h
    · next n hg hn =>
      have h' : (match tm.get .undef (posOf x) with
        | .ptr o f => (match cellsFrom (hp.get .none o) n f with
          | some l => some (AV.agg l)
          | none => none)
        | _ => none) = some v := h
      split at h'
      · next o f e =>
        rw [e] at hv
        cases hv with
        | @ptr _ _ k ho hf =>
          split at h'
          · next l hl =>
            cases h'
            obtain ⟨cs, h1, h2⟩ := run_loadCells_V hR ho hf hl
            exact ⟨.agg cs, by simp [resSem, hx, asAddr, loadVar, run_isAgg hg, run_sizeOf hn, h1], .agg h2⟩
          · cases h'
      · cases h'
    · next hg =>
      have h' : (match tm.get .undef (posOf x) with
        | .ptr o f => (match cellAt (hp.get .none o) f with
          | .undef => none
          | v => some v)
        | _ => none) = some v := h
      split at h'
      · next o f e =>
        rw [e] at hv
        cases hv with
        | @ptr _ _ k ho hf =>
          split at h'
          · cases h'
          · next hn =>
            cases h'
            obtain ⟨v', h1, h2⟩ := cell_V hR ho (f := f) hn
            exact ⟨v', by simp [resSem, hx, asAddr, loadVar, run_isAgg hg, h1], h2⟩
      · cases h'
    · cases h

theorem resL_ok (hR : Rel P ρ hp nx w) (ht : TR ρ tm a.tmps) : ∀ (rs : List ResultVar) (vs : List AV), mapO (resV tm hp) (rs.map (trRV P)) = some vs → ∃ vs', (rs.mapM (resSem a.tmps)).run P w = .ok vs' w ∧ VL ρ vs vs'
  | [], vs, h => by
    rw [List.map_nil, mapO_nil] at h; cases h
    exact ⟨[], by simp, .nil⟩
  | r :: rs, vs, h => by
    rw [List.map_cons] at h
    obtain ⟨v, vs1, h1, h2, rfl⟩ := mapO_cons_some h
    obtain ⟨v', g1, g2⟩ := resV_ok hR ht h1
    obtain ⟨vs', g3, g4⟩ := resL_ok hR ht rs vs1 h2
    exact ⟨v' :: vs', by simp [List.mapM_cons, g1, g3], .cons g2 g4⟩

theorem resAll_ok (hR : Rel P ρ hp nx w) (ht : TR ρ tm a.tmps) {fn : Func} {v : AV} (h : resAll tm hp (mapL (trRV P) fn.results.toList) = some v) : ∃ v', (results fn a.tmps).run P w = .ok v' w ∧ V ρ v v' := by
  unfold resAll at h
  rw [mapL_eq] at h
  cases hm : mapO (resV tm hp) (fn.results.toList.map (trRV P)) with
  | none => rw [hm] at h; cases h
  | some vs =>
    obtain ⟨vs', h1, h2⟩ := resL_ok hR ht _ _ hm
    have hrun : (results fn a.tmps).run P w = .ok (if h : vs'.toArray.size = 1 then vs'.toArray[0] else .tuple vs'.toArray) w := by
      rw [results_eq]
      simp only [Sem.run_bind]
      rw [Array.mapM_eq_mapM_toList]
      simp [h1]
    refine ⟨_, hrun, ?_⟩
    rw [hm] at h
    have hlen := h2.length
    split at h
    · next v1 e =>
      cases e; cases h
      cases h2 with
      | cons h3 h4 => cases h4; exact h3
    · next e =>
      cases e; cases h
      cases h2
      exact .undef rfl
    · next vs2 hn1 hn2 e =>
      cases e; cases h
      have : vs'.length ≠ 1 := by
        intro e2
        rw [e2] at hlen
        obtain ⟨x, rfl⟩ := List.length_eq_one_iff.1 hlen
        exact hn1 x rfl
      simp only [List.size_toArray, this, dite_false]
      exact .tup h2
    · cases h

theorem step_leave_dfd {fr c : Frame} {cs : List Frame} {v : Value} (hm : fr.mode = .returning) (hd : fr.defers = []) (hk : fr.kind = .deferred) {fn : Func} (hf : P.funcs[fr.fn]? = some fn) (hr : (results fn fr.tmps).run P w = .ok v w)
    (hc : c.mode = .returning) : Go.step P (lone fr (c :: cs) w) = Stepped.next (lone c cs w) :=
  step_lone_go (by simp [stepG, Go.unwind, doReturn, hm, hd, hk, hf, hr, hc])

theorem step_defer {fr : Frame} {d : Deferred} {ds : List Deferred} {f : Nat} {args : Array Value} (hm : fr.mode = .returning) (hd : fr.defers = d :: ds) (ht : ∃ c, d.target = .fn (.func f) c) (hr : (invoke d.target d.args).run P w = .ok (.enter f args) w) :
    Go.step P (lone fr cs w) = Stepped.next (lone (Frame.enter P f args .deferred) ({ fr with defers := ds } :: cs) w) := by
  obtain ⟨c, ht⟩ := ht
  obtain ⟨tgt, ar⟩ := d
  simp only at ht
  subst ht
  exact step_lone_go (by simp [stepG, Go.unwind, callDeferred, hm, hd, Sem.runT_eq, hr])

theorem step_collect {fr : Frame} {c : Nat} {ar : Array Value} {ds dl : List Deferred} {w' : World} (hm : fr.mode = .returning) (hd : fr.defers = { target := .collected c, args := ar } :: ds) (hr : (Instr.takeDeferred c).run P w = .ok dl w') :
    Go.step P (lone fr cs w) = Stepped.next (lone { fr with defers := dl ++ ds } cs w') :=
  step_lone_go (by simp [stepG, Go.unwind, hm, hd, Sem.runT_eq, hr])

theorem unwind_ok (hR : Rel P ρ hp nx w) (hlo : lo ≤ w.heap.size) (hnb : nb ≤ nx.num) (hb : FB P ρ fi b nt) (hd : DL ρ df a.defers) (hs : nt ≤ a.tmps.size) (ht : TR ρ tm a.tmps) (hr : fi.rnd = none)
    (hst : StkR P f0 w0 cs0 lo nb ρ w fi st cs) {k : List AIt} : Ok P f0 w0 cs0 (unwind P ⟨[], tm, hp, ⟨nx, k, fi, df, st, true⟩⟩) (lone { b.atR a todo with mode := .returning } cs w) := by
  obtain ⟨fnc, hf1, hf2, hf3⟩ := hb.fc
  have hfn : ({ b.atR a todo with mode := .returning } : Frame).fn = fi.f := hb.fn
  have hkd : ({ b.atR a todo with mode := .returning } : Frame).kind = kdOf fi.kd := hb.kind
  unfold unwind
  simp only
  split
  · -- no deferred call
    have hdf : a.defers = [] := by
      revert hd
      generalize a.defers = z
      intro hd
      cases hd; rfl
    split
    · next v hv =>
      rw [hf3 hr] at hv
      obtain ⟨v', g1, g2⟩ := resAll_ok hR ht hv
      cases hst with
      | nil q1 q2 q3 q4 =>
        show Ok P f0 w0 cs0 (back v hp nx fi.kd []) _
        rw [q3]
        refine ⟨v', w, _, ρ, Steps.refl P _, by rw [hfn]; exact q2, ⟨rfl, hdf, by rw [hkd, q3]; rfl, fnc, by rw [hfn]; exact hf1, g1⟩, g2, hR, q1⟩
      | @cons _ _ _ _ _ s st fr cs nxs lo' nb' q1 q2 q3 q4 q5 q6 =>
        have hbk := back_ok (v := v) (v' := v') hR hlo hnb (StkR.cons q1 q2 q3 q4 q5 q6) g2
        refine Ok.before (.one ?_) hbk
        cases hkk : fi.kd with
        | nrm =>
          show Go.step P _ = Stepped.next (lone (fr.finish v') cs w)
          exact step_leave_returned ⟨rfl, hdf, by rw [hkd, hkk]; rfl, fnc, by rw [hfn]; exact hf1, g1⟩
        | dfd =>
          show Go.step P _ = Stepped.next (lone fr cs w)
          exact step_leave_dfd rfl hdf (by rw [hkd, hkk]; rfl) (by rw [hfn]; exact hf1) g1 (q5 hkk)
    · trivial
  · -- a deferred call
    next f args ds =>
    generalize hz : a.defers = z at hd
    cases hd with
    | @cons _ m _ ms h1 h2 =>
      cases h1 with
      | @call _ _ as cps h3 =>
        have hok := enter_ok (P := P) (f0 := f0) (w0 := w0) (cs0 := cs0) (kd := .dfd) (f := f) (args := args) (args' := as ++ cps) (st := ⟨none, [], tm, [], fi, ds, true⟩ :: st)
          (cs := { ({ b.atR a todo with mode := .returning } : Frame) with defers := ms } :: cs) hR (Nat.le_refl _) (Nat.le_refl _) h3
          (fun res => wait_ok hst hlo hnb rfl (fun _ => rfl) fun ρ' w' hp' nx' v v' g1 g2 g3 =>
            Cur.ret (b := b) (a := { a with defers := ms }) (todo := todo) (hb.mono g1.ext) (h2.mono g1.ext) hs (ht.mono g1.ext) hr)
        cases he : enter P f args .dfd hp nx (⟨none, [], tm, [], fi, ds, true⟩ :: st) with
        | bad n => trivial
        | done v h n => exact absurd he enter_not_done
        | more s =>
          obtain ⟨fn, c', q1, q2, q3⟩ := enter_some he
          rw [he] at hok
          refine Ok.before (.one ?_) hok
          have := run_callFunc (P := P) (w := w) (args := as ++ cps) q1 q2 q3
          exact step_defer (d := { target := .fn (.func f) cps, args := as }) rfl hz ⟨cps, rfl⟩ (by simpa [invoke] using this)
  · -- the deferred calls of a range over a function
    next o ds =>
    split
    · next l ho =>
      generalize hz : a.defers = z at hd
      cases hd with
      | @cons _ m _ ms h1 h2 =>
        cases h1 with
        | @coll _ kb h3 =>
          obtain ⟨ob, g1, g2⟩ := hR.obj o kb h3 (by rw [ho]; simp)
          rw [ho] at g2
          cases g2 with
          | @dfr _ dl g3 =>
            obtain ⟨w', g4, g5⟩ := set_turned (P := P) (ob' := .deferred none) g1 (by intro x y z; simp)
            have hrun : (Instr.takeDeferred kb.b).run P w = .ok dl w' := by
              have hget : (getObj kb.b).run P w = .ok (.deferred (some dl)) w := by simp [getObj, Sem.run, g1]
              simp [Instr.takeDeferred, hget, g4]
            have hgrow : Grow lo nb ρ ρ w w' := turn_grow hR h3 g5 hlo
            refine ⟨_, .one (step_collect rfl hz hrun), ⟨_, _, w', ρ, lo, nb, rfl, hR.turn h3 (by rw [ho]; simp) g5 fun _ => .dfrN, Nat.le_trans hlo hgrow.size, hnb, ?_, hst.mono hgrow⟩⟩
            rw [app_eq]
            exact Cur.ret (b := b) (a := { a with defers := dl ++ ms }) (todo := todo) hb (g3.append h2) hs ht hr
    · trivial
end
end Am

/- A range over a function begins; a step; a run. -/
namespace Am
open Go

section
variable {P : Program} {W f0 : Nat} {w0 : World} {cs0 : List Frame} {lo nb nt : Nat} {ρ : Rho} {w w' : World} {nx : Pos} {hp : T AObj} {tm : T AV} {fi : FI} {df : List ADef} {st : List Sus} {cs : List Frame}
  {b : Frame} {a : Act} {todo : List Item}

theorem stepR_range_enter {f : Operand} {ps : Array Tmp} {x y : Code} {k : List Item} {l : Nat} {mark : List Deferred} {g : Nat} {args : Array Value} (hb : b.roundOf = none)
    (h1 : (Instr.enterLoop b.fn a.tmps ps x y none).run P w = .ok (l, mark) w')
    (h2 : (do let d ← Deferred.ofValue (a.eval f) #[.func (.yield l) #[] #[]]; invoke d.target d.args : Sem Next).run P w' = .ok (.enter g args) w') :
    Go.step P (lone (b.atR a (.code (.rangeFunc f ps x y) :: k)) cs w) = Stepped.next (lone (Frame.enter P g args .normal) (b.atR { a with defers := mark ++ a.defers } (.inRangeFunc l :: k) :: cs) w') := by
  have hev : ∀ fr : Frame, fr.tmps = a.tmps → fr.eval = a.eval := by
    intro fr h; funext x; cases x <;> simp [Frame.eval, Act.eval, h]
  have h3 : (do let d ← resolve a.eval { callee := .value f, args := #[.const (.func (.yield l) #[] #[])], argTypes := #[] } 0; invoke d.target d.args : Sem Next).run P w' = .ok (.enter g args) w' := by
    simpa [resolve, Act.eval] using h2
  refine step_lone_go ?_
  simp only [stepG, stepG.exec, Frame.atR, hb, Sem.runT_eq, h1, GStep.bare_after, stepG.apply, if_true]
  rw [hev _ rfl]
  simp only [h3, GStep.bare_after]
  rfl

theorem stepR_range_round {f : Operand} {ps : Array Tmp} {x y x' y' : Code} {k : List Item} {l l' : Nat} {mark : List Deferred} {g : Nat} {tmps : Array Value} (hb : b.roundOf = none)
    (h1 : (Instr.enterLoop b.fn a.tmps ps x y none).run P w = .ok (l, mark) w')
    (h2 : (do let d ← Deferred.ofValue (a.eval f) #[.func (.yield l) #[] #[]]; invoke d.target d.args : Sem Next).run P w' = .ok (.round l' g tmps x' y') w') :
    Go.step P (lone (b.atR a (.code (.rangeFunc f ps x y) :: k)) cs w) = Stepped.next (lone (Frame.round l' g tmps x' y' .normal) (b.atR { a with defers := mark ++ a.defers } (.inRangeFunc l :: k) :: cs) w') := by
  have hev : ∀ fr : Frame, fr.tmps = a.tmps → fr.eval = a.eval := by
    intro fr h; funext x; cases x <;> simp [Frame.eval, Act.eval, h]
  have h3 : (do let d ← resolve a.eval { callee := .value f, args := #[.const (.func (.yield l) #[] #[])], argTypes := #[] } 0; invoke d.target d.args : Sem Next).run P w' = .ok (.round l' g tmps x' y') w' := by
    simpa [resolve, Act.eval] using h2
  refine step_lone_go ?_
  simp only [stepG, stepG.exec, Frame.atR, hb, Sem.runT_eq, h1, GStep.bare_after, stepG.apply, if_true]
  rw [hev _ rfl]
  simp only [h3, GStep.bare_after]
  rfl

theorem range_ok : RangeOk P f0 w0 cs0 := by
  intro lo nb nt ρ w nx hp tm k fi df st cs b a f ps x y k' h hk
  unfold rangeF
  simp only
  split
  · next fn hrn hfn =>
    split
    · trivial
    · next hps =>
      have hro : b.roundOf = none := by have := h.hb.rnd; rw [hrn] at this; exact this
      obtain ⟨fnc, hf1, hf2, hf3⟩ := h.hb.fc
      rw [hf1] at hfn; cases hfn
      let w1 : World := { w with heap := w.heap.push (.deferred (some [])) }
      let lp : Loop := { state := .ready, pending := none, fn := b.fn, tmps := a.tmps, params := ps, assign := x, body := y, defers := w.heap.size }
      let w2 : World := { w1 with heap := w1.heap.push (.loop lp) }
      have hrun : (Instr.enterLoop b.fn a.tmps ps x y none).run P w = .ok (w1.heap.size, [{ target := .collected w.heap.size, args := #[] }]) w2 := by
        simp [Instr.enterLoop, newObj, Sem.run, w1, w2, lp]
      have hR1 : Rel P (upd ρ nx ⟨w.heap.size, 0, 0⟩) (hp.set .none (.dfr (some [])) nx) nx.succ w1 := h.hR.alloc rfl (.dfr .nil)
      have hx1 := ext_upd (ρ := ρ) (q := nx) ⟨w.heap.size, 0, 0⟩ h.hR.fresh
      have hlr : LoopR P (upd ρ nx ⟨w.heap.size, 0, 0⟩) ⟨.ready, none, fi.f, tm, mapL posOf ps.toList, trC P nt x, trC P nt y, nx⟩ lp := by
        refine ⟨rfl, trivial, h.hb.fn.symm, h.ht.mono hx1, ⟨fn, ?_, ?_, ?_, ?_, ?_⟩, mapL_eq _ _, ⟨⟨w.heap.size, 0, 0⟩, upd_same _ _ _, rfl⟩⟩
        · show P.funcs[b.fn]? = some fn; rw [h.hb.fn]; exact hf1
        · rw [hf2]; exact h.hs
        · rw [hf2]
        · rw [hf2]
        · intro t ht
          rw [mapL_eq, allB_iff] at hps
          have := Nat.le_of_ble_eq_true (hps (posOf t) (List.mem_map.2 ⟨t, ht, rfl⟩))
          rw [num_posOf] at this
          exact this
      have hR2 := hR1.alloc (w' := w2) (n := 0) rfl (.loop hlr)
      have hx2 := ext_upd (ρ := upd ρ nx ⟨w.heap.size, 0, 0⟩) (q := nx.succ) ⟨w1.heap.size, 0, 0⟩ hR1.fresh
      have hn1 : nx.succ.num = nx.num + 1 := Pos.num_succ nx
      have hn2 : nx.succ.succ.num = nx.num + 2 := by rw [Pos.num_succ, hn1]
      have hg : Grow lo nb ρ (upd (upd ρ nx ⟨w.heap.size, 0, 0⟩) nx.succ ⟨w1.heap.size, 0, 0⟩) w w2 := by
        have hnb := h.hnb
        have g1 : Grow lo nb ρ (upd ρ nx ⟨w.heap.size, 0, 0⟩) w w1 := grow_of (ex_born rfl h.hR.fresh) (fun o ho => upd_ne _ (by rintro rfl; omega)) (fr_push rfl ⟨rfl, rfl, rfl⟩) h.hlo
        have g2 : Grow lo nb (upd ρ nx ⟨w.heap.size, 0, 0⟩) (upd (upd ρ nx ⟨w.heap.size, 0, 0⟩) nx.succ ⟨w1.heap.size, 0, 0⟩) w1 w2 :=
          grow_of (ex_born rfl hR1.fresh) (fun o ho => upd_ne _ (by rintro rfl; omega)) (fr_push rfl ⟨rfl, rfl, rfl⟩) (Nat.le_trans h.hlo g1.size)
        exact g1.trans g2
      by_cases hfx : okX (trX f) = true
      · have hfv := (ev_V h.ht f hfx).mono hg.ext
        have hl2 : (upd (upd ρ nx ⟨w.heap.size, 0, 0⟩) nx.succ ⟨w1.heap.size, 0, 0⟩) nx.succ = some ⟨w1.heap.size, 0, 0⟩ := upd_same _ _ _
        have hl1 : (upd (upd ρ nx ⟨w.heap.size, 0, 0⟩) nx.succ ⟨w1.heap.size, 0, 0⟩) nx = some ⟨w.heap.size, 0, 0⟩ := hx2 _ _ (upd_same _ _ _)
        refine callV_ok (cs := b.atR { a with defers := [{ target := .collected w.heap.size, args := #[] }] ++ a.defers } (.inRangeFunc w1.heap.size :: k') :: cs) (args' := #[.func (.yield w1.heap.size) #[] #[]]) hR2 hfv
          (.cons (.yld hl2) .nil) (fun fi2 hfi2 => wait_ok (h.hst.mono hg) (Nat.le_trans h.hlo hg.size) (by have := h.hnb; omega) rfl (fun h => by rw [hfi2] at h; cases h) fun ρ' w' hp' nx' v v' g1 g2 g3 => ?_)
          (fun g args2 hr => .one (stepR_range_enter hro hrun hr)) (fun l g tmps x' y' hr => .one (stepR_range_round hro hrun hr))
        rw [hfi2]
        show Cur P lo nb ρ' w' nx' hp' [] tm (.erf nx.succ :: k) fi (.coll nx :: df) false (b.atR { a with defers := [{ target := .collected w.heap.size, args := #[] }] ++ a.defers } (.endRangeFunc w1.heap.size :: k'))
        refine .out (nt := nt) ((h.hb.mono hg.ext).mono g1.ext) (.cons (.coll (k := ⟨w.heap.size, 0, 0⟩) (g1.ext _ _ hl1)) ((h.hd.mono hg.ext).mono g1.ext)) h.hs ((h.ht.mono hg.ext).mono g1.ext)
          (.cons (.erf (k := ⟨w1.heap.size, 0, 0⟩) (g1.ext _ _ hl2)) ((hk.mono hg.ext).mono g1.ext))
      · have hbad : ev tm (trX f) = .undef := by
          cases hx' : trX f with
          | bad => rfl
          | t p => rw [hx'] at hfx; exact absurd rfl hfx
          | c v => rw [hx'] at hfx; exact absurd rfl hfx
        rw [hbad]
        trivial
  · trivial

/-- A step. -/
theorem step_ok (hmix : P.follows .mixedOrders = true) (hWB : WB P W) {s : S} {m : Machine} (h : Sim P f0 w0 cs0 s m) : Ok P f0 w0 cs0 (step P W s) m := by
  obtain ⟨f, cs, w, ρ, lo, nb, rfl, hR, hlo, hnb, hc, hst⟩ := h.ex
  obtain ⟨ms, tm, hp, nx, k, fi, df, st, md⟩ := s
  simp only at hR hnb hc hst
  cases hc with
  | ret hb hd hs ht hr => exact unwind_ok hR hlo hnb hb hd hs ht hr hst
  | out hb hd hs ht hk => exact item_ok hmix range_ok ⟨hR, hlo, hnb, hb, hd, hs, ht, hk, hst⟩
  | reg hb hd hs hk hr =>
    cases ms with
    | nil =>
      obtain ⟨w', ρ', a', h1, h2, h3, h4, h5, h6⟩ := reg_out (cs := cs) (k' := _) hR hlo hs rfl hr
      exact Ok.before h1 (item_ok hmix range_ok ⟨h2, Nat.le_trans hlo h3.size, hnb, hb.mono h3.ext, by rw [h5]; exact hd.mono h3.ext, by rw [h6]; exact hs, h4, hk.mono h3.ext, hst.mono h3⟩)
    | cons m ms => exact micro_ok hWB hR hlo hnb hb hd hs hk hst rfl hr

theorem run_zero' (s : S) : run P W 0 s = step P W s := rfl
theorem run_succ (n : Nat) (s : S) : run P W (n + 1) s = (match run P W n s with
  | .more s => run P W n s
  | r => r) := rfl

theorem run_ok (hmix : P.follows .mixedOrders = true) (hWB : WB P W) : ∀ (n : Nat) {s : S} {m : Machine}, Sim P f0 w0 cs0 s m → Ok P f0 w0 cs0 (run P W n s) m := by
  intro n
  induction n with
  | zero => intro s m h; exact step_ok hmix hWB h
  | succ n ih =>
    intro s m h
    have h1 := ih h
    rw [run_succ]
    cases hr : run P W n s with
    | more s' =>
      rw [hr] at h1
      obtain ⟨m', h2, h3⟩ := h1
      exact Ok.before h2 (ih h3)
    | done v hp nx => rw [hr] at h1; exact h1
    | bad n => trivial
end
end Am

/- A step over a map, where there are several ways: one of them is taken. -/
namespace Am
open Go

/-- What a state becomes by a choice. -/
noncomputable def take1 (s : S) (c : Option AE) : R := match s.ms with
  | m :: ms => match m.i with
    | .nxt x => match nextE s.hp s.z.nx (ev s.tm x) c with
      | some e => .more ⟨ms, setD m.d e.v s.tm, e.hp, ⟨e.nx, s.z.k, s.z.fr, s.z.df, s.z.st, s.z.md⟩⟩
      | none => .bad 31
    | _ => .bad 31
  | [] => .bad 31

section
variable {P : Program} {W f0 : Nat} {w0 : World} {cs0 : List Frame} {lo nb nt : Nat} {ρ : Rho} {w : World} {nx : Pos} {hp : T AObj} {tm tms : T AV} {k : List AIt} {fi : FI} {df : List ADef} {st : List Sus} {cs : List Frame}
  {b : Frame} {a : Act} {ops : Array Oper} {i : Nat} {rest : List Nat} {k' : List Item} {o : Oper} {ms : List MOp} {d : Option Pos} {x : X} {l : List (Option AE)}

theorem trO_next {y : X} (h : trO P o.op = .nxt y) : ∃ j, o.op = .next j false ∧ y = trX j := by
  cases hop : o.op with
  | next j s =>
    rw [hop] at h
    cases s with
    | true => cases h
    | false => cases h; exact ⟨j, rfl, rfl⟩
  | call c =>
    rw [hop] at h
    simp only [trO, trCall] at h
    repeat' split at h
    all_goals cases h
  | _ =>
    rw [hop] at h
    simp only [trO] at h
    repeat' split at h
    all_goals cases h

theorem nxt_op (ho : ops[i]? = some o) (hd1 : trD nt o.dst = some d) (hg1 : trG ops.toList o.guard = some none) (hok : okOs o.op = true) (hi : trO P o.op = .nxt x)
    (hR : Rel P ρ hp nx w) (hlo : lo ≤ w.heap.size) (hnb : nb ≤ nx.num) (hb : FB P ρ fi b nt) (hdf : DL ρ df a.defers) (hs : nt ≤ a.tmps.size) (hts : TR ρ tms a.tmps)
    (hag : ∀ t ∈ rdM ⟨false, none, d, trO P o.op⟩, tms.get .undef t = tm.get .undef t) (hk : KR P ρ nt k k') (hst : StkR P f0 w0 cs0 lo nb ρ w fi st cs)
    (hl : nextL hp (ev tm x) = some l)
    (hcont : ∀ (ρ' : Rho) (w' : World) (nx' : Pos) (hp' : T AObj) (v : AV) (v' : Value), Grow w.heap.size nx.num ρ ρ' w w' → nx.num ≤ nx'.num → V ρ' v v' → RegR P nt lo nb ρ' w' nx' hp' (setD d v tm) (a.put o.dst v').tmps ms ops rest) :
    ∃ oe, oe ∈ l ∧ Ok P f0 w0 cs0 (take1 ⟨⟨false, none, d, .nxt x⟩ :: ms, tm, hp, ⟨nx, k, fi, df, st, false⟩⟩ oe) (lone (b.atR a (.inRegion ops (i :: rest) :: k')) cs w) := by
  have hwt := wanted_eq_of hag
  have hev := ev_eq_of hag
  have hm := okOs_mem hok
  obtain ⟨j, hop, hx⟩ := trO_next hi
  have hw' : Region.wanted o (yielded ops a.tmps) = true := wanted_ok hg1 hts rfl
  have hxe : ev tms x = ev tm x := by
    have := hev x
    rw [hi] at this
    exact this (by simp [rdI])
  have hxv : V ρ (ev tm x) (a.eval j) := by
    rw [← hxe, hx]
    exact ev_V hts j (hm j (by rw [hop]; simp [Op.operands]))
  obtain ⟨n, oe, r, h1, h2, v', w', ρ', hr, hxn, hR', hV, hF⟩ := sim_next hR hxv hl (ty := o.type)
  refine ⟨oe, List.mem_of_getElem? h1, ?_⟩
  have hnx : nx.num ≤ r.nx.num := by
    unfold nextE at h2
    repeat' split at h2
    all_goals first
      | (cases h2; done)
      | (cases h2; exact Nat.le_refl _)
  have hg : Grow w.heap.size nx.num ρ ρ' w w' := grow_of hxn.1 (fun o ho => hxn.2 o ho) hF (Nat.le_refl _)
  have hrun : (execOp a.eval o).run P w = .ok (.value v') w' := by
    simp only [execOp, hop]
    simp [hr]
  have ht : take1 ⟨⟨false, none, d, .nxt x⟩ :: ms, tm, hp, ⟨nx, k, fi, df, st, false⟩⟩ oe = .more ⟨ms, setD d r.v tm, r.hp, ⟨r.nx, k, fi, df, st, false⟩⟩ := by
    simp only [take1, h2]
  rw [ht]
  have hnd : ∀ c, o.op ≠ .defer c := by rw [hop]; intro c h; cases h
  refine Ok.before (.one (stepR_value ho hw' hnd hrun (.inl rfl))) ?_
  refine ⟨_, Steps.refl P _, ⟨_, _, _, _, _, _, rfl, hR', Nat.le_trans hlo hg.size, Nat.le_trans hnb hnx, .reg (hb.mono hg.ext) (by rw [put_defers]; exact hdf.mono hg.ext) (by rw [put_size]; exact hs) (hk.mono hg.ext) ?_, hst.mono (hg.weaken hlo hnb)⟩⟩
  exact hcont ρ' w' r.nx r.hp r.v v' hg hnx hV

theorem branch_micro (hR : Rel P ρ hp nx w) (hlo : lo ≤ w.heap.size) (hnb : nb ≤ nx.num) (hb : FB P ρ fi b nt) (hdf : DL ρ df a.defers) (hs : nt ≤ a.tmps.size) (hk : KR P ρ nt k k') (hst : StkR P f0 w0 cs0 lo nb ρ w fi st cs)
    {ms0 : List MOp} (hms : ms0 = ⟨false, none, d, .nxt x⟩ :: ms) (hl : nextL hp (ev tm x) = some l) (hr : RegR P nt lo nb ρ w nx hp tm a.tmps ms0 ops rest) :
    ∃ oe, oe ∈ l ∧ Ok P f0 w0 cs0 (take1 ⟨⟨false, none, d, .nxt x⟩ :: ms, tm, hp, ⟨nx, k, fi, df, st, false⟩⟩ oe) (lone (b.atR a (.inRegion ops rest :: k')) cs w) := by
  cases hr with
  | nd i ht =>
    have hi : i < ops.size := by
      have := congrArg List.length hms
      simp at this; omega
    have hdrop : ops.toList.drop i = ops[i] :: ops.toList.drop (i + 1) := by
      rw [List.drop_eq_getElem_cons (by simpa using hi)]; simp
    have hrange : (List.range ops.size).drop i = i :: (List.range ops.size).drop (i + 1) := by
      rw [List.drop_eq_getElem_cons (by simpa using hi)]; simp
    rw [hdrop, List.map_cons, List.cons.injEq] at hms
    obtain ⟨hm1, rfl⟩ := hms
    rw [hrange]
    rcases trM_cases (P := P) (nt := nt) (o := ops[i]) ops.toList with ⟨d', g, h1, h2, h3, h4⟩ | h4
    · rw [h4] at hm1
      simp only [MOp.mk.injEq, true_and] at hm1
      obtain ⟨rfl, rfl, h5⟩ := hm1
      exact nxt_op (by simp [hi]) h1 h2 h3 h5 hR hlo hnb hb hdf hs ht (fun _ _ => rfl) hk hst hl fun ρ' w' nx' hp' v v' g1 g2 g3 => .nd (i + 1) (put_TR h1 hs (ht.mono g1.ext) g3)
    · rw [h4] at hm1
      cases hm1
  | @dr ops l0 pr pl E M V D rest hI hg hl0 hd =>
    cases pl with
    | nil => cases hms
    | cons e pl =>
      obtain ⟨ck, n⟩ := e
      rw [List.map_cons, List.cons.injEq] at hms
      obtain ⟨hm1, rfl⟩ := hms
      cases ck with
      | true =>
        obtain ⟨p, hp0, hg2⟩ := okGo_cks hg
        rw [toM_ck hp0] at hm1
        cases hm1
      | false =>
        obtain ⟨p, hp0, hnE, hbef, hcase⟩ := okGo_exs hg
        rw [toM_ck hp0] at hm1
        have hpl : p ∈ l0 := List.mem_of_getElem? hp0
        obtain ⟨hpn, hprd, o, ho, hpb, hpm⟩ := hI.get n p hp0
        have hnm : ∀ r, pr = some r → n ≠ r.m := by
          intro r hr e
          have := hd.prE r hr
          rw [← e, hnE] at this; cases this
        simp only [MOp.mk.injEq, true_and] at hm1
        obtain ⟨hpg, hpdd, hpi⟩ := hm1
        rcases hcase with ⟨hc, hMV, hall, hg2⟩ | ⟨hc, hg2⟩
        · have hns : n < ops.size := by
            rcases Nat.lt_or_ge n ops.size with h | h
            · exact h
            · rw [Array.getElem?_eq_none h] at ho; cases ho
          have hni : ∀ r, pr = some r → n ≠ r.i := by
            intro r hr e
            obtain ⟨-, -, ty, kt, kk, vv, oi, pi, -, -, -, -, -, -, -, -, -, q10, q11, q12, -⟩ := hI.prI r hr
            rw [← e, hp0] at q10; cases q10
            rw [hc] at q12; cases q12
          have hpm := hpm fun r hr => ⟨hnm r hr, hni r hr⟩
          obtain ⟨rest', D', a', w', ρ', c1, c2, ⟨r', rfl⟩, c4, c5, c6, c7, c8⟩ := flush_to (b := b) (k := k') (cs := cs) hI hns hnE hall hMV hl0 hd hR hs hlo
          cases c2 with
          | cons q1 q2 q3 q4 =>
            rcases trM_cases (P := P) (nt := nt) (o := o) ops.toList with ⟨d', g, h1, h2, h3, h4⟩ | h4
            · have hpm2 := hpm.trans h4
              obtain ⟨tms, t1, t2⟩ := c4.ts
              have hahead : ∀ j, bit p.bef j = true → D' j := fun j hj => c4.ahead hI hpl (by rw [hpn]; exact q3) hj
              have hrd : ∀ t ∈ rdM p.m, tms.get .undef t = tm.get .undef t := fun t ht => t2 t (c4.reads hI hpl (by rw [hpn]; exact hnm) (.inr (by rw [hpn]; exact hnE)) hahead ht)
              have hpd : p.m.d = d' := by rw [hpm2]
              have hpg2 : p.m.g = g := by rw [hpm2]
              have hpi2 : p.m.i = trO P o.op := by rw [hpm2]
              obtain rfl : d' = d := hpd.symm.trans hpdd
              obtain rfl : g = none := hpg2.symm.trans hpg
              have h5 : trO P o.op = .nxt x := hpi2.symm.trans hpi
              rw [hpm2] at hrd
              obtain ⟨oe, hmem, hok⟩ := nxt_op ho h1 h2 h3 h5 c5 (Nat.le_trans hlo c6.size) hnb (hb.mono c6.ext) (by rw [c7]; exact hdf.mono c6.ext) (by rw [c8]; exact hs) t1 hrd (hk.mono c6.ext) (hst.mono c6) hl (rest := _) (ms := pl.map (toM l0)) fun ρ2 w2 nx2 hp2 v v' g1 g2 g3 => by
                have := c4.chain (hp' := hp2) hI hp0 hnE q3 hc (Nat.le_trans hlo c6.size) hnb g1 g2 (dst := o.dst) (by rw [hpd]; exact h1) (by rw [c8]; exact hs) g3
                rw [hpd] at this
                exact .dr hI hg2 q4 this
              exact ⟨oe, hmem, Ok.before c1 hok⟩
            · have hpm2 := hpm.trans h4
              rw [hpm2] at hpi
              cases hpi
        · have hone := hI.one p hpl (by rw [hpn]; exact hnm)
          unfold okOne at hone
          rw [hc, bor_iff] at hone
          have hone := hone.resolve_left (by simp)
          rw [hpi] at hone
          cases hone

/-- One of the ways. -/
theorem branch_ok {s : S} {m : Machine} (h : Sim P f0 w0 cs0 s m) (hm : s.ms = ⟨false, none, d, .nxt x⟩ :: ms) (hl : nextL s.hp (ev s.tm x) = some l) :
    ∃ oe, oe ∈ l ∧ Ok P f0 w0 cs0 (take1 s oe) m := by
  obtain ⟨f, cs, w, ρ, lo, nb, rfl, hR, hlo, hnb, hc, hst⟩ := h.ex
  obtain ⟨ms', tm, hp, nx, k, fi, df, st, md⟩ := s
  simp only at hR hnb hc hst hm hl
  subst hm
  cases hc with
  | reg hb hd hs hk hr => exact branch_micro hR hlo hnb hb hd hs hk hst rfl hl hr
end
end Am

/- What a run shows of a function. -/
namespace Am
open Go

section
variable {P : Program} {W f0 : Nat} {w0 : World} {cs0 : List Frame}

/-- Objects that are forgotten: all that keep does not name. -/
noncomputable def prune (keep : T Bool) : T AObj → T AObj := T.rec (motive := fun _ => T AObj → T AObj) (fun _ => .lf)
  (fun _ b _ hl hr t => T.rec (motive := fun _ => T AObj) .lf (fun l v r _ _ => .nd (hl l) (match b with | true => v | false => .none) (hr r)) t) keep

theorem prune_get : ∀ (keep : T Bool) (t : T AObj) (o : Pos), (prune keep t).get .none o = t.get .none o ∨ (prune keep t).get .none o = .none
  | .lf, t, o => .inr rfl
  | .nd l b r, .lf, o => .inr rfl
  | .nd l b r, .nd l' v r', .e => by
    cases b with
    | true => exact .inl rfl
    | false => exact .inr rfl
  | .nd l b r, .nd l' v r', .o p => prune_get l l' p
  | .nd l b r, .nd l' v r', .i p => prune_get r r' p

theorem Rel.less {ρ : Rho} {hp hp' : T AObj} {nx : Pos} {w : World} (hR : Rel P ρ hp nx w) (h : ∀ o, hp'.get .none o = hp.get .none o ∨ hp'.get .none o = .none) : Rel P ρ hp' nx w := by
  have key : ∀ o, hp'.get .none o ≠ .none → hp'.get .none o = hp.get .none o := fun o hn => (h o).resolve_right hn
  refine ⟨fun o k e hn => ?_, fun o p k j e1 e2 h1 h2 hb => hR.inj o p k j e1 e2 (by rw [← key o h1]; exact h1) (by rw [← key p h2]; exact h2) hb, hR.dom, fun o ho => ?_⟩
  · rw [key o hn]; exact hR.obj o k e (by rw [← key o hn]; exact hn)
  · rcases h o with h | h
    · rw [h]; exact hR.new o ho
    · exact h

/-- Where no region is under way, objects may be forgotten. -/
noncomputable def trim (keep : T Bool) (s : S) : R := match s.ms with
  | [] => .more ⟨[], s.tm, prune keep s.hp, s.z⟩
  | _ :: _ => .bad 40

theorem trim_ok {keep : T Bool} {s s' : S} {m : Machine} (h : Sim P f0 w0 cs0 s m) (ht : trim keep s = .more s') : ∃ m', Steps P m m' ∧ Sim P f0 w0 cs0 s' m' := by
  obtain ⟨f, cs, w, ρ, lo, nb, rfl, hR, hlo, hnb, hc, hst⟩ := h.ex
  obtain ⟨ms, tm, hp, nx, k, fi, df, st, md⟩ := s
  simp only at hR hnb hc hst
  unfold trim at ht
  cases ms with
  | cons m ms => cases ht
  | nil =>
    cases ht
    have hl := prune_get keep hp
    cases hc with
    | ret hb hd hs ht hr => exact ⟨_, Steps.refl P _, ⟨_, _, _, _, _, _, rfl, hR.less hl, hlo, hnb, .ret hb hd hs ht hr, hst⟩⟩
    | out hb hd hs ht hk => exact ⟨_, Steps.refl P _, ⟨_, _, _, _, _, _, rfl, hR.less hl, hlo, hnb, .out hb hd hs ht hk, hst⟩⟩
    | reg hb hd hs hk hr =>
      obtain ⟨w', ρ', a', h1, h2, h3, h4, h5, h6⟩ := reg_out (cs := cs) hR hlo hs rfl hr
      exact ⟨_, h1, ⟨_, _, _, _, _, _, rfl, h2.less hl, Nat.le_trans hlo h3.size, hnb, .out (hb.mono h3.ext) (by rw [h5]; exact hd.mono h3.ext) (by rw [h6]; exact hs) h4 (hk.mono h3.ext), hst.mono h3⟩⟩

/-- A run, in stretches. -/
inductive Gives (P : Program) (W : Nat) (v : AV) : S → Prop
  | done {s : S} {n : Nat} {hp : T AObj} {nx : Pos} (h : run P W n s = .done v hp nx) : Gives P W v s
  | more {s s' : S} {n : Nat} (h : run P W n s = .more s') (hs : Gives P W v s') : Gives P W v s
  | trim {s s' : S} {keep : T Bool} (h : trim keep s = .more s') (hs : Gives P W v s') : Gives P W v s
  | branch {s : S} {d : Option Pos} {x : X} {ms : List MOp} {l : List (Option AE)} (f : Option AE → S) (hm : s.ms = ⟨false, none, d, .nxt x⟩ :: ms) (hl : nextL s.hp (ev s.tm x) = some l)
      (h1 : ∀ oe, oe ∈ l → take1 s oe = .more (f oe)) (h2 : ∀ oe, oe ∈ l → Gives P W v (f oe)) : Gives P W v s

/-- What a function leaves that was called with what bears no reference. -/
def Left (w : World) (v : AV) (P : Program) : Ending → World → Prop := fun e w' => ∃ v' ρ, e = .returned v' ∧ V ρ v v' ∧ Grow w.heap.size 0 (fun _ => none) ρ w w'

theorem gives_ok (hmix : P.follows .mixedOrders = true) (hWB : WB P W) {v : AV} {s : S} (h : Gives P W v s) : ∀ {m : Machine}, Sim P f0 w0 cs0 s m →
    ∃ v' w' fr ρ, Steps P m (lone fr cs0 w') ∧ fr.fn = f0 ∧ fr.leaving P w' (.returned v') ∧ V ρ v v' ∧ Grow w0.heap.size 0 (fun _ => none) ρ w0 w' := by
  induction h with
  | @done s n hp nx h =>
    intro m hs
    have := run_ok hmix hWB n hs
    rw [h] at this
    obtain ⟨v', w', fr, ρ, h1, h2, h3, h4, h5, h6⟩ := this
    exact ⟨v', w', fr, ρ, h1, h2, h3, h4, h6⟩
  | @more s s' n h hs ih =>
    intro m hs
    have := run_ok hmix hWB n hs
    rw [h] at this
    obtain ⟨m', h1, h2⟩ := this
    obtain ⟨v', w', fr, ρ, g1, g2⟩ := ih h2
    exact ⟨v', w', fr, ρ, h1.trans g1, g2⟩
  | @trim s s' keep h hs ih =>
    intro m hs
    obtain ⟨m', h1, h2⟩ := trim_ok hs h
    obtain ⟨v', w', fr, ρ, g1, g2⟩ := ih h2
    exact ⟨v', w', fr, ρ, h1.trans g1, g2⟩
  | @branch s d x ms l f hm hl h1 h2 ih =>
    intro m hs
    obtain ⟨oe, hmem, hok⟩ := branch_ok hs hm hl
    rw [h1 oe hmem] at hok
    obtain ⟨m', g0, g3⟩ := hok
    obtain ⟨v', w', fr, ρ, g1, g2⟩ := ih oe hmem g3
    exact ⟨v', w', fr, ρ, g0.trans g1, g2⟩

/-- A function whose run here ends, ends in the model, in any world, whatever is drawn. -/
theorem calls_of_gives (hmix : P.follows .mixedOrders = true) (hWB : WB P W) {f : Nat} {s : S} {v : AV} (hs : start P f [] = .more s) (h : Gives P W v s) (w : World) : Calls P f #[] w (Left w v P) := by
  intro cs
  have hent : Ok P f w cs (start P f []) (lone (Frame.enter P f #[] .normal) cs w) := by
    refine enter_ok (kd := .nrm) (lo := w.heap.size) (nb := 0) (ρ := fun _ => none) (args' := #[]) ?_ (Nat.le_refl _) (Nat.zero_le _) .nil fun res => .nil (Grow.refl _ _ _ _) rfl rfl rfl
    exact ⟨fun o k h => (nomatch h), fun o p k j h => (nomatch h), fun o k h => (nomatch h), fun o _ => rfl⟩
  rw [hs] at hent
  obtain ⟨m', h1, h2⟩ := hent
  obtain ⟨v', w', fr, ρ, g1, g2, g3, g4, g5⟩ := gives_ok hmix hWB h h2
  exact ⟨.returned v', w', fr, ⟨v', ρ, rfl, g4, g5⟩, h1.trans g1, g2, g3⟩
end
end Am

/- The machine once more, in a form that the kernel runs fast: each step does many. PRINTED BY PROGRAM (fast.py). -/
namespace Am
open Go
noncomputable section

abbrev KT := T AV → T AObj → Z → R
abbrev LK := Option Pos → KT → KT

def evF : X → T AV → AV := @X.rec (fun _ => T AV → AV) (fun p tm => T.get .undef tm p) (fun v _ => v) (fun _ => .undef)

def setF (d : Option Pos) (v : AV) (tm : T AV) : T AV := @Option.rec Pos (fun _ => T AV) tm (fun p => T.set .undef v p tm) d

def badK (n : Nat) : KT := fun _ _ _ => .bad n
def bad25 : LK := fun _ _ _ _ _ => .bad 25

def finF : AV → LK := @AV.rec (fun _ => LK) (fun _ => PUnit)
  bad25 (fun a1 => fun d ih tm hp z => ih (setF d (.bool a1) tm) hp z) (fun a1 a2 => fun d ih tm hp z => ih (setF d (.int a1 a2) tm) hp z) (fun a1 a2 => fun d ih tm hp z => ih (setF d (.str a1 a2) tm) hp z) (fun a1 a2 => fun d ih tm hp z => ih (setF d (.ptr a1 a2) tm) hp z) (fun d ih tm hp z => ih (setF d .pnil tm) hp z) (fun a1 a2 a3 a4 a5 => fun d ih tm hp z => ih (setF d (.slc a1 a2 a3 a4 a5) tm) hp z) (fun a1 a2 a3 a4 => fun d ih tm hp z => ih (setF d (.slo a1 a2 a3 a4) tm) hp z) (fun d ih tm hp z => ih (setF d .snil tm) hp z) (fun a1 => fun d ih tm hp z => ih (setF d (.map a1) tm) hp z) (fun d ih tm hp z => ih (setF d .mnil tm) hp z) (fun a1 a2 a3 _ _ => fun d ih tm hp z => ih (setF d (.fn a1 a2 a3) tm) hp z) (fun a1 => fun d ih tm hp z => ih (setF d (.yld a1) tm) hp z) (fun d ih tm hp z => ih (setF d .fnil tm) hp z) (fun a1 a2 _ => fun d ih tm hp z => ih (setF d (.ifc a1 a2) tm) hp z) (fun d ih tm hp z => ih (setF d .inil tm) hp z) (fun a1 _ => fun d ih tm hp z => ih (setF d (.agg a1) tm) hp z) (fun a1 _ => fun d ih tm hp z => ih (setF d (.tup a1) tm) hp z) ⟨⟩ (fun _ _ _ _ => ⟨⟩)

def finB : AV → LK := @AV.rec (fun _ => LK) (fun _ => PUnit)
  (fun d ih tm hp z => ih (setF d .undef tm) hp z) (fun a1 => fun d ih tm hp z => ih (setF d (.bool a1) tm) hp z) (fun a1 a2 => fun d ih tm hp z => ih (setF d (.int a1 a2) tm) hp z) (fun a1 a2 => fun d ih tm hp z => ih (setF d (.str a1 a2) tm) hp z) (fun a1 a2 => fun d ih tm hp z => ih (setF d (.ptr a1 a2) tm) hp z) (fun d ih tm hp z => ih (setF d .pnil tm) hp z) (fun a1 a2 a3 a4 a5 => fun d ih tm hp z => ih (setF d (.slc a1 a2 a3 a4 a5) tm) hp z) (fun a1 a2 a3 a4 => fun d ih tm hp z => ih (setF d (.slo a1 a2 a3 a4) tm) hp z) (fun d ih tm hp z => ih (setF d .snil tm) hp z) (fun a1 => fun d ih tm hp z => ih (setF d (.map a1) tm) hp z) (fun d ih tm hp z => ih (setF d .mnil tm) hp z) (fun a1 a2 a3 _ _ => fun d ih tm hp z => ih (setF d (.fn a1 a2 a3) tm) hp z) (fun a1 => fun d ih tm hp z => ih (setF d (.yld a1) tm) hp z) (fun d ih tm hp z => ih (setF d .fnil tm) hp z) (fun a1 a2 _ => fun d ih tm hp z => ih (setF d (.ifc a1 a2) tm) hp z) (fun d ih tm hp z => ih (setF d .inil tm) hp z) (fun a1 _ => fun d ih tm hp z => ih (setF d (.agg a1) tm) hp z) (fun a1 _ => fun d ih tm hp z => ih (setF d (.tup a1) tm) hp z) ⟨⟩ (fun _ _ _ _ => ⟨⟩)

def pureG (i : Ins) (P : Program) : LK := fun d ih tm hp z => @Option.rec AV (fun _ => R) (.bad 25) (fun v => finF v d ih tm hp z) (pureI P tm hp i)

def allocG (i : Ins) (P : Program) : LK := fun d ih tm hp z => @Option.rec (AObj × AK) (fun _ => R) (.bad 26) (fun ok => @Prod.rec AObj AK (fun _ => R) (fun o k =>
  @Z.rec (fun _ => R) (fun nx kk fr df st md => finF (mkA k nx) d ih tm (hp.set .none o nx) ⟨nx.succ, kk, fr, df, st, md⟩) z) ok) (allocI P tm i)

def effG (i : Ins) (P : Program) : LK := fun d ih tm hp z => @Z.rec (fun _ => R) (fun nx kk fr df st md => @Option.rec Eff (fun _ => R) (.bad 27) (fun e => @Eff.rec (fun _ => R) (fun v hp' nx' =>
  @Option.rec Pos (fun _ => R) (ih tm hp' ⟨nx', kk, fr, df, st, md⟩) (fun p => finB v (some p) ih tm hp' ⟨nx', kk, fr, df, st, md⟩) d) e) (effI P tm hp nx i)) z

def pickF : AV → (X → X → LK) := @AV.rec (fun _ => (X → X → LK)) (fun _ => PUnit)
  (fun _ _ => bad25) (fun a1 => fun x y d ih tm hp z => finF (@Bool.rec (fun _ => AV) (evF y tm) (evF x tm) a1) d ih tm hp z) (fun _ _ => (fun _ _ => bad25)) (fun _ _ => (fun _ _ => bad25)) (fun _ _ => (fun _ _ => bad25)) (fun _ _ => bad25) (fun _ _ _ _ _ => (fun _ _ => bad25)) (fun _ _ _ _ => (fun _ _ => bad25)) (fun _ _ => bad25) (fun _ => (fun _ _ => bad25)) (fun _ _ => bad25) (fun _ _ _ _ _ => (fun _ _ => bad25)) (fun _ => (fun _ _ => bad25)) (fun _ _ => bad25) (fun _ _ _ => (fun _ _ => bad25)) (fun _ _ => bad25) (fun _ _ => (fun _ _ => bad25)) (fun _ _ => (fun _ _ => bad25)) ⟨⟩ (fun _ _ _ _ => ⟨⟩)

def cellZ (zs : List AV) (i : Nat) : AV := match zs with
  | [v] => v
  | zs => nth .undef zs (Nat.mod i (len zs))

def orZ : AV → (List AV → Nat → AV) := @AV.rec (fun _ => (List AV → Nat → AV)) (fun _ => PUnit)
  (fun zs i => cellZ zs i) (fun a1 => fun _ _ => (.bool a1)) (fun a1 a2 => fun _ _ => (.int a1 a2)) (fun a1 a2 => fun _ _ => (.str a1 a2)) (fun a1 a2 => fun _ _ => (.ptr a1 a2)) (fun _ _ => .pnil) (fun a1 a2 a3 a4 a5 => fun _ _ => (.slc a1 a2 a3 a4 a5)) (fun a1 a2 a3 a4 => fun _ _ => (.slo a1 a2 a3 a4)) (fun _ _ => .snil) (fun a1 => fun _ _ => (.map a1)) (fun _ _ => .mnil) (fun a1 a2 a3 _ _ => fun _ _ => (.fn a1 a2 a3)) (fun a1 => fun _ _ => (.yld a1)) (fun _ _ => .fnil) (fun a1 a2 _ => fun _ _ => (.ifc a1 a2)) (fun _ _ => .inil) (fun a1 _ => fun _ _ => (.agg a1)) (fun a1 _ => fun _ _ => (.tup a1)) ⟨⟩ (fun _ _ _ _ => ⟨⟩)

def cellF : AObj → Nat → AV := @AObj.rec (fun _ => Nat → AV) (fun _ => .undef) (fun l i => nth .undef l i)
  (fun t lo hi zs i => @Bool.rec (fun _ => AV) .undef (@Bool.rec (fun _ => AV) .undef (orZ (T.get .undef t (posOf i)) zs i) (Nat.ble (Nat.succ i) hi)) (Nat.ble lo i))
  (fun _ _ _ => .undef) (fun _ _ => .undef) (fun _ _ => .undef) (fun _ _ _ _ _ => .undef)

def ld1F : AV → LK := @AV.rec (fun _ => LK) (fun _ => PUnit)
  bad25 (fun _ => bad25) (fun _ _ => bad25) (fun _ _ => bad25) (fun a1 a2 => fun d ih tm hp z => finF (cellF (T.get .none hp a1) a2) d ih tm hp z) bad25 (fun _ _ _ _ _ => bad25) (fun _ _ _ _ => bad25) bad25 (fun _ => bad25) bad25 (fun _ _ _ _ _ => bad25) (fun _ => bad25) bad25 (fun _ _ _ => bad25) bad25 (fun _ _ => bad25) (fun _ _ => bad25) ⟨⟩ (fun _ _ _ _ => ⟨⟩)

def fadF : AV → (Nat → LK) := @AV.rec (fun _ => (Nat → LK)) (fun _ => PUnit)
  (fun _ => bad25) (fun _ => (fun _ => bad25)) (fun _ _ => (fun _ => bad25)) (fun _ _ => (fun _ => bad25)) (fun a1 a2 => fun off d ih tm hp z => ih (setF d (.ptr a1 (Nat.add a2 off)) tm) hp z) (fun _ => bad25) (fun _ _ _ _ _ => (fun _ => bad25)) (fun _ _ _ _ => (fun _ => bad25)) (fun _ => bad25) (fun _ => (fun _ => bad25)) (fun _ => bad25) (fun _ _ _ _ _ => (fun _ => bad25)) (fun _ => (fun _ => bad25)) (fun _ => bad25) (fun _ _ _ => (fun _ => bad25)) (fun _ => bad25) (fun _ _ => (fun _ => bad25)) (fun _ _ => (fun _ => bad25)) ⟨⟩ (fun _ _ _ _ => ⟨⟩)

def ixsG : AV → (Nat → Nat → LK) := @AV.rec (fun _ => (Nat → Nat → LK)) (fun _ => PUnit)
  (fun _ _ => bad25) (fun _ => (fun _ _ => bad25)) (fun _ _ => (fun _ _ => bad25)) (fun _ _ => (fun _ _ => bad25)) (fun _ _ => (fun _ _ => bad25)) (fun _ _ => bad25) (fun a1 a2 a3 _ a5 => fun n z0 d ih tm hp z => @Bool.rec (fun _ => R) (.bad 25) (@Bool.rec (fun _ => R) (.bad 25) (ih (setF d (.ptr a1 (Nat.add a2 (Nat.mul n z0))) tm) hp z) (Nat.beq z0 a5)) (Nat.ble (Nat.succ n) a3)) (fun a1 a2 a3 a4 => fun n z0 d ih tm hp z => @Bool.rec (fun _ => R) (.bad 25) (@Bool.rec (fun _ => R) (.bad 25) (ih (setF d (.ptr a1 (Nat.add a2 (Nat.mul n z0))) tm) hp z) (Nat.beq z0 a4)) (Nat.ble (Nat.succ n) a3)) (fun _ _ => bad25) (fun _ => (fun _ _ => bad25)) (fun _ _ => bad25) (fun _ _ _ _ _ => (fun _ _ => bad25)) (fun _ => (fun _ _ => bad25)) (fun _ _ => bad25) (fun _ _ _ => (fun _ _ => bad25)) (fun _ _ => bad25) (fun _ _ => (fun _ _ => bad25)) (fun _ _ => (fun _ _ => bad25)) ⟨⟩ (fun _ _ _ _ => ⟨⟩)

def ixsF : AV → (Nat → X → LK) := @AV.rec (fun _ => (Nat → X → LK)) (fun _ => PUnit)
  (fun _ _ => bad25) (fun _ => (fun _ _ => bad25)) (fun _ a2 => fun z0 x d ih tm hp z => @Int.rec (fun _ => R) (fun n => ixsG (evF x tm) n z0 d ih tm hp z) (fun _ => .bad 25) a2) (fun _ _ => (fun _ _ => bad25)) (fun _ _ => (fun _ _ => bad25)) (fun _ _ => bad25) (fun _ _ _ _ _ => (fun _ _ => bad25)) (fun _ _ _ _ => (fun _ _ => bad25)) (fun _ _ => bad25) (fun _ => (fun _ _ => bad25)) (fun _ _ => bad25) (fun _ _ _ _ _ => (fun _ _ => bad25)) (fun _ => (fun _ _ => bad25)) (fun _ _ => bad25) (fun _ _ _ => (fun _ _ => bad25)) (fun _ _ => bad25) (fun _ _ => (fun _ _ => bad25)) (fun _ _ => (fun _ _ => bad25)) ⟨⟩ (fun _ _ _ _ => ⟨⟩)

def ncF : AV → LK := @AV.rec (fun _ => LK) (fun _ => PUnit)
  bad25 (fun _ => bad25) (fun _ _ => bad25) (fun _ _ => bad25) (fun a1 a2 => fun d ih tm hp z => ih (setF d (.ptr a1 a2) tm) hp z) bad25 (fun _ _ _ _ _ => bad25) (fun _ _ _ _ => bad25) bad25 (fun _ => bad25) bad25 (fun a1 a2 a3 _ _ => fun d ih tm hp z => ih (setF d (.fn a1 a2 a3) tm) hp z) (fun a1 => fun d ih tm hp z => ih (setF d (.yld a1) tm) hp z) bad25 (fun _ _ _ => bad25) bad25 (fun _ _ => bad25) (fun _ _ => bad25) ⟨⟩ (fun _ _ _ _ => ⟨⟩)

def lenStr : AV → LK := @AV.rec (fun _ => LK) (fun _ => PUnit)
  bad25 (fun _ => bad25) (fun _ _ => bad25) (fun a1 _ => fun d ih tm hp z => ih (setF d (.int .i64 (.ofNat a1)) tm) hp z) (fun _ _ => bad25) bad25 (fun _ _ _ _ _ => bad25) (fun _ _ _ _ => bad25) bad25 (fun _ => bad25) bad25 (fun _ _ _ _ _ => bad25) (fun _ => bad25) bad25 (fun _ _ _ => bad25) bad25 (fun _ _ => bad25) (fun _ _ => bad25) ⟨⟩ (fun _ _ _ _ => ⟨⟩)

def lenSl : AV → LK := @AV.rec (fun _ => LK) (fun _ => PUnit)
  bad25 (fun _ => bad25) (fun _ _ => bad25) (fun _ _ => bad25) (fun _ _ => bad25) bad25 (fun _ _ a3 _ _ => fun d ih tm hp z => ih (setF d (.int .i64 (.ofNat a3)) tm) hp z) (fun _ _ a3 _ => fun d ih tm hp z => ih (setF d (.int .i64 (.ofNat a3)) tm) hp z) (fun d ih tm hp z => ih (setF d (.int .i64 (.ofNat 0)) tm) hp z) (fun _ => bad25) bad25 (fun _ _ _ _ _ => bad25) (fun _ => bad25) bad25 (fun _ _ _ => bad25) bad25 (fun _ _ => bad25) (fun _ _ => bad25) ⟨⟩ (fun _ _ _ _ => ⟨⟩)

def lenF (k : LenK) (x : X) (P : Program) : LK := @LenK.rec (fun _ => LK) (fun d ih tm hp z => lenStr (evF x tm) d ih tm hp z) (fun d ih tm hp z => lenSl (evF x tm) d ih tm hp z) (pureG (.len .map x) P)
  (fun n d ih tm hp z => ih (setF d (.int .i64 (.ofNat n)) tm) hp z) k

def extF : AV → (Nat → LK) := @AV.rec (fun _ => (Nat → LK)) (fun _ => PUnit)
  (fun _ => bad25) (fun _ => (fun _ => bad25)) (fun _ _ => (fun _ => bad25)) (fun _ _ => (fun _ => bad25)) (fun _ _ => (fun _ => bad25)) (fun _ => bad25) (fun _ _ _ _ _ => (fun _ => bad25)) (fun _ _ _ _ => (fun _ => bad25)) (fun _ => bad25) (fun _ => (fun _ => bad25)) (fun _ => bad25) (fun _ _ _ _ _ => (fun _ => bad25)) (fun _ => (fun _ => bad25)) (fun _ => bad25) (fun _ _ _ => (fun _ => bad25)) (fun _ => bad25) (fun _ _ => (fun _ => bad25)) (fun a1 _ => fun i d ih tm hp z => finF (nth .undef a1 i) d ih tm hp z) ⟨⟩ (fun _ _ _ _ => ⟨⟩)

def notF : AV → LK := @AV.rec (fun _ => LK) (fun _ => PUnit)
  bad25 (fun a1 => fun d ih tm hp z => ih (setF d (.bool (@Bool.rec (fun _ => Bool) true false a1)) tm) hp z) (fun _ _ => bad25) (fun _ _ => bad25) (fun _ _ => bad25) bad25 (fun _ _ _ _ _ => bad25) (fun _ _ _ _ => bad25) bad25 (fun _ => bad25) bad25 (fun _ _ _ _ _ => bad25) (fun _ => bad25) bad25 (fun _ _ _ => bad25) bad25 (fun _ _ => bad25) (fun _ _ => bad25) ⟨⟩ (fun _ _ _ _ => ⟨⟩)

def kixF : IntKind → Nat := @IntKind.rec (fun _ => Nat) 0 1 2 3 4 5 6 7

def int2b : AV → (IntKind → Int → (IntKind → Int → Int → AV) → LK → LK) := @AV.rec (fun _ => (IntKind → Int → (IntKind → Int → Int → AV) → LK → LK)) (fun _ => PUnit)
  (fun _ _ _ df => df) (fun _ => (fun _ _ _ df => df)) (fun a1 a2 => fun k a f _ d ih tm hp z => @Bool.rec (fun _ => R) (.bad 25) (finF (f k a a2) d ih tm hp z) (Nat.beq (kixF k) (kixF a1))) (fun _ _ => (fun _ _ _ df => df)) (fun _ _ => (fun _ _ _ df => df)) (fun _ _ _ df => df) (fun _ _ _ _ _ => (fun _ _ _ df => df)) (fun _ _ _ _ => (fun _ _ _ df => df)) (fun _ _ _ df => df) (fun _ => (fun _ _ _ df => df)) (fun _ _ _ df => df) (fun _ _ _ _ _ => (fun _ _ _ df => df)) (fun _ => (fun _ _ _ df => df)) (fun _ _ _ df => df) (fun _ _ _ => (fun _ _ _ df => df)) (fun _ _ _ df => df) (fun _ _ => (fun _ _ _ df => df)) (fun _ _ => (fun _ _ _ df => df)) ⟨⟩ (fun _ _ _ _ => ⟨⟩)

def int2 : AV → (AV → (IntKind → Int → Int → AV) → LK → LK) := @AV.rec (fun _ => (AV → (IntKind → Int → Int → AV) → LK → LK)) (fun _ => PUnit)
  (fun _ _ df => df) (fun _ => (fun _ _ df => df)) (fun a1 a2 => fun y f df => int2b y a1 a2 f df) (fun _ _ => (fun _ _ df => df)) (fun _ _ => (fun _ _ df => df)) (fun _ _ df => df) (fun _ _ _ _ _ => (fun _ _ df => df)) (fun _ _ _ _ => (fun _ _ df => df)) (fun _ _ df => df) (fun _ => (fun _ _ df => df)) (fun _ _ df => df) (fun _ _ _ _ _ => (fun _ _ df => df)) (fun _ => (fun _ _ df => df)) (fun _ _ df => df) (fun _ _ _ => (fun _ _ df => df)) (fun _ _ df => df) (fun _ _ => (fun _ _ df => df)) (fun _ _ => (fun _ _ df => df)) ⟨⟩ (fun _ _ _ _ => ⟨⟩)

def maxF : IntKind → Nat := @IntKind.rec (fun _ => Nat) 127 32767 2147483647 9223372036854775807 255 65535 4294967295 18446744073709551615
def natK (k : IntKind) (m : Nat) : AV := @Bool.rec (fun _ => AV) (inK k (.ofNat m)) (.int k (.ofNat m)) (Nat.ble m (maxF k))
def addF (k : IntKind) (a b : Int) : AV := @Int.rec (fun _ => Int → IntKind → AV) (fun m b k => @Int.rec (fun _ => Nat → IntKind → AV) (fun n m k => natK k (Nat.add m n)) (fun n m k => inK k (Int.add (.ofNat m) (.negSucc n))) b m k)
  (fun m b k => inK k (Int.add (.negSucc m) b)) a b k
def lssF : IntKind → Int → Int → AV := fun _ a b => .bool (ltI a b)
def gtrF : IntKind → Int → Int → AV := fun _ a b => .bool (ltI b a)
def leqF : IntKind → Int → Int → AV := fun _ a b => .bool (bnot (ltI b a))
def geqF : IntKind → Int → Int → AV := fun _ a b => .bool (bnot (ltI a b))
def eqlF : IntKind → Int → Int → AV := fun _ a b => .bool (eqI a b)
def neqF : IntKind → Int → Int → AV := fun _ a b => .bool (bnot (eqI a b))
def subF : IntKind → Int → Int → AV := fun k a b => inK k (Int.sub a b)

def binF (op : BinOp) (t : Nat) (e : EqK) (x y : X) (P : Program) : LK := @BinOp.rec (fun _ => LK)
  (fun d ih tm hp z => int2 (evF x tm) (evF y tm) addF (pureG (.bin .add t e x y) P) d ih tm hp z)
  (fun d ih tm hp z => int2 (evF x tm) (evF y tm) subF (pureG (.bin .sub t e x y) P) d ih tm hp z) (pureG (.bin .mul t e x y) P) (pureG (.bin .quo t e x y) P) (pureG (.bin .rem t e x y) P) (pureG (.bin .and t e x y) P) (pureG (.bin .or t e x y) P) (pureG (.bin .xor t e x y) P) (pureG (.bin .shl t e x y) P) (pureG (.bin .shr t e x y) P) (pureG (.bin .andNot t e x y) P)
  (fun d ih tm hp z => int2 (evF x tm) (evF y tm) eqlF (pureG (.bin .eql t e x y) P) d ih tm hp z)
  (fun d ih tm hp z => int2 (evF x tm) (evF y tm) neqF (pureG (.bin .neq t e x y) P) d ih tm hp z)
  (fun d ih tm hp z => int2 (evF x tm) (evF y tm) lssF (pureG (.bin .lss t e x y) P) d ih tm hp z)
  (fun d ih tm hp z => int2 (evF x tm) (evF y tm) leqF (pureG (.bin .leq t e x y) P) d ih tm hp z)
  (fun d ih tm hp z => int2 (evF x tm) (evF y tm) gtrF (pureG (.bin .gtr t e x y) P) d ih tm hp z)
  (fun d ih tm hp z => int2 (evF x tm) (evF y tm) geqF (pureG (.bin .geq t e x y) P) d ih tm hp z) op

/-- What a function brings. -/
structure Ent where
  c : IC
  res : List RV
  nt : Nat

def entryOf (P : Program) (f : Nat) : Option Ent := match P.funcs[f]? with
  | none => none
  | some fn => match fn.body with
    | none => none
    | some c => match fn.name == "runtime.NumGoroutine" with
      | false => some ⟨trC P fn.ntmps c, mapL (trRV P) fn.results.toList, fn.ntmps⟩
      | true => none

abbrev BK := T AV → Pos → (T AV → Pos → R) → R

def putF : AV → ((BK) → BK) := @AV.rec (fun _ => ((BK) → BK)) (fun _ => PUnit)
  (fun _ _ _ _ => .bad 25) (fun a1 => fun ih acc p K => ih (T.set .undef (.bool a1) p acc) (Pos.succ p) K) (fun a1 a2 => fun ih acc p K => ih (T.set .undef (.int a1 a2) p acc) (Pos.succ p) K) (fun a1 a2 => fun ih acc p K => ih (T.set .undef (.str a1 a2) p acc) (Pos.succ p) K) (fun a1 a2 => fun ih acc p K => ih (T.set .undef (.ptr a1 a2) p acc) (Pos.succ p) K) (fun ih acc p K => ih (T.set .undef .pnil p acc) (Pos.succ p) K) (fun a1 a2 a3 a4 a5 => fun ih acc p K => ih (T.set .undef (.slc a1 a2 a3 a4 a5) p acc) (Pos.succ p) K) (fun a1 a2 a3 a4 => fun ih acc p K => ih (T.set .undef (.slo a1 a2 a3 a4) p acc) (Pos.succ p) K) (fun ih acc p K => ih (T.set .undef .snil p acc) (Pos.succ p) K) (fun a1 => fun ih acc p K => ih (T.set .undef (.map a1) p acc) (Pos.succ p) K) (fun ih acc p K => ih (T.set .undef .mnil p acc) (Pos.succ p) K) (fun a1 a2 a3 _ _ => fun ih acc p K => ih (T.set .undef (.fn a1 a2 a3) p acc) (Pos.succ p) K) (fun a1 => fun ih acc p K => ih (T.set .undef (.yld a1) p acc) (Pos.succ p) K) (fun ih acc p K => ih (T.set .undef .fnil p acc) (Pos.succ p) K) (fun a1 a2 _ => fun ih acc p K => ih (T.set .undef (.ifc a1 a2) p acc) (Pos.succ p) K) (fun ih acc p K => ih (T.set .undef .inil p acc) (Pos.succ p) K) (fun a1 _ => fun ih acc p K => ih (T.set .undef (.agg a1) p acc) (Pos.succ p) K) (fun a1 _ => fun ih acc p K => ih (T.set .undef (.tup a1) p acc) (Pos.succ p) K) ⟨⟩ (fun _ _ _ _ => ⟨⟩)

def bindV : List AV → BK := @List.rec AV (fun _ => BK) (fun acc p K => K acc p) (fun v _ ih => putF v ih)
def bindX (tm : T AV) : List X → BK := @List.rec X (fun _ => BK) (fun acc p K => K acc p) (fun x _ ih => putF (evF x tm) ih)

def enterF (P : Program) (f : Nat) (first cap : List AV) (args : List X) (tm : T AV) (hp : T AObj) (nx : Pos) (st : List Sus) : R :=
  @Option.rec Ent (fun _ => R) (.bad 1) (fun e => @Ent.rec (fun _ => R) (fun c res nt => @Bool.rec (fun _ => R) (.bad 3)
    (bindV first .lf .e (fun acc p => bindX tm args acc p (fun acc p => bindV cap acc p (fun acc _ => .more ⟨[], acc, hp, ⟨nx, [.cd c], ⟨f, res, .nrm, none⟩, [], st, false⟩⟩))))
    (Nat.ble (Nat.add (len first) (Nat.add (len args) (len cap))) nt)) e) (entryOf P f)

abbrev CA := Ins → List X → Program → Nat → List MOp → LK
def slowC : CA := fun i _ P W ms d _ tm hp z => micro P W ⟨⟨false, none, d, i⟩ :: ms, tm, hp, z⟩ ⟨false, none, d, i⟩ ms

def callA : AV → CA := @AV.rec (fun _ => CA) (fun _ => PUnit)
  slowC (fun _ => slowC) (fun _ _ => slowC) (fun _ _ => slowC) (fun _ _ => slowC) slowC (fun _ _ _ _ _ => slowC) (fun _ _ _ _ => slowC) slowC (fun _ => slowC) slowC (fun a1 a2 a3 _ _ => fun i args P W ms d ih tm hp z => @Bool.rec (fun _ => R) (@Z.rec (fun _ => R) (fun nx k fr df st md => @Bool.rec (fun _ => R) (enterF P a1 a2 a3 args tm hp nx (⟨d, ms, tm, k, fr, df, md⟩ :: st)) (.bad 30) (isRfn k)) z) (slowC i args P W ms d ih tm hp z) (Nat.beq a1 W)) (fun _ => slowC) slowC (fun _ _ _ => slowC) slowC (fun _ _ => slowC) (fun _ _ => slowC) ⟨⟩ (fun _ _ _ _ => ⟨⟩)

abbrev IK := Program → Nat → List MOp → LK
def slowI (i : Ins) : IK := fun P W ms d _ tm hp z => micro P W ⟨⟨false, none, d, i⟩ :: ms, tm, hp, z⟩ ⟨false, none, d, i⟩ ms

def insF : Ins → IK := @Ins.rec (fun _ => IK)
  (fun x => fun _P _W _ms d ih tm hp z => finF (evF x tm) d ih tm hp z)
  (fun c a b => fun _P _W _ms d ih tm hp z => pickF (evF c tm) a b d ih tm hp z)
  (fun a => fun _P _W _ms d ih tm hp z => ld1F (evF a tm) d ih tm hp z)
  (fun n a => fun P _ _ => pureG (.ldn n a) P)
  (fun n a v => fun P _ _ => effG (.st n a v) P)
  (fun off x => fun _P _W _ms d ih tm hp z => fadF (evF x tm) off d ih tm hp z)
  (fun off x => fun P _ _ => pureG (.fl1 off x) P)
  (fun off n x => fun P _ _ => pureG (.fln off n x) P)
  (fun z x i => fun _P _W _ms d ih tm hp z0 => ixsF (evF i tm) z x d ih tm hp z0)
  (fun n z x i => fun P _ _ => pureG (.ixa n z x i) P)
  (fun x i => fun P _ _ => pureG (.ixt x i) P)
  (fun n x i => fun P _ _ => pureG (.ixv n x i) P)
  (fun x => fun _P _W _ms d ih tm hp z => ncF (evF x tm) d ih tm hp z)
  (fun op t e x y => fun _P _W _ms => binF op t e x y _P)
  (fun x => fun _P _W _ms d ih tm hp z => notF (evF x tm) d ih tm hp z)
  (fun op x => fun P _ _ => pureG (.un op x) P)
  (fun k x => @CvK.rec (fun _ => IK) (fun k P _ _ => pureG (.cv (.int k) x) P) (fun P _ _ => pureG (.cv .same x) P) (fun P _ _ => allocG (.cv .s2b x) P) (fun P _ _ => pureG (.cv .b2s x) P) (fun P _ _ => pureG (.cv .bad x) P) k)
  (fun t x => fun P _ _ => pureG (.mki t x) P)
  (fun f first cap => fun P _ _ => pureG (.mkf f first cap) P)
  (fun P _ _ => allocG .mkm P)
  (fun kt k v => fun P _ _ => allocG (.mk1 kt k v) P)
  (fun z bytes zs l c => fun P _ _ => allocG (.mks z bytes zs l c) P)
  (fun k x lo hi mx => fun P _ _ => pureG (.slx k x lo hi mx) P)
  (fun k x => fun _P _W _ms => lenF k x _P)
  (fun x => fun P _ _ => pureG (.cap x) P)
  (fun z bytes s x => fun P _ _ => effG (.app z bytes s x) P)
  (fun z d s => fun P _ _ => effG (.cpy z d s) P)
  (fun z zs x => fun P _ _ => effG (.clr z zs x) P)
  (fun x => fun P _ _ => effG (.rng x) P)
  (fun x => fun P _ _ => effG (.nxt x) P)
  (fun x => fun P _ _ => pureG (.ent x) P)
  (fun xs => fun P _ _ => pureG (.mx xs) P)
  (fun n zs => fun P _ _ => allocG (.al n zs) P)
  (fun n x => fun P _ _ => allocG (.bx n x) P)
  (fun zs ps => fun P _ _ => pureG (.bld zs ps) P)
  (fun n z zs ps => fun P _ _ => allocG (.bls n z zs ps) P)
  (fun kt zero ok x k => fun P _ _ => pureG (.lku kt zero ok x k) P)
  (fun kt m k v => fun P _ _ => effG (.mup kt m k v) P)
  (fun kt zero m k => fun P _ _ => effG (.men kt zero m k) P)
  (fun m s v => fun P _ _ => effG (.mes m s v) P)
  (fun i x => fun _P _W _ms d ih tm hp z => extF (evF x tm) i d ih tm hp z)
  (fun f args => fun P W ms d ih tm hp z => callA (evF f tm) (.call f args) args P W ms d ih tm hp z)
  (fun f args => slowI (.dfr f args))
  (slowI .recov)
  (slowI .bad)

def skipOk (tm : T AV) (d : Option Pos) : Bool := match d with
  | some p => isSkip (tm.get .undef p)
  | none => false

def guardF (w : Option Bool) (i : Ins) (P : Program) (W : Nat) (ms : List MOp) (d : Option Pos) (ih : KT) (tm : T AV) (hp : T AObj) (z : Z) : R :=
  @Option.rec Bool (fun _ => R) (.bad 21) (fun b => @Bool.rec (fun _ => R) (ih (setF d (.tup []) tm) hp z) (insF i P W ms d ih tm hp z) b) w

def ckF (w : Option Bool) (i : Ins) (P : Program) (d : Option Pos) (ih : KT) (tm : T AV) (hp : T AObj) (z : Z) : R :=
  @Option.rec Bool (fun _ => R) (.bad 21) (fun b => @Bool.rec (fun _ => R) (@Bool.rec (fun _ => R) (.bad 29) (ih tm hp z) (skipOk tm d)) (@Bool.rec (fun _ => R) (.bad 22) (ih tm hp z) (again P tm hp d i)) b) w

def microF : MOp → Program → Nat → List MOp → KT → KT := @MOp.rec (fun _ => Program → Nat → List MOp → KT → KT) (fun ck g d i P W ms ih tm hp z =>
  @Bool.rec (fun _ => R) (@Option.rec (Pos × Bool) (fun _ => R) (insF i P W ms d ih tm hp z) (fun pb => guardF (wanted tm (some pb)) i P W ms d ih tm hp z) g)
    (ckF (wanted tm g) i P d ih tm hp z) ck)

def opsF (P : Program) (W : Nat) : List MOp → KT → KT := @List.rec MOp (fun _ => KT → KT) (fun K tm hp z => K tm hp z) (fun m ms ih K tm hp z => microF m P W ms (ih K) tm hp z)

def stopK : KT := fun tm hp z => .more ⟨[], tm, hp, z⟩

def resuF (tm : T AV) (hp : T AObj) (l : List RV) : Option AV := @List.rec RV (fun _ => Option AV) (some .undef) (fun r rs _ => @List.rec RV (fun _ => Option AV) (resV tm hp r) (fun _ _ _ => resAll tm hp l) rs) l

def backF (P : Program) (W : Nat) (v : AV) (hp : T AObj) (nx : Pos) (kd : Kd) (st : List Sus) : R := @List.rec Sus (fun _ => R) (@Kd.rec (fun _ => R) (.done v hp nx) (.bad 7) kd)
  (fun s st _ => @Sus.rec (fun _ => R) (fun d ms tm k fr df md => @Kd.rec (fun _ => R)
    (@Bool.rec (fun _ => R) (@Option.rec Pos (fun _ => R) (opsF P W ms stopK tm hp ⟨nx, k, fr, df, st, md⟩) (fun p => finB v (some p) (opsF P W ms stopK) tm hp ⟨nx, k, fr, df, st, md⟩) d) (back v hp nx .nrm (s :: st)) (isRfn k))
    (opsF P W ms stopK tm hp ⟨nx, k, fr, df, st, md⟩) kd) s) st

def unwindF (P : Program) (W : Nat) (tm : T AV) (hp : T AObj) (nx : Pos) (fr : FI) (df : List ADef) (st : List Sus) : R := @List.rec ADef (fun _ => R)
  (@FI.rec (fun _ => R) (fun _ res kd _ => @Option.rec AV (fun _ => R) (.bad 10) (fun v => backF P W v hp nx kd st) (resuF tm hp res)) fr)
  (fun _ _ _ => unwind P ⟨[], tm, hp, ⟨nx, [], fr, df, st, true⟩⟩) df

/-- The frame returns. -/
def retF (P : Program) (W : Nat) (tm : T AV) (hp : T AObj) (nx : Pos) (fr : FI) (df : List ADef) (st : List Sus) (slow : R) : R :=
  @FI.rec (fun _ => R) (fun _ _ _ rnd => @Option.rec Pos (fun _ => R) (unwindF P W tm hp nx fr df st) (fun _ => slow) rnd) fr

abbrev CK := Program → Nat → List AIt → KT → KT
def slowK (c : IC) : CK := fun P _ k _ tm hp z => @Z.rec (fun _ => R) (fun nx _ fr df st _ => item P ⟨[], tm, hp, ⟨nx, .cd c :: k, fr, df, st, false⟩⟩) z

def condF : AV → (R → R → R) := @AV.rec (fun _ => (R → R → R)) (fun _ => PUnit)
  (fun _ _ => .bad 13) (fun a1 => fun x y => @Bool.rec (fun _ => R) y x a1) (fun _ _ => (fun _ _ => .bad 13)) (fun _ _ => (fun _ _ => .bad 13)) (fun _ _ => (fun _ _ => .bad 13)) (fun _ _ => .bad 13) (fun _ _ _ _ _ => (fun _ _ => .bad 13)) (fun _ _ _ _ => (fun _ _ => .bad 13)) (fun _ _ => .bad 13) (fun _ => (fun _ _ => .bad 13)) (fun _ _ => .bad 13) (fun _ _ _ _ _ => (fun _ _ => .bad 13)) (fun _ => (fun _ _ => .bad 13)) (fun _ _ => .bad 13) (fun _ _ _ => (fun _ _ => .bad 13)) (fun _ _ => .bad 13) (fun _ _ => (fun _ _ => .bad 13)) (fun _ _ => (fun _ _ => .bad 13)) ⟨⟩ (fun _ _ _ _ => ⟨⟩)

def codeF : IC → CK := @IC.rec (fun _ => CK)
  (fun _ _ _ K tm hp z => K tm hp z)
  (fun ms P W k K tm hp z => @Z.rec (fun _ => R) (fun nx _ fr df st _ => opsF P W ms K tm hp ⟨nx, k, fr, df, st, false⟩) z)
  (fun _ b iha ihb P W k K tm hp z => iha P W (.cd b :: k) (ihb P W k K) tm hp z)
  (fun x _ _ iha ihb P W k K tm hp z => condF (evF x tm) (iha P W k K tm hp z) (ihb P W k K tm hp z))
  (fun n _ ih P W k K tm hp z => ih P W (.blk n :: k) K tm hp z)
  (fun a ih P W k _ tm hp z => ih P W (.lop a :: k) (fun tm hp z => @Z.rec (fun _ => R) (fun nx _ fr df st _ => .more ⟨[], tm, hp, ⟨nx, .lop a :: k, fr, df, st, false⟩⟩) z) tm hp z)
  (fun f ps a b _ _ => slowK (.rfunc f ps a b))
  (fun n => slowK (.exit n))
  (fun a ih P W k K tm hp z => ih P W (.scp a :: k) K tm hp z)
  (fun _ _ _ _ K tm hp z => K tm hp z)
  (fun l => slowK (.goto l))
  (fun P W k _ tm hp z => @Z.rec (fun _ => R) (fun nx _ fr df st _ => retF P W tm hp nx fr df st (leave (some .ret) ⟨[], tm, hp, ⟨nx, .cd .ret :: k, fr, df, st, false⟩⟩)) z)
  (slowK .bad)

abbrev PK := Program → Nat → KT
def slowP (k : List AIt) : PK := fun P _ tm hp z => @Z.rec (fun _ => R) (fun nx _ fr df st _ => item P ⟨[], tm, hp, ⟨nx, k, fr, df, st, false⟩⟩) z

def popF : List AIt → PK := @List.rec AIt (fun _ => PK)
  (fun P W tm hp z => @Z.rec (fun _ => R) (fun nx _ fr df st _ => retF P W tm hp nx fr df st (leave none ⟨[], tm, hp, ⟨nx, [], fr, df, st, false⟩⟩)) z)
  (fun it k ih => @AIt.rec (fun _ => PK)
    (fun c P W tm hp z => codeF c P W k (ih P W) tm hp z)
    (fun _ => ih)
    (fun c P W tm hp z => codeF c P W (.lop c :: k) (fun tm hp z => @Z.rec (fun _ => R) (fun nx _ fr df st _ => .more ⟨[], tm, hp, ⟨nx, .lop c :: k, fr, df, st, false⟩⟩) z) tm hp z)
    (fun _ => ih)
    (fun l => slowP (.rfn l :: k))
    (fun l => slowP (.erf l :: k))
    (slowP (.brd :: k)) it)

/-- Many steps. -/
def stepF (P : Program) (W : Nat) : S → R := @S.rec (fun _ => R) (fun ms tm hp z => @List.rec MOp (fun _ => R)
  (@Z.rec (fun _ => R) (fun nx k fr df st md => @Bool.rec (fun _ => R) (popF k P W tm hp z) (unwindF P W tm hp nx fr df st) md) z)
  (fun _ _ _ => opsF P W ms stopK tm hp z) ms)

def runF (P : Program) (W : Nat) (n : Nat) : S → R := @Nat.rec (fun _ => S → R) (stepF P W) (fun _ f s => @R.rec (fun _ => R) f .done .bad (f s)) n

end
end Am

/- What the fast form does, the machine does. -/
namespace Am
open Go

section
variable {P : Program} {W : Nat}

theorem evF_eq (x : X) (tm : T AV) : evF x tm = ev tm x := by cases x <;> rfl
theorem setF_eq (d : Option Pos) (v : AV) (tm : T AV) : setF d v tm = setD d v tm := by cases d <;> rfl
theorem finF_eq (v : AV) (d : Option Pos) (ih : KT) (tm : T AV) (hp : T AObj) (z : Z) : finF v d ih tm hp z = .bad 25 ∨ (v ≠ .undef ∧ finF v d ih tm hp z = ih (setD d v tm) hp z) := by
  cases v <;> first | exact .inl rfl | (refine .inr ⟨nofun, ?_⟩; cases d <;> rfl)
theorem finB_eq (v : AV) (d : Option Pos) (ih : KT) (tm : T AV) (hp : T AObj) (z : Z) : finB v d ih tm hp z = ih (setD d v tm) hp z := by
  cases v <;> cases d <;> rfl
theorem kixF_eq (k : IntKind) : kixF k = kix k := by cases k <;> rfl
theorem cellF_eq (o : AObj) (i : Nat) : cellF o i = cellAt o i := by
  cases o with
  | arr t lo hi zs =>
    show @Bool.rec (fun _ => AV) AV.undef (@Bool.rec (fun _ => AV) .undef (orZ (T.get .undef t (posOf i)) zs i) (Nat.ble (Nat.succ i) hi)) (Nat.ble lo i) = cellAt (.arr t lo hi zs) i
    cases h1 : Nat.ble lo i with
    | false => simp only [cellAt, h1]
    | true => cases h2 : Nat.ble (Nat.succ i) hi with
      | false => simp only [cellAt, h1, h2]
      | true =>
        show orZ (T.get .undef t (posOf i)) zs i = _
        simp only [cellAt, h1, h2]
        cases T.get .undef t (posOf i) <;> first | rfl | (show cellZ zs i = _; unfold cellZ; rfl)
  | _ => rfl

/-- What an operation comes to. -/
def Op1 (P : Program) (W : Nat) (m : MOp) (ms : List MOp) (tm : T AV) (hp : T AObj) (z : Z) (ih : KT) (r : R) : Prop :=
  (∃ n, r = .bad n) ∨ (∃ tm' hp' nx', micro P W ⟨m :: ms, tm, hp, z⟩ m ms = .more ⟨ms, tm', hp', ⟨nx', z.k, z.fr, z.df, z.st, z.md⟩⟩ ∧ r = ih tm' hp' ⟨nx', z.k, z.fr, z.df, z.st, z.md⟩) ∨ micro P W ⟨m :: ms, tm, hp, z⟩ m ms = r

theorem micro_pure (s : S) (d : Option Pos) (i : Ins) (ms : List MOp) (h : clOf i = .pure) :
    micro P W s ⟨false, none, d, i⟩ ms = match pureI P s.tm s.hp i with | some v => .more ⟨ms, setD d v s.tm, s.hp, s.z⟩ | none => .bad 25 := by
  cases i with
  | cv k x => cases k <;> first | rfl | cases h
  | _ => first | rfl | cases h

theorem micro_alloc (s : S) (d : Option Pos) (i : Ins) (ms : List MOp) (h : clOf i = .alloc) :
    micro P W s ⟨false, none, d, i⟩ ms = match allocI P s.tm i with | some (o, k) => .more ⟨ms, setD d (mkA k s.z.nx) s.tm, s.hp.set .none o s.z.nx, ⟨s.z.nx.succ, s.z.k, s.z.fr, s.z.df, s.z.st, s.z.md⟩⟩ | none => .bad 26 := by
  cases i with
  | cv k x => cases k <;> first | rfl | cases h
  | _ => first | rfl | cases h

theorem micro_eff (s : S) (d : Option Pos) (i : Ins) (ms : List MOp) (h : clOf i = .eff) (h1 : ∀ f as, i ≠ .call f as) (h2 : ∀ f as, i ≠ .dfr f as) (h3 : i ≠ .recov) :
    micro P W s ⟨false, none, d, i⟩ ms = match effI P s.tm s.hp s.z.nx i with | some e => .more ⟨ms, setD d e.v s.tm, e.hp, ⟨e.nx, s.z.k, s.z.fr, s.z.df, s.z.st, s.z.md⟩⟩ | none => .bad 27 := by
  cases i with
  | cv k x => cases k <;> cases h
  | call f as => exact absurd rfl (h1 f as)
  | dfr f as => exact absurd rfl (h2 f as)
  | recov => exact absurd rfl h3
  | _ => first | rfl | cases h

variable {ms : List MOp} {d : Option Pos} {ih : KT} {tm : T AV} {hp : T AObj} {z : Z}

/-- An operation that only computes. -/
def Pu (P : Program) (i : Ins) (tm : T AV) (hp : T AObj) (d : Option Pos) (ih : KT) (z : Z) (r : R) : Prop := (∃ n, r = .bad n) ∨ ∃ v, pureI P tm hp i = some v ∧ r = ih (setD d v tm) hp z

theorem Pu.op {i : Ins} {r : R} (h : Pu P i tm hp d ih z r) (hi : clOf i = .pure) : Op1 P W ⟨false, none, d, i⟩ ms tm hp z ih r := by
  rcases h with h | ⟨v, h1, h2⟩
  · exact .inl h
  · refine .inr (.inl ⟨_, _, z.nx, ?_, h2⟩)
    rw [micro_pure _ _ _ _ hi]
    simp only [h1]

theorem fin_Pu {i : Ins} {v : AV} (h : v ≠ .undef → pureI P tm hp i = some v) : Pu P i tm hp d ih z (finF v d ih tm hp z) := by
  rcases finF_eq v d ih tm hp z with h1 | ⟨h1, h2⟩
  · exact .inl ⟨_, h1⟩
  · exact .inr ⟨v, h h1, h2⟩

theorem set_Pu {i : Ins} {v : AV} (h : pureI P tm hp i = some v) : Pu P i tm hp d ih z (ih (setF d v tm) hp z) := .inr ⟨v, h, by rw [setF_eq]⟩

theorem pureG_Pu (i : Ins) : Pu P i tm hp d ih z (pureG i P d ih tm hp z) := by
  unfold pureG
  cases h : pureI P tm hp i with
  | none => exact .inl ⟨_, rfl⟩
  | some v => exact fin_Pu fun _ => h

theorem mv_Pu (x : X) : Pu P (.mv x) tm hp d ih z (finF (evF x tm) d ih tm hp z) := by
  refine fin_Pu fun hn => ?_
  rw [evF_eq] at hn ⊢
  simp only [pureI]

theorem pick_Pu (c a b : X) : Pu P (.pick c a b) tm hp d ih z (pickF (evF c tm) a b d ih tm hp z) := by
  rw [evF_eq]
  cases h : ev tm c with
  | bool v =>
    cases v with
    | true => exact fin_Pu (v := evF a tm) fun _ => by rw [evF_eq]; simp only [pureI, h]
    | false => exact fin_Pu (v := evF b tm) fun _ => by rw [evF_eq]; simp only [pureI, h]
  | _ => exact .inl ⟨_, rfl⟩

theorem ld1_Pu (a : X) : Pu P (.ld1 a) tm hp d ih z (ld1F (evF a tm) d ih tm hp z) := by
  rw [evF_eq]
  cases h : ev tm a with
  | ptr o f =>
    refine fin_Pu (v := cellF (T.get .none hp o) f) fun hn => ?_
    rw [cellF_eq] at hn ⊢
    simp only [pureI, h]
  | _ => exact .inl ⟨_, rfl⟩

theorem fad_Pu (off : Nat) (x : X) : Pu P (.fad off x) tm hp d ih z (fadF (evF x tm) off d ih tm hp z) := by
  rw [evF_eq]
  cases h : ev tm x with
  | ptr o f => exact set_Pu (by simp only [pureI, h])
  | _ => exact .inl ⟨_, rfl⟩

theorem ixs_Pu (z0 : Nat) (x i : X) : Pu P (.ixs z0 x i) tm hp d ih z (ixsF (evF i tm) z0 x d ih tm hp z) := by
  rw [evF_eq]
  cases h : ev tm i with
  | int k n =>
    cases n with
    | ofNat n =>
      show Pu P (.ixs z0 x i) tm hp d ih z (ixsG (evF x tm) n z0 d ih tm hp z)
      rw [evF_eq]
      cases h2 : ev tm x with
      | slc o f l c y =>
        show Pu P _ tm hp d ih z (@Bool.rec (fun _ => R) (.bad 25) (@Bool.rec (fun _ => R) (.bad 25) (ih (setF d (.ptr o (Nat.add f (Nat.mul n z0))) tm) hp z) (Nat.beq z0 y)) (Nat.ble (Nat.succ n) l))
        cases h3 : Nat.ble (Nat.succ n) l with
        | false => exact .inl ⟨_, rfl⟩
        | true => cases h4 : Nat.beq z0 y with
          | false => exact .inl ⟨_, rfl⟩
          | true => exact set_Pu (by simp only [pureI, h, h2, h3, h4])
      | slo o f l y =>
        show Pu P _ tm hp d ih z (@Bool.rec (fun _ => R) (.bad 25) (@Bool.rec (fun _ => R) (.bad 25) (ih (setF d (.ptr o (Nat.add f (Nat.mul n z0))) tm) hp z) (Nat.beq z0 y)) (Nat.ble (Nat.succ n) l))
        cases h3 : Nat.ble (Nat.succ n) l with
        | false => exact .inl ⟨_, rfl⟩
        | true => cases h4 : Nat.beq z0 y with
          | false => exact .inl ⟨_, rfl⟩
          | true => exact set_Pu (by simp only [pureI, h, h2, h3, h4])
      | _ => exact .inl ⟨_, rfl⟩
    | negSucc n => exact .inl ⟨_, rfl⟩
  | _ => exact .inl ⟨_, rfl⟩

theorem nc_Pu (x : X) : Pu P (.nc x) tm hp d ih z (ncF (evF x tm) d ih tm hp z) := by
  rw [evF_eq]
  cases h : ev tm x with
  | ptr o f => exact set_Pu (by simp only [pureI, h])
  | fn f a c => exact set_Pu (by simp only [pureI, h])
  | yld l => exact set_Pu (by simp only [pureI, h])
  | _ => exact .inl ⟨_, rfl⟩

theorem len_Pu (k : LenK) (x : X) : Pu P (.len k x) tm hp d ih z (lenF k x P d ih tm hp z) := by
  cases k with
  | str =>
    show Pu P _ tm hp d ih z (lenStr (evF x tm) d ih tm hp z)
    rw [evF_eq]
    cases h : ev tm x with
    | str n c => exact set_Pu (by simp only [pureI, h])
    | _ => exact .inl ⟨_, rfl⟩
  | sl =>
    show Pu P _ tm hp d ih z (lenSl (evF x tm) d ih tm hp z)
    rw [evF_eq]
    cases h : ev tm x with
    | slc o f l c y => exact set_Pu (by simp only [pureI, h])
    | slo o f l y => exact set_Pu (by simp only [pureI, h])
    | snil => exact set_Pu (by simp only [pureI, h])
    | _ => exact .inl ⟨_, rfl⟩
  | map => exact pureG_Pu _
  | arr n => exact set_Pu (by simp only [pureI])

theorem ext_Pu (i : Nat) (x : X) : Pu P (.ext i x) tm hp d ih z (extF (evF x tm) i d ih tm hp z) := by
  rw [evF_eq]
  cases h : ev tm x with
  | tup l => exact fin_Pu (v := nth .undef l i) fun hn => by simp only [pureI, h]
  | _ => exact .inl ⟨_, rfl⟩

theorem not_Pu (x : X) : Pu P (.not x) tm hp d ih z (notF (evF x tm) d ih tm hp z) := by
  rw [evF_eq]
  cases h : ev tm x with
  | bool b => cases b <;> exact set_Pu (by simp only [pureI, h, bnot])
  | _ => exact .inl ⟨_, rfl⟩

theorem addF_eq (k : IntKind) (a b : Int) : addF k a b = inK k (Int.add a b) := by
  cases a with
  | ofNat m => cases b with
    | ofNat n =>
      show natK k (Nat.add m n) = inK k (.ofNat (Nat.add m n))
      have h0 : maxF k = maxN k := by cases k <;> rfl
      unfold natK
      rw [h0]
      cases h : Nat.ble (Nat.add m n) (maxN k) with
      | false => rfl
      | true => simp only [inK, h]
    | negSucc n => rfl
  | negSucc m => rfl

theorem int2_Pu {op : BinOp} {t : Nat} {e : EqK} {x y : X} {f : IntKind → Int → Int → AV} (hop : ∀ k a b, binI P op t k a b = some (f k a b)) (hs : op ≠ .shl ∧ op ≠ .shr) :
    Pu P (.bin op t e x y) tm hp d ih z (int2 (evF x tm) (evF y tm) f (pureG (.bin op t e x y) P) d ih tm hp z) := by
  rw [evF_eq, evF_eq]
  cases h1 : ev tm x with
  | int k a =>
    cases h2 : ev tm y with
    | int j b =>
      show Pu P _ tm hp d ih z (@Bool.rec (fun _ => R) (.bad 25) (finF (f k a b) d ih tm hp z) (Nat.beq (kixF k) (kixF j)))
      rw [kixF_eq, kixF_eq]
      cases h3 : Nat.beq (kix k) (kix j) with
      | false => exact .inl ⟨_, rfl⟩
      | true =>
        refine fin_Pu (v := f k a b) fun _ => ?_
        simp only [pureI, h1, h2, bin]
        rw [← hop k a b, h3]
        cases op <;> first | rfl | exact absurd rfl hs.1 | exact absurd rfl hs.2
    | _ => exact pureG_Pu _
  | _ => exact pureG_Pu _

theorem bin_Pu (op : BinOp) (t : Nat) (e : EqK) (x y : X) : Pu P (.bin op t e x y) tm hp d ih z (binF op t e x y P d ih tm hp z) := by
  cases op with
  | add => exact int2_Pu (f := addF) (fun k a b => by simp only [binI, addF_eq]) ⟨nofun, nofun⟩
  | sub => exact int2_Pu (f := subF) (fun k a b => by simp only [binI, subF]) ⟨nofun, nofun⟩
  | lss => exact int2_Pu (f := lssF) (fun k a b => by simp only [binI, lssF]) ⟨nofun, nofun⟩
  | gtr => exact int2_Pu (f := gtrF) (fun k a b => by simp only [binI, gtrF]) ⟨nofun, nofun⟩
  | leq => exact int2_Pu (f := leqF) (fun k a b => by simp only [binI, leqF]) ⟨nofun, nofun⟩
  | geq => exact int2_Pu (f := geqF) (fun k a b => by simp only [binI, geqF]) ⟨nofun, nofun⟩
  | eql => exact int2_Pu (f := eqlF) (fun k a b => by simp only [binI, eqlF]) ⟨nofun, nofun⟩
  | neq => exact int2_Pu (f := neqF) (fun k a b => by simp only [binI, neqF]) ⟨nofun, nofun⟩
  | _ => exact pureG_Pu _

theorem allocG_op (i : Ins) (hi : clOf i = .alloc) : Op1 P W ⟨false, none, d, i⟩ ms tm hp z ih (allocG i P d ih tm hp z) := by
  unfold allocG
  cases h : allocI P tm i with
  | none => exact .inl ⟨_, rfl⟩
  | some ok =>
    obtain ⟨o, k⟩ := ok
    cases z with
    | mk nx kk fr df st md =>
      show Op1 P W _ ms tm hp _ ih (finF (mkA k nx) d ih tm (hp.set .none o nx) ⟨nx.succ, kk, fr, df, st, md⟩)
      rcases finF_eq (mkA k nx) d ih tm (hp.set .none o nx) ⟨nx.succ, kk, fr, df, st, md⟩ with h1 | ⟨-, h2⟩
      · exact .inl ⟨_, h1⟩
      · refine .inr (.inl ⟨_, _, nx.succ, ?_, h2⟩)
        rw [micro_alloc _ _ _ _ hi]
        simp only [h]

theorem effG_op (i : Ins) (hi : clOf i = .eff) (h1 : ∀ f as, i ≠ .call f as) (h2 : ∀ f as, i ≠ .dfr f as) (h3 : i ≠ .recov) : Op1 P W ⟨false, none, d, i⟩ ms tm hp z ih (effG i P d ih tm hp z) := by
  unfold effG
  cases z with
  | mk nx kk fr df st md =>
    show Op1 P W _ ms tm hp _ ih (@Option.rec Eff (fun _ => R) (.bad 27) (fun e => @Eff.rec (fun _ => R) (fun v hp' nx' => @Option.rec Pos (fun _ => R) (ih tm hp' ⟨nx', kk, fr, df, st, md⟩) (fun p => finB v (some p) ih tm hp' ⟨nx', kk, fr, df, st, md⟩) d) e) (effI P tm hp nx i))
    cases h : effI P tm hp nx i with
    | none => exact .inl ⟨_, rfl⟩
    | some e =>
      obtain ⟨v, hp', nx'⟩ := e
      refine .inr (.inl ⟨setD d v tm, hp', nx', ?_, ?_⟩)
      · rw [micro_eff _ _ _ _ hi h1 h2 h3]
        simp only [h]
      · cases d with
        | none => rfl
        | some p => exact finB_eq v (some p) ih tm hp' ⟨nx', kk, fr, df, st, md⟩

/-! ### Entering -/

theorem args0_app (l r : List AV) : args0 (app l r) = args0 (app l r) := rfl

noncomputable def a0 (vs : List AV) : T AV → Pos → T AV := lrec (fun t _ => t) (fun v _ ih t p => ih (t.set .undef v p) (Pos.succ p)) vs
noncomputable def p0 (vs : List AV) : Pos → Pos := lrec (fun p => p) (fun _ _ ih p => ih (Pos.succ p)) vs

theorem a0_app : ∀ (l r : List AV) (t : T AV) (p : Pos), a0 (app l r) t p = a0 r (a0 l t p) (p0 l p)
  | [], _, _, _ => rfl
  | v :: l, r, t, p => a0_app l r (t.set .undef v p) (Pos.succ p)

theorem putF_eq (v : AV) (ih : BK) (acc : T AV) (p : Pos) (K : T AV → Pos → R) : putF v ih acc p K = .bad 25 ∨ putF v ih acc p K = ih (T.set .undef v p acc) (Pos.succ p) K := by
  cases v <;> first | exact .inl rfl | exact .inr rfl

theorem bindV_eq : ∀ (l : List AV) (acc : T AV) (p : Pos) (K : T AV → Pos → R), bindV l acc p K = .bad 25 ∨ bindV l acc p K = K (a0 l acc p) (p0 l p)
  | [], _, _, _ => .inr rfl
  | v :: l, acc, p, K => by
    have h : bindV (v :: l) acc p K = putF v (bindV l) acc p K := rfl
    rcases putF_eq v (bindV l) acc p K with h1 | h1
    · exact .inl (h.trans h1)
    · rcases bindV_eq l (T.set .undef v p acc) (Pos.succ p) K with h2 | h2
      · exact .inl (h.trans (h1.trans h2))
      · exact .inr (h.trans (h1.trans h2))

theorem bindX_eq (tm : T AV) : ∀ (l : List X) (acc : T AV) (p : Pos) (K : T AV → Pos → R), bindX tm l acc p K = .bad 25 ∨ bindX tm l acc p K = K (a0 (mapL (ev tm) l) acc p) (p0 (mapL (ev tm) l) p)
  | [], _, _, _ => .inr rfl
  | x :: l, acc, p, K => by
    have h : bindX tm (x :: l) acc p K = putF (evF x tm) (bindX tm l) acc p K := rfl
    rw [evF_eq] at h
    rcases putF_eq (ev tm x) (bindX tm l) acc p K with h1 | h1
    · exact .inl (h.trans h1)
    · rcases bindX_eq tm l (T.set .undef (ev tm x) p acc) (Pos.succ p) K with h2 | h2
      · exact .inl (h.trans (h1.trans h2))
      · exact .inr (h.trans (h1.trans h2))

theorem enterF_eq {f : Nat} {first cap : List AV} {args : List X} {nx : Pos} {st : List Sus} : (∃ n, enterF P f first cap args tm hp nx st = .bad n) ∨ enterF P f first cap args tm hp nx st = enter P f (app first (app (mapL (ev tm) args) cap)) .nrm hp nx st := by
  unfold enterF
  cases h : entryOf P f with
  | none => exact .inl ⟨_, rfl⟩
  | some e =>
    unfold entryOf at h
    split at h
    · cases h
    · next fn hf =>
      split at h
      · cases h
      · next c hc =>
        split at h
        · next hnm =>
          cases h
          show (∃ n, (@Bool.rec (fun _ => R) (.bad 3) (bindV first .lf .e (fun acc p => bindX tm args acc p (fun acc p => bindV cap acc p (fun acc _ => .more ⟨[], acc, hp, ⟨nx, [.cd (trC P fn.ntmps c)], ⟨f, mapL (trRV P) fn.results.toList, .nrm, none⟩, [], st, false⟩⟩)))) (Nat.ble (Nat.add (len first) (Nat.add (len args) (len cap))) fn.ntmps)) = .bad n) ∨
            (@Bool.rec (fun _ => R) (.bad 3) (bindV first .lf .e (fun acc p => bindX tm args acc p (fun acc p => bindV cap acc p (fun acc _ => .more ⟨[], acc, hp, ⟨nx, [.cd (trC P fn.ntmps c)], ⟨f, mapL (trRV P) fn.results.toList, .nrm, none⟩, [], st, false⟩⟩)))) (Nat.ble (Nat.add (len first) (Nat.add (len args) (len cap))) fn.ntmps)) = _
          have hlen : Nat.add (len first) (Nat.add (len args) (len cap)) = len (app first (app (mapL (ev tm) args) cap)) := by
            rw [len_eq, len_eq, len_eq, len_eq, app_eq, app_eq, mapL_eq]; simp
          rw [hlen]
          cases hb : Nat.ble (len (app first (app (mapL (ev tm) args) cap))) fn.ntmps with
          | false => exact .inl ⟨_, rfl⟩
          | true =>
            have hen : enter P f (app first (app (mapL (ev tm) args) cap)) .nrm hp nx st = .more ⟨[], args0 (app first (app (mapL (ev tm) args) cap)), hp, ⟨nx, [.cd (trC P fn.ntmps c)], ⟨f, mapL (trRV P) fn.results.toList, .nrm, none⟩, [], st, false⟩⟩ := by
              unfold enter
              rw [hf]
              simp only [hc, hb, hnm]
            rw [hen]
            show (∃ n, bindV first .lf .e _ = .bad n) ∨ bindV first .lf .e _ = _
            rcases bindV_eq first .lf .e (fun acc p => bindX tm args acc p (fun acc p => bindV cap acc p (fun acc _ => R.more ⟨[], acc, hp, ⟨nx, [.cd (trC P fn.ntmps c)], ⟨f, mapL (trRV P) fn.results.toList, .nrm, none⟩, [], st, false⟩⟩))) with h1 | h1
            · exact .inl ⟨_, h1⟩
            · rw [h1]
              rcases bindX_eq tm args (a0 first .lf .e) (p0 first .e) (fun acc p => bindV cap acc p (fun acc _ => R.more ⟨[], acc, hp, ⟨nx, [.cd (trC P fn.ntmps c)], ⟨f, mapL (trRV P) fn.results.toList, .nrm, none⟩, [], st, false⟩⟩)) with h2 | h2
              · exact .inl ⟨_, h2⟩
              · rw [h2]
                rcases bindV_eq cap (a0 (mapL (ev tm) args) (a0 first .lf .e) (p0 first .e)) (p0 (mapL (ev tm) args) (p0 first .e)) (fun acc _ => R.more ⟨[], acc, hp, ⟨nx, [.cd (trC P fn.ntmps c)], ⟨f, mapL (trRV P) fn.results.toList, .nrm, none⟩, [], st, false⟩⟩) with h3 | h3
                · exact .inl ⟨_, h3⟩
                · right
                  rw [h3]
                  show R.more _ = R.more _
                  have : args0 (app first (app (mapL (ev tm) args) cap)) = a0 (app first (app (mapL (ev tm) args) cap)) .lf .e := rfl
                  rw [this, a0_app, a0_app]
        · cases h

theorem call_op (f : X) (args : List X) : Op1 P W ⟨false, none, d, .call f args⟩ ms tm hp z ih (callA (evF f tm) (.call f args) args P W ms d ih tm hp z) := by
  rw [evF_eq]
  cases h : ev tm f with
  | fn g a c =>
    cases z with
    | mk nx k fr df st md =>
      show Op1 P W _ ms tm hp _ ih (@Bool.rec (fun _ => R) (@Bool.rec (fun _ => R) (enterF P g a c args tm hp nx (⟨d, ms, tm, k, fr, df, md⟩ :: st)) (.bad 30) (isRfn k)) (slowC (.call f args) args P W ms d ih tm hp ⟨nx, k, fr, df, st, md⟩) (Nat.beq g W))
      cases hw : Nat.beq g W with
      | true => exact .inr (.inr rfl)
      | false =>
        have hiw : isW W (.fn g a c) = false := by
          unfold isW
          split
          · next f' heq => cases heq; exact hw
          · rfl
        cases hr : isRfn k with
        | true => exact .inl ⟨_, rfl⟩
        | false =>
          show Op1 P W _ ms tm hp _ ih (enterF P g a c args tm hp nx (⟨d, ms, tm, k, fr, df, md⟩ :: st))
          rcases enterF_eq (P := P) (tm := tm) (hp := hp) (f := g) (first := a) (cap := c) (args := args) (nx := nx) (st := ⟨d, ms, tm, k, fr, df, md⟩ :: st) with h1 | h1
          · exact .inl h1
          · refine .inr (.inr ?_)
            rw [h1]
            simp only [micro, wanted, h, hiw, hr]
            rfl
  | _ => exact .inr (.inr rfl)

theorem insF_op : ∀ i, Op1 P W ⟨false, none, d, i⟩ ms tm hp z ih (insF i P W ms d ih tm hp z)
  | .mv x => (mv_Pu x).op rfl
  | .pick c a b => (pick_Pu c a b).op rfl
  | .ld1 a => (ld1_Pu a).op rfl
  | .ldn n a => (pureG_Pu (.ldn n a)).op rfl
  | .st n a v => effG_op (.st n a v) rfl nofun nofun nofun
  | .fad off x => (fad_Pu off x).op rfl
  | .fl1 off x => (pureG_Pu (.fl1 off x)).op rfl
  | .fln off n x => (pureG_Pu (.fln off n x)).op rfl
  | .ixs z0 x i => (ixs_Pu z0 x i).op rfl
  | .ixa n z0 x i => (pureG_Pu (.ixa n z0 x i)).op rfl
  | .ixt x i => (pureG_Pu (.ixt x i)).op rfl
  | .ixv n x i => (pureG_Pu (.ixv n x i)).op rfl
  | .nc x => (nc_Pu x).op rfl
  | .bin op t e x y => (bin_Pu op t e x y).op rfl
  | .not x => (not_Pu x).op rfl
  | .un op x => (pureG_Pu (.un op x)).op rfl
  | .cv k x => by
    cases k with
    | int k => exact (pureG_Pu (.cv (.int k) x)).op rfl
    | same => exact (pureG_Pu (.cv .same x)).op rfl
    | s2b => exact allocG_op (.cv .s2b x) rfl
    | b2s => exact (pureG_Pu (.cv .b2s x)).op rfl
    | bad => exact (pureG_Pu (.cv .bad x)).op rfl
  | .mki t x => (pureG_Pu (.mki t x)).op rfl
  | .mkf f a c => (pureG_Pu (.mkf f a c)).op rfl
  | .mkm => allocG_op .mkm rfl
  | .mk1 kt k v => allocG_op (.mk1 kt k v) rfl
  | .mks z0 b zs l c => allocG_op (.mks z0 b zs l c) rfl
  | .slx k x lo hi mx => (pureG_Pu (.slx k x lo hi mx)).op rfl
  | .len k x => (len_Pu k x).op rfl
  | .cap x => (pureG_Pu (.cap x)).op rfl
  | .app z0 b s x => effG_op (.app z0 b s x) rfl nofun nofun nofun
  | .cpy z0 dd s => effG_op (.cpy z0 dd s) rfl nofun nofun nofun
  | .clr z0 zs x => effG_op (.clr z0 zs x) rfl nofun nofun nofun
  | .rng x => effG_op (.rng x) rfl nofun nofun nofun
  | .nxt x => effG_op (.nxt x) rfl nofun nofun nofun
  | .ent x => (pureG_Pu (.ent x)).op rfl
  | .mx xs => (pureG_Pu (.mx xs)).op rfl
  | .al n zs => allocG_op (.al n zs) rfl
  | .bx n x => allocG_op (.bx n x) rfl
  | .bld zs ps => (pureG_Pu (.bld zs ps)).op rfl
  | .bls n z0 zs ps => allocG_op (.bls n z0 zs ps) rfl
  | .lku kt zero ok x k => (pureG_Pu (.lku kt zero ok x k)).op rfl
  | .mup kt m k v => effG_op (.mup kt m k v) rfl nofun nofun nofun
  | .men kt zero m k => effG_op (.men kt zero m k) rfl nofun nofun nofun
  | .mes m s v => effG_op (.mes m s v) rfl nofun nofun nofun
  | .ext i x => (ext_Pu i x).op rfl
  | .call f args => call_op f args
  | .dfr _ _ => .inr (.inr rfl)
  | .recov => .inr (.inr rfl)
  | .bad => .inr (.inr rfl)

theorem micro_guard {g : Option (Pos × Bool)} {i : Ins} {s : S} (h : wanted s.tm g = some true) : micro P W s ⟨false, g, d, i⟩ ms = micro P W s ⟨false, none, d, i⟩ ms := by
  have h0 : wanted s.tm none = some true := rfl
  simp only [micro, h, h0]

theorem micro_head {m : MOp} : micro P W ⟨m :: ms, tm, hp, z⟩ m ms = micro P W ⟨[], tm, hp, z⟩ m ms := by
  cases m with
  | mk ck g d i => rfl

theorem microF_op (m : MOp) : Op1 P W m ms tm hp z ih (microF m P W ms ih tm hp z) := by
  obtain ⟨ck, g, d, i⟩ := m
  have hz : (⟨z.nx, z.k, z.fr, z.df, z.st, z.md⟩ : Z) = z := rfl
  cases ck with
  | true =>
    show Op1 P W _ ms tm hp z ih (ckF (wanted tm g) i P d ih tm hp z)
    unfold ckF
    cases h : wanted tm g with
    | none => exact .inl ⟨_, rfl⟩
    | some b => cases b with
      | false =>
        show Op1 P W _ ms tm hp z ih (@Bool.rec (fun _ => R) (.bad 29) (ih tm hp z) (skipOk tm d))
        cases h2 : skipOk tm d with
        | false => exact .inl ⟨_, rfl⟩
        | true =>
          refine .inr (.inl ⟨tm, hp, z.nx, ?_, rfl⟩)
          cases d with
          | none => cases h2
          | some p =>
            have h2 : isSkip (tm.get .undef p) = true := h2
            simp only [micro, h, h2]
      | true =>
        show Op1 P W _ ms tm hp z ih (@Bool.rec (fun _ => R) (.bad 22) (ih tm hp z) (again P tm hp d i))
        cases h2 : again P tm hp d i with
        | false => exact .inl ⟨_, rfl⟩
        | true =>
          refine .inr (.inl ⟨tm, hp, z.nx, ?_, rfl⟩)
          simp only [micro, h, h2]
  | false =>
    have key : wanted tm g = some true → Op1 P W ⟨false, g, d, i⟩ ms tm hp z ih (insF i P W ms d ih tm hp z) := fun h => by
      have h1 := insF_op (P := P) (W := W) (ms := ms) (d := d) (ih := ih) (tm := tm) (hp := hp) (z := z) i
      unfold Op1 at h1 ⊢
      rw [micro_head] at h1 ⊢
      rw [micro_guard h]
      exact h1
    cases g with
    | none => exact key rfl
    | some pb =>
      show Op1 P W _ ms tm hp z ih (guardF (wanted tm (some pb)) i P W ms d ih tm hp z)
      cases h : wanted tm (some pb) with
      | none => exact .inl ⟨_, rfl⟩
      | some b => cases b with
        | true => exact key h
        | false =>
          refine .inr (.inl ⟨setD d (.tup []) tm, hp, z.nx, ?_, ?_⟩)
          · simp only [micro, h]
          · show ih (setF d (.tup []) tm) hp z = _
            rw [setF_eq]

/-! ### Many steps -/

/-- A run leads there. -/
inductive Lead (P : Program) (W : Nat) : S → R → Prop
  | here (s : S) : Lead P W s (.more s)
  | bad (s : S) (n : Nat) : Lead P W s (.bad n)
  | one {s : S} {r : R} (h : step P W s = r) : Lead P W s r
  | more {s s' : S} {r : R} (h : step P W s = .more s') (hr : Lead P W s' r) : Lead P W s r

theorem Lead.trans {s s' : S} {r : R} (h : Lead P W s (.more s')) (h2 : Lead P W s' r) : Lead P W s r := by
  generalize hx : R.more s' = x at h
  induction h with
  | here s => cases hx; exact h2
  | bad => cases hx
  | one h => subst hx; exact .more h h2
  | more h _ ih => exact .more h (ih hx)

theorem opsF_lead {K : KT} {k : List AIt} {fr : FI} {df : List ADef} {st : List Sus} {md : Bool} (hK : ∀ tm hp nx, Lead P W ⟨[], tm, hp, ⟨nx, k, fr, df, st, md⟩⟩ (K tm hp ⟨nx, k, fr, df, st, md⟩)) :
    ∀ (ms : List MOp) (tm : T AV) (hp : T AObj) (nx : Pos), Lead P W ⟨ms, tm, hp, ⟨nx, k, fr, df, st, md⟩⟩ (opsF P W ms K tm hp ⟨nx, k, fr, df, st, md⟩)
  | [], tm, hp, nx => hK tm hp nx
  | m :: ms, tm, hp, nx => by
    have h := microF_op (P := P) (W := W) (ms := ms) (ih := opsF P W ms K) (tm := tm) (hp := hp) (z := ⟨nx, k, fr, df, st, md⟩) m
    have he : opsF P W (m :: ms) K tm hp ⟨nx, k, fr, df, st, md⟩ = microF m P W ms (opsF P W ms K) tm hp ⟨nx, k, fr, df, st, md⟩ := rfl
    rw [he]
    rcases h with ⟨n, h⟩ | ⟨tm', hp', nx', h1, h2⟩ | h
    · rw [h]; exact .bad _ _
    · rw [h2]
      exact .more (s' := ⟨ms, tm', hp', ⟨nx', k, fr, df, st, md⟩⟩) h1 (opsF_lead hK ms tm' hp' nx')
    · exact .one h

theorem stop_lead (k : List AIt) (fr : FI) (df : List ADef) (st : List Sus) (md : Bool) (tm : T AV) (hp : T AObj) (nx : Pos) : Lead P W ⟨[], tm, hp, ⟨nx, k, fr, df, st, md⟩⟩ (stopK tm hp ⟨nx, k, fr, df, st, md⟩) := .here _

theorem resuF_eq (l : List RV) : resuF tm hp l = resAll tm hp l := by
  cases l with
  | nil => rfl
  | cons r rs => cases rs with
    | nil =>
      show resV tm hp r = resAll tm hp [r]
      have h2 : mapO (resV tm hp) [r] = @Option.rec AV (fun _ => Option (List AV)) none (fun b => some [b]) (resV tm hp r) := rfl
      unfold resAll
      rw [h2]
      cases resV tm hp r <;> rfl
    | cons _ _ => rfl

theorem backF_lead {s0 : S} {v : AV} {nx : Pos} {kd : Kd} {st : List Sus} (h : step P W s0 = back v hp nx kd st) : Lead P W s0 (backF P W v hp nx kd st) := by
  cases st with
  | nil => cases kd <;> exact .one h
  | cons s st =>
    obtain ⟨d, ms, tm, k, fr, df, md⟩ := s
    cases kd with
    | nrm =>
      show Lead P W s0 (@Bool.rec (fun _ => R) (@Option.rec Pos (fun _ => R) (opsF P W ms stopK tm hp ⟨nx, k, fr, df, st, md⟩) (fun p => finB v (some p) (opsF P W ms stopK) tm hp ⟨nx, k, fr, df, st, md⟩) d) (back v hp nx .nrm (⟨d, ms, tm, k, fr, df, md⟩ :: st)) (isRfn k))
      cases hr : isRfn k with
      | true => exact .one h
      | false =>
        have hb : back v hp nx .nrm (⟨d, ms, tm, k, fr, df, md⟩ :: st) = .more ⟨ms, setD d v tm, hp, ⟨nx, k, fr, df, st, md⟩⟩ := by
          unfold back
          unfold isRfn at hr
          split at hr
          · cases hr
          · next hne =>
            dsimp only
            split
            · next l k' => exact absurd rfl (hne l k')
            · rfl
        rw [hb] at h
        have := opsF_lead (P := P) (W := W) (K := stopK) (k := k) (fr := fr) (df := df) (st := st) (md := md) (stop_lead k fr df st md) ms (setD d v tm) hp nx
        refine .more h ?_
        cases d with
        | none => exact this
        | some p =>
          show Lead P W _ (finB v (some p) (opsF P W ms stopK) tm hp ⟨nx, k, fr, df, st, md⟩)
          rw [finB_eq]
          exact this
    | dfd => exact .more h (opsF_lead (P := P) (W := W) (K := stopK) (k := k) (fr := fr) (df := df) (st := st) (md := md) (stop_lead k fr df st md) ms tm hp nx)

theorem unwindF_lead {nx : Pos} {k : List AIt} {fr : FI} {df : List ADef} {st : List Sus} : Lead P W ⟨[], tm, hp, ⟨nx, k, fr, df, st, true⟩⟩ (unwindF P W tm hp nx fr df st) := by
  cases df with
  | cons a df =>
    refine .one ?_
    show unwind P _ = unwind P _
    unfold unwind
    rfl
  | nil =>
    obtain ⟨f, res, kd, rnd⟩ := fr
    show Lead P W _ (@Option.rec AV (fun _ => R) (.bad 10) (fun v => backF P W v hp nx kd st) (resuF tm hp res))
    rw [resuF_eq]
    cases h : resAll tm hp res with
    | none => exact .bad _ _
    | some v =>
      refine backF_lead ?_
      show unwind P ⟨[], tm, hp, ⟨nx, k, ⟨f, res, kd, rnd⟩, [], st, true⟩⟩ = back v hp nx kd st
      simp only [unwind, h]

theorem retF_lead {s0 : S} {slow : R} {nx : Pos} {fr : FI} {df : List ADef} {st : List Sus} (hs : step P W s0 = slow) (hn : fr.rnd = none → slow = .more ⟨[], tm, hp, ⟨nx, [], fr, df, st, true⟩⟩) : Lead P W s0 (retF P W tm hp nx fr df st slow) := by
  obtain ⟨f, res, kd, rnd⟩ := fr
  cases rnd with
  | some l => exact .one hs
  | none =>
    rw [hn rfl] at hs
    exact .more hs unwindF_lead

theorem loopK_lead {a : IC} {k : List AIt} {fr : FI} {df : List ADef} {st : List Sus} (tm : T AV) (hp : T AObj) (nx : Pos) (k0 : List AIt) : Lead P W ⟨[], tm, hp, ⟨nx, .lop a :: k, fr, df, st, false⟩⟩
    ((fun tm hp z => @Z.rec (fun _ => R) (fun nx _ fr df st _ => R.more ⟨[], tm, hp, ⟨nx, .lop a :: k, fr, df, st, false⟩⟩) z : KT) tm hp ⟨nx, k0, fr, df, st, false⟩) := .here _

theorem codeF_lead {fr : FI} {df : List ADef} {st : List Sus} : ∀ (c : IC) (k k0 : List AIt) (K : KT) (_ : ∀ tm hp nx k0, Lead P W ⟨[], tm, hp, ⟨nx, k, fr, df, st, false⟩⟩ (K tm hp ⟨nx, k0, fr, df, st, false⟩)) (tm : T AV) (hp : T AObj) (nx : Pos),
    Lead P W ⟨[], tm, hp, ⟨nx, .cd c :: k, fr, df, st, false⟩⟩ (codeF c P W k K tm hp ⟨nx, k0, fr, df, st, false⟩) := by
  intro c
  induction c with
  | skip => exact fun k k0 K hK tm hp nx => .more rfl (hK tm hp nx k0)
  | reg ms => exact fun k k0 K hK tm hp nx => .more rfl (opsF_lead (fun tm hp nx => hK tm hp nx k) ms tm hp nx)
  | seq a b iha ihb => exact fun k k0 K hK tm hp nx => .more rfl (iha (.cd b :: k) k0 (codeF b P W k K) (fun tm hp nx k0 => ihb k k0 K hK tm hp nx) tm hp nx)
  | cond x a b iha ihb =>
    intro k k0 K hK tm hp nx
    show Lead P W _ (condF (evF x tm) (codeF a P W k K tm hp ⟨nx, k0, fr, df, st, false⟩) (codeF b P W k K tm hp ⟨nx, k0, fr, df, st, false⟩))
    rw [evF_eq]
    cases h : ev tm x with
    | bool v => cases v with
      | true => exact .more (s' := ⟨[], tm, hp, ⟨nx, .cd a :: k, fr, df, st, false⟩⟩) (by simp only [step, item, h]; rfl) (iha k k0 K hK tm hp nx)
      | false => exact .more (s' := ⟨[], tm, hp, ⟨nx, .cd b :: k, fr, df, st, false⟩⟩) (by simp only [step, item, h]; rfl) (ihb k k0 K hK tm hp nx)
    | _ => exact .bad _ _
  | block n a ih => exact fun k k0 K hK tm hp nx => .more rfl (ih (.blk n :: k) k0 K (fun tm hp nx k0 => .more rfl (hK tm hp nx k0)) tm hp nx)
  | loop a ih => exact fun k k0 K hK tm hp nx => .more rfl (ih (.lop a :: k) k0 _ (fun tm hp nx k0 => loopK_lead tm hp nx k0) tm hp nx)
  | rfunc f ps a b => exact fun k k0 K hK tm hp nx => .one rfl
  | exit n => exact fun k k0 K hK tm hp nx => .one rfl
  | scope a ih => exact fun k k0 K hK tm hp nx => .more rfl (ih (.scp a :: k) k0 K (fun tm hp nx k0 => .more rfl (hK tm hp nx k0)) tm hp nx)
  | label l => exact fun k k0 K hK tm hp nx => .more rfl (hK tm hp nx k0)
  | goto l => exact fun k k0 K hK tm hp nx => .one rfl
  | ret =>
    intro k k0 K hK tm hp nx
    refine retF_lead rfl fun h => ?_
    simp only [leave, h]
  | bad => exact fun k k0 K hK tm hp nx => .one rfl

theorem popF_lead {fr : FI} {df : List ADef} {st : List Sus} : ∀ (k k0 : List AIt) (tm : T AV) (hp : T AObj) (nx : Pos), Lead P W ⟨[], tm, hp, ⟨nx, k, fr, df, st, false⟩⟩ (popF k P W tm hp ⟨nx, k0, fr, df, st, false⟩)
  | [], k0, tm, hp, nx => by
    refine retF_lead rfl fun h => ?_
    simp only [leave, h]
  | it :: k, k0, tm, hp, nx => by
    cases it with
    | cd c => exact codeF_lead c k k0 (popF k P W) (fun tm hp nx k0 => popF_lead k k0 tm hp nx) tm hp nx
    | blk n => exact .more rfl (popF_lead k k0 tm hp nx)
    | lop c => exact .more rfl (codeF_lead c (.lop c :: k) k0 _ (fun tm hp nx k0 => loopK_lead tm hp nx k0) tm hp nx)
    | scp c => exact .more rfl (popF_lead k k0 tm hp nx)
    | rfn l => exact .one rfl
    | erf l => exact .one rfl
    | brd => exact .one rfl

theorem stepF_lead (s : S) : Lead P W s (stepF P W s) := by
  obtain ⟨ms, tm, hp, nx, k, fr, df, st, md⟩ := s
  cases ms with
  | cons m ms => exact opsF_lead (stop_lead k fr df st md) (m :: ms) tm hp nx
  | nil => cases md with
    | true => exact unwindF_lead
    | false => exact popF_lead k k tm hp nx

theorem runF_lead : ∀ (n : Nat) (s : S), Lead P W s (runF P W n s)
  | 0, s => stepF_lead s
  | n + 1, s => by
    have h := runF_lead n s
    show Lead P W s (@R.rec (fun _ => R) (runF P W n) .done .bad (runF P W n s))
    cases hr : runF P W n s with
    | more s' => rw [hr] at h; exact h.trans (runF_lead n s')
    | done v hp nx => rw [hr] at h; exact h
    | bad n => exact .bad _ _

/-! ### Runs in stretches -/

theorem step_run (s : S) : run P W 0 s = step P W s := rfl

def EndsIn (P : Program) (W : Nat) (v : AV) : R → Prop
  | .more s' => Gives P W v s'
  | .done v' _ _ => v' = v
  | .bad _ => False

theorem Lead.gives {s : S} {r : R} {v : AV} (h : Lead P W s r) (hr : EndsIn P W v r) : Gives P W v s := by
  induction h with
  | here s => exact hr
  | bad => exact hr.elim
  | one h =>
    next r =>
    cases r with
    | more s' => exact .more (n := 0) h hr
    | done v' hp nx => cases hr; exact .done (n := 0) h
    | bad => exact hr.elim
  | more h _ ih => exact .more (n := 0) h (ih hr)
end

section
variable {P : Program} {W : Nat}
/-- What is kept, by what is to be there. -/
noncomputable def keepOf (t : T AObj) : T Bool := @T.rec AObj (fun _ => T Bool) .lf (fun _ v _ hl hr => .nd hl (@AObj.rec (fun _ => Bool) false (fun _ => true) (fun _ _ _ _ => true) (fun _ _ => true) (fun _ => true) (fun _ => true) (fun _ _ _ _ => true) v) hr) t

/-- A stretch: many steps, and what is not named any more is forgotten. -/
noncomputable def stretch (P : Program) (W n : Nat) (keep : T AObj) (s : S) : R := @R.rec (fun _ => R) (fun s => trim (keepOf keep) s) .done .bad (runF P W n s)

theorem Gives.stretch {n : Nat} {s s' : S} {v : AV} (h : stretch P W n s'.hp s = .more s') (hs : Gives P W v s') : Gives P W v s := by
  unfold Am.stretch at h
  have hl := runF_lead (P := P) (W := W) n s
  cases hr : runF P W n s with
  | more s1 =>
    rw [hr] at h hl
    exact hl.gives (.trim h hs)
  | done => rw [hr] at h; cases h
  | bad => rw [hr] at h; cases h

theorem Gives.last {n : Nat} {s : S} {v : AV} {hp : T AObj} {nx : Pos} (h : runF P W n s = .done v hp nx) : Gives P W v s := by
  have hl := runF_lead (P := P) (W := W) n s
  rw [h] at hl
  exact hl.gives rfl
end
end Am

/- Words for states. -/
namespace Am
open Go
namespace Sn
noncomputable section
def I (n : Nat) : AV := .int .i64 (.ofNat n)
def J (n : Nat) : AV := .int .i64 (.negSucc n)
def U (n : Nat) : AV := .int .u8 (.ofNat n)
def V (k : IntKind) (n : Nat) : AV := .int k (.ofNat n)
def q (n : Nat) : Pos := posGo 40 n
def P (n f : Nat) : AV := .ptr (q n) f
def A (n f l c z : Nat) : AV := .slc (q n) f l c z
def O (n f l z : Nat) : AV := .slo (q n) f l z
def M (n : Nat) : AV := .map (q n)
def y : AV := .bool true
def x : AV := .bool false
def u : AV := .undef
def e {α : Type} : T α := .lf
def n (l : T AV) (v : AV) (r : T AV) : T AV := .nd l v r
def v (a : AV) : T AV := .nd .lf a .lf
def w (l r : T AV) : T AV := .nd l .undef r
def h (l : T AObj) (v : AObj) (r : T AObj) : T AObj := .nd l v r
def g (l r : T AObj) : T AObj := .nd l .none r
def k (o : AObj) : T AObj := .nd .lf o .lf
def W (l : List AV) : AObj := .row l
/-- The parts of a program. -/
def E (p : Program) (f : Nat) : Option Ent := entryOf p f
def C (p : Program) (f : Nat) : IC := @Option.rec Ent (fun _ => IC) .bad (fun e => e.c) (entryOf p f)
def F (p : Program) (f : Nat) : FI := ⟨f, @Option.rec Ent (fun _ => List RV) [] (fun e => e.res) (entryOf p f), .nrm, none⟩
def D (p : Program) (f : Nat) : FI := ⟨f, @Option.rec Ent (fun _ => List RV) [] (fun e => e.res) (entryOf p f), .dfd, none⟩
def L : IC → IC := @IC.rec (fun _ => IC) .bad (fun _ => .bad) (fun a _ _ _ => a) (fun _ a _ _ _ => a) (fun _ a _ => a) (fun a _ => a) (fun _ _ a _ _ _ => a) (fun _ => .bad) (fun a _ => a) (fun _ => .bad) (fun _ => .bad) .bad .bad
def R1 : IC → IC := @IC.rec (fun _ => IC) .bad (fun _ => .bad) (fun _ a _ _ => a) (fun _ _ a _ _ => a) (fun _ _ _ => .bad) (fun _ _ => .bad) (fun _ _ _ a _ _ => a) (fun _ => .bad) (fun _ _ => .bad) (fun _ => .bad) (fun _ => .bad) .bad .bad
def R (n : Nat) (c : IC) : IC := @Nat.rec (fun _ => IC → IC) (fun c => c) (fun _ ih c => ih (R1 c)) n c
def G : IC → List MOp := @IC.rec (fun _ => List MOp) [] (fun ms => ms) (fun _ _ _ _ => []) (fun _ _ _ _ _ => []) (fun _ _ _ => []) (fun _ _ => []) (fun _ _ _ _ _ _ => []) (fun _ => []) (fun _ _ => []) (fun _ => []) (fun _ => []) [] []
def S1 : List MOp → List MOp := @List.rec MOp (fun _ => List MOp) [] (fun _ l _ => l)
def Q (n : Nat) (l : List MOp) : List MOp := @Nat.rec (fun _ => List MOp → List MOp) (fun l => l) (fun _ ih l => ih (S1 l)) n l
end
end Sn

/-- Rounds of many steps. -/
noncomputable def runL (P : Program) (W : Nat) (l : List Nat) : S → R := @List.rec Nat (fun _ => S → R) .more (fun n _ ih s => @R.rec (fun _ => R) ih .done .bad (runF P W n s)) l

theorem runL_lead {P : Program} {W : Nat} : ∀ (l : List Nat) (s : S), Lead P W s (runL P W l s)
  | [], s => .here s
  | n :: l, s => by
    have h := runF_lead (P := P) (W := W) n s
    show Lead P W s (@R.rec (fun _ => R) (runL P W l) .done .bad (runF P W n s))
    cases hr : runF P W n s with
    | more s' => rw [hr] at h; exact h.trans (runL_lead l s')
    | done v hp nx => rw [hr] at h; exact h
    | bad n => exact .bad _ _

/-- A stretch: many steps, and what is not named any more is forgotten. -/
noncomputable def go (P : Program) (W : Nat) (l : List Nat) (keep : T AObj) (s : S) : R := @R.rec (fun _ => R) (fun s => trim (keepOf keep) s) .done .bad (runL P W l s)

theorem Gives.go {P : Program} {W : Nat} {l : List Nat} {s s' : S} {v : AV} (h : go P W l s'.hp s = .more s') (hs : Gives P W v s') : Gives P W v s := by
  unfold Am.go at h
  have hl := runL_lead (P := P) (W := W) l s
  cases hr : runL P W l s with
  | more s1 =>
    rw [hr] at h hl
    exact hl.gives (.trim h hs)
  | done => rw [hr] at h; cases h
  | bad => rw [hr] at h; cases h

/-- The last stretch: what it answers. -/
noncomputable def endV (P : Program) (W : Nat) (l : List Nat) (s : S) : Option AV := @R.rec (fun _ => Option AV) (fun _ => none) (fun v _ _ => some v) (fun _ => none) (runL P W l s)

theorem Gives.end {P : Program} {W : Nat} {l : List Nat} {s : S} {v : AV} (h : endV P W l s = some v) : Gives P W v s := by
  have hl := runL_lead (P := P) (W := W) l s
  unfold endV at h
  cases hr : runL P W l s with
  | more s1 => rw [hr] at h; cases h
  | done v' hp nx => rw [hr] at h hl; cases h; exact hl.gives rfl
  | bad => rw [hr] at h; cases h

/-- The first stretch. -/
noncomputable def go1 (P : Program) (W : Nat) (l : List Nat) (keep : T AObj) (r : R) : R := @R.rec (fun _ => R) (fun s => go P W l keep s) .done .bad r

theorem Gives.go1 {P : Program} {W : Nat} {l : List Nat} {r : R} {s' : S} {v : AV} (h : go1 P W l s'.hp r = .more s') (hs : Gives P W v s') : ∃ s, r = .more s ∧ Gives P W v s := by
  cases r with
  | more s => exact ⟨s, rfl, Gives.go h hs⟩
  | done => cases h
  | bad => cases h
end Am

/- A step over a map of two entries: both ways lead to one state. -/
namespace Am
open Go

noncomputable section
/-- The machine's own steps, in rounds. -/
def runS (P : Program) (W : Nat) (l : List Nat) : S → R := @List.rec Nat (fun _ => S → R) .more (fun n _ ih s => @R.rec (fun _ => R) ih .done .bad (run P W n s)) l

def waysOf (s : S) : Option (List (Option AE)) := match s.ms with
  | m :: _ => match m.ck, m.g, m.i with
    | false, none, .nxt x => nextL s.hp (ev s.tm x)
    | _, _, _ => none
  | [] => none

def nthWay (s : S) (c : Nat) : R := match waysOf s with
  | some l => match getO l c with
    | some oe => take1 s oe
    | none => .bad 32
  | none => .bad 32

def br (P : Program) (W : Nat) (l1 : List Nat) (c : Nat) (l2 : List Nat) (keep : T AObj) (s : S) : R :=
  @R.rec (fun _ => R) (fun s1 => @R.rec (fun _ => R) (fun s2 => go P W l2 keep s2) .done .bad (nthWay s1 c)) .done .bad (runS P W l1 s)

def brN (P : Program) (W : Nat) (l1 : List Nat) (s : S) : Nat :=
  @R.rec (fun _ => Nat) (fun s1 => match waysOf s1 with | some l => len l | none => 0) (fun _ _ _ => 0) (fun _ => 0) (runS P W l1 s)
end

section
variable {P : Program} {W : Nat}

theorem run_lead : ∀ (n : Nat) (s : S), Lead P W s (run P W n s)
  | 0, s => .one rfl
  | n + 1, s => by
    have h := run_lead n s
    rw [run_succ]
    cases hr : run P W n s with
    | more s' => rw [hr] at h; exact h.trans (run_lead n s')
    | done v hp nx => rw [hr] at h; exact h
    | bad n => exact .bad _ _

theorem runS_lead : ∀ (l : List Nat) (s : S), Lead P W s (runS P W l s)
  | [], s => .here s
  | n :: l, s => by
    have h := run_lead (P := P) (W := W) n s
    show Lead P W s (@R.rec (fun _ => R) (runS P W l) .done .bad (run P W n s))
    cases hr : run P W n s with
    | more s' => rw [hr] at h; exact h.trans (runS_lead l s')
    | done v hp nx => rw [hr] at h; exact h
    | bad n => exact .bad _ _

theorem waysOf_some {s : S} {l : List (Option AE)} (h : waysOf s = some l) : ∃ d x ms, s.ms = ⟨false, none, d, .nxt x⟩ :: ms ∧ nextL s.hp (ev s.tm x) = some l := by
  unfold waysOf at h
  split at h
  · next m ms hms =>
    obtain ⟨ck, g, d, i⟩ := m
    split at h
    · next x h1 h2 h3 =>
      simp only at h1 h2 h3
      subst h1 h2 h3
      exact ⟨d, x, ms, hms, h⟩
    · cases h
  · cases h

theorem Gives.br2 {l1 l20 l21 : List Nat} {s s' : S} {v : AV} (h0 : br P W l1 0 l20 s'.hp s = .more s') (h1 : br P W l1 1 l21 s'.hp s = .more s') (hn : brN P W l1 s = 2) (hs : Gives P W v s') : Gives P W v s := by
  have hlead := runS_lead (P := P) (W := W) l1 s
  unfold br at h0 h1
  unfold brN at hn
  cases hr : runS P W l1 s with
  | done => rw [hr] at hn; cases hn
  | bad => rw [hr] at hn; cases hn
  | more s1 =>
    rw [hr] at h0 h1 hn hlead
    refine hlead.gives ?_
    show Gives P W v s1
    have hn' : (match waysOf s1 with | some l => len l | none => 0) = 2 := hn
    cases hw : waysOf s1 with
    | none => rw [hw] at hn'; cases hn'
    | some l =>
      rw [hw] at hn'
      have hl2 : l.length = 2 := by rw [← len_eq]; exact hn'
      obtain ⟨a, b, rfl⟩ : ∃ a b, l = [a, b] := by
        match l, hl2 with
        | [a, b], _ => exact ⟨a, b, rfl⟩
      obtain ⟨d, x, ms, hm, hl⟩ := waysOf_some hw
      have e0 : nthWay s1 0 = take1 s1 a := by unfold nthWay; rw [hw]; rfl
      have e1 : nthWay s1 1 = take1 s1 b := by unfold nthWay; rw [hw]; rfl
      have key : ∀ (oe : Option AE) (l2 : List Nat), (@R.rec (fun _ => R) (fun s2 => Am.go P W l2 s'.hp s2) .done .bad (take1 s1 oe)) = .more s' → ∃ s2, take1 s1 oe = .more s2 ∧ Gives P W v s2 := by
        intro oe l2 h
        cases ht : take1 s1 oe with
        | more s2 => rw [ht] at h; exact ⟨s2, rfl, Gives.go h hs⟩
        | done => rw [ht] at h; cases h
        | bad => rw [ht] at h; cases h
      have h0' : (@R.rec (fun _ => R) (fun s2 => Am.go P W l20 s'.hp s2) .done .bad (nthWay s1 0)) = .more s' := h0
      have h1' : (@R.rec (fun _ => R) (fun s2 => Am.go P W l21 s'.hp s2) .done .bad (nthWay s1 1)) = .more s' := h1
      rw [e0] at h0'
      rw [e1] at h1'
      obtain ⟨s20, t0, g0⟩ := key a l20 h0'
      obtain ⟨s21, t1, g1⟩ := key b l21 h1'
      refine .branch (fun oe => match take1 s1 oe with | .more s2 => s2 | _ => s1) hm hl (fun oe hoe => ?_) (fun oe hoe => ?_)
      · rcases List.mem_cons.1 hoe with rfl | hoe
        · rw [t0]
        · obtain rfl : oe = b := by simpa using hoe
          rw [t1]
      · rcases List.mem_cons.1 hoe with rfl | hoe
        · rw [t0]; exact g0
        · obtain rfl : oe = b := by simpa using hoe
          rw [t1]; exact g1
end
end Am

/- bytes.Buffer's WriteByte, as one operation, out of what a walk shows of it. -/
namespace Am
open Go

section
variable {P : Program} {W : Nat} {ρ : Rho} {hp : T AObj} {nx : Pos} {w w' : World}

/-- What stays behind: all but one block, and the row that was there. -/
structure Aft (w w' : World) (b : Nat) (old : Option Nat) : Prop where
  os : w'.os = w.os
  tape : w'.tape = w.tape
  output : w'.output = w.output
  size : w.heap.size ≤ w'.heap.size
  kept : ∀ k, k < w.heap.size → k ≠ b → some k ≠ old → w'.heap[k]? = w.heap[k]?

/-- What a walk shows: of a buffer that was never written; of one that holds something. -/
def WBC (P : Program) (W : Nat) : Prop := ∀ (w : World) (b : Nat) (T : TypeId) (r c : Int) (v0 : Value), w.heap[b]? = some (.cells #[v0, .int .i64 0, .int .i8 r] T (0, 0)) →
  (v0 = .slice none 0 0 → Calls P W #[.pointer (some ⟨b, 0, none⟩), .int .u8 c] w fun e w' => e = .returned .nilIface ∧ ∃ g cap M E,
    w'.heap[b]? = some (.cells #[.slice (some ⟨g, 0, none⟩) 1 cap, .int .i64 0, .int .i8 0] T (0, 0)) ∧ w'.heap[g]? = some (.cells M E (0, 0)) ∧
    1 ≤ cap ∧ cap ≤ M.size ∧ cap ≤ 9223372036854775807 ∧ M.toList.take 1 = [.int .u8 c] ∧ w.heap.size ≤ g ∧ Aft w w' b none) ∧
  (∀ (g l cap : Nat) (cur : Array Value) (E : TypeId) (fz : Nat × Nat), v0 = .slice (some ⟨g, 0, none⟩) l cap → 1 ≤ l → l ≤ 1099511627776 → l ≤ cap → cap ≤ cur.size → cap ≤ 9223372036854775807 → g ≠ b →
    w.heap[g]? = some (.cells cur E fz) → freeCells fz cur.size → (∀ v ∈ cur.toList.take l, v.oneCell' = true) →
    Calls P W #[.pointer (some ⟨b, 0, none⟩), .int .u8 c] w fun e w' => e = .returned .nilIface ∧ ∃ g' cap' M E' fz',
      w'.heap[b]? = some (.cells #[.slice (some ⟨g', 0, none⟩) (l + 1) cap', .int .i64 0, .int .i8 0] T (0, 0)) ∧ w'.heap[g']? = some (.cells M E' fz') ∧
      l + 1 ≤ cap' ∧ cap' ≤ M.size ∧ cap' ≤ 9223372036854775807 ∧ M.toList.take (l + 1) = cur.toList.take l ++ [.int .u8 c] ∧
      (g' = g ∧ M.size = cur.size ∧ fz' = fz ∧ Aft w w' b (some g) ∨ w.heap.size ≤ g' ∧ fz' = (0, 0) ∧ Aft w w' b none))

/-- The heap's relation behind a leap: one object turned, one new. -/
theorem Rel.leap (hR : Rel P ρ hp nx w) {o : Pos} {ko k' : Blk} {x x' : AObj} {ob ob' : Obj} {hp' : T AObj} (ho : ρ o = some ko) (hlo : hp.get .none o ≠ .none) (hon : o ≠ nx)
    (g1 : hp'.get .none o = x') (g2 : hp'.get .none nx = x) (g3 : ∀ q, q ≠ o → q ≠ nx → hp'.get .none q = hp.get .none q ∨ hp'.get .none q = .none)
    (keep : ∀ q k, ρ q = some k → q ≠ o → hp'.get .none q ≠ .none → w'.heap[k.b]? = w.heap[k.b]? ∧ k.b ≠ k'.b)
    (hsz : w.heap.size ≤ w'.heap.size) (hb : w'.heap[ko.b]? = some ob') (hg : w'.heap[k'.b]? = some ob) (hne : k'.b ≠ ko.b)
    (ho' : ObjR P (upd ρ nx k') ko x' ob') (hob : ObjR P (upd ρ nx k') k' x ob) : Rel P (upd ρ nx k') hp' nx.succ w' := by
  have hf := hR.fresh
  have hx := ext_upd (ρ := ρ) (q := nx) k' hf
  have lt_of : ∀ {i : Nat} {v : Obj}, w'.heap[i]? = some v → i < w'.heap.size := fun {i v} h => by
    rcases Nat.lt_or_ge i w'.heap.size with h1 | h1
    · exact h1
    · rw [Array.getElem?_eq_none h1] at h; cases h
  have live : ∀ q, q ≠ o → q ≠ nx → hp'.get .none q ≠ .none → hp.get .none q ≠ .none ∧ hp'.get .none q = hp.get .none q := fun q h1 h2 h3 => by
    rcases g3 q h1 h2 with h | h
    · exact ⟨by rw [← h]; exact h3, h⟩
    · exact absurd h h3
  refine ⟨fun q k e hne' => ?_, fun q p k j e1 e2 h1 h2 hbb => ?_, fun q k e => ?_, fun q hq => ?_⟩
  · by_cases hqn : q = nx
    · subst hqn
      rw [upd_same] at e; cases e
      rw [g2]; exact ⟨ob, hg, hob⟩
    · rw [upd_ne _ hqn] at e
      by_cases hqo : q = o
      · subst hqo
        rw [ho] at e; cases e
        rw [g1]; exact ⟨ob', hb, ho'⟩
      · obtain ⟨l1, l2⟩ := live q hqo hqn hne'
        obtain ⟨oc, h3, h4⟩ := hR.obj q k e l1
        rw [l2]
        exact ⟨oc, by rw [(keep q k e hqo hne').1]; exact h3, h4.mono hx⟩
  · have key : ∀ q k, q ≠ nx → ρ q = some k → hp'.get .none q ≠ .none → k.b ≠ k'.b := fun q k h3 h4 h5 => by
      by_cases hqo : q = o
      · subst hqo; rw [ho] at h4; cases h4; exact fun h => hne h.symm
      · exact (keep q k h4 hqo h5).2
    by_cases hqn : q = nx
    · by_cases hpn : p = nx
      · rw [hqn, hpn]
      · subst hqn
        rw [upd_same] at e1; cases e1
        rw [upd_ne _ hpn] at e2
        exact absurd hbb.symm (key p j hpn e2 h2)
    · rw [upd_ne _ hqn] at e1
      by_cases hpn : p = nx
      · subst hpn
        rw [upd_same] at e2; cases e2
        exact absurd hbb (key q k hqn e1 h1)
      · rw [upd_ne _ hpn] at e2
        have hl : ∀ r, r ≠ nx → hp'.get .none r ≠ .none → hp.get .none r ≠ .none := fun r h3 h4 => by
          by_cases hro : r = o
          · subst hro; exact hlo
          · exact (live r hro h3 h4).1
        exact hR.inj q p k j e1 e2 (hl q hqn h1) (hl p hpn h2) hbb
  · by_cases hqn : q = nx
    · subst hqn
      rw [upd_same] at e; cases e
      exact ⟨by rw [Pos.num_succ]; omega, lt_of hg⟩
    · rw [upd_ne _ hqn] at e
      have := hR.dom q k e
      exact ⟨by rw [Pos.num_succ]; omega, by omega⟩
  · rw [Pos.num_succ] at hq
    have hqn : q ≠ nx := by rintro rfl; omega
    have hqo : q ≠ o := by
      rintro rfl
      have := (hR.dom q ko ho).1
      omega
    rcases g3 q hqo hqn with h | h
    · rw [h]; exact hR.new q (by omega)
    · exact h

theorem list3 {α : Type} {c : Array α} {a b d : α} (h : c.toList = [a, b, d]) : c = #[a, b, d] := by
  cases c; simp_all

theorem VL.three {a b d : AV} {l : List Value} (h : VL ρ [a, b, d] l) : ∃ x y z, l = [x, y, z] ∧ V ρ a x ∧ V ρ b y ∧ V ρ d z := by
  cases h with
  | cons h1 h => cases h with
    | cons h2 h => cases h with
      | cons h3 h => cases h; exact ⟨_, _, _, rfl, h1, h2, h3⟩

/-- The end of each way. -/
theorem wb_fin (hR : Rel P ρ hp nx w) {o : Pos} {ko : Blk} (ho : ρ o = some ko) (hlo : hp.get .none o ≠ .none) (hsh : ko.sh = 0) (hkn : ko.n = 3) {Ty E' : TypeId} {g' cap' l : Nat} {M : Array Value} {fz' : Nat × Nat} {hp' : T AObj} {t' : T AV} {zs : List AV}
    (q1 : w'.heap[ko.b]? = some (.cells #[.slice (some ⟨g', 0, none⟩) (l + 1) cap', .int .i64 0, .int .i8 0] Ty (0, 0))) (q2 : w'.heap[g']? = some (.cells M E' fz'))
    (q3 : l + 1 ≤ cap') (q4 : cap' ≤ M.size) (q5 : cap' ≤ 9223372036854775807) (q6 : freeCells fz' M.size)
    (hv : ∀ i, i < l + 1 → ∃ v, M[i]? = some v ∧ V ρ (cellAt (.arr t' 0 (l + 1) zs) i) v) (h1 : ∀ i, i < l + 1 → oneCell (cellAt (.arr t' 0 (l + 1) zs) i) = true)
    (g1 : hp'.get .none o = .row [.slo nx 0 (l + 1) 1, .int .i64 (.ofNat 0), .int .i8 (.ofNat 0)]) (g2 : hp'.get .none nx = .arr t' 0 (l + 1) zs)
    (g3 : ∀ q, q ≠ o → q ≠ nx → hp'.get .none q = hp.get .none q ∨ hp'.get .none q = .none)
    (keep : ∀ q k, ρ q = some k → q ≠ o → hp'.get .none q ≠ .none → w'.heap[k.b]? = w.heap[k.b]? ∧ k.b ≠ g') (hne : g' ≠ ko.b) (hf : Fr ρ w w')
    (hnew : w.heap.size ≤ g' ∨ ∃ p j, ρ p = some j ∧ j.b = g') :
    ∃ v' ρ', (Ending.returned .nilIface) = .returned v' ∧ V ρ' .inil v' ∧ Exn nx ρ ρ' w ∧ Rel P ρ' hp' nx.succ w' ∧ Fr ρ w w' := by
  have hfr := hR.fresh
  have hx := ext_upd (ρ := ρ) (q := nx) ⟨g', 0, M.size⟩ hfr
  have hon : o ≠ nx := by rintro rfl; rw [hfr] at ho; cases ho
  refine ⟨.nilIface, upd ρ nx ⟨g', 0, M.size⟩, rfl, .inil, ⟨⟨hx, fun p j e => ?_⟩, fun p hp1 => upd_ne _ (by rintro rfl; omega)⟩, ?_, hf⟩
  · by_cases hpn : p = nx
    · subst hpn
      rw [upd_same] at e; cases e
      exact .inr ⟨hfr, hnew⟩
    · rw [upd_ne _ hpn] at e; exact .inl e
  · refine hR.leap ho hlo hon g1 g2 g3 keep hf.size q1 q2 hne (.row ⟨hsh, rfl, by rw [hkn]; rfl, ?_⟩) (.arr ⟨q6, rfl, Nat.le_refl _, by simpa using Nat.le_trans q3 q4, fun i _ hi => ?_, fun i _ hi => h1 i hi⟩)
    · refine .cons (.slo (upd_same _ _ _) q3 (.inr ⟨Nat.le_refl _, rfl, ?_, q5⟩)) (.cons (.int _ _) (.cons (.int _ _) .nil))
      show 0 + cap' * 1 ≤ M.size
      omega
    · obtain ⟨v, h2, h3⟩ := hv i hi
      exact ⟨v, by simpa using h2, h3.mono hx⟩

theorem take_get {M : Array Value} {n : Nat} {l : List Value} (h : M.toList.take n = l) {i : Nat} (hi : i < n) : M[i]? = l[i]? := by
  rw [← h, List.getElem?_take, if_pos hi, Array.getElem?_toList]

theorem wb_of (hw : WBC P W) (hfn : W < P.funcs.size → ∃ fn c, P.funcs[W]? = some fn ∧ fn.body = some c ∧ (fn.name == "runtime.NumGoroutine") = false) : WB P W := by
  intro hlt ρ hp nx w args args' e hR hargs h
  have hfr := hR.fresh
  obtain ⟨al⟩ := args'
  unfold wbE at h
  split at h
  · next o c =>
    cases hargs with | cons h1 hh =>
    cases hh with | cons h2 hh =>
    cases hh
    cases h2
    cases h1 with
    | @ptr _ _ ko ho hs =>
    split at h
    · next bf r hobj =>
      have hlo : hp.get .none o ≠ .none := by rw [hobj]; simp
      have hon : o ≠ nx := by rintro rfl; rw [hfr] at ho; cases ho
      obtain ⟨ob, b1, b2⟩ := hR.at ho hobj (by simp)
      cases b2 with
      | @row _ cs Ty fz hr =>
      have hfz := hr.fz
      subst hfz
      obtain ⟨x, y, z, hl3, v1, v2, v3⟩ := VL.three hr.vl
      have hcs := list3 hl3
      subst hcs
      cases v2
      cases v3
      have hsh := hr.sh
      have hkn : ko.n = 3 := hr.n.symm
      have hoff : 0 - ko.sh = 0 := by omega
      have hC := hw w ko.b Ty r (Int.ofNat c) x b1
      rw [hoff]
      split at h
      · -- nothing was written yet
        split at h
        · next g hg =>
          cases h
          cases v1
          refine ⟨by rw [Pos.num_succ]; omega, hfn hlt, ?_⟩
          refine (hC.1 rfl).mono fun e' w' hh => ?_
          obtain ⟨rfl, g', cap, M, E, q1, q2, q3, q4, q5, q6, q7, q8⟩ := hh
          obtain ⟨t', rfl, x2, x3, x4⟩ := setCells_arr _ _ _ _ _ _ _ hg
          have hx0 : cellAt (.arr t' 0 1 [.undef]) 0 = .int .u8 (.ofNat c) := by rw [x2]; simp
          have hkb := (hR.dom o ko ho).2
          refine wb_fin hR ho hlo hsh hkn (l := 0) q1 q2 q3 q4 q5 (freeCells_zero _) (fun i hi => ?_) (fun i hi => ?_) ?_ (T.get_set_same _ _ _ _) (fun q h3 h4 => .inl ?_) (fun q k h3 h4 h5 => ?_) ?_ ?_ (.inl q7)
          · obtain rfl : i = 0 := by omega
            rw [hx0]
            exact ⟨_, take_get q6 (by omega), .int _ _⟩
          · obtain rfl : i = 0 := by omega
            rw [hx0]; rfl
          · rw [T.get_set_ne _ _ _ _ _ hon, T.get_set_same]
          · rw [T.get_set_ne _ _ _ _ _ h4, T.get_set_ne _ _ _ _ _ h3]
          · have hd := (hR.dom q k h3).2
            have hqn : q ≠ nx := by rintro rfl; rw [hfr] at h3; cases h3
            rw [T.get_set_ne _ _ _ _ _ hqn, T.get_set_ne _ _ _ _ _ h4] at h5
            exact ⟨q8.kept _ hd (fun h => h4 (hR.inj q o k ko h3 ho h5 hlo h)) (by simp), by omega⟩
          · omega
          · exact ⟨q8.size, fun k hk hn => q8.kept k hk (fun h => hn o ko ho h.symm) (by simp), q8.os, q8.tape, q8.output⟩
        · cases h
      · -- there is a row
        next p l =>
        split at h
        · next t hi zs hobj2 hop hl1 hl2 =>
          split at h
          · next g hhi hg =>
            cases h
            have hl1 : 1 ≤ l := ble_le hl1
            have hl2 : l ≤ 1099511627776 := ble_le hl2
            have hop : o ≠ p := fun h => by rw [(Pos.beq_iff o p).2 h] at hop; cases hop
            rw [nbeq, decide_eq_true_iff] at hhi
            subst hhi
            cases v1 with
            | @slo _ _ _ cap _ yy kp hp0 hlc hc =>
            obtain ⟨ob2, d1, d2⟩ := hR.at hp0 hobj2 (by simp)
            cases d2 with
            | @arr _ _ _ _ cur E fz ha =>
            rcases hc with hc | ⟨hc1, rfl, hc2, hc3⟩
            · omega
            have hpsh : kp.sh = 0 := by omega
            have hyy : 0 - kp.sh = 0 := by omega
            have hlp : hp.get .none p ≠ .none := by rw [hobj2]; simp
            have hpn : p ≠ nx := by rintro rfl; rw [hfr] at hp0; cases hp0
            have hgb : kp.b ≠ ko.b := fun h => hop (hR.inj p o kp ko hp0 ho hlp hlo h).symm
            have hcap : cap ≤ cur.size := by rw [ha.n]; omega
            rw [hyy] at hC
            have hcell : ∀ i, i < hi → ∃ v, cur[i]? = some v ∧ V ρ (cellAt (.arr t 0 hi zs) i) v := fun i h3 => by
              obtain ⟨v, h4, h5⟩ := ha.vs i (Nat.zero_le _) h3
              exact ⟨v, by simpa [hpsh] using h4, h5⟩
            have hone : ∀ v ∈ cur.toList.take hi, v.oneCell' = true := fun v hvm => by
              obtain ⟨i, h3, h4⟩ := List.mem_iff_getElem.1 hvm
              rw [List.length_take] at h3
              obtain ⟨u, h5, h6⟩ := hcell i (by omega)
              have : (cur.toList.take hi)[i]? = some v := by rw [List.getElem?_eq_getElem (by rw [List.length_take]; exact h3), h4]
              rw [List.getElem?_take, if_pos (by omega), Array.getElem?_toList, h5] at this
              cases this
              exact oneCell_V h6 (ha.one i (Nat.zero_le _) (by omega))
            refine ⟨by rw [Pos.num_succ]; omega, hfn hlt, ?_⟩
            refine (hC.2 kp.b hi cap cur E fz rfl hl1 hl2 hlc hcap hc3 hgb d1 ha.fz hone).mono fun e' w' hh => ?_
            obtain ⟨rfl, g', cap', M, E', fz', q1, q2, q3, q4, q5, q6, q7⟩ := hh
            obtain ⟨t', rfl, x2, x3, x4⟩ := setCells_arr _ _ _ _ _ _ _ hg
            have hkb := (hR.dom o ko ho).2
            have hpb := (hR.dom p kp hp0).2
            have hx2 : ∀ i, i < hi + 1 → cellAt (.arr t' 0 (hi + 1) zs) i = if i = hi then .int .u8 (.ofNat c) else cellAt (.arr t 0 hi zs) i := fun i h3 => by
              have := x2 i
              rw [show cellAt (.arr t' 0 (Nat.succ hi) zs) i = cellAt (.arr t' 0 (hi + 1) zs) i from rfl] at this
              rw [this]
              by_cases h4 : i = hi
              · subst h4; simp
              · rw [if_neg (by simp; omega), if_neg h4, cellAt_arr_in (Nat.zero_le _) h3, cellAt_arr_in (Nat.zero_le _) (by omega)]
            refine wb_fin hR ho hlo hsh hkn (l := hi) q1 q2 q3 q4 q5 ?_ (fun i h3 => ?_) (fun i h3 => ?_) ?_ (T.get_set_same _ _ _ _) (fun q h3 h4 => ?_) (fun q k h3 h4 h5 => ?_) ?_ ?_ ?_
            · rcases q7 with ⟨-, r2, r3, -⟩ | ⟨-, r3, -⟩
              · rw [r2, r3]; exact ha.fz
              · rw [r3]; exact freeCells_zero _
            · rw [hx2 i h3, take_get q6 h3]
              by_cases h4 : i = hi
              · subst h4
                rw [if_pos rfl]
                refine ⟨_, ?_, .int _ _⟩
                rw [List.getElem?_append_right (by rw [List.length_take]; exact Nat.min_le_left _ _), List.length_take, Array.length_toList, Nat.min_eq_left (by omega), Nat.sub_self]
                rfl
              · rw [if_neg h4]
                obtain ⟨v, h5, h6⟩ := hcell i (by omega)
                refine ⟨v, ?_, h6⟩
                rw [List.getElem?_append_left (by rw [List.length_take, Array.length_toList]; omega), List.getElem?_take, if_pos (by omega), Array.getElem?_toList]
                exact h5
            · rw [hx2 i h3]
              by_cases h4 : i = hi
              · rw [if_pos h4]; rfl
              · rw [if_neg h4]; exact ha.one i (Nat.zero_le _) (by omega)
            · rw [T.get_set_ne _ _ _ _ _ hon, T.get_set_ne _ _ _ _ _ hop, T.get_set_same]
            · rw [T.get_set_ne _ _ _ _ _ h4]
              by_cases h5 : q = p
              · subst h5; rw [T.get_set_same]; exact .inr rfl
              · rw [T.get_set_ne _ _ _ _ _ h5, T.get_set_ne _ _ _ _ _ h3]; exact .inl rfl
            · have hd := (hR.dom q k h3).2
              have hqn : q ≠ nx := by rintro rfl; rw [hfr] at h3; cases h3
              rw [T.get_set_ne _ _ _ _ _ hqn] at h5
              have hqp : q ≠ p := by rintro rfl; rw [T.get_set_same] at h5; exact h5 rfl
              rw [T.get_set_ne _ _ _ _ _ hqp, T.get_set_ne _ _ _ _ _ h4] at h5
              have k1 : k.b ≠ ko.b := fun h => h4 (hR.inj q o k ko h3 ho h5 hlo h)
              have k2 : k.b ≠ kp.b := fun h => hqp (hR.inj q p k kp h3 hp0 h5 hlp h)
              rcases q7 with ⟨r1, -, -, r4⟩ | ⟨r1, -, r4⟩
              · exact ⟨r4.kept _ hd k1 (by simpa using k2), by rw [r1]; exact k2⟩
              · exact ⟨r4.kept _ hd k1 (by simp), by omega⟩
            · rcases q7 with ⟨r1, -, -, -⟩ | ⟨r1, -, -⟩
              · rw [r1]; exact hgb
              · omega
            · rcases q7 with ⟨-, -, -, r4⟩ | ⟨-, -, r4⟩
              · exact ⟨r4.size, fun k hk hn => r4.kept k hk (fun h => hn o ko ho h.symm) (by simpa using fun h : k = kp.b => hn p kp hp0 h.symm), r4.os, r4.tape, r4.output⟩
              · exact ⟨r4.size, fun k hk hn => r4.kept k hk (fun h => hn o ko ho h.symm) (by simp), r4.os, r4.tape, r4.output⟩
            · rcases q7 with ⟨r1, -, -, -⟩ | ⟨r1, -, -⟩
              · exact .inr ⟨p, kp, hp0, r1.symm⟩
              · exact .inl r1
          · cases h
        · cases h
      · cases h
    · cases h
  · cases h
end
end Am
