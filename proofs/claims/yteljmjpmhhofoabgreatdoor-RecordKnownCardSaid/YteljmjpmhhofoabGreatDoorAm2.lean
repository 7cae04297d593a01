/- An abstract machine that runs the program's code, and the proof that the model runs it so. (Part 2.) -/
import Derived.Test.YteljmjpmhhofoabGreatDoorAm1
import Derived.Laws.Append
import Derived.Orders
import Derived.AtR
set_option maxRecDepth 10000
set_option linter.unusedVariables false
set_option linter.unusedSimpArgs false
/- Cells that are written. -/
namespace Am
open Go

section
variable {P : Program} {ρ : Rho} {hp : T AObj} {nx : Pos} {w w' : World}

theorem oneCell_V {v : AV} {v' : Value} (h : V ρ v v') (h1 : oneCell v = true) : v'.oneCell' = true := by
  cases h <;> first | rfl | (simp [oneCell] at h1)

theorem cellAt_arr_in {t : T AV} {lo hi : Nat} {zs : List AV} {i : Nat} (h1 : lo ≤ i) (h2 : i < hi) :
    cellAt (.arr t lo hi zs) i = (match t.get .undef (posOf i) with
      | .undef => match zs with
        | [v] => v
        | zs => nth .undef zs (Nat.mod i (len zs))
      | v => v) := by
  have e1 : Nat.ble lo i = true := Nat.ble_eq_true_of_le h1
  have e2 : Nat.ble (Nat.succ i) hi = true := Nat.ble_eq_true_of_le h2
  have hu : cellAt (.arr t lo hi zs) i = (match Nat.ble lo i, Nat.ble (Nat.succ i) hi with
    | true, true => match t.get .undef (posOf i) with
      | .undef => match zs with
        | [v] => v
        | zs => nth .undef zs (Nat.mod i (len zs))
      | v => v
    | _, _ => .undef) := rfl
  rw [hu, e1, e2]

theorem cellAt_set_same {t : T AV} {lo hi : Nat} {zs : List AV} {i : Nat} {v : AV} (h1 : lo ≤ i) (h2 : i < hi) (hv : v ≠ .undef) :
    cellAt (.arr (t.set .undef v (posOf i)) lo hi zs) i = v := by
  rw [cellAt_arr_in h1 h2, T.get_set_same]
  cases v <;> first | rfl | exact absurd rfl hv

theorem cellAt_set_ne {t : T AV} {lo hi : Nat} {zs : List AV} {i j : Nat} {v : AV} (hj : j ≠ i) :
    cellAt (.arr (t.set .undef v (posOf i)) lo hi zs) j = cellAt (.arr t lo hi zs) j := by
  by_cases h : lo ≤ j ∧ j < hi
  · rw [cellAt_arr_in h.1 h.2, cellAt_arr_in h.1 h.2, T.get_set_ne _ _ _ _ _ fun e => hj (posOf_inj e)]
  · rw [cellAt_arr_out h, cellAt_arr_out h]

theorem oneCell_ne {v : AV} (h : oneCell v = true) : v ≠ .undef := by rintro rfl; cases h

/-- One cell of an object. -/
theorem setCell_ok {k : Blk} {x x' : AObj} {f : Nat} {v : AV} {v' : Value} {c : Array Value} {e : TypeId} {fz : Nat × Nat} (ho : ObjR P ρ k x (.cells c e fz)) (hv : V ρ v v')
    (h : setCell x f v = some x') :
    k.sh ≤ f ∧ f - k.sh < c.size ∧ oneCell v = true ∧ (decide (fz.1 ≤ f - k.sh) && decide (f - k.sh < fz.2)) = false ∧ ObjR P ρ k x' (.cells (c.setIfInBounds (f - k.sh) v') e fz) := by
  unfold setCell at h
  split at h
  · cases h
  · next h1 =>
    cases ho with
    | @row l _ _ _ hr =>
      simp only at h
      split at h
      · cases h
      · next h2 =>
        cases h
        have hlt : f < l.length := by
          rcases Nat.lt_or_ge f l.length with h3 | h3
          · exact h3
          · rw [nth_eq] at h2
            simp [List.getD, List.getElem?_eq_none h3, isUndef] at h2
        have hn : l.length = c.size := by have := hr.vl.length; simpa using this
        have hf := hr.fz
        subst hf
        refine ⟨by rw [hr.sh]; exact Nat.zero_le _, by omega, h1, by simp, .row ⟨hr.sh, rfl, by simp [hr.n], ?_⟩⟩
        rw [setNth_eq, Array.toList_setIfInBounds, hr.sh]
        exact hr.vl.set f hv
    | @arr t lo hi zs _ _ _ ha =>
      simp only at h
      split at h
      · next h2 h3 =>
        cases h
        have h2 := ble_le h2
        have h3 : f < hi := ble_le h3
        have g1 := ha.hlo
        have g2 := ha.hhi
        have hlt : f - k.sh < c.size := by omega
        refine ⟨by omega, hlt, h1, ha.fz _ hlt, .arr ⟨by simpa [freeCells] using ha.fz, by simp [ha.n], g1, by simpa using g2, fun i hi1 hi2 => ?_, fun i hi1 hi2 => ?_⟩⟩
        rotate_left
        · by_cases hij : i = f
          · subst hij; rw [cellAt_set_same hi1 hi2 (oneCell_ne h1)]; exact h1
          · rw [cellAt_set_ne hij]; exact ha.one i hi1 hi2
        by_cases hij : i = f
        · subst hij
          exact ⟨v', by simp [hlt], by rw [cellAt_set_same hi1 hi2 (oneCell_ne h1)]; exact hv⟩
        · obtain ⟨u, h4, h5⟩ := ha.vs i hi1 hi2
          refine ⟨u, ?_, by rw [cellAt_set_ne hij]; exact h5⟩
          rw [Array.getElem?_setIfInBounds_ne (by omega)]
          exact h4
      · cases h

theorem turned_setCell {b j : Nat} {c : Array Value} {e : TypeId} {fz : Nat × Nat} (hb : w.heap[b]? = some (.cells c e fz)) (v : Value) :
    Turned w b (.cells (c.setIfInBounds j v) e fz) (w.setCell ⟨b, j, none⟩ v) := by
  have hlt : b < w.heap.size := by
    rcases Nat.lt_or_ge b w.heap.size with h | h
    · exact h
    · rw [Array.getElem?_eq_none h] at hb; cases hb
  refine ⟨?_, by simp [World.setCell], fun d hd => ?_, ⟨rfl, rfl, rfl⟩⟩
  · simp only [World.setCell]
    rw [Array.getElem?_modify]
    simp [hb]
  · simp only [World.setCell]
    rw [Array.getElem?_modify]
    simp [Ne.symm hd]

theorem Turned.refl' {b : Nat} {ob : Obj} (h : w.heap[b]? = some ob) : Turned w b ob w := ⟨h, rfl, fun _ _ => rfl, Same.refl w⟩
theorem Turned.trans {b : Nat} {ob oc : Obj} {w1 w2 : World} (h : Turned w b ob w1) (h' : Turned w1 b oc w2) : Turned w b oc w2 :=
  ⟨h'.at_, h'.size.trans h.size, fun c hc => (h'.others c hc).trans (h.others c hc), h.same.trans h'.same⟩

theorem run_store_cell {b j : Nat} {c : Array Value} {e : TypeId} {fz : Nat × Nat} (hb : w.heap[b]? = some (.cells c e fz)) (hj : j < c.size)
    (hf : (decide (fz.1 ≤ j) && decide (j < fz.2)) = false) {v : Value} (hv : v.oneCell' = true) :
    (store ⟨b, j, none⟩ v).run P w = .ok () (w.setCell ⟨b, j, none⟩ v) := by
  rw [run_store P w _ v _ hv, cell_heap hb, frozen_heap hb, hf]
  simp [hj]

theorem setCells_nil (x : AObj) (i : Nat) : setCells [] x i = some x := rfl
theorem setCells_cons (v : AV) (vs : List AV) (x : AObj) (i : Nat) : setCells (v :: vs) x i = (match setCell x i v with
    | some x => setCells vs x (Nat.succ i)
    | none => none) := rfl

/-- Cells side by side. -/
theorem storeCells_ok {k : Blk} {f y : Nat} (hy : k.sh ≤ f → y = f - k.sh) : ∀ {cs : List AV} {vs : List Value}, VL ρ cs vs → ∀ (i : Nat) {x x' : AObj} {c : Array Value} {e : TypeId} {fz : Nat × Nat} {w : World},
    w.heap[k.b]? = some (.cells c e fz) → ObjR P ρ k x (.cells c e fz) → k.sh ≤ f → setCells cs x (f + i) = some x' →
    ∃ w' c', (storeCells ⟨k.b, y, none⟩ vs i).run P w = .ok () w' ∧ Turned w k.b (.cells c' e fz) w' ∧ ObjR P ρ k x' (.cells c' e fz) ∧ c'.size = c.size
  | _, _, .nil, i, x, x', c, e, fz, w, hb, ho, hk, h => by
    rw [setCells_nil] at h; cases h
    exact ⟨w, c, rfl, .refl' hb, ho, rfl⟩
  | _, _, .cons (a := v) (v := v') (l := cs) (vs := vs) hv hl, i, x, x', c, e, fz, w, hb, ho, hk, h => by
    rw [setCells_cons] at h
    split at h
    · next x1 hx1 =>
      obtain ⟨h1, h2, h3, h4, h5⟩ := setCell_ok ho hv hx1
      have hyi : y + i = f + i - k.sh := by have := hy hk; omega
      have ht := turned_setCell (j := f + i - k.sh) hb v'
      obtain ⟨w', c', g1, g2, g3, g4⟩ := storeCells_ok hy hl (i + 1) ht.at_ h5 hk (by rw [← Nat.add_assoc]; exact h)
      refine ⟨w', c', ?_, ht.trans g2, g3, by rw [g4]; simp⟩
      simp only [storeCells, Sem.run_bind, addr_add, hyi]
      rw [run_store_cell hb h2 h4 (oneCell_V hv h3), Result.andThen_ok]
      exact g1
    · cases h

/-- An object whose cells are written. -/
theorem write_sim (hR : Rel P ρ hp nx w) {o : Pos} {k : Blk} (ho : ρ o = some k) {f y : Nat} (hy : k.sh ≤ f → y = f - k.sh) (hs : k.sh ≤ f) {cs : List AV} {vs : List Value} (hl : VL ρ cs vs) {x' : AObj}
    (h : setCells cs (hp.get .none o) f = some x') :
    ∃ w', (storeCells ⟨k.b, y, none⟩ vs).run P w = .ok () w' ∧ Rel P ρ (hp.set .none x' o) nx w' ∧ Fr ρ w w' := by
  cases hl with
  | nil =>
    rw [setCells_nil] at h; cases h
    refine ⟨w, rfl, ?_, Fr.refl _ _⟩
    have hg : ∀ p, (hp.set .none (hp.get .none o) o).get .none p = hp.get .none p := by
      intro p
      by_cases hpo : p = o
      · rw [hpo, T.get_set_same]
      · exact T.get_set_ne _ _ _ _ _ hpo
    exact ⟨fun p j e hne => by rw [hg] at hne ⊢; exact hR.obj p j e hne, fun p q k1 k2 e1 e2 h1 h2 hb => by rw [hg] at h1 h2; exact hR.inj p q k1 k2 e1 e2 h1 h2 hb,
      hR.dom, fun p hn => by rw [hg]; exact hR.new p hn⟩
  | @cons v v' cs vs hv hl =>
    have hne : hp.get .none o ≠ .none := by
      intro e
      rw [e, setCells_cons] at h
      have : setCell .none f v = none := by unfold setCell; split <;> rfl
      rw [this] at h; cases h
    obtain ⟨ob, h1, h2⟩ := hR.obj o k ho hne
    have hcells : ∃ c e fz, ob = .cells c e fz := by
      cases hx : hp.get .none o with
      | row l => rw [hx] at h2; cases h2; exact ⟨_, _, _, rfl⟩
      | arr t lo hi zs => rw [hx] at h2; cases h2; exact ⟨_, _, _, rfl⟩
      | none => exact absurd hx hne
      | _ =>
        rw [hx, setCells_cons] at h
        exfalso
        revert h
        have : ∀ z : AObj, (∀ l, z ≠ .row l) → (∀ t lo hi zs, z ≠ .arr t lo hi zs) → setCell z f v = none := by
          intro z hz1 hz2
          unfold setCell
          split
          · rfl
          · cases z with
            | row l => exact absurd rfl (hz1 l)
            | arr t lo hi zs => exact absurd rfl (hz2 t lo hi zs)
            | _ => rfl
        rw [this _ (by simp) (by simp)]
        intro h; cases h
    obtain ⟨c, e, fz, rfl⟩ := hcells
    obtain ⟨w', c', g1, g2, g3, g4⟩ := storeCells_ok hy (.cons hv hl) 0 h1 h2 hs h
    exact ⟨w', g1, hR.turn ho hne g2 (fun _ => g3), g2.fr ho rfl⟩

theorem sim_st {tm : T AV} {a : Act} {t n : Nat} {x y : Operand} (hR : Rel P ρ hp nx w) (ht : TR ρ tm a.tmps) (hx : okX (trX x) = true) (hy : okX (trX y) = true) (hn : sizeT P t = some n) {e : Eff}
    (h : effI P tm hp nx (.st n (trX x) (trX y)) = some e) :
    ∃ w', (Instr.storeAt t (a.eval x) (a.eval y)).run P w = .ok () w' ∧ e.v = .undef ∧ e.nx = nx ∧ Rel P ρ e.hp nx w' ∧ Fr ρ w w' := by
  have h' : (match ev tm (trX x) with
    | .ptr o f => (match Nat.beq (len (cellsA (ev tm (trX y)))) n with
        | true => (match setCells (cellsA (ev tm (trX y))) (hp.get .none o) f with
          | some b => some (⟨.undef, hp.set .none b o, nx⟩ : Eff)
          | none => none)
        | false => none)
    | _ => none) = some e := h
  clear h
  have hv := ev_V ht x hx
  have hc := cells_of_V (ev_V ht y hy)
  revert h' hv
  generalize ev tm (trX x) = b
  generalize a.eval x = b'
  intro h' hv
  cases hv with
  | @ptr o f k ho hf =>
    simp only at h'
    split at h'
    · next hl =>
      rw [nbeq, decide_eq_true_iff, len_eq] at hl
      split at h'
      · next x' hx' =>
        cases h'
        obtain ⟨w', g1, g2, g3⟩ := write_sim hR ho (fun _ => rfl) hf hc hx'
        refine ⟨w', ?_, rfl, rfl, g2, g3⟩
        have hsz : (a.eval y).cells.size = n := by have := hc.length; rw [← hl]; simpa using this.symm
        simp only [Instr.storeAt, Sem.run_bind, Instr.sureAddr, Sem.run_pure, Result.andThen_ok, storeVar, run_sizeOf hn]
        simp only [hsz, ne_eq, not_true_eq_false, if_false]
        simpa using g1
      · cases h'
    · cases h'
  | _ => simp at h'
end
end Am

/- Maps that are written. -/
namespace Am
open Go

section
variable {P : Program} {ρ : Rho} {hp : T AObj} {nx : Pos} {w w' : World} {tm : T AV} {a : Act}

theorem find_cons2 (kt : KeyK) (k : AV) (e : AE) (es : List AE) (i : Nat) :
    lrec (β := Nat → Option (Option (Nat × AE))) (fun _ => some none) (fun (e : AE) _ ih i => match keyEq P kt k e.k with
    | some true => some (some (i, e))
    | some false => ih (Nat.succ i)
    | none => none) (e :: es) i = (match keyEq P kt k e.k with
    | some true => some (some (i, e))
    | some false => lrec (β := Nat → Option (Option (Nat × AE))) (fun _ => some none) (fun (e : AE) _ ih i => match keyEq P kt k e.k with
      | some true => some (some (i, e))
      | some false => ih (Nat.succ i)
      | none => none) es (Nat.succ i)
    | none => none) := rfl

theorem find_spec {kt : KeyK} {k : AV} : ∀ (es : List AE) (i0 i : Nat) (e : AE),
    lrec (β := Nat → Option (Option (Nat × AE))) (fun _ => some none) (fun (e : AE) _ ih i => match keyEq P kt k e.k with
      | some true => some (some (i, e))
      | some false => ih (Nat.succ i)
      | none => none) es i0 = some (some (i, e)) → ∃ j, i = i0 + j ∧ es[j]? = some e ∧ keyEq P kt k e.k = some true
  | [], i0, i, e, h => by cases h
  | x :: es, i0, i, e, h => by
    rw [find_cons2] at h
    split at h
    · next hk => cases h; exact ⟨0, rfl, rfl, hk⟩
    · obtain ⟨j, h1, h2, h3⟩ := find_spec es (i0 + 1) i e h
      exact ⟨j + 1, by omega, by simpa using h2, h3⟩
    · cases h

theorem EL.get : ∀ {es : List AE} {ms : List MapEntry}, EL ρ es ms → ∀ (j : Nat) (e : AE), es[j]? = some e → ∃ m, ms[j]? = some m ∧ ER ρ e m
  | _, _, .nil, j, e, h => by simp at h
  | _, _, .cons hm hl, 0, e, h => by simp at h; subst h; exact ⟨_, rfl, hm⟩
  | _, _, .cons hm hl, j + 1, e, h => by simp at h; simpa using hl.get j e h

theorem modE_cons_zero (f : AE → AE) (e : AE) (es : List AE) : modE f (e :: es) 0 = f e :: es := rfl
theorem modE_cons_succ (f : AE → AE) (e : AE) (es : List AE) (i : Nat) : modE f (e :: es) (i + 1) = e :: modE f es i := rfl
theorem modE_nil (f : AE → AE) (i : Nat) : modE f [] i = [] := rfl

theorem EL.mod {f : AE → AE} {g : MapEntry → MapEntry} : ∀ {es : List AE} {ms : List MapEntry}, EL ρ es ms → ∀ (j : Nat), (∀ e m, es[j]? = some e → ms[j]? = some m → ER ρ e m → ER ρ (f e) (g m)) → EL ρ (modE f es j) (ms.modify j g)
  | _, _, .nil, j, _ => by rw [modE_nil]; simpa using EL.nil
  | _, _, .cons hm hl, 0, h => by rw [modE_cons_zero]; simpa using EL.cons (h _ _ rfl rfl hm) hl
  | _, _, .cons hm hl, j + 1, h => by
    rw [modE_cons_succ]
    have := hl.mod (f := f) (g := g) j (fun e m h1 h2 h3 => h e m (by simpa using h1) (by simpa using h2) h3)
    simpa using EL.cons hm this

theorem EL.append : ∀ {es : List AE} {ms : List MapEntry}, EL ρ es ms → ∀ {fs : List AE} {ns : List MapEntry}, EL ρ fs ns → EL ρ (es ++ fs) (ms ++ ns)
  | _, _, .nil, _, _, h => h
  | _, _, .cons hm hl, _, _, h => .cons hm (hl.append h)

theorem keyStays {kt : KeyK} {k j : AV} {k' j' : Value} (hk : V ρ k k') (hj : V ρ j j') (h : keyEq P kt k j = some true) : (Instr.keyThatStays j' k').run P w = .ok k' w := by
  have hs : Instr.sameBits 10000 j' k' = true := by
    cases kt with
    | int =>
      simp only [keyEq] at h
      split at h
      · next x m y n =>
        cases hk; cases hj
        split at h
        · next hx =>
          obtain rfl := kix_inj hx
          simp only [Option.some.injEq, eqI_eq, beq_iff_eq] at h
          subst h
          unfold Instr.sameBits; simp
        · cases h
      · cases h
    | str =>
      simp only [keyEq] at h
      split at h
      · cases hk with
        | str r =>
          cases hj with
          | str s =>
            simp only [Option.some.injEq, str_beq, beq_iff_eq, ByteArray.toList_eq] at h
            unfold Instr.sameBits
            rw [bytes_beq, beq_iff_eq]
            exact h.symm
      · cases h
    | bool =>
      simp only [keyEq] at h
      split at h
      · next x y =>
        cases hk; cases hj
        cases x <;> cases y <;> first | (simp [bnot] at h; done) | (unfold Instr.sameBits; rfl)
      · cases h
    | gen u =>
      simp only [keyEq] at h
      split at h
      · next x y h1 h2 =>
        rw [gvalA_eq hk h1, gvalA_eq hj h2]
        split at h
        · split at h
          · next hs => exact hs
          · cases h
        · next hne => rw [h] at hne; exact absurd rfl hne
      · cases h
  unfold Instr.keyThatStays
  rw [hs]
  rfl

theorem run_getObj_map' {r : Nat} {ms : Array MapEntry} {clk : Nat} (h : w.heap[r]? = some (.map ms clk)) : (getObj r).run P w = .ok (.map ms clk) w := by
  simp [getObj, Sem.run, h]

/-- A map's block is turned. -/
theorem turn_map {r : Nat} {ms : Array MapEntry} {clk : Nat} (h : w.heap[r]? = some (.map ms clk)) (ob : Obj) :
    (setObj r ob).run P w = .ok () { w with heap := w.heap.setIfInBounds r ob } ∧ Turned w r ob { w with heap := w.heap.setIfInBounds r ob } := by
  have hlt : r < w.heap.size := by
    rcases Nat.lt_or_ge r w.heap.size with h1 | h1
    · exact h1
    · rw [Array.getElem?_eq_none h1] at h; cases h
  refine ⟨by simp [setObj, Sem.run, h], by simp [hlt], by simp, fun c hc => ?_, ⟨rfl, rfl, rfl⟩⟩
  rw [Array.getElem?_setIfInBounds_ne (Ne.symm hc)]

theorem sim_mup (hR : Rel P ρ hp nx w) (ht : TR ρ tm a.tmps) {t : Nat} {kt : KeyK} {x y z : Operand} (hx : okX (trX x) = true) (hy : okX (trX y) = true) (hz : okX (trX z) = true)
    (hkt : keyK P t = some kt) {e : Eff} (h : effI P tm hp nx (.mup kt (trX x) (trX y) (trX z)) = some e) :
    ∃ w', (Instr.mapUpdate t (a.eval x) (a.eval y) (a.eval z)).run P w = .ok () w' ∧ e.v = .undef ∧ e.nx = nx ∧ Rel P ρ e.hp nx w' ∧ Fr ρ w w' := by
  have h' : (match ev tm (trX x), keyOk P kt (ev tm (trX y)) with
    | .map o, true => (match hp.get .none o with
      | .map es clk => (match find P kt (ev tm (trX y)) es with
        | some (some (j, _)) => some (⟨.undef, hp.set .none (.map (modE (fun e => ⟨ev tm (trX y), ev tm (trX z), e.b⟩) es j) clk) o, nx⟩ : Eff)
        | some none => some ⟨.undef, hp.set .none (.map (app es [⟨ev tm (trX y), ev tm (trX z), clk⟩]) (Nat.succ clk)) o, nx⟩
        | none => none)
      | _ => none)
    | _, _ => none) = some e := h
  clear h
  have hv := ev_V ht x hx
  have hw := ev_V ht y hy
  have hu := ev_V ht z hz
  obtain ⟨k, el, hd, hk⟩ := keyK_some hkt
  revert h' hv
  generalize ev tm (trX x) = b
  generalize a.eval x = b'
  intro h' hv
  split at h'
  · next o hok =>
    cases hv with
    | @map _ kk ho =>
      have hck := run_checkKey (w := w) hk hw hok false
      split at h'
      · next es clk hm =>
        obtain ⟨ob, h1, h2⟩ := hR.at ho hm (by simp)
        cases h2 with
        | @map _ ms _ h2 =>
          split at h'
          · next j q hf =>
            cases h'
            obtain ⟨r', h3, h4⟩ := find_ok (w := w) hk hw h2 hf
            obtain ⟨j', h5, h6, h7⟩ := find_spec es 0 j q hf
            obtain rfl : j = j' := by omega
            cases r' with
            | none => exact h4.elim
            | some p =>
              obtain ⟨i, u⟩ := p
              obtain ⟨rfl, _⟩ := h4
              obtain ⟨m, h8, h9⟩ := h2.get j q h6
              have h8' : ms[j]? = some m := by simpa using h8
              have hks := keyStays (w := w) hw h9.k h7
              obtain ⟨g1, g2⟩ := turn_map (P := P) h1 (.map (ms.modify j fun e => { e with key := a.eval y, val := a.eval z }) clk)
              refine ⟨_, ?_, rfl, rfl, hR.turn ho (by rw [hm]; simp) g2 (fun _ => .map ?_), g2.fr ho rfl⟩
              · simp only [Instr.mapUpdate, Sem.run_bind, run_underlying hd, Result.andThen_ok, run_getObj_map' h1, hck, h3, h8', Option.map_some, Option.getD_some, hks]
                exact g1
              · rw [Array.toList_modify]
                exact h2.mod j fun e m _ _ he => ⟨hw, hu, he.b⟩
          · next hf =>
            cases h'
            obtain ⟨r', h3, h4⟩ := find_ok (w := w) hk hw h2 hf
            cases r' with
            | some p => exact h4.elim
            | none =>
              obtain ⟨g1, g2⟩ := turn_map (P := P) h1 (.map (ms.push { key := a.eval y, val := a.eval z, born := clk }) (clk + 1))
              refine ⟨_, ?_, rfl, rfl, hR.turn ho (by rw [hm]; simp) g2 (fun _ => .map ?_), g2.fr ho rfl⟩
              · simp only [Instr.mapUpdate, Sem.run_bind, run_underlying hd, Result.andThen_ok, run_getObj_map' h1, hck, h3]
                exact g1
              · rw [Array.toList_push, app_eq]
                exact h2.append (.cons ⟨hw, hu, rfl⟩ .nil)
          · cases h'
      · cases h'
  · cases h'

theorem sim_men (hR : Rel P ρ hp nx w) (ht : TR ρ tm a.tmps) {t : Nat} {kt : KeyK} {zv : AV} {x y : Operand} (hx : okX (trX x) = true) (hy : okX (trX y) = true)
    (hkt : keyK P t = some kt) (hz : elemZero P t = some zv) {e : Eff} (h : effI P tm hp nx (.men kt zv (trX x) (trX y)) = some e) :
    ∃ v' w', (Instr.mapEntry t (a.eval x) (a.eval y)).run P w = .ok v' w' ∧ V ρ e.v v' ∧ e.nx = nx ∧ Rel P ρ e.hp nx w' ∧ Fr ρ w w' := by
  have h' : (match ev tm (trX x), keyOk P kt (ev tm (trX y)) with
    | .map o, true => (match hp.get .none o with
      | .map es clk => (match find P kt (ev tm (trX y)) es with
        | some (some (j, e)) => some (⟨.tup [e.v, .int .i64 (.ofNat e.b)], hp.set .none (.map (modE (fun e => ⟨ev tm (trX y), e.v, e.b⟩) es j) clk) o, nx⟩ : Eff)
        | some none => some ⟨.tup [zv, .int .i64 (.ofNat clk)], hp.set .none (.map (app es [⟨ev tm (trX y), zv, clk⟩]) (Nat.succ clk)) o, nx⟩
        | none => none)
      | _ => none)
    | _, _ => none) = some e := h
  clear h
  have hv := ev_V ht x hx
  have hw := ev_V ht y hy
  obtain ⟨k, el, hd, hk⟩ := keyK_some hkt
  obtain ⟨z', hz1, hz2⟩ := run_zero (ρ := ρ) (w := w) (elemZero_some hd hz)
  revert h' hv
  generalize ev tm (trX x) = b
  generalize a.eval x = b'
  intro h' hv
  split at h'
  · next o hok =>
    cases hv with
    | @map _ kk ho =>
      have hck := run_checkKey (w := w) hk hw hok false
      split at h'
      · next es clk hm =>
        obtain ⟨ob, h1, h2⟩ := hR.at ho hm (by simp)
        cases h2 with
        | @map _ ms _ h2 =>
          split at h'
          · next j q hf =>
            cases h'
            obtain ⟨r', h3, h4⟩ := find_ok (w := w) hk hw h2 hf
            obtain ⟨j', h5, h6, h7⟩ := find_spec es 0 j q hf
            obtain rfl : j = j' := by omega
            cases r' with
            | none => exact h4.elim
            | some p =>
              obtain ⟨i, u⟩ := p
              obtain ⟨rfl, hu⟩ := h4
              obtain ⟨m, h8, h9⟩ := h2.get j q h6
              have h8' : ms[j]? = some m := by simpa using h8
              have hks := keyStays (w := w) hw h9.k h7
              obtain ⟨g1, g2⟩ := turn_map (P := P) h1 (.map (ms.modify j fun e => { e with key := a.eval y }) clk)
              refine ⟨.tuple #[u, goInt m.born], _, ?_, .tup (.cons hu (.cons ?_ .nil)), rfl, hR.turn ho (by rw [hm]; simp) g2 (fun _ => .map ?_), g2.fr ho rfl⟩
              · simp only [Instr.mapEntry, Sem.run_bind, run_underlying hd, Result.andThen_ok, run_getObj_map' h1, hck, h3, h8', Option.map_some, Option.getD_some, hks, g1, Sem.run_pure]
              · rw [h9.b]; exact .int _ _
              · rw [Array.toList_modify]
                exact h2.mod j fun e m _ _ he => ⟨hw, he.v, he.b⟩
          · next hf =>
            cases h'
            obtain ⟨r', h3, h4⟩ := find_ok (w := w) hk hw h2 hf
            cases r' with
            | some p => exact h4.elim
            | none =>
              obtain ⟨g1, g2⟩ := turn_map (P := P) h1 (.map (ms.push { key := a.eval y, val := z', born := clk }) (clk + 1))
              refine ⟨.tuple #[z', goInt clk], _, ?_, .tup (.cons hz2 (.cons (.int _ _) .nil)), rfl, hR.turn ho (by rw [hm]; simp) g2 (fun _ => .map ?_), g2.fr ho rfl⟩
              · simp only [Instr.mapEntry, Sem.run_bind, run_underlying hd, Result.andThen_ok, run_getObj_map' h1, hck, h3, hz1, g1, Sem.run_pure]
              · rw [Array.toList_push, app_eq]
                exact h2.append (.cons ⟨hw, hz2, rfl⟩ .nil)
          · cases h'
      · cases h'
  · cases h'

theorem idx_spec (b : Nat) : ∀ {es : List AE} {ms : List MapEntry}, EL ρ es ms → ∀ (i0 j : Nat),
    lrec (β := Nat → Option Nat) (fun _ => none) (fun (e : AE) _ ih i => match Nat.beq e.b b with | true => some i | false => ih (Nat.succ i)) es i0 = some j →
    ∃ q, j = i0 + q ∧ ms.findIdx? (fun e => (e.born : Int) == (Int.ofNat b)) = some q
  | _, _, .nil, i0, j, h => by cases h
  | _, _, .cons (e := e) (m := m) (l := es) (ms := ms) hm hl, i0, j, h => by
    rw [lrec_cons] at h
    rw [List.findIdx?_cons]
    split at h
    · next hb =>
      cases h
      rw [nbeq, decide_eq_true_iff] at hb
      have : ((m.born : Int) == Int.ofNat b) = true := by rw [← hm.b, hb]; simp
      rw [if_pos this]
      exact ⟨0, rfl, rfl⟩
    · next hb =>
      rw [nbeq, decide_eq_false_iff_not] at hb
      have : ((m.born : Int) == Int.ofNat b) = false := by rw [← hm.b, beq_eq_false_iff_ne]; intro h9; exact hb (Int.ofNat.inj h9)
      obtain ⟨q, h1, h2⟩ := idx_spec b hl (i0 + 1) j h
      refine ⟨q + 1, by omega, ?_⟩
      rw [this, h2]
      rfl

theorem sim_mes (hR : Rel P ρ hp nx w) (ht : TR ρ tm a.tmps) {t : Nat} {x y z : Operand} (hx : okX (trX x) = true) (hy : okX (trX y) = true) (hz : okX (trX z) = true)
    {e : Eff} (h : effI P tm hp nx (.mes (trX x) (trX y) (trX z)) = some e) :
    ∃ w', (Instr.entryStore t (a.eval x) (a.eval y) (a.eval z)).run P w = .ok () w' ∧ e.v = .undef ∧ e.nx = nx ∧ Rel P ρ e.hp nx w' ∧ Fr ρ w w' := by
  have h' : (match ev tm (trX x), ev tm (trX y) with
    | .map o, .int _ (.ofNat b) => (match hp.get .none o with
      | .map es clk => (match lrec (β := Nat → Option Nat) (fun _ => none) (fun (e : AE) _ ih i => match Nat.beq e.b b with | true => some i | false => ih (Nat.succ i)) es 0 with
        | some j => some (⟨.undef, hp.set .none (.map (modE (fun e => ⟨e.k, ev tm (trX z), e.b⟩) es j) clk) o, nx⟩ : Eff)
        | none => none)
      | _ => none)
    | _, _ => none) = some e := h
  clear h
  have hv := ev_V ht x hx
  have hw := ev_V ht y hy
  have hu := ev_V ht z hz
  revert h' hv hw
  generalize ev tm (trX x) = b
  generalize a.eval x = b'
  generalize ev tm (trX y) = c
  generalize a.eval y = c'
  intro h' hv hw
  split at h'
  · next o kk n =>
    cases hw
    cases hv with
    | @map _ kb ho =>
      split at h'
      · next es clk hm =>
        obtain ⟨ob, h1, h2⟩ := hR.at ho hm (by simp)
        cases h2 with
        | @map _ ms _ h2 =>
          split at h'
          · next j hj =>
            cases h'
            obtain ⟨q, h3, h4⟩ := idx_spec n h2 0 j hj
            obtain rfl : j = q := by omega
            obtain ⟨g1, g2⟩ := turn_map (P := P) h1 (.map (ms.modify j fun e => { e with val := a.eval z }) clk)
            have h4' : ms.findIdx? (fun e => (e.born : Int) == Int.ofNat n) = some j := by
              rw [← List.findIdx?_toArray] at h4; simpa using h4
            refine ⟨_, ?_, rfl, rfl, hR.turn ho (by rw [hm]; simp) g2 (fun _ => .map ?_), g2.fr ho rfl⟩
            · simp only [Instr.entryStore, Sem.run_bind, run_getObj_map' h1, Result.andThen_ok, asInt, asIntOf, Sem.run_pure, h4']
              exact g1
            · rw [Array.toList_modify]
              exact h2.mod j fun e m _ _ he => ⟨he.k, hu, he.b⟩
          · cases h'
      · cases h'
  · cases h'
end
end Am

/- Operations that make an object. -/
namespace Am
open Go

section
variable {P : Program} {ρ : Rho} {hp : T AObj} {nx : Pos} {w w' : World} {tm : T AV} {a : Act}

theorem setCells_arr : ∀ (vs : List AV) (t : T AV) (lo hi : Nat) (zs : List AV) (i : Nat) (x' : AObj), setCells vs (.arr t lo hi zs) i = some x' →
    ∃ t', x' = .arr t' lo hi zs ∧ (∀ j, cellAt x' j = if i ≤ j ∧ j < i + vs.length then vs.getD (j - i) .undef else cellAt (.arr t lo hi zs) j) ∧ (vs ≠ [] → lo ≤ i ∧ i + vs.length ≤ hi) ∧ ∀ v ∈ vs, oneCell v = true
  | [], t, lo, hi, zs, i, x', h => by
    rw [setCells_nil] at h; cases h
    refine ⟨t, rfl, fun j => ?_, fun h => absurd rfl h, by simp⟩
    rw [if_neg (by simp)]
  | v :: vs, t, lo, hi, zs, i, x', h => by
    rw [setCells_cons] at h
    split at h
    · next x1 hx1 =>
      unfold setCell at hx1
      split at hx1
      · cases hx1
      · next h1 =>
        simp only at hx1
        split at hx1
        · next h2 h3 =>
          cases hx1
          have h2 := ble_le h2
          have h3 : i < hi := ble_le h3
          obtain ⟨t', e1, e2, e3, e4⟩ := setCells_arr vs _ lo hi zs (i + 1) x' h
          refine ⟨t', e1, fun j => ?_, fun _ => ⟨h2, ?_⟩, fun u hu => ?_⟩
          · rw [e2]
            by_cases hj : i + 1 ≤ j ∧ j < i + 1 + vs.length
            · rw [if_pos hj, if_pos (by simp; omega)]
              rw [show j - i = (j - (i + 1)) + 1 by omega]
              simp
            · rw [if_neg hj]
              by_cases hji : j = i
              · subst hji
                rw [if_pos (by simp), cellAt_set_same h2 h3 (oneCell_ne h1)]
                simp
              · rw [if_neg (by simp; omega), cellAt_set_ne hji]
          · cases vs with
            | nil => simp; omega
            | cons u us => have := e3 (by simp); simp at this ⊢; omega
          · rcases List.mem_cons.1 hu with rfl | hu
            · exact h1
            · exact e4 u hu
        · cases hx1
    · cases h

/-- An array of given cells; its block may be larger. -/
theorem arrOf_ok {vs : List AV} {z : Nat} {x : AObj} (h : arrOf vs z = some x) {ws : List Value} (hl : VL ρ vs ws) {b : Nat} {c : Array Value} {e : TypeId} {fz : Nat × Nat}
    (hc : ∀ (i : Nat) (v : Value), ws[i]? = some v → c[i]? = some v) (hn : ws.length ≤ c.size) (hf : freeCells fz c.size) : ObjR P ρ ⟨b, 0, c.size⟩ x (.cells c e fz) := by
  unfold arrOf at h
  rw [len_eq] at h
  obtain ⟨t', rfl, h2, _, h0⟩ := setCells_arr vs _ _ _ _ 0 x h
  have hlen := hl.length
  refine .arr ⟨hf, rfl, Nat.le_refl _, by simp only; omega, fun i _ hi => ?_, fun i _ hi => ?_⟩
  rotate_left
  · rw [h2, if_pos (by omega)]
    have : i < vs.length := hi
    have hm : vs.getD (i - 0) .undef = vs[i] := by simp [this]
    rw [hm]; exact h0 _ (List.getElem_mem this)
  rw [h2, if_pos (by omega)]
  have : i < vs.length := hi
  obtain ⟨v, h3, h4⟩ := hl.get i vs[i] (by simp [this])
  refine ⟨v, hc i v h3, ?_⟩
  simpa [this] using h4

/-- What an operation owes that makes an object. -/
def AllocOk (P : Program) (ρ : Rho) (w : World) (s : Sem Value) (x : AObj) (k : AK) : Prop :=
  ∃ ob v' w' n, s.run P w = .ok v' w' ∧ w'.heap = w.heap.push ob ∧ Same w w' ∧ ObjR P ρ ⟨w.heap.size, 0, n⟩ x ob ∧ ∀ (ρ' : Rho) (q : Pos), ρ' q = some ⟨w.heap.size, 0, n⟩ → V ρ' (mkA k q) v'

theorem al_mkm {t : TypeId} : AllocOk P ρ w (Instr.makeMap t none) (.map [] 0) .map :=
  ⟨.map #[] 0, .map (some w.heap.size), { w with heap := w.heap.push (.map #[] 0) }, 0, by simp [Instr.makeMap], rfl, ⟨rfl, rfl, rfl⟩, .map .nil, fun ρ' q hq => .map hq⟩

theorem al_row {c : Array Value} {t : TypeId} {l : List AV} (hl : VL ρ l c.toList) : AllocOk P ρ w (do pure (.pointer (some (← newRow t c)))) (.row l) .ptr :=
  ⟨.cells c t (0, 0), .pointer (some ⟨w.heap.size, 0, none⟩), { w with heap := w.heap.push (.cells c t (0, 0)) }, c.size, by simp [newRow], rfl, ⟨rfl, rfl, rfl⟩,
    .row ⟨rfl, rfl, rfl, hl⟩, fun ρ' q hq => .ptr hq (Nat.le_refl _)⟩

theorem al_al {e n : Nat} {v : AV} (hz : zeroT P e = some v) {x : AObj} {k : AK} (h : allocI P tm (.al n (cellsA v)) = some (x, k)) : AllocOk P ρ w (Instr.alloc e true (.tuple #[])) x k := by
  have h' : (match Nat.beq (len (cellsA v)) n with
    | true => some (AObj.row (cellsA v), AK.ptr)
    | false => none) = some (x, k) := h
  split at h'
  · cases h'
    obtain ⟨z', hz1, hz2⟩ := run_zero (ρ := ρ) (w := w) hz
    obtain ⟨ob, v', w', m, g1, g2⟩ := al_row (P := P) (ρ := ρ) (w := w) (t := e) (cells_of_V hz2)
    refine ⟨ob, v', w', m, ?_, g2⟩
    simp only [Instr.alloc, Sem.run_bind, hz1, Result.andThen_ok, newVar]
    exact g1
  · cases h'

theorem al_bx (ht : TR ρ tm a.tmps) {e n : Nat} {y : Operand} (hy : okX (trX y) = true) {x : AObj} {k : AK} (h : allocI P tm (.bx n (trX y)) = some (x, k)) : AllocOk P ρ w (Instr.box e (a.eval y)) x k := by
  have h' : (match Nat.beq (len (cellsA (ev tm (trX y)))) n, lrec true (fun v _ r => band (oneCell v) r) (cellsA (ev tm (trX y))) with
    | true, true => some (AObj.row (cellsA (ev tm (trX y))), AK.ptr)
    | _, _ => none) = some (x, k) := h
  split at h'
  · cases h'
    exact al_row (P := P) (ρ := ρ) (w := w) (t := e) (cells_of_V (ev_V ht y hy))
  · cases h'

theorem sliceElem_some {t z b : Nat} {zs : List AV} (h : sliceElem P t = some (z, b, zs)) :
    ∃ e i v, P.underlying t = some (.slice e) ∧ P.info? e = some i ∧ i.size = z ∧ i.bytes = b ∧ zeroT P e = some v ∧ zs = cellsA v ∧ sizeT P e = some z ∧ zs.length = z := by
  unfold sliceElem at h
  split at h
  · next e hd =>
    split at h
    · next z' b' v hz hb hv =>
      split at h
      · next hlz =>
       cases h
       rw [nbeq, decide_eq_true_iff, len_eq] at hlz
       unfold sizeT at hz
       unfold bytesT at hb
       cases hi : P.info? e with
       | none => simp [hi] at hz
       | some i =>
         simp [hi] at hz hb
         exact ⟨e, i, v, hd, hi, hz, hb, hv, rfl, by unfold sizeT; simp [hi, hz], hlz⟩
      · cases h
    · cases h
  · cases h

theorem zero_cell {zs : List AV} {zc : Array Value} (hl : VL ρ zs zc.toList) {z : Nat} (hz : zs.length = z) (h1 : 1 ≤ z) (i : Nat) :
    V ρ (match (generalizing := false) zs with
      | [v] => v
      | zs => nth .undef zs (Nat.mod i (len zs))) zc[i % zc.size]! := by
  have hs : zc.size = z := by have := hl.length; rw [hz] at this; simpa using this.symm
  have key : V ρ (nth .undef zs (Nat.mod i (len zs))) zc[i % zc.size]! := by
    rw [len_eq, hz, hs]
    show V ρ (nth .undef zs (i % z)) zc[i % z]!
    have hlt : i % z < z := Nat.mod_lt _ h1
    rw [nth_eq]
    obtain ⟨v, h2, h3⟩ := hl.get (i % z) zs[i % z] (by simp [hz, hlt])
    have h4 : zc[i % z]? = some v := by simpa using h2
    have h5 : zc[i % z]! = v := by
      rw [getElem!_def, h4]
    rw [h5]
    simpa [List.getD, hz, hlt] using h3
  match zs, hz, key with
  | [], hz, _ => simp at hz; omega
  | [v], hz, key =>
    have h1 : z = 1 := by simpa using hz.symm
    have : nth .undef [v] (Nat.mod i (len [v])) = v := by
      have : Nat.mod i (len [v]) = 0 := Nat.mod_one i
      rw [this]; rfl
    rw [this] at key
    exact key
  | u :: v :: r, _, key => exact key

theorem allOne_iff : ∀ l : List AV, allOne l = true ↔ ∀ v ∈ l, oneCell v = true
  | [] => by simp [allOne, lrec]
  | v :: l => by
    have h : allOne (v :: l) = band (oneCell v) (allOne l) := rfl
    rw [h, band_iff, allOne_iff l]; simp

theorem zero_one {zs : List AV} (h : allOne zs = true) {z : Nat} (hz : zs.length = z) (h1 : 1 ≤ z) (i : Nat) :
    oneCell (match (generalizing := false) zs with
      | [v] => v
      | zs => nth .undef zs (Nat.mod i (len zs))) = true := by
  rw [allOne_iff] at h
  have key : oneCell (nth .undef zs (Nat.mod i (len zs))) = true := by
    rw [len_eq, hz]
    show oneCell (nth .undef zs (i % z)) = true
    have hlt : i % z < z := Nat.mod_lt _ h1
    rw [nth_eq]
    have : zs.getD (i % z) .undef = zs[i % z] := by simp [hz, hlt]
    rw [this]
    exact h _ (List.getElem_mem _)
  match zs, h, key with
  | [], _, key => exact key
  | [v], h, _ => exact h v (by simp)
  | _ :: _ :: _, _, key => exact key

theorem wrap_small (n : Nat) (h : n ≤ 9223372036854775807) : IntKind.i64.wrap (n : Int) = n := wrap_nat .i64 n h

theorem al_mks (ht : TR ρ tm a.tmps) {t z b : Nat} {zs : List AV} {y1 y2 : Operand} (hy1 : okX (trX y1) = true) (hy2 : okX (trX y2) = true) (hs : sliceElem P t = some (z, b, zs))
    {x : AObj} {k : AK} (h : allocI P tm (.mks z b zs (trX y1) (trX y2)) = some (x, k)) : AllocOk P ρ w (Instr.makeSlice t (a.eval y1) (a.eval y2)) x k := by
  have h' : (match ev tm (trX y1), ev tm (trX y2) with
    | .int _ (.ofNat l), .int _ (.ofNat c) => (match Nat.ble l c, Nat.ble (Nat.mul c (Nat.succ b)) 1099511627776, Nat.beq (len zs) z, band (Nat.ble 1 z) (allOne zs) with
      | true, true, true, true => some (AObj.arr .lf 0 (Nat.mul c z) zs, AK.slc l c z)
      | _, _, _, _ => none)
    | _, _ => none) = some (x, k) := h
  clear h
  obtain ⟨e, i, v, hd, hi, hi1, hi2, hv, hzs, hsz, hlz⟩ := sliceElem_some hs
  obtain ⟨z', hz1, hz2⟩ := run_zero (ρ := ρ) (w := w) hv
  have hl1 := ev_V ht y1 hy1
  have hl2 := ev_V ht y2 hy2
  revert h' hl1 hl2
  generalize ev tm (trX y1) = p
  generalize a.eval y1 = p'
  generalize ev tm (trX y2) = q
  generalize a.eval y2 = q'
  intro h' hl1 hl2
  split at h'
  · next k1 l k2 c =>
    cases hl1; cases hl2
    split at h'
    · next g1 g2 g3 g4 =>
      cases h'
      have g1 := ble_le g1
      have g2 : c * (b + 1) ≤ 1099511627776 := ble_le g2
      have g5 := ((band_iff _ _).1 g4).2
      have g4 := ble_le ((band_iff _ _).1 g4).1
      rw [nbeq, decide_eq_true_iff, len_eq] at g3
      have hcb : c ≤ 1099511627776 := Nat.le_trans (Nat.le_mul_of_pos_right c (Nat.succ_pos b)) g2
      have hbb : b * c ≤ 1099511627776 := by rw [Nat.mul_comm]; exact Nat.le_trans (Nat.mul_le_mul_left c (Nat.le_succ b)) g2
      have hzl : VL ρ zs z'.cells.toList := by rw [hzs]; exact cells_of_V hz2
      let cs : Array Value := (Array.range (c * z)).map fun j => z'.cells[j % z'.cells.size]!
      refine ⟨.cells cs e (0, 0), .slice (some ⟨w.heap.size, 0, none⟩) l c, { w with heap := w.heap.push (.cells cs e (0, 0)) }, c * z, ?_, rfl, ⟨rfl, rfl, rfl⟩, ?_, ?_⟩
      · have w1 : IntKind.i64.wrap (Int.ofNat l) = (l : Int) := wrap_small l (by omega)
        have w2 : IntKind.i64.wrap (Int.ofNat c) = (c : Int) := wrap_small c (by omega)
        have t1 : ((decide ((c : Int) < 0) || decide ((b : Int) * (c : Int) > 2 ^ 48)) || decide ((l : Int) < 0) || decide ((l : Int) > (c : Int))) = false := by
          have : (b : Int) * (c : Int) = ((b * c : Nat) : Int) := by simp
          rw [this]
          simp only [Bool.or_eq_false_iff, decide_eq_false_iff_not]
          refine ⟨⟨⟨by omega, ?_⟩, by omega⟩, by omega⟩
          have : (2 : Int) ^ 48 = 281474976710656 := by decide
          rw [this]; omega
        simp only [Instr.makeSlice, Sem.run_bind, run_underlying hd, Result.andThen_ok, asInt, asIntOf, Sem.run_pure, run_typeInfo' hi, hi2, w1, w2, t1, Bool.false_eq_true, if_false]
        simp only [run_askRoom, Result.andThen_ok, run_sizeOf hsz, Int.toNat_natCast, Sem.run_bind]
        by_cases h0 : c * z = 0
        · have hcs : cs = #[] := by simp [cs, h0]
          simp [h0, newRow, hcs, show Array.range 0 = #[] from rfl]
        · simp only [h0, if_false, Sem.run_bind, hz1, Result.andThen_ok, Sem.run_pure, newRow, run_newObj]
          rfl
      · refine .arr ⟨fun i _ => by simp, by simp [cs], Nat.le_refl _, by simp [cs], fun i _ hi => ?_, fun i _ hi => ?_⟩
        rotate_left
        · have hi' : i < Nat.mul c z := hi
          rw [cellAt_arr_in (Nat.zero_le _) hi']
          exact zero_one g5 g3 g4 i
        have hi : i < c * z := hi
        refine ⟨z'.cells[i % z'.cells.size]!, by simp [cs, hi], ?_⟩
        have hi' : i < Nat.mul c z := hi
        rw [cellAt_arr_in (Nat.zero_le _) hi']
        exact zero_cell hzl g3 g4 i
      · intro ρ' q hq
        exact .slc hq g1 (.inr ⟨Nat.le_refl _, rfl⟩)
    · cases h'
  · cases h'
end
end Am

/- Slices and bytes that are made; append; copy. -/
namespace Am
open Go

section
variable {P : Program} {ρ : Rho} {hp : T AObj} {nx : Pos} {w w' : World} {tm : T AV} {a : Act}

theorem repl_zero (l : List AV) : repl 0 l = [] := rfl
theorem repl_succ (n : Nat) (l : List AV) : repl (n + 1) l = l ++ repl n l := by
  show app l (repl n l) = _
  rw [app_eq]

theorem repl_length (l : List AV) : ∀ n, (repl n l).length = n * l.length
  | 0 => by simp [repl_zero]
  | n + 1 => by rw [repl_succ, List.length_append, repl_length l n, Nat.succ_mul, Nat.add_comm]

theorem repl_get (l : List AV) : ∀ (n i : Nat), i < n * l.length → (repl n l)[i]? = l[i % l.length]?
  | 0, i, h => by simp at h
  | n + 1, i, h => by
    rw [repl_succ]
    by_cases hi : i < l.length
    · rw [List.getElem?_append_left hi, Nat.mod_eq_of_lt hi]
    · rw [List.getElem?_append_right (by omega), repl_get l n _ (by rw [Nat.succ_mul] at h; omega)]
      rw [← Nat.mod_eq_sub_mod (by omega)]

theorem repl_V {zs : List AV} {zc : Array Value} (hl : VL ρ zs zc.toList) (n z : Nat) (hz : zs.length = z) :
    VL ρ (repl n zs) ((Array.range (n * z)).map fun j => zc[j % zc.size]!).toList := by
  have hs : zc.size = z := by have := hl.length; rw [hz] at this; simpa using this.symm
  refine VL.of_get (by rw [repl_length, hz]; simp) fun i x v hx hv => ?_
  have hi : i < n * z := by
    rcases Nat.lt_or_ge i (n * z) with h | h
    · exact h
    · rw [List.getElem?_eq_none (by rw [repl_length, hz]; exact h)] at hx; cases hx
  rw [repl_get zs n i (by rw [hz]; exact hi), hz] at hx
  have hv' : zc[i % zc.size]! = v := by simpa [hi] using hv
  obtain ⟨u, h1, h2⟩ := hl.get _ _ hx
  have h4 : zc[i % z]? = some u := by simpa using h1
  have h5 : zc[i % z]! = u := by rw [getElem!_def, h4]
  rw [hs, h5] at hv'
  rw [← hv']; exact h2

theorem freeCells_zero (n : Nat) : freeCells (0, 0) n := fun i _ => by simp

theorem al_bls (ht : TR ρ tm a.tmps) {t z b n : Nat} {zs : List AV} {ps : Array (Nat × Operand)} {qs : List (Nat × Nat × X)} (hx : ∀ p ∈ ps.toList, okX (trX p.2) = true)
    (hs : sliceElem P t = some (z, b, zs)) (hq : trParts P (fun i => some (Nat.mul i z, z)) ps = some qs)
    {x : AObj} {k : AK} (h : allocI P tm (.bls n z zs qs) = some (x, k)) : AllocOk P ρ w (Instr.buildSlice t n (ps.map fun p => (p.1, a.eval p.2))) x k := by
  have h' : (match putParts tm qs (repl n zs) with
    | some l => (match Nat.beq (len l) (Nat.mul n z), Nat.ble (Nat.mul n z) 16777216, Nat.beq (len zs) z with
      | true, true, true => (match arrOf l z with
        | some o => some (o, AK.slc n n z)
        | none => none)
      | _, _, _ => none)
    | none => none) = some (x, k) := h
  clear h
  obtain ⟨e, i, v, hd, hi, hi1, hi2, hv, hzs, hsz, hlz⟩ := sliceElem_some hs
  obtain ⟨z', hz1, hz2⟩ := run_zero (ρ := ρ) (w := w) hv
  split at h'
  · next l hl =>
    split at h'
    · next g1 g2 g3 =>
      rw [nbeq, decide_eq_true_iff, len_eq] at g1 g3
      have g2 : n * z ≤ 16777216 := ble_le g2
      have g1 : l.length = n * z := g1
      split at h'
      · next x0 hx0 =>
        cases h'
        have hzl : VL ρ zs z'.cells.toList := by rw [hzs]; exact cells_of_V hz2
        let cs : Array Value := (Array.range (n * z)).map fun j => z'.cells[j % z'.cells.size]!
        have hcs : VL ρ (repl n zs) cs.toList := repl_V hzl n z g3
        obtain ⟨ws, f1, f2⟩ := fill_ok ht (fun i => some (i * z, z)) ps.toList hx hq hcs hl
        have hws : ws.size = n * z := by have := f2.length; rw [g1] at this; simpa using this.symm
        refine ⟨.cells ws e (0, 0), .slice (some ⟨w.heap.size, 0, none⟩) n n, { w with heap := w.heap.push (.cells ws e (0, 0)) }, ws.size, ?_, rfl, ⟨rfl, rfl, rfl⟩,
          arrOf_ok hx0 f2 (fun i v hiv => by simpa using hiv) (by simp) (freeCells_zero _), fun ρ' q hq => .slc hq (Nat.le_refl _) (.inr ⟨Nat.le_refl _, rfl⟩)⟩
        have hnz : ¬ (n * z > 2 ^ 24) := by omega
        have e : (ps.map fun p => (p.1, a.eval p.2)).toList = ps.toList.map fun p => (p.1, a.eval p.2) := by simp
        simp only [Instr.buildSlice, Sem.run_bind, run_underlying hd, Result.andThen_ok, run_sizeOf hsz, hnz, if_false, Sem.run_pure]
        by_cases h0 : n * z = 0
        · have hcs0 : cs = #[] := by simp [cs, h0]
          rw [hcs0] at f1
          simp only [h0, if_true, Sem.run_pure, Result.andThen_ok, show Array.range 0 = #[] from rfl, Array.map_empty, e, f1, newRow, run_newObj, Sem.run_bind]
        · simp only [h0, if_false, Sem.run_bind, hz1, Result.andThen_ok, Sem.run_pure, e]
          have f1' : Instr.fill (fun i => some (i * z, z)) (Array.map (fun x => z'.cells[x % z'.cells.size]!) (Array.range (n * z))) (List.map (fun p => (p.fst, a.eval p.snd)) ps.toList) = some ws := f1
          simp only [f1', newRow, run_newObj, Sem.run_bind, Result.andThen_ok, Sem.run_pure]
      · cases h'
    · cases h'
  · cases h'

theorem digits_zero (c : Nat) : digits 0 c = [] := rfl
theorem digits_succ (n c : Nat) : digits (n + 1) c = .int .u8 (.ofNat (c % 256)) :: digits n (c / 256) := rfl

theorem digits_V : ∀ (l : List UInt8), VL ρ (digits l.length (strCode l)) (l.map fun b => Value.int .u8 b.toNat)
  | [] => .nil
  | b :: l => by
    rw [List.length_cons, digits_succ, strCode_cons]
    have hb := b.toNat_lt
    have h1 : (b.toNat + 256 * strCode l) % 256 = b.toNat := by omega
    have h2 : (b.toNat + 256 * strCode l) / 256 = strCode l := by omega
    rw [h1, h2]
    exact .cons (.int _ _) (digits_V l)

theorem al_s2b (ht : TR ρ tm a.tmps) {s d e : Nat} {y : Operand} (hy : okX (trX y) = true) (hs : P.underlying s = some .string) (hd : P.underlying d = some (.slice e)) (he : P.underlying e = some (.int .u8))
    {x : AObj} {k : AK} (h : allocI P tm (.cv .s2b (trX y)) = some (x, k)) : AllocOk P ρ w (convert s d (a.eval y)) x k := by
  have h' : (match ev tm (trX y) with
    | .str n c => (match Nat.ble n 1099511627776 with
      | true => (match arrOf (digits n c) 1 with
        | some o => some (o, AK.slo n 1)
        | none => none)
      | false => none)
    | _ => none) = some (x, k) := h
  clear h
  have hv := ev_V ht y hy
  revert h' hv
  generalize ev tm (trX y) = p
  generalize a.eval y = p'
  intro h' hv
  cases hv with
  | str r =>
    simp only at h'
    split at h'
    · next hn =>
      split at h'
      · next x0 hx0 =>
        cases h'
        have hn : r.size ≤ 1099511627776 := ble_le hn
        have hlen : r.data.toList.length = r.size := by rw [Array.length_toList]; rfl
        let q : Question := .appendCap r.size 0 e
        let cap := q.cut (w.tape w.drawn q)
        have hcap : r.size ≤ cap := Nat.le_add_right _ _
        have hcap63 : cap ≤ 9223372036854775807 := by
          have hlt := Nat.mod_lt (w.tape w.drawn q) (show 0 < 2 ^ 63 - r.size by omega)
          show q.cut (w.tape w.drawn q) ≤ _
          simp only [q, Question.cut] at hlt ⊢
          omega
        let cs : Array Value := (r.data.map fun b => Value.int .u8 b.toNat) ++ Array.replicate (cap - r.size) (.int .u8 0)
        have hcs : cs.size = cap := by
          have : r.data.size = r.size := rfl
          simp [cs]; omega
        let w1 : World := { w with drawn := w.drawn + 1 }
        let w2 : World := { w1 with heap := w1.heap.push (.cells cs e (0, 0)) }
        let w3 : World := w2.freeze ⟨w.heap.size, cap, none⟩ 1
        have h3 : w3.heap = w.heap.push (.cells cs e (cap, cap + 1)) := by
          simp only [w3, World.freeze, Nat.one_ne_zero, if_false]
          apply Array.ext_getElem?
          intro i
          rw [Array.getElem?_modify]
          by_cases hi : w.heap.size = i
          · subst hi; simp [w2, w1]
          · rw [if_neg hi]
            simp [w2, w1, Array.getElem?_push, Ne.symm hi]
        refine ⟨.cells cs e (cap, cap + 1), .slice (some ⟨w.heap.size, 0, none⟩) r.size cap, w3, cs.size, ?_, h3, ⟨rfl, rfl, rfl⟩, ?_, ?_⟩
        · have hf : q.forced = false := rfl
          have hshape : w2.shape? w.heap.size = some (e, cap) := by
            simp [w2, w1, World.shape?, hcs]
          have : (convert s d (.string r)).run P w = (Conv.stringToBytes e r).run P w := by
            simp [convert, run_underlying hs, run_underlying hd, run_underlying he]
          rw [this]
          simp only [Conv.stringToBytes, Sem.run_bind, run_choose]
          rw [if_neg (by simp [Question.forced])]
          simp only [Result.andThen_ok, newRow, Sem.run_bind, run_newObj, Sem.run_pure, markStringish, run_shape]
          have hs2 : w2.shape? w.heap.size = some (e, cap) := hshape
          show ((Sem.run P (match w2.shape? w.heap.size with
            | some (_, n) => freeze ⟨w.heap.size, n, none⟩ 1
            | _ => pure ()) w2).andThen fun _ w' => Result.ok (Value.slice (some ⟨w.heap.size, 0, none⟩) r.size cap) w') = _
          rw [hs2]
          rfl
        · refine arrOf_ok hx0 ?_ ?_ ?_ ?_ (ws := r.data.toList.map fun b => Value.int .u8 b.toNat)
          · have := digits_V (ρ := ρ) r.data.toList
            rw [hlen] at this
            exact this
          · intro i v hiv
            have hi : i < r.data.size := by
              rcases Nat.lt_or_ge i r.data.size with h9 | h9
              · exact h9
              · rw [List.getElem?_eq_none (by simpa using h9)] at hiv; cases hiv
            rw [Array.getElem?_append_left (by simpa using hi)]
            simpa using hiv
          · rw [List.length_map, hlen, hcs]; exact hcap
          · intro i hi
            rw [hcs] at hi
            have : ¬ (cap ≤ i) := by omega
            simp [this]
        · intro ρ' qq hq
          refine .slo hq hcap (.inr ⟨Nat.le_refl _, rfl, ?_, hcap63⟩)
          rw [hcs]; simp
      · cases h'
    · cases h'
  | _ => simp at h'

/-! ### append, copy -/

/-- The elements that are read. -/
theorem elems_ok (hR : Rel P ρ hp nx w) {z : Nat} {x : AV} {x' : Value} (hx : V ρ x x') {n : Nat} {vs : List AV} (h : elems hp z x = some (n, vs)) :
    ∃ ws : Array Value, (Builtin.lenOf x').run P w = .ok n w ∧ (∀ w' : World, w'.heap = w.heap → (Builtin.firstCells z n x').run P w' = .ok ws w') ∧ VL ρ vs ws.toList ∧ vs.length = n * z ∧ (∀ p l c, x' = .slice p l c → l = n ∧ l ≤ c) := by
  cases hx with
  | snil =>
    have h' : some (0, ([] : List AV)) = some (n, vs) := h
    cases h'
    exact ⟨#[], rfl, fun _ _ => rfl, .nil, by simp, fun p l c e => by cases e; exact ⟨rfl, Nat.le_refl _⟩⟩
  | @slc o f l c y yy k ho hl hc =>
    have h' : (match Nat.beq z y with
      | true => (match cellsFrom (hp.get .none o) (Nat.mul l z) f with
        | some vs => some (l, vs)
        | none => none)
      | false => none) = some (n, vs) := h
    split at h'
    · split at h'
      · next vs0 hvs =>
        cases h'
        have hln := (cellsFrom_get _ _ _ _ hvs).1
        by_cases h0 : n * z = 0
        · have hnil : vs = [] := List.length_eq_zero_iff.1 (hln.trans h0)
          subst hnil
          refine ⟨#[], rfl, ?_, .nil, hln, fun p l' c' e => by cases e; exact ⟨rfl, hl⟩⟩
          intro w' _
          simp [Builtin.firstCells, loadCells, h0, loadCellsFrom]
        · have hc0 : c ≠ 0 := by rintro rfl; obtain rfl : n = 0 := by omega
                                 simp at h0
          rcases hc with hc | ⟨hf, rfl⟩
          · exact absurd hc hc0
          · obtain ⟨cs, g1, g2⟩ := run_loadCells_V' hR ho hf hvs
            exact ⟨cs, rfl, g1, g2, hln, fun p l' c' e => by cases e; exact ⟨rfl, hl⟩⟩
      · cases h'
    · cases h'
  | @slo o f l c y yy k ho hl hc =>
    have h' : (match Nat.beq z y with
      | true => (match cellsFrom (hp.get .none o) (Nat.mul l z) f with
        | some vs => some (l, vs)
        | none => none)
      | false => none) = some (n, vs) := h
    split at h'
    · split at h'
      · next vs0 hvs =>
        cases h'
        have hln := (cellsFrom_get _ _ _ _ hvs).1
        by_cases h0 : n * z = 0
        · have hnil : vs = [] := List.length_eq_zero_iff.1 (hln.trans h0)
          subst hnil
          refine ⟨#[], rfl, ?_, .nil, hln, fun p l' c' e => by cases e; exact ⟨rfl, hl⟩⟩
          intro w' _
          simp [Builtin.firstCells, loadCells, h0, loadCellsFrom]
        · have hc0 : c ≠ 0 := by rintro rfl; obtain rfl : n = 0 := by omega
                                 simp at h0
          rcases hc with hc | ⟨hf, rfl, _⟩
          · exact absurd hc hc0
          · obtain ⟨cs, g1, g2⟩ := run_loadCells_V' hR ho hf hvs
            exact ⟨cs, rfl, g1, g2, hln, fun p l' c' e => by cases e; exact ⟨rfl, hl⟩⟩
      · cases h'
    · cases h'
  | str r =>
    have h' : (match (generalizing := false) z with
      | 1 => some (r.size, digits r.size (strCode r.data.toList))
      | _ => none) = some (n, vs) := h
    split at h'
    · cases h'
      have hlen : r.data.toList.length = r.size := by rw [Array.length_toList]; rfl
      have hd := digits_V (ρ := ρ) r.data.toList
      rw [hlen] at hd
      refine ⟨(r.extract 0 r.size).data.map fun b => .int .u8 b.toNat, rfl, fun _ _ => rfl, ?_, ?_, fun p l c e => by cases e⟩
      · have : (r.extract 0 r.size) = r := by
          apply ByteArray.ext
          rw [ByteArray.data_extract]
          show r.data.extract 0 r.data.size = r.data
          exact Array.extract_size
        rw [this]
        simpa using hd
      · have := hd.length; simp at this ⊢; omega
    · cases h'
  | _ => cases h

end
end Am

/- append and copy. -/
namespace Am
open Go

section
variable {P : Program} {ρ : Rho} {hp : T AObj} {nx : Pos} {w w' : World} {tm : T AV} {a : Act}

theorem growBy_le (m : Nat) : ∀ (r c : Nat), Builtin.growBy m r c ≤ max c (m + (m + 768) / 4)
  | 0, c => by simp [Builtin.growBy]; omega
  | r + 1, c => by
    unfold Builtin.growBy
    split
    · omega
    · next h =>
      have := growBy_le m r (c + (c + 768) / 4)
      omega

theorem nextcap_le {need old : Nat} (h : old < need) : Builtin.nextslicecap need old ≤ 2 * need + 192 := by
  unfold Builtin.nextslicecap
  split
  · omega
  · split
    · omega
    · have := growBy_le need 4 old
      omega

/-- The cells of a slice's elements. -/
theorem run_append_grow {t u e z b : Nat} {i : TypeInfo} (hd : P.underlying t = some (.slice e)) (hu : (∃ f, P.underlying u = some (.slice f)) ∨ P.underlying u = some .string) (hi : P.info? e = some i) (hi1 : i.size = z) (hi2 : i.bytes = b)
    {zv : Value} (hz : i.zero = some zv) {ty : TypeId} {base : Option Addr} {l c n : Nat} {x : Value} {old new : Array Value}
    (hn : (Builtin.lenOf x).run P w = .ok n w) (hg : c < l + n) (hb : (l + n) * (b + 1) ≤ 1099511627776)
    (ho : ∀ w' : World, w'.heap = w.heap → (Builtin.firstCells z l (.slice base l c)).run P w' = .ok old w') (hx : ∀ w' : World, w'.heap = w.heap → (Builtin.firstCells z n x).run P w' = .ok new w') :
    ∃ cap rest w', (Builtin.append_ #[t, u] ty #[.slice base l c, x]).run P w = .ok (.slice (some ⟨w.heap.size, 0, none⟩) (l + n) cap) w' ∧ l + n ≤ cap ∧ rest.size = (cap - (l + n)) * zv.cells.size ∧
      w'.heap = w.heap.push (.cells (old ++ new ++ rest) e (0, 0)) ∧ Same w w' ∧ cap ≤ 9223372036854775807 := by
  have hsz : i.size = z := hi1
  have h48 : ¬ (281474976710656 < Builtin.nextslicecap (l + n) c * i.bytes) := by
    rw [hi2]
    have h1 := nextcap_le hg
    have h2 : Builtin.nextslicecap (l + n) c * b ≤ (2 * (l + n) + 192) * b := Nat.mul_le_mul_right b h1
    have h3 : (l + n) * b ≤ 1099511627776 := Nat.le_trans (Nat.mul_le_mul_left _ (Nat.le_succ b)) hb
    have h4 : b ≤ 1099511627776 := by
      have : 1 * (b + 1) ≤ (l + n) * (b + 1) := Nat.mul_le_mul_right _ (by omega)
      omega
    have h5 : (2 * (l + n) + 192) * b = 2 * ((l + n) * b) + 192 * b := by rw [Nat.add_mul, Nat.mul_assoc]
    omega
  have hneed : l + n ≤ 1099511627776 := Nat.le_trans (Nat.le_mul_of_pos_right _ (Nat.succ_pos b)) hb
  have h63 : ¬ (9223372036854775807 < ((l : Int) + (n : Int))) := by omega
  have hnot : ¬ (l + n ≤ c) := by omega
  have ho1 := ho w.drew rfl
  have hx1 := hx w.drew rfl
  refine ⟨grownCap w (l + n) c e, Builtin.zeroCells zv.cells (grownCap w (l + n) c e - (l + n)), w.drew.alloc (.cells (old ++ new ++ Builtin.zeroCells zv.cells (grownCap w (l + n) c e - (l + n))) e), ?_, Nat.le_add_right _ _,
    by simp [Builtin.zeroCells], rfl, ⟨rfl, rfl, rfl⟩, ?_⟩
  rotate_left
  · have hlt := Nat.mod_lt (w.tape w.drawn (.appendCap (l + n) c e)) (show 0 < 2 ^ 63 - (l + n) by omega)
    simp only [grownCap, Question.cut] at hlt ⊢
    omega
  rcases hu with ⟨f, hu⟩ | hu
  · simp [Builtin.append_, run_underlying hd, run_underlying hu, Go.sizeOf, typeInfo, zeroValue, hi, hz, hsz, hn, hnot, h63, h48, Question.forced, ho1, hx1, newRow, grownCap]
  · simp [Builtin.append_, run_underlying hd, run_underlying hu, Go.sizeOf, typeInfo, zeroValue, hi, hz, hsz, hn, hnot, h63, h48, Question.forced, ho1, hx1, newRow, grownCap]

theorem run_append_in {t u e z : Nat} {i : TypeInfo} (hd : P.underlying t = some (.slice e)) (hu : (∃ f, P.underlying u = some (.slice f)) ∨ P.underlying u = some .string) (hi : P.info? e = some i) (hi1 : i.size = z)
    {ty : TypeId} {l c n : Nat} {x : Value} {new : Array Value}
    (hn : (Builtin.lenOf x).run P w = .ok n w) (hg : l + n ≤ c) (hx : (Builtin.firstCells z n x).run P w = .ok new w) {base : Option Addr}
    (hs : (match base with | some a => storeCells (a.add (l * z)) new.toList | none => pure () : Sem Unit).run P w = .ok () w') :
    (Builtin.append_ #[t, u] ty #[.slice base l c, x]).run P w = .ok (.slice base (l + n) c) w' := by
  have hsz : i.size = z := hi1
  rcases hu with ⟨f, hu⟩ | hu <;> cases base <;>
  · simp only at hs
    simp [Builtin.append_, run_underlying hd, run_underlying hu, Go.sizeOf, typeInfo, hi, hsz, hn, hg, hx]
    first | (rw [hs]; rfl) | (simpa using hs)

/-- A world whose heap is the same. -/
theorem Rel.of_heap (hR : Rel P ρ hp nx w) (e : w'.heap = w.heap) : Rel P ρ hp nx w' :=
  ⟨fun o k h hn => by rw [e]; exact hR.obj o k h hn, hR.inj, fun o k h => by rw [e]; exact hR.dom o k h, hR.new⟩

/-- More names, none of the old ones. -/
def Exn (nx : Pos) (ρ ρ' : Rho) (w : World) : Prop := Ex ρ ρ' w ∧ ∀ o, o.num < nx.num → ρ' o = ρ o

theorem Exn.refl (nx : Pos) (ρ : Rho) (w : World) : Exn nx ρ ρ w := ⟨Ex.refl ρ w, fun _ _ => rfl⟩
theorem exn_of {k : Blk} (h : Ex ρ (upd ρ nx k) w) : Exn nx ρ (upd ρ nx k) w := ⟨h, fun o ho => upd_ne k (by rintro rfl; omega)⟩

/-- What an append owes. -/
def AppOk (P : Program) (ρ : Rho) (nx : Pos) (w : World) (s : Sem Value) (e : Eff) : Prop :=
  ∃ v' w' ρ', s.run P w = .ok v' w' ∧ Exn nx ρ ρ' w ∧ Rel P ρ' e.hp e.nx w' ∧ V ρ' e.v v' ∧ Fr ρ w w'

theorem app_grow (hR : Rel P ρ hp nx w) {t u e z b : Nat} {zs : List AV} (hs : sliceElem P t = some (z, b, zs)) (hd : P.underlying t = some (.slice e))
    (hu : (∃ f, P.underlying u = some (.slice f)) ∨ P.underlying u = some .string) {ty : TypeId} {s x : AV} {s' x' : Value} (hsv : V ρ s s') (hxv : V ρ x x') {l n : Nat} {old new : List AV}
    (ho : elems hp z s = some (l, old)) (hx : elems hp z x = some (n, new)) {base : Option Addr} {c : Nat} (hs' : s' = .slice base l c) (hg : c < l + n) (hb : (l + n) * (b + 1) ≤ 1099511627776) {obj : AObj}
    (hobj : arrOf (old ++ new) z = some obj) : AppOk P ρ nx w (Builtin.append_ #[t, u] ty #[s', x']) ⟨.slo nx 0 (l + n) z, hp.set .none obj nx, nx.succ⟩ := by
  obtain ⟨e', i, v, hd', hi, hi1, hi2, hv, hzs, hsz, hlz⟩ := sliceElem_some hs
  obtain rfl : e = e' := by rw [hd] at hd'; cases hd'; rfl
  obtain ⟨ws, g1, g2, g3, g4, _⟩ := elems_ok hR hsv ho
  obtain ⟨xs, f1, f2, f3, f4, _⟩ := elems_ok hR hxv hx
  have hzz : ∃ zv, i.zero = some zv ∧ V ρ v zv := by
    unfold zeroT at hv
    simp only [hi] at hv
    cases hz : i.zero with
    | none => simp [hz] at hv
    | some zv => simp [hz] at hv; exact ⟨zv, rfl, avOf_V 4 zv v hv⟩
  obtain ⟨zv, hz1, hz2⟩ := hzz
  subst hs'
  obtain ⟨cap, rest, w', q1, q2, q3, q4, q5, q6⟩ := run_append_grow (P := P) (w := w) (ty := ty) hd hu hi hi1 hi2 hz1 f1 hg hb g2 f2
  have hcells : VL ρ (old ++ new) (ws ++ xs).toList := by rw [Array.toList_append]; exact g3.append f3
  have hobj' : ObjR P ρ ⟨w.heap.size, 0, (ws ++ xs ++ rest).size⟩ obj (.cells (ws ++ xs ++ rest) e (0, 0)) := by
    refine arrOf_ok hobj hcells (fun j v hj => ?_) (by simp) (freeCells_zero _)
    have hj' : (ws ++ xs)[j]? = some v := by rw [← Array.getElem?_toList]; exact hj
    have hlt : j < (ws ++ xs).size := by
      rcases Nat.lt_or_ge j (ws ++ xs).size with h | h
      · exact h
      · rw [Array.getElem?_eq_none h] at hj'; cases hj'
    rw [Array.getElem?_append_left hlt]; exact hj'
  refine ⟨_, w', _, q1, exn_of (ex_born rfl hR.fresh), hR.alloc q4 hobj', ?_, fr_push q4 q5⟩
  refine .slo (upd_same _ _ _) q2 (.inr ⟨Nat.le_refl _, rfl, ?_, q6⟩)
  have hl1 : ws.size = l * z := by have := g3.length; rw [g4] at this; simpa using this.symm
  have hl2 : xs.size = n * z := by have := f3.length; rw [f4] at this; simpa using this.symm
  have hzsz : zv.cells.size = zs.length := by rw [hzs]; have := (cells_of_V hz2).length; simpa using this.symm
  simp only [Array.size_append, hl1, hl2, q3, hzsz, hlz]
  have e1 : l * z + n * z + (cap - (l + n)) * z = cap * z := by rw [← Nat.add_mul, ← Nat.add_mul]; congr 1; omega
  rw [e1]; omega

/-- Cells that are stored in a block of which no more is known. -/
theorem storeCells_raw {b y : Nat} {e : TypeId} {fz : Nat × Nat} : ∀ (vs : List Value) (i : Nat) {c : Array Value} {w : World}, w.heap[b]? = some (.cells c e fz) → y + i + vs.length ≤ c.size → freeCells fz c.size →
    (∀ v ∈ vs, v.oneCell' = true) → ∃ w' c', (storeCells ⟨b, y, none⟩ vs i).run P w = .ok () w' ∧ Turned w b (.cells c' e fz) w' ∧ c'.size = c.size ∧
      ∀ j, c'[j]? = if y + i ≤ j ∧ j < y + i + vs.length then vs[j - (y + i)]? else c[j]?
  | [], i, c, w, hb, hn, hf, hv => ⟨w, c, rfl, .refl' hb, rfl, fun j => by rw [if_neg (by simp)]⟩
  | v :: vs, i, c, w, hb, hn, hf, hv => by
    simp only [List.length_cons] at hn
    have ht := turned_setCell (j := y + i) hb v
    obtain ⟨w', c', g1, g2, g3, g4⟩ := storeCells_raw (y := y) vs (i + 1) ht.at_ (by rw [Array.size_setIfInBounds]; omega) (by simpa [freeCells] using hf) fun u hu => hv u (by simp [hu])
    refine ⟨w', c', ?_, ht.trans g2, by rw [g3]; simp, fun j => ?_⟩
    · simp only [storeCells, Sem.run_bind, addr_add]
      rw [run_store_cell hb (by omega) (hf _ (by omega)) (hv v (by simp)), Result.andThen_ok]
      exact g1
    · rw [g4]
      by_cases hj : y + (i + 1) ≤ j ∧ j < y + (i + 1) + vs.length
      · rw [if_pos hj, if_pos (by simp; omega)]
        rw [show j - (y + i) = (j - (y + (i + 1))) + 1 by omega]
        simp
      · rw [if_neg hj]
        by_cases hji : j = y + i
        · subst hji
          rw [if_pos (by simp)]
          simp [show y + i < c.size by omega]
        · rw [if_neg (by simp; omega), Array.getElem?_setIfInBounds_ne (Ne.symm hji)]

theorem oneCells_V : ∀ {l : List AV} {vs : List Value}, VL ρ l vs → (∀ v ∈ l, oneCell v = true) → ∀ v ∈ vs, v.oneCell' = true
  | _, _, .nil, _, v, h => by cases h
  | _, _, .cons hv hl, h1, v, h => by
    rcases List.mem_cons.1 h with rfl | h
    · exact oneCell_V hv (h1 _ (by simp))
    · exact oneCells_V hl (fun u hu => h1 u (by simp [hu])) v h

theorem sim_app (hR : Rel P ρ hp nx w) {t u e z b : Nat} {zs : List AV} (hs : sliceElem P t = some (z, b, zs)) (hd : P.underlying t = some (.slice e))
    (hu : (∃ f, P.underlying u = some (.slice f)) ∨ P.underlying u = some .string) {ty : TypeId} {s x : AV} {s' x' : Value} (hsv : V ρ s s') (hxv : V ρ x x') {r : Eff}
    (h : appendE hp nx z b s x = some r) : AppOk P ρ nx w (Builtin.append_ #[t, u] ty #[s', x']) r := by
  obtain ⟨e', i, v, hd', hi, hi1, hi2, hv, hzs, hsz, hlz⟩ := sliceElem_some hs
  obtain rfl : e = e' := by rw [hd] at hd'; cases hd'; rfl
  unfold appendE at h
  split at h
  · cases h
  · next n new hx =>
    obtain ⟨xs, f1, f2, f3, f4, _⟩ := elems_ok hR hxv hx
    split at h
    · -- nil
      cases hsv
      split at h
      · cases h
        refine ⟨.slice none 0 0, w, ρ, ?_, Exn.refl _ _ _, hR, .snil, Fr.refl _ _⟩
        exact run_append_in (n := 0) (x := x') hd hu hi hi1 f1 (Nat.le_refl _) (f2 w rfl) rfl
      · next hn0 =>
        split at h
        · next o hb ho =>
          cases h
          have hb : n * (b + 1) ≤ 1099511627776 := ble_le hb
          have := app_grow hR hs hd hu (ty := ty) (s := .snil) (l := 0) (old := []) .snil hxv rfl hx (base := none) (c := 0) rfl (by rw [Nat.zero_add]; exact Nat.pos_of_ne_zero hn0) (by rw [Nat.zero_add]; exact hb) (obj := o) (by simpa using ho)
          simpa using this
        · cases h
    · -- a known capacity
      next o f l c y =>
      split at h
      · cases h
      · next hy =>
        rw [nbeq, decide_eq_true_iff] at hy
        subst hy
        cases hsv with
        | @slc _ _ _ _ _ yy k ho hlc hc =>
          split at h
          · next hle =>
            have hle : l + n ≤ c := ble_le hle
            split at h
            · next x1 hx1 =>
              cases h
              by_cases h0 : new = []
              · subst h0
                rw [setCells_nil] at hx1
                cases hx1
                have hxs : xs.toList = [] := by have := f3.length; exact List.length_eq_zero_iff.1 (by simpa using this.symm)
                have hg : ∀ p, (hp.set .none (hp.get .none o) o).get .none p = hp.get .none p := by
                  intro p
                  by_cases hpo : p = o
                  · rw [hpo, T.get_set_same]
                  · exact T.get_set_ne _ _ _ _ _ hpo
                refine ⟨.slice (some ⟨k.b, yy, none⟩) (l + n) c, w, ρ, ?_, Exn.refl _ _ _, ?_, .slc ho hle hc, Fr.refl _ _⟩
                · exact run_append_in hd hu hi hi1 f1 hle (f2 w rfl) (by simp only [hxs]; rfl)
                · exact ⟨fun p j e hne => by rw [hg] at hne ⊢; exact hR.obj p j e hne, fun p q k1 k2 e1 e2 h1 h2 hb => by rw [hg] at h1 h2; exact hR.inj p q k1 k2 e1 e2 h1 h2 hb,
                    hR.dom, fun p hn => by rw [hg]; exact hR.new p hn⟩
              · have hn0 : n * z ≠ 0 := by rw [← f4]; intro h9; exact h0 (List.length_eq_zero_iff.1 h9)
                have hnn : n ≠ 0 := by rintro rfl; simp at hn0
                rcases hc with hc | ⟨hf, rfl⟩
                · omega
                · have hx1' : setCells new (hp.get .none o) (f + l * z) = some x1 := hx1
                  obtain ⟨w1, g1, g2, g3⟩ := write_sim (y := f - k.sh + l * z) hR ho (fun _ => by omega) (Nat.le_trans hf (Nat.le_add_right _ _)) f3 hx1'
                  refine ⟨_, w1, ρ, run_append_in hd hu hi hi1 f1 hle (f2 w rfl) (w' := w1) ?_, Exn.refl _ _ _, g2, .slc ho hle (.inr ⟨hf, rfl⟩), g3⟩
                  simp only [addr_add]
                  exact g1
            · cases h
          · next hle =>
            have hlt : c < l + n := by
              rcases Nat.lt_or_ge c (l + n) with h9 | h9
              · exact h9
              · have := Nat.ble_eq_true_of_le h9
                have e9 : Nat.ble (Nat.add l n) c = true := this
                rw [e9] at hle; cases hle
            split at h
            · next l2 old hb hold =>
              split at h
              · next bb hbb =>
                cases h
                have hb : (l + n) * (b + 1) ≤ 1099511627776 := ble_le hb
                have hV : V ρ (.slc o f l c z) (.slice (some ⟨k.b, yy, none⟩) l c) := .slc ho hlc hc
                have hl2 : l2 = l := ((elems_ok hR hV hold).choose_spec.2.2.2.2 _ _ _ rfl).1.symm
                subst hl2
                rw [app_eq] at hbb
                exact app_grow hR hs hd hu hV hxv hold hx rfl hlt hb hbb
              · cases h
            · cases h
    · -- an unknown capacity
      next o f l y =>
      split at h
      · next hy hb =>
        rw [nbeq, decide_eq_true_iff] at hy
        subst hy
        have hb : (l + n) * (b + 1) ≤ 1099511627776 := ble_le hb
        split at h
        · next t0 lo hi0 zs0 hobj =>
          split at h
          · next h1 h2 =>
            have h1 := ble_le h1
            have h2 : f + l * z ≤ hi0 := ble_le h2
            split at h
            · next x1 hx1 =>
              cases h
              cases hsv with
              | @slo _ _ _ c _ yy k ho hlc hc =>
                obtain ⟨ob, b1, b2⟩ := hR.at ho hobj (by simp)
                cases b2 with
                | @arr _ _ _ _ c0 e0 fz ha =>
                obtain ⟨t', rfl, x2, x3, x4⟩ := setCells_arr _ _ _ _ _ _ _ hx1
                have hfr := hR.fresh
                have hxl : xs.toList.length = n * z := by rw [← f3.length, f4]
                have hlive : hp.get .none o ≠ .none := by rw [hobj]; simp
                have hsum : (l + n) * z = l * z + n * z := Nat.add_mul _ _ _
                replace x2 : ∀ j, cellAt (.arr t' f (f + (l + n) * z) zs0) j = if f + l * z ≤ j ∧ j < f + l * z + new.length then new.getD (j - (f + l * z)) .undef else cellAt (.arr t0 f (f + (l + n) * z) zs0) j := x2
                have hone : ∀ j, f ≤ j → j < f + (l + n) * z → oneCell (cellAt (.arr t' f (f + (l + n) * z) zs0) j) = true := by
                  intro j hj1 hj2
                  rw [x2, f4]
                  by_cases hjn : f + l * z ≤ j ∧ j < f + l * z + n * z
                  · rw [if_pos hjn]
                    have hlt2 : j - (f + l * z) < new.length := by omega
                    have hm : new.getD (j - (f + l * z)) .undef = new[j - (f + l * z)] := by simp [hlt2]
                    rw [hm]; exact x4 _ (List.getElem_mem hlt2)
                  · rw [if_neg hjn, cellAt_arr_in hj1 hj2]
                    have := ha.one j (by omega) (by omega)
                    rw [cellAt_arr_in (by omega) (by omega)] at this
                    exact this
                show AppOk P ρ nx w _ ⟨.slo nx f (l + n) z, (hp.set .none .none o).set .none (.arr t' f (f + (l + n) * z) zs0) nx, nx.succ⟩
                rcases Nat.lt_or_ge c (l + n) with hlt | hle
                · -- a new array
                  have hold : ∃ ws : Array Value, (∀ w' : World, w'.heap = w.heap → (Builtin.firstCells z l (.slice (some ⟨k.b, yy, none⟩) l c)).run P w' = .ok ws w') ∧ ws.size = l * z ∧
                      ∀ j, j < l * z → ∃ v, ws[j]? = some v ∧ V ρ (cellAt (.arr t0 lo hi0 zs0) (f + j)) v := by
                    by_cases h0 : l * z = 0
                    · refine ⟨#[], fun w' _ => ?_, by simp [h0], fun j hj => by omega⟩
                      simp [Builtin.firstCells, loadCells, h0, loadCellsFrom]
                    · have hl0 : l ≠ 0 := by rintro rfl; simp at h0
                      rcases hc with hc | ⟨hf, rfl, hc⟩
                      · omega
                      · have hcell : ∀ j, j < l * z → ∃ v, c0[f - k.sh + j]? = some v ∧ V ρ (cellAt (.arr t0 lo hi0 zs0) (f + j)) v := by
                          intro j hj
                          obtain ⟨v, q1, q2⟩ := ha.vs (f + j) (by omega) (by omega)
                          exact ⟨v, by rw [← q1]; congr 1; omega, q2⟩
                        refine ⟨((List.range (l * z)).map fun j => c0[f - k.sh + j]!).toArray, fun w' e => ?_, by simp, fun j hj => ?_⟩
                        · show (loadCells ⟨k.b, f - k.sh, none⟩ (l * z)).run P w' = _
                          refine run_loadCells w' _ (l * z) (fun j => c0[f - k.sh + j]!) fun j hj => ?_
                          rw [addr_add, cell_heap (by rw [e]; exact b1)]
                          obtain ⟨v, q1, _⟩ := hcell j hj
                          rw [getElem!_def, q1]
                        · obtain ⟨v, q1, q2⟩ := hcell j hj
                          refine ⟨v, ?_, q2⟩
                          simp [hj, getElem!_def, q1]
                  obtain ⟨ws, q1, q2, q3⟩ := hold
                  have hzz : ∃ zv, i.zero = some zv ∧ V ρ v zv := by
                    unfold zeroT at hv
                    simp only [hi] at hv
                    cases hz : i.zero with
                    | none => simp [hz] at hv
                    | some zv => simp [hz] at hv; exact ⟨zv, rfl, avOf_V 4 zv v hv⟩
                  obtain ⟨zv, hz1, hz2⟩ := hzz
                  obtain ⟨cap, rest, w1, r1, r2, r3, r4, r5, r6⟩ := run_append_grow (P := P) (w := w) (ty := ty) hd hu hi hi1 hi2 hz1 f1 hlt hb q1 f2
                  have hzsz : zv.cells.size = z := by rw [← hlz, hzs]; have := (cells_of_V hz2).length; simpa using this.symm
                  have hxs : xs.size = n * z := by simpa using hxl
                  let k' : Blk := ⟨w.heap.size, f, (ws ++ xs ++ rest).size⟩
                  have hobj' : ObjR P ρ k' (.arr t' f (f + (l + n) * z) zs0) (.cells (ws ++ xs ++ rest) e (0, 0)) := by
                    refine .arr ⟨freeCells_zero _, rfl, Nat.le_refl _, ?_, fun j hj1 hj2 => ?_, hone⟩
                    · show f + (l + n) * z - f ≤ (ws ++ xs ++ rest).size
                      simp only [Array.size_append, q2, hxs]; omega
                    · rw [x2, f4]
                      show ∃ v, (ws ++ xs ++ rest)[j - f]? = some v ∧ _
                      by_cases hjn : f + l * z ≤ j ∧ j < f + l * z + n * z
                      · rw [if_pos hjn]
                        have hlt2 : j - (f + l * z) < new.length := by omega
                        obtain ⟨v, u1, u2⟩ := f3.get (j - (f + l * z)) new[j - (f + l * z)] (by simp [hlt2])
                        refine ⟨v, ?_, by simpa [List.getD, hlt2] using u2⟩
                        rw [Array.getElem?_append_left (by simp [q2, hxs]; omega), Array.getElem?_append_right (by omega), q2]
                        have : j - f - l * z = j - (f + l * z) := by omega
                        rw [this]; simpa using u1
                      · rw [if_neg hjn]
                        have hj3 : j - f < l * z := by omega
                        obtain ⟨v, u1, u2⟩ := q3 (j - f) hj3
                        refine ⟨v, ?_, ?_⟩
                        · rw [Array.getElem?_append_left (by simp [q2, hxs]; omega), Array.getElem?_append_left (by omega)]; exact u1
                        · rw [show f + (j - f) = j by omega, cellAt_arr_in (by omega) (by omega)] at u2
                          rw [cellAt_arr_in hj1 hj2]; exact u2
                  refine ⟨_, w1, upd ρ nx k', r1, exn_of (ex_born rfl hfr), ((hR.kill o).named _).born rfl hfr (by rw [Pos.num_succ]; omega) r4 (by rw [T.get_set_same]; exact hobj'), ?_, fr_push r4 r5⟩
                  refine .slo (upd_same _ _ _) r2 (.inr ⟨Nat.le_refl _, by simp [k'], ?_, r6⟩)
                  show 0 + cap * z ≤ (ws ++ xs ++ rest).size
                  simp only [Array.size_append, q2, hxs, r3, hzsz]
                  have e1 : l * z + n * z + (cap - (l + n)) * z = cap * z := by rw [← Nat.add_mul, ← Nat.add_mul]; congr 1; omega
                  rw [e1]; omega
                · -- in place
                  by_cases hc0 : c = 0
                  · subst hc0
                    obtain rfl : l = 0 := by omega
                    obtain rfl : n = 0 := by omega
                    have hnil : new = [] := List.length_eq_zero_iff.1 (by rw [f4]; simp)
                    subst hnil
                    have hxs : xs.toList = [] := List.length_eq_zero_iff.1 (by rw [hxl]; simp)
                    let k' : Blk := ⟨k.b, f, k.n⟩
                    have hobj' : ObjR P ρ k' (.arr t' f (f + (0 + 0) * z) zs0) (.cells c0 e0 fz) :=
                      .arr ⟨ha.fz, ha.n, Nat.le_refl _, by simp [k'], fun j hj1 hj2 => by simp at hj2; omega, hone⟩
                    refine ⟨.slice (some ⟨k.b, yy, none⟩) (0 + 0) 0, w, upd ρ nx k', run_append_in hd hu hi hi1 f1 (Nat.le_refl _) (f2 w rfl) (by simp only [hxs]; rfl), exn_of (ex_take (k' := k') hfr ho rfl),
                      hR.take (k' := k') ho hlive rfl (.refl' b1) hobj', V.slo (k := k') (y := yy) (upd_same _ _ _) (Nat.le_refl _) (.inl rfl), Fr.refl _ _⟩
                  · rcases hc with hc | ⟨hf, rfl, hc⟩
                    · exact absurd hc hc0
                    · have hbound : f - k.sh + (l + n) * z ≤ c0.size := by
                        rw [ha.n]
                        have : (l + n) * z ≤ c * z := Nat.mul_le_mul_right z hle
                        omega
                      obtain ⟨w1, c1, g1, g2, g3, g4⟩ := storeCells_raw (P := P) (y := f - k.sh + l * z) xs.toList 0 b1 (by rw [hxl]; omega) ha.fz (oneCells_V f3 x4)
                      have hobj' : ObjR P ρ k (.arr t' f (f + (l + n) * z) zs0) (.cells c1 e0 fz) := by
                        refine .arr ⟨by rw [g3]; exact ha.fz, by rw [g3]; exact ha.n, hf, by rw [g3]; omega, fun j hj1 hj2 => ?_, hone⟩
                        rw [x2, g4, f4, hxl]
                        by_cases hjn : f + l * z ≤ j ∧ j < f + l * z + n * z
                        · rw [if_pos hjn, if_pos (by omega)]
                          have hlt2 : j - (f + l * z) < new.length := by omega
                          obtain ⟨v, u1, u2⟩ := f3.get (j - (f + l * z)) new[j - (f + l * z)] (by simp [hlt2])
                          refine ⟨v, ?_, by simpa [List.getD, hlt2] using u2⟩
                          rw [show j - k.sh - (f - k.sh + l * z + 0) = j - (f + l * z) by omega]
                          exact u1
                        · rw [if_neg hjn, if_neg (by omega)]
                          obtain ⟨v, u1, u2⟩ := ha.vs j (by omega) (by omega)
                          refine ⟨v, u1, ?_⟩
                          rw [cellAt_arr_in (by omega) (by omega)] at u2
                          rw [cellAt_arr_in hj1 hj2]; exact u2
                      refine ⟨.slice (some ⟨k.b, f - k.sh, none⟩) (l + n) c, w1, upd ρ nx k, run_append_in hd hu hi hi1 f1 hle (f2 w rfl) ?_, exn_of (ex_take hfr ho rfl),
                        hR.take ho hlive rfl g2 hobj', .slo (upd_same _ _ _) hle (.inr ⟨hf, rfl, hc⟩), g2.fr ho rfl⟩
                      simp only [addr_add]
                      exact g1
            · cases h
          · cases h
        · cases h
      · cases h
    · cases h

/-- The first elements of a slice. -/
theorem elems_pre (hR : Rel P ρ hp nx w) {z : Nat} {x : AV} {x' : Value} (hx : V ρ x x') (hns : ∀ n c, x ≠ .str n c) {n : Nat} {vs : List AV} (h : elems hp z x = some (n, vs)) :
    (Builtin.lenOf x').run P w = .ok n w ∧ vs.length = n * z ∧ ∀ m, m ≤ n → ∃ ws : Array Value, (Builtin.firstCells z m x').run P w = .ok ws w ∧ VL ρ (vs.take (m * z)) ws.toList := by
  obtain ⟨ws0, g1, _, _, g4, g5⟩ := elems_ok hR hx h
  refine ⟨g1, g4, fun m hm => ?_⟩
  have hmz : m * z ≤ n * z := Nat.mul_le_mul_right z hm
  have slice : ∀ (o : Pos) (f l y : Nat) (k : Blk) (c : Nat), ρ o = some k → (match Nat.beq z y with
      | true => (match cellsFrom (hp.get .none o) (Nat.mul l z) f with
        | some vs => some (l, vs)
        | none => none)
      | false => none) = some (n, vs) → ∀ yy, (c = 0 ∨ (k.sh ≤ f ∧ yy = f - k.sh)) → l ≤ c →
      ∃ ws : Array Value, (Builtin.firstCells z m (.slice (some ⟨k.b, yy, none⟩) l c)).run P w = .ok ws w ∧ VL ρ (vs.take (m * z)) ws.toList := by
    intro o f l y k c ho h' yy hc hlc
    split at h'
    · split at h'
      · next vs0 hvs =>
        cases h'
        by_cases h0 : m * z = 0
        · refine ⟨#[], ?_, by rw [h0]; exact .nil⟩
          simp [Builtin.firstCells, loadCells, h0, loadCellsFrom]
        · have hm0 : m ≠ 0 := by rintro rfl; simp at h0
          rcases hc with hc | ⟨hf, rfl⟩
          · omega
          · obtain ⟨us, u1, u2, u3⟩ := cells_V hR ho hf hvs
            have ht := u3.take (m * z)
            have hlen : (us.take (m * z)).length = m * z := by simp; have : us.length = n * z := u1; omega
            refine ⟨(us.take (m * z)).toArray, ?_, by simpa using ht⟩
            show (loadCells ⟨k.b, f - k.sh, none⟩ (m * z)).run P w = _
            have := run_loadCells_list (P := P) w ⟨k.b, f - k.sh, none⟩ (us.take (m * z)) (fun j v hj => by
              rw [addr_add]
              by_cases hjm : j < m * z
              · rw [List.getElem?_take_of_lt hjm] at hj; exact u2 j v hj
              · rw [List.getElem?_eq_none (by omega)] at hj; cases hj)
            rw [hlen] at this
            exact this
      · cases h'
    · cases h'
  cases hx with
  | snil =>
    have h' : some (0, ([] : List AV)) = some (n, vs) := h
    cases h'
    obtain rfl : m = 0 := by omega
    exact ⟨#[], rfl, by simpa using VL.nil⟩
  | slc ho hl hc => exact slice _ _ _ _ _ _ ho h _ hc hl
  | slo ho hl hc => exact slice _ _ _ _ _ _ ho h _ (hc.imp id fun h => ⟨h.1, h.2.1⟩) hl
  | str r => exact absurd rfl (hns _ _)
  | _ => cases h

theorem run_copy {t u e z : Nat} (hd : P.underlying t = some (.slice e)) (hz : sizeT P e = some z) {ty : TypeId} {base : Option Addr} {l c n : Nat} {x : Value} {ws : Array Value}
    (hn : (Builtin.lenOf x).run P w = .ok n w) (hx : (Builtin.firstCells z (Nat.min n l) x).run P w = .ok ws w)
    (hs : (match base with | some a => storeCells a ws.toList | none => pure () : Sem Unit).run P w = .ok () w') :
    (Builtin.copy_ #[t, u] ty #[.slice base l c, x]).run P w = .ok (goInt (Nat.min n l)) w' := by
  cases base with
  | none =>
    have hs' : w = w' := by simpa using hs
    subst hs'
    simp [Builtin.copy_, run_underlying hd, hn, run_sizeOf hz, hx]
  | some a => simp only at hs; simp [Builtin.copy_, run_underlying hd, hn, run_sizeOf hz, hx]; rw [hs]; rfl

theorem sim_cpy (hR : Rel P ρ hp nx w) {t u e z : Nat} (hd : P.underlying t = some (.slice e)) (hz : sizeT P e = some z) {ty : TypeId} {s x : AV} {s' x' : Value} (hsv : V ρ s s') (hxv : V ρ x x') {r : Eff}
    (h : (match (generalizing := false) (match (generalizing := false) x with | .str _ _ => none | x => elems hp z x), s with
    | some (n, vs), .slc o f l _ y => (match Nat.beq z y, takeN vs (Nat.mul (Nat.min n l) z) with
      | true, some vs => (match setCells vs (hp.get .none o) f with
        | some b => some (⟨.int .i64 (.ofNat (Nat.min n l)), hp.set .none b o, nx⟩ : Eff)
        | none => none)
      | _, _ => none)
    | some (n, vs), .slo o f l y => (match Nat.beq z y, takeN vs (Nat.mul (Nat.min n l) z) with
      | true, some vs => (match setCells vs (hp.get .none o) f with
        | some b => some ⟨.int .i64 (.ofNat (Nat.min n l)), hp.set .none b o, nx⟩
        | none => none)
      | _, _ => none)
    | some _, .snil => some ⟨.int .i64 (.ofNat 0), hp, nx⟩
    | _, _ => none) = some r) : AppOk P ρ nx w (Builtin.copy_ #[t, u] ty #[s', x']) r := by
  have hns : ∀ n c, x ≠ .str n c := by rintro n c rfl; simp at h
  have hnx : (match (generalizing := false) x with | .str _ _ => none | x => elems hp z x) = elems hp z x := by
    cases x <;> first | rfl | exact absurd rfl (hns _ _)
  rw [hnx] at h
  have core : ∀ (o : Pos) (f l y n : Nat) (vs : List AV) (k : Blk) (c yy : Nat), ρ o = some k → elems hp z x = some (n, vs) → l ≤ c → (c = 0 ∨ (k.sh ≤ f ∧ yy = f - k.sh)) →
      ∀ r, (match Nat.beq z y, takeN vs (Nat.mul (Nat.min n l) z) with
      | true, some vs => (match setCells vs (hp.get .none o) f with
        | some b => some (⟨.int .i64 (.ofNat (Nat.min n l)), hp.set .none b o, nx⟩ : Eff)
        | none => none)
      | _, _ => none) = some r → AppOk P ρ nx w (Builtin.copy_ #[t, u] ty #[.slice (some ⟨k.b, yy, none⟩) l c, x']) r := by
    intro o f l y n vs k c yy ho hx hlc hc r h
    obtain ⟨g1, g2, g3⟩ := elems_pre hR hxv hns hx
    obtain ⟨ws, q1, q2⟩ := g3 (Nat.min n l) (Nat.min_le_left n l)
    split at h
    · next us hy hus =>
      rw [takeN_eq] at hus
      split at hus
      · cases hus
        split at h
        · next x1 hx1 =>
          cases h
          by_cases h0 : vs.take (Nat.min n l * z) = []
          · have h0' : vs.take (Nat.mul (Nat.min n l) z) = [] := h0
            rw [h0', setCells_nil] at hx1
            cases hx1
            rw [h0] at q2
            have hws : ws.toList = [] := by have := q2.length; simpa using this.symm
            have hg : ∀ p, (hp.set .none (hp.get .none o) o).get .none p = hp.get .none p := by
              intro p
              by_cases hpo : p = o
              · rw [hpo, T.get_set_same]
              · exact T.get_set_ne _ _ _ _ _ hpo
            refine ⟨goInt (Nat.min n l), w, ρ, run_copy hd hz g1 q1 (by simp only [hws]; rfl), Exn.refl _ _ _, ?_, .int _ _, Fr.refl _ _⟩
            exact ⟨fun p j e hne => by rw [hg] at hne ⊢; exact hR.obj p j e hne, fun p q k1 k2 e1 e2 h1 h2 hb => by rw [hg] at h1 h2; exact hR.inj p q k1 k2 e1 e2 h1 h2 hb,
              hR.dom, fun p hn => by rw [hg]; exact hR.new p hn⟩
          · have hmin : Nat.min n l ≠ 0 := by intro h9; rw [h9] at h0; simp at h0
            have hl0 : l ≠ 0 := by rintro rfl; exact hmin (Nat.min_zero n)
            rcases hc with hc | ⟨hf, rfl⟩
            · omega
            · obtain ⟨w1, g5, g6, g7⟩ := write_sim hR ho (fun _ => rfl) hf q2 hx1
              exact ⟨goInt (Nat.min n l), w1, ρ, run_copy hd hz g1 q1 g5, Exn.refl _ _ _, g6, .int _ _, g7⟩
        · cases h
      · cases hus
    · cases h
  split at h
  · next n vs o f l c y hx =>
    cases hsv with
    | slc ho hl hc => exact core _ _ _ _ _ _ _ _ _ ho hx hl hc _ h
  · next n vs o f l y hx =>
    cases hsv with
    | slo ho hl hc => exact core _ _ _ _ _ _ _ _ _ ho hx hl (hc.imp id fun h => ⟨h.1, h.2.1⟩) _ h
  · next q hx =>
    cases hsv
    cases h
    obtain ⟨n, vs⟩ := q
    obtain ⟨g1, g2, g3⟩ := elems_pre hR hxv hns hx
    obtain ⟨ws, q1, q2⟩ := g3 0 (Nat.zero_le _)
    refine ⟨goInt 0, w, ρ, ?_, Exn.refl _ _ _, hR, .int _ _, Fr.refl _ _⟩
    have hm : Nat.min n 0 = 0 := Nat.min_zero n
    have := run_copy (P := P) (w := w) (w' := w) (u := u) (ty := ty) (base := none) (l := 0) (c := 0) (x := x') (ws := ws) hd hz g1 (by rw [hm]; exact q1) rfl
    rw [hm] at this
    exact this
  · cases h
theorem sim_clr (hR : Rel P ρ hp nx w) {t z b : Nat} {zs : List AV} (hs : sliceElem P t = some (z, b, zs)) {ty : TypeId} {x : AV} {x' : Value} (hxv : V ρ x x') {r : Eff}
    (h : (match (generalizing := false) x with
    | .snil => some (⟨.undef, hp, nx⟩ : Eff)
    | .slc o f l _ y => match Nat.beq z y, setCells (repl l zs) (hp.get .none o) f with
      | true, some b => some ⟨.undef, hp.set .none b o, nx⟩
      | _, _ => none
    | .slo o f l y => match Nat.beq z y, setCells (repl l zs) (hp.get .none o) f with
      | true, some b => some ⟨.undef, hp.set .none b o, nx⟩
      | _, _ => none
    | _ => none) = some r) : AppOk P ρ nx w (Builtin.clear_ #[t] ty #[x']) r := by
  obtain ⟨e, i, v, hd, hi, hi1, hi2, hv, hzs, hsz, hlz⟩ := sliceElem_some hs
  have hzz : ∃ zv, i.zero = some zv ∧ V ρ v zv := by
    unfold zeroT at hv
    simp only [hi] at hv
    cases hz : i.zero with
    | none => simp [hz] at hv
    | some zv => simp [hz] at hv; exact ⟨zv, rfl, avOf_V 4 zv v hv⟩
  obtain ⟨zv, hz1, hz2⟩ := hzz
  have hzl : VL ρ zs zv.cells.toList := by rw [hzs]; exact cells_of_V hz2
  have core : ∀ (o : Pos) (f l : Nat) (k : Blk) (c yy : Nat) (b : AObj), ρ o = some k → l ≤ c → (c = 0 ∨ (k.sh ≤ f ∧ yy = f - k.sh)) → setCells (repl l zs) (hp.get .none o) f = some b →
      AppOk P ρ nx w (Builtin.clear_ #[t] ty #[.slice (some ⟨k.b, yy, none⟩) l c]) ⟨.undef, hp.set .none b o, nx⟩ := by
    intro o f l k c yy b ho hlc hc hset
    cases l with
    | zero =>
      rw [repl_zero, setCells_nil] at hset
      cases hset
      have hg : ∀ p, (hp.set .none (hp.get .none o) o).get .none p = hp.get .none p := by
        intro p
        by_cases hpo : p = o
        · rw [hpo, T.get_set_same]
        · exact T.get_set_ne _ _ _ _ _ hpo
      refine ⟨.tuple #[], w, ρ, ?_, Exn.refl _ _ _, ?_, .undef rfl, Fr.refl _ _⟩
      · simp [Builtin.clear_, run_underlying hd]
      · exact ⟨fun p j e hne => by rw [hg] at hne ⊢; exact hR.obj p j e hne, fun p q k1 k2 e1 e2 h1 h2 hb => by rw [hg] at h1 h2; exact hR.inj p q k1 k2 e1 e2 h1 h2 hb,
          hR.dom, fun p hn => by rw [hg]; exact hR.new p hn⟩
    | succ l =>
      rcases hc with hc | ⟨hf, rfl⟩
      · omega
      · have hcell := repl_V hzl (l + 1) z hlz
        have hsz' : zv.cells.size = z := by have := hzl.length; rw [hlz] at this; simpa using this.symm
        have hcell' : VL ρ (repl (l + 1) zs) (Builtin.zeroCells zv.cells (l + 1)).toList := by
          unfold Builtin.zeroCells
          rw [hsz']
          rw [hsz'] at hcell
          exact hcell
        obtain ⟨w1, g5, g6, g7⟩ := write_sim hR ho (fun _ => rfl) hf hcell' hset
        refine ⟨.tuple #[], w1, ρ, ?_, Exn.refl _ _ _, g6, .undef rfl, g7⟩
        have hzr : ∀ w : World, (zeroValue e).run P w = .ok zv w := fun w => by simp [zeroValue, typeInfo, hi, hz1]
        simp [Builtin.clear_, run_underlying hd, hzr, g5]
  cases hxv with
  | snil =>
    cases h
    refine ⟨.tuple #[], w, ρ, ?_, Exn.refl _ _ _, hR, .undef rfl, Fr.refl _ _⟩
    simp [Builtin.clear_, run_underlying hd]
  | slc ho hl hc =>
    simp only at h
    split at h
    · next b1 hy hset =>
      cases h
      exact core _ _ _ _ _ _ _ ho hl hc hset
    · cases h
  | slo ho hl hc =>
    simp only at h
    split at h
    · next b1 hy hset =>
      cases h
      exact core _ _ _ _ _ _ _ ho hl (hc.imp id fun h => ⟨h.1, h.2.1⟩) hset
    · cases h
  | _ => cases h
end
end Am

/- Going over a map: its beginning, and its steps. -/
namespace Am
open Go

section
variable {P : Program} {ρ : Rho} {hp : T AObj} {nx : Pos} {w w' : World}

theorem run_newObj' {ob : Obj} : (newObj ob).run P w = .ok w.heap.size { w with heap := w.heap.push ob } := by
  simp [newObj, Sem.run]

theorem sim_rng (hR : Rel P ρ hp nx w) {t k e : Nat} (hd : P.underlying t = some (.map k e)) {x : AV} {x' : Value} (hx : V ρ x x') {r : Eff} (h : rangeE hp nx x = some r) : AppOk P ρ nx w (Instr.range t x') r := by
  unfold rangeE at h
  split at h
  · cases hx; cases h
    refine ⟨.pointer (some ⟨w.heap.size, 0, none⟩), { w with heap := w.heap.push (.mapIter none 0 #[] 0) }, upd ρ nx ⟨w.heap.size, 0, 0⟩, ?_, exn_of (ex_born rfl hR.fresh), hR.alloc rfl (.iterN (seen := #[])), .ptr (upd_same _ _ _) (Nat.le_refl _), fr_push rfl ⟨rfl, rfl, rfl⟩⟩
    simp [Instr.range, run_underlying hd, run_newObj']
  · next o =>
    cases hx with
    | @map _ j hj =>
    split at h
    · next es clk hm =>
      cases h
      obtain ⟨ob, b1, b2⟩ := hR.at hj hm (by simp)
      cases b2 with
      | @map _ ms _ b2 =>
      refine ⟨.pointer (some ⟨w.heap.size, 0, none⟩), { w with heap := w.heap.push (.mapIter (some j.b) clk #[] clk) }, upd ρ nx ⟨w.heap.size, 0, 0⟩, ?_, exn_of (ex_born rfl hR.fresh), hR.alloc rfl (.iter (seen := #[]) hj), .ptr (upd_same _ _ _) (Nat.le_refl _), fr_push rfl ⟨rfl, rfl, rfl⟩⟩
      simp [Instr.range, run_underlying hd, run_getObj_any b1 (by simp), run_newObj']
    · cases h
  · cases h

/-- A choice, here and there. -/
def OR (ρ : Rho) : Option AE → Option MapEntry → Prop
  | none, none => True
  | some e, some m => ER ρ e m
  | _, _ => False

theorem cands_ok {since : Nat} {seen : Array Nat} {es : List AE} {ms : Array MapEntry} (h : EL ρ es ms.toList) :
    let left := ms.filter fun e => !seen.contains e.born
    let old := left.filter (·.born < since)
    let new := left.filter (·.born ≥ since)
    let c := (if old.isEmpty then #[none] else #[]) ++ (old ++ new).map some
    (cands es since seen.toList).length = c.size ∧ ∀ (i : Nat) (oe : Option AE), (cands es since seen.toList)[i]? = some oe → ∃ om, c[i]? = some om ∧ OR ρ oe om := by
  intro left old new c
  have hleft : EL ρ (filtE (fun e => bnot (memN e.b seen.toList)) es) left.toList := by
    have := h.filt (f := fun e => bnot (memN e.b seen.toList)) (g := fun e => !seen.contains e.born) fun e m he => by
      rw [memN_eq, he.b, ← Array.contains_toList]
      cases seen.toList.contains m.born <;> rfl
    simpa [left] using this
  have hold : EL ρ (filtE (fun e => Nat.ble (Nat.succ e.b) since) (filtE (fun e => bnot (memN e.b seen.toList)) es)) old.toList := by
    have := hleft.filt (f := fun e => Nat.ble (Nat.succ e.b) since) (g := fun e => decide (e.born < since)) fun e m he => by
      rw [he.b]
      cases h1 : Nat.ble (Nat.succ m.born) since with
      | true => exact (decide_eq_true (Nat.le_of_ble_eq_true h1)).symm
      | false => exact (decide_eq_false fun h2 => by rw [Nat.ble_eq_true_of_le h2] at h1; cases h1).symm
    simpa [old] using this
  have hnew : EL ρ (filtE (fun e => Nat.ble since e.b) (filtE (fun e => bnot (memN e.b seen.toList)) es)) new.toList := by
    have := hleft.filt (f := fun e => Nat.ble since e.b) (g := fun e => decide (e.born ≥ since)) fun e m he => by
      rw [he.b]
      cases h1 : Nat.ble since m.born with
      | true => exact (decide_eq_true (Nat.le_of_ble_eq_true h1)).symm
      | false => exact (decide_eq_false fun h2 => by rw [Nat.ble_eq_true_of_le h2] at h1; cases h1).symm
    simpa [new] using this
  generalize hL : filtE (fun e => Nat.ble (Nat.succ e.b) since) (filtE (fun e => bnot (memN e.b seen.toList)) es) = lo at hold
  generalize hN : filtE (fun e => Nat.ble since e.b) (filtE (fun e => bnot (memN e.b seen.toList)) es) = ln at hnew
  have hc : cands es since seen.toList = (match nilL lo with | true => [none] | false => []) ++ (lo ++ ln).map some := by
    show app _ (mapL some (app _ _)) = _
    rw [hL, hN, app_eq, app_eq, mapL_eq]
    cases nilL lo <;> rfl
  have hall := hold.app hnew
  have hemp : nilL lo = old.isEmpty := by
    have := hold.len
    cases lo with
    | nil =>
      have h0 : old = #[] := Array.eq_empty_of_size_eq_zero (by simpa using this.symm)
      rw [h0]; rfl
    | cons a l =>
      have : old.size ≠ 0 := by simp at this; omega
      simp only [nilL]
      cases ho : old.isEmpty with
      | false => rfl
      | true => exact absurd (by simpa using ho) (fun h : old = #[] => this (by rw [h]; rfl))
  rw [hc, hemp]
  have hsome : ∀ (i : Nat) (oe : Option AE), ((lo ++ ln).map some)[i]? = some oe → ∃ om, ((old ++ new).map some)[i]? = some om ∧ OR ρ oe om := by
    intro i oe hi
    rw [List.getElem?_map] at hi
    cases hg : (lo ++ ln)[i]? with
    | none => rw [hg] at hi; cases hi
    | some e =>
      rw [hg] at hi; cases hi
      obtain ⟨m, h1, h2⟩ := hall.get i e hg
      refine ⟨some m, ?_, h2⟩
      rw [Array.getElem?_map, ← Array.getElem?_toList, Array.toList_append, h1]; rfl
  have hlen : ((lo ++ ln).map some).length = ((old ++ new).map some).size := by
    have := hall.len
    simpa using this
  cases ho : old.isEmpty with
  | false =>
    have : c = (old ++ new).map some := by
      show (if old.isEmpty = true then #[none] else #[]) ++ _ = _
      rw [ho]; simp
    rw [this]
    exact ⟨by simpa using hlen, by simpa using hsome⟩
  | true =>
    have : c = #[none] ++ (old ++ new).map some := by
      show (if old.isEmpty = true then #[none] else #[]) ++ _ = _
      rw [ho]; rfl
    rw [this]
    refine ⟨by simp only [List.length_append, hlen, Array.size_append]; rfl, fun i oe hi => ?_⟩
    cases i with
    | zero => cases hi; exact ⟨none, by rw [Array.getElem?_append_left (by simp)]; rfl, trivial⟩
    | succ i =>
      obtain ⟨om, h1, h2⟩ := hsome i oe (by simpa using hi)
      refine ⟨om, ?_, h2⟩
      rw [Array.getElem?_append_right (by simp)]
      simpa using h1

theorem cands_ne (c : Array MapEntry) (d : Array MapEntry) : 0 < ((if c.isEmpty then #[none] else #[]) ++ (c ++ d).map some : Array (Option MapEntry)).size := by
  cases h : c.isEmpty with
  | true => simp; omega
  | false =>
    have : c.size ≠ 0 := fun e => by rw [Array.isEmpty_iff_size_eq_zero.2 e] at h; cases h
    simp; omega

theorem gone_ok {seen : Array Nat} {es : List AE} {ms : Array MapEntry} {last : Nat} (h : EL ρ es ms.toList) :
    goneE es seen.toList last = (!seen.isEmpty && !ms.isEmpty && ms.all (·.born ≥ last)) := by
  have h1 : allE (fun e => Nat.ble last e.b) es = ms.all (·.born ≥ last) := by
    have := h.all (f := fun e => Nat.ble last e.b) (g := fun e => decide (e.born ≥ last)) fun e m he => by
      rw [he.b]
      cases h1 : Nat.ble last m.born with
      | true => exact (decide_eq_true (Nat.le_of_ble_eq_true h1)).symm
      | false => exact (decide_eq_false fun h2 => by rw [Nat.ble_eq_true_of_le h2] at h1; cases h1).symm
    rw [this, Array.all_toList]
  have h2 : nilL seen.toList = seen.isEmpty := by
    obtain ⟨l⟩ := seen
    cases l <;> rfl
  have h3 : nilL es = ms.isEmpty := by
    have := h.len
    obtain ⟨l⟩ := ms
    cases es with
    | nil => cases l with
      | nil => rfl
      | cons _ _ => simp at this
    | cons _ _ => cases l with
      | nil => simp at this
      | cons _ _ => rfl
  unfold goneE
  rw [h2, h3, h1]
  cases seen.isEmpty <;> cases ms.isEmpty <;> rfl

theorem sim_next (hR : Rel P ρ hp nx w) {x : AV} {x' : Value} (hx : V ρ x x') {l : List (Option AE)} (h : nextL hp x = some l) {ty : TypeId} :
    ∃ (i : Nat) (oe : Option AE) (r : Eff), l[i]? = some oe ∧ nextE hp nx x oe = some r ∧ AppOk P ρ nx w (Instr.next x' false ty) r := by
  unfold nextL at h
  split at h
  · next r =>
    cases hx with
    | @ptr _ _ kr hr hs =>
    have hs0 : 0 - kr.sh = 0 := by omega
    rw [hs0]
    split at h
    · next since seen last hobj =>
      cases h
      obtain ⟨ob, b1, b2⟩ := hR.at hr hobj (by simp)
      cases b2 with
      | @iterN _ _ seen' =>
      refine ⟨0, none, _, rfl, rfl, .tuple #[.bool false], w, ρ, ?_, Exn.refl _ _ _, hR, .tup (.cons (.bool _) .nil), Fr.refl _ _⟩
      simp [Instr.next, run_getObj_any b1 (by simp)]
    · next o since seen last hobj =>
      obtain ⟨ob, b1, b2⟩ := hR.at hr hobj (by simp)
      cases b2 with
      | @iter _ j _ _ seen' hj =>
      split at h
      · next es clk hm =>
        obtain ⟨oc, c1, c2⟩ := hR.at hj hm (by simp)
        cases c2 with
        | @map _ ms _ c2 =>
        split at h
        · cases h
        · next hgone =>
          cases h
          rw [gone_ok c2] at hgone
          have hlive : hp.get .none r ≠ .none := by rw [hobj]; simp
          obtain ⟨hlen, hget⟩ := cands_ok (since := since) (seen := seen') c2
          have hpos := cands_ne ((ms.filter fun e => !seen'.contains e.born).filter (·.born < since)) ((ms.filter fun e => !seen'.contains e.born).filter (·.born ≥ since))
          simp only [AppOk, Instr.next, Sem.run_bind, run_getObj_any b1 (by simp), Result.andThen_ok, run_getObj_any c1 (by simp), hgone, Bool.false_eq_true, if_false]
          generalize ((if (Array.filter (fun x : MapEntry => decide (x.born < since)) (Array.filter (fun e : MapEntry => !seen'.contains e.born) ms)).isEmpty = true then #[none] else #[]) ++ Array.map some (Array.filter (fun x : MapEntry => decide (x.born < since)) (Array.filter (fun e => !seen'.contains e.born) ms) ++ Array.filter (fun x : MapEntry => decide (x.born ≥ since)) (Array.filter (fun e => !seen'.contains e.born) ms)) : Array (Option MapEntry)) = C at hlen hget hpos ⊢
          obtain ⟨i, w1, hrun, hi, hw1, hsame⟩ : ∃ i w1, (choose (.mapNext C.size)).run P w = .ok i w1 ∧ i < C.size ∧ w1.heap = w.heap ∧ Same w w1 := by
            rw [run_choose]
            by_cases hf : (Question.mapNext C.size).forced = true
            · rw [if_pos hf]; exact ⟨0, w, rfl, hpos, rfl, Same.refl w⟩
            · rw [if_neg hf]; exact ⟨_, _, rfl, Nat.mod_lt _ hpos, rfl, ⟨rfl, rfl, rfl⟩⟩
          have hil : i < (cands es since seen'.toList).length := by rw [hlen]; exact hi
          have hoe : (cands es since seen'.toList)[i]? = some (cands es since seen'.toList)[i] := List.getElem?_eq_getElem hil
          generalize (cands es since seen'.toList)[i] = oe at hoe
          obtain ⟨om, hom, hor⟩ := hget i oe hoe
          have hR1 := hR.of_heap hw1
          have hfr1 : Fr ρ w w1 := ⟨by rw [hw1]; exact Nat.le_refl _, fun b _ _ => by rw [hw1], hsame.os, hsame.tape, hsame.output⟩
          cases oe with
          | none =>
            cases om with
            | some _ => exact hor.elim
            | none =>
              refine ⟨i, none, _, hoe, rfl, .tuple #[.bool false], w1, ρ, ?_, Exn.refl _ _ _, hR1, .tup (.cons (.bool _) .nil), hfr1⟩
              rw [hrun]
              simp [hom]
          | some e =>
            cases om with
            | none => exact hor.elim
            | some m =>
              have hor : ER ρ e m := hor
              have b1' : w1.heap[kr.b]? = some (.mapIter (some j.b) since seen' last) := by rw [hw1]; exact b1
              have hlt : kr.b < w1.heap.size := by
                rcases Nat.lt_or_ge kr.b w1.heap.size with h1 | h1
                · exact h1
                · rw [Array.getElem?_eq_none h1] at b1'; cases b1'
              have ht : Turned w1 kr.b (.mapIter (some j.b) since (seen'.push m.born) clk) { w1 with heap := w1.heap.setIfInBounds kr.b (.mapIter (some j.b) since (seen'.push m.born) clk) } :=
                ⟨by simp [hlt], by simp, fun c hc => by rw [Array.getElem?_setIfInBounds_ne (Ne.symm hc)], ⟨rfl, rfl, rfl⟩⟩
              have hobj' : ObjR P ρ kr (.iter (some o) since (app seen'.toList [e.b]) clk) (.mapIter (some j.b) since (seen'.push m.born) clk) := by
                have he : app seen'.toList [e.b] = (seen'.push m.born).toList := by rw [app_eq, hor.b, Array.toList_push]
                rw [he]
                exact .iter hj
              refine ⟨i, some e, ⟨.tup [.bool true, e.k, e.v], hp.set .none (.iter (some o) since (app seen'.toList [e.b]) clk) r, nx⟩, hoe, ?_, .tuple #[.bool true, m.key, m.val], _, ρ, ?_, Exn.refl _ _ _, hR1.turn hr hlive ht (fun _ => hobj'), .tup (.cons (.bool _) (.cons hor.k (.cons hor.v .nil))), ?_⟩
              · simp only [nextE, hobj, hm]
              · rw [hrun]
                have hset : (setObj kr.b (.mapIter (some j.b) since (seen'.push m.born) clk)).run P w1 = .ok () { w1 with heap := w1.heap.setIfInBounds kr.b (.mapIter (some j.b) since (seen'.push m.born) clk) } := by
                  simp [setObj, Sem.run, b1']
                simp [hom, hset]
              · exact hfr1.trans (Ex.refl _ _) (ht.fr hr rfl)
      · cases h
    · cases h
  · cases h
end
end Am

/- Operations that make objects, or write: each as one. -/
namespace Am
open Go

section
variable {P : Program} {ρ : Rho} {hp : T AObj} {nx : Pos} {w : World} {tm : T AV} {a : Act}

/-- What an operation owes that makes an object. -/
def AllocN (P : Program) (ρ : Rho) (w : World) (s : Sem Next) (x : AObj) (k : AK) : Prop :=
  ∃ ob v' w' n, s.run P w = .ok (.value v') w' ∧ w'.heap = w.heap.push ob ∧ Same w w' ∧ ObjR P ρ ⟨w.heap.size, 0, n⟩ x ob ∧ ∀ (ρ' : Rho) (q : Pos), ρ' q = some ⟨w.heap.size, 0, n⟩ → V ρ' (mkA k q) v'

theorem allocN {s : Sem Value} {x : AObj} {k : AK} (h : AllocOk P ρ w s x k) : AllocN P ρ w (do pure (Next.value (← s))) x k := by
  obtain ⟨ob, v', w', n, h1, h2⟩ := h
  exact ⟨ob, v', w', n, by simp [h1], h2⟩

theorem bad_alloc {r : AObj × AK} (h : allocI P tm .bad = some r) : False := by cases h

theorem alloc_sim (ht : TR ρ tm a.tmps) {o : Oper} (hok : okOs o.op = true) {x : AObj} {k : AK}
    (h : allocI P tm (trO P o.op) = some (x, k)) : AllocN P ρ w (execOp a.eval o) x k := by
  have hm := okOs_mem hok
  cases hop : o.op with
  | alloc e =>
    rw [hop] at h hm
    simp only [execOp, hop]
    simp only [trO] at h
    split at h
    · next v n hz hn => exact allocN (al_al hz h)
    · exact (bad_alloc h).elim
  | box e y =>
    rw [hop] at h hm
    simp only [execOp, hop]
    simp only [trO] at h
    split at h
    · exact allocN (al_bx ht (hm y (by simp [Op.operands])) h)
    · exact (bad_alloc h).elim
  | buildSlice t n ps =>
    rw [hop] at h hm
    simp only [execOp, hop]
    have hp' : ∀ p ∈ ps.toList, okX (trX p.2) = true := fun p hp => hm p.2 (by simp only [Op.operands, List.mem_map]; exact ⟨p, hp, rfl⟩)
    simp only [trO] at h
    split at h
    · next z b zs hs =>
      split at h
      · next qs hq => exact allocN (al_bls ht hp' hs hq h)
      · exact (bad_alloc h).elim
    · exact (bad_alloc h).elim
  | makeMap t r =>
    rw [hop] at h hm
    simp only [execOp, hop]
    cases r with
    | none =>
      have h' : some (AObj.map [] 0, AK.map) = some (x, k) := h
      cases h'
      exact allocN al_mkm
    | some r => exact (bad_alloc h).elim
  | makeSlice t l c =>
    rw [hop] at h hm
    simp only [execOp, hop]
    simp only [trO] at h
    split at h
    · next z b zs hs => exact allocN (al_mks ht (hm l (by simp [Op.operands])) (hm c (by simp [Op.operands])) hs h)
    · exact (bad_alloc h).elim
  | convert s d y =>
    rw [hop] at h hm
    simp only [execOp, hop]
    simp only [trO] at h
    have hk : cvK P s d = .s2b := by
      cases hc : cvK P s d with
      | s2b => rfl
      | _ => rw [hc] at h; cases h
    rw [hk] at h
    unfold cvK at hk
    split at hk
    · cases hk
    · cases hk
    · next e hs hd =>
      split at hk
      · next he => exact allocN (al_s2b ht (hm y (by simp [Op.operands])) hs hd he h)
      · cases hk
    · split at hk <;> cases hk
    · cases hk
  | move y => rw [hop] at h; cases h
  | assign y => rw [hop] at h; cases h
  | pick c y z => rw [hop] at h; cases h
  | build t ps =>
    rw [hop] at h
    simp only [trO] at h
    split at h
    · split at h
      · split at h <;> cases h
      · cases h
    · split at h
      · split at h <;> cases h
      · cases h
    · cases h
  | load t y => rw [hop] at h; simp only [trO] at h; split at h <;> cases h
  | nilCheck y => rw [hop] at h; cases h
  | binOp op t y z yt => rw [hop] at h; cases h
  | unOp op t y => rw [hop] at h; simp only [trO] at h; split at h <;> cases h
  | makeInterface t y => rw [hop] at h; simp only [trO] at h; split at h <;> cases h
  | makeFunc fn xs ys => rw [hop] at h; simp only [trO] at h; split at h <;> cases h
  | slice t y lo hi mx => rw [hop] at h; simp only [trO] at h; split at h <;> cases h
  | fieldAddr t y f => rw [hop] at h; simp only [trO] at h; split at h <;> cases h
  | field t y f => rw [hop] at h; simp only [trO] at h; split at h <;> (try split at h) <;> cases h
  | indexAddr t y i => rw [hop] at h; simp only [trO] at h; split at h <;> (try split at h) <;> cases h
  | index t y i => rw [hop] at h; simp only [trO] at h; split at h <;> (try split at h) <;> cases h
  | lookup t y i ok => rw [hop] at h; simp only [trO] at h; split at h <;> cases h
  | extract y i => rw [hop] at h; cases h
  | insert t m y z => rw [hop] at h; simp only [trO] at h; split at h <;> cases h
  | store t y z => rw [hop] at h; simp only [trO] at h; split at h <;> cases h
  | mapUpdate t m y z => rw [hop] at h; simp only [trO] at h; split at h <;> cases h
  | mapEntry t m y => rw [hop] at h; simp only [trO] at h; split at h <;> cases h
  | entryStore t m s y => rw [hop] at h; cases h
  | defer c => rw [hop] at h; simp only [trO] at h; split at h <;> cases h
  | call c =>
    rw [hop] at h
    simp only [trO, trCall] at h
    split at h
    · cases h
    · cases h
    · split at h
      · split at h
        · split at h
          · cases h
          · cases h
          · cases h
          · cases h
          · split at h <;> cases h
          · cases h
        · cases h
      · split at h
        · split at h <;> cases h
        · cases h
      · split at h
        · split at h <;> cases h
        · cases h
      · split at h
        · split at h <;> cases h
        · cases h
      · split at h
        · split at h <;> cases h
        · cases h
      · cases h
      · cases h
      · cases h
  | range t x => rw [hop] at h; simp only [trO] at h; split at h <;> cases h
  | next i s => rw [hop] at h; cases s <;> cases h
  | entry i => rw [hop] at h; cases h
  | _ => rw [hop] at h; cases h

/-- What an operation owes that writes. -/
def EffN (P : Program) (ρ : Rho) (nx : Pos) (w : World) (s : Sem Next) (e : Eff) : Prop :=
  ∃ n v' w' ρ', s.run P w = .ok n w' ∧ (n = .value v' ∨ (n = .skip ∧ v' = Go.undef)) ∧ Exn nx ρ ρ' w ∧ Rel P ρ' e.hp e.nx w' ∧ V ρ' e.v v' ∧ Fr ρ w w'

theorem effN_v {s : Sem Value} {e : Eff} (h : AppOk P ρ nx w s e) : EffN P ρ nx w (do pure (Next.value (← s))) e := by
  obtain ⟨v', w', ρ', h1, h2⟩ := h
  exact ⟨.value v', v', w', ρ', by simp [h1], .inl rfl, h2⟩

theorem effN_u {s : Sem Unit} {e : Eff} (h : ∃ w', s.run P w = .ok () w' ∧ e.v = .undef ∧ e.nx = nx ∧ Rel P ρ e.hp nx w' ∧ Fr ρ w w') : EffN P ρ nx w (do s; pure Next.skip) e := by
  obtain ⟨w', h1, h2, h3, h4, h5⟩ := h
  exact ⟨.skip, Go.undef, w', ρ, by simp [h1], .inr ⟨rfl, rfl⟩, Exn.refl _ _ _, by rw [h3]; exact h4, by rw [h2]; exact .undef rfl, h5⟩

theorem bad_eff {r : Eff} (h : effI P tm hp nx .bad = some r) : False := by cases h

theorem eff_sim (hR : Rel P ρ hp nx w) (ht : TR ρ tm a.tmps) {o : Oper} (hok : okOs o.op = true) {e : Eff}
    (h : effI P tm hp nx (trO P o.op) = some e) : EffN P ρ nx w (execOp a.eval o) e := by
  have hm := okOs_mem hok
  cases hop : o.op with
  | store t x y =>
    rw [hop] at h hm
    simp only [execOp, hop]
    simp only [trO] at h
    split at h
    · next n hn => exact effN_u (sim_st hR ht (hm x (by simp [Op.operands])) (hm y (by simp [Op.operands])) hn h)
    · exact (bad_eff h).elim
  | insert t m x y =>
    rw [hop] at h hm
    simp only [execOp, hop]
    simp only [trO] at h
    split at h
    · next kt hk => exact effN_u (sim_mup hR ht (hm m (by simp [Op.operands])) (hm x (by simp [Op.operands])) (hm y (by simp [Op.operands])) hk h)
    · exact (bad_eff h).elim
  | mapUpdate t m x y =>
    rw [hop] at h hm
    simp only [execOp, hop]
    simp only [trO] at h
    split at h
    · next kt hk => exact effN_u (sim_mup hR ht (hm m (by simp [Op.operands])) (hm x (by simp [Op.operands])) (hm y (by simp [Op.operands])) hk h)
    · exact (bad_eff h).elim
  | mapEntry t m x =>
    rw [hop] at h hm
    simp only [execOp, hop]
    simp only [trO] at h
    split at h
    · next kt z hk hz =>
      obtain ⟨v', w', h1, h2, h3, h4, h5⟩ := sim_men hR ht (hm m (by simp [Op.operands])) (hm x (by simp [Op.operands])) hk hz h
      exact effN_v ⟨v', w', ρ, h1, Exn.refl _ _ _, by rw [h3]; exact h4, h2, h5⟩
    · exact (bad_eff h).elim
  | entryStore t m s x =>
    rw [hop] at h hm
    simp only [execOp, hop]
    exact effN_u (sim_mes hR ht (hm m (by simp [Op.operands])) (hm s (by simp [Op.operands])) (hm x (by simp [Op.operands])) h)
  | call c =>
    rw [hop] at h hm
    have ha : ∀ x ∈ c.args.toList, okX (trX x) = true := fun x hx => hm x (by simp [Op.operands, Call.operands]; exact .inr (by simpa using hx))
    cases hb : c.callee with
    | value f => simp only [trO, trCall, hb] at h; cases h
    | invoke r m => simp only [trO, trCall, hb] at h; cases h
    | builtin b =>
      have he : execOp a.eval o = builtin b c.argTypes o.type (c.args.map fun | .const _ => true | _ => false) (c.args.map a.eval) := by
        simp only [execOp, hop, resolve, hb]
        rfl
      rw [he]
      simp only [trO] at h
      unfold trCall at h
      rw [hb] at h
      simp only at h
      split at h
      · split at h
        · split at h
          · cases h
          · cases h
          · cases h
          · cases h
          · split at h <;> cases h
          · cases h
        · cases h
      · split at h
        · split at h <;> cases h
        · cases h
      · -- append
        next s x hx =>
        have hsa := ha s (by rw [hx]; simp)
        have hxa := ha x (by rw [hx]; simp)
        rw [arr2 hx, show Array.map a.eval #[s, x] = #[a.eval s, a.eval x] from by simp]
        split at h
        · next t u hts =>
          rw [arr2 hts]
          split at h
          · next z b zs f hs hu =>
            obtain ⟨e', i, v, hd', -⟩ := sliceElem_some hs
            exact effN_v (sim_app hR hs hd' (.inl ⟨f, hu⟩) (ev_V ht s hsa) (ev_V ht x hxa) h)
          · next z b zs hs hu =>
            obtain ⟨e', i, v, hd', -⟩ := sliceElem_some hs
            exact effN_v (sim_app hR hs hd' (.inr hu) (ev_V ht s hsa) (ev_V ht x hxa) h)
          · exact (bad_eff h).elim
        · exact (bad_eff h).elim
      · -- copy
        next s x hx =>
        have hsa := ha s (by rw [hx]; simp)
        have hxa := ha x (by rw [hx]; simp)
        rw [arr2 hx, show Array.map a.eval #[s, x] = #[a.eval s, a.eval x] from by simp]
        split at h
        · next t u hts =>
          rw [arr2 hts]
          split at h
          · next z b zs hs =>
            obtain ⟨e', i, v, hd', hi, hi1, hi2, hv, hzs, hsz, hlz⟩ := sliceElem_some hs
            exact effN_v (sim_cpy hR hd' hsz (ev_V ht s hsa) (ev_V ht x hxa) h)
          · exact (bad_eff h).elim
        · exact (bad_eff h).elim
      · -- clear
        next x hx =>
        have hxa := ha x (by rw [hx]; simp)
        rw [arr1 hx, show Array.map a.eval #[x] = #[a.eval x] from by simp]
        split at h
        · next t hts =>
          rw [arr1 hts]
          split at h
          · next z b zs hs => exact effN_v (sim_clr hR hs (ev_V ht x hxa) h)
          · exact (bad_eff h).elim
        · exact (bad_eff h).elim
      · cases h
      · cases h
      · cases h
  | alloc y => rw [hop] at h; simp only [trO] at h; split at h <;> cases h
  | box y z => rw [hop] at h; simp only [trO] at h; split at h <;> cases h
  | buildSlice t n ps => rw [hop] at h; simp only [trO] at h; split at h <;> (try split at h) <;> cases h
  | makeMap t r => rw [hop] at h; simp only [trO] at h; split at h <;> cases h
  | makeSlice t l c => rw [hop] at h; simp only [trO] at h; split at h <;> cases h
  | convert s d y => rw [hop] at h; cases h
  | move y => rw [hop] at h; cases h
  | assign y => rw [hop] at h; cases h
  | pick c y z => rw [hop] at h; cases h
  | build t ps =>
    rw [hop] at h
    simp only [trO] at h
    split at h
    · split at h
      · split at h <;> cases h
      · cases h
    · split at h
      · split at h <;> cases h
      · cases h
    · cases h
  | load t y => rw [hop] at h; simp only [trO] at h; split at h <;> cases h
  | nilCheck y => rw [hop] at h; cases h
  | binOp op t y z yt => rw [hop] at h; cases h
  | unOp op t y => rw [hop] at h; simp only [trO] at h; split at h <;> cases h
  | makeInterface t y => rw [hop] at h; simp only [trO] at h; split at h <;> cases h
  | makeFunc fn xs ys => rw [hop] at h; simp only [trO] at h; split at h <;> cases h
  | slice t y lo hi mx => rw [hop] at h; simp only [trO] at h; split at h <;> cases h
  | fieldAddr t y f => rw [hop] at h; simp only [trO] at h; split at h <;> cases h
  | field t y f => rw [hop] at h; simp only [trO] at h; split at h <;> (try split at h) <;> cases h
  | indexAddr t y i => rw [hop] at h; simp only [trO] at h; split at h <;> (try split at h) <;> cases h
  | index t y i => rw [hop] at h; simp only [trO] at h; split at h <;> (try split at h) <;> cases h
  | lookup t y i ok => rw [hop] at h; simp only [trO] at h; split at h <;> cases h
  | extract y i => rw [hop] at h; cases h
  | defer c => rw [hop] at h; simp only [trO] at h; split at h <;> cases h
  | range t x =>
    rw [hop] at h hm
    simp only [execOp, hop]
    simp only [trO] at h
    split at h
    · next k e hd => exact effN_v (sim_rng hR hd (ev_V ht x (hm x (by simp [Op.operands]))) h)
    · exact (bad_eff h).elim
  | next i s =>
    rw [hop] at h hm
    simp only [execOp, hop]
    cases s with
    | true => cases h
    | false =>
      have h : next1 hp nx (ev tm (trX i)) = some e := h
      unfold next1 at h
      split at h
      · next c hl =>
        obtain ⟨n, oe, r, h1, h2, h3⟩ := sim_next hR (ev_V ht i (hm i (by simp [Op.operands]))) hl (ty := o.type)
        obtain rfl : oe = c := by
          cases n with
          | zero => simpa using h1.symm
          | succ n => simp at h1
        rw [h2] at h
        cases h
        exact effN_v h3
      · cases h
  | entry i => rw [hop] at h; cases h
  | _ => rw [hop] at h; cases h
end
end Am

/- The order of a drawn region: what any order that may be drawn holds. -/
namespace Am
open Go

/-- An order of what is still to be done, behind D. -/
inductive Lin (ops : Array Oper) : (Nat → Prop) → List Nat → Prop
  | nil {D : Nat → Prop} (h : ∀ i, i < ops.size → D i) : Lin ops D []
  | cons {D : Nat → Prop} {i : Nat} {rest : List Nat} (hi : i < ops.size) (hn : ¬ D i) (he : ∀ o, ops[i]? = some o → ∀ e ∈ o.after, Region.binds .any e = true → D e.on)
      (h : Lin ops (fun j => D j ∨ j = i) rest) : Lin ops D (i :: rest)

theorem countP_drop_one {p q : Nat → Bool} {i : Nat} : ∀ {l : List Nat}, l.Nodup → i ∈ l → p i = true → (∀ j, q j = (p j && decide (j ≠ i))) → l.countP q + 1 = l.countP p := by
  intro l
  induction l with
  | nil => intro _ h; cases h
  | cons a l ih =>
    intro hd hm hp hq
    rw [List.nodup_cons] at hd
    rw [List.countP_cons, List.countP_cons]
    by_cases hai : a = i
    · subst hai
      have he : l.countP q = l.countP p := by
        apply List.countP_congr
        intro j hj
        have : j ≠ a := by rintro rfl; exact hd.1 hj
        rw [hq]; simp [this]
      rw [he, hq]; simp [hp]
    · have hm' : i ∈ l := by
        rcases List.mem_cons.1 hm with h | h
        · exact absurd h.symm hai
        · exact h
      have := ih hd.2 hm' hp hq
      rw [hq a]
      simp only [hai, ne_eq, not_false_eq_true, decide_true, Bool.and_true]
      omega

theorem lin_go {ops : Array Oper} (hed : ∀ (i : Nat) o, ops[i]? = some o → ∀ e ∈ o.after, Region.binds .any e = true → e.on < i) : ∀ (fuel t : Nat) (listed : Array Bool), listed.size = ops.size →
    (List.range ops.size).countP (fun i => !listed.getD i true) ≤ fuel → Lin ops (fun i => listed.getD i false = true) (Region.linearise.go .any ops fuel t listed []) := by
  have hlt : ∀ (listed : Array Bool), listed.size = ops.size → ∀ i, i < ops.size → listed.getD i true = false ∨ listed.getD i false = true := by
    intro listed hs i hi
    have : i < listed.size := by omega
    simp only [Array.getD_eq_getD_getElem?, Array.getElem?_eq_getElem this, Option.getD_some]
    cases listed[i] <;> simp
  intro fuel
  induction fuel with
  | zero =>
    intro t listed hs hc
    rw [show Region.linearise.go .any ops 0 t listed [] = [] from rfl]
    refine .nil fun i hi => ?_
    rcases hlt listed hs i hi with h | h
    · have : (List.range ops.size).countP (fun i => !listed.getD i true) = 0 := by omega
      rw [List.countP_eq_zero] at this
      have := this i (List.mem_range.2 hi)
      rw [h] at this; simp at this
    · exact h
  | succ fuel ih =>
    intro t listed hs hc
    simp only [Region.linearise.go]
    change Lin ops _ (match (Region.ready .any ops listed)[t % (Region.ready .any ops listed).length]? with
      | some i => Region.linearise.go .any ops fuel (t / (Region.ready .any ops listed).length) (listed.setIfInBounds i true) [i]
      | none => [].reverse)
    cases hi : (Region.ready .any ops listed)[t % (Region.ready .any ops listed).length]? with
    | none =>
      have hnil : Region.ready .any ops listed = [] := by
        cases hr : Region.ready .any ops listed with
        | nil => rfl
        | cons x xs =>
          rw [hr] at hi
          have hlt : t % (x :: xs).length < (x :: xs).length := Nat.mod_lt _ (by simp)
          simp at hi
          simp at hlt
          omega
      refine .nil ?_
      have key : ∀ n i, i < n → i < ops.size → listed.getD i false = true := by
        intro n
        induction n with
        | zero => intro i h; omega
        | succ n ihn =>
          intro i hin hi2
          rcases hlt listed hs i hi2 with h | h
          · have hm : i ∈ Region.ready .any ops listed := by
              rw [mem_ready]
              refine ⟨h, ops[i], by simp [hi2], fun e he hb => ?_⟩
              have h3 := hed i ops[i] (by simp [hi2]) e he hb
              exact ihn e.on (by omega) (by omega)
            rw [hnil] at hm; cases hm
          · exact h
      exact fun i h => key (i + 1) i (by omega) h
    | some i =>
      simp only []
      rw [linearise_go_acc, List.reverse_singleton, List.singleton_append]
      have hm := mem_ready.1 (List.mem_of_getElem? hi)
      obtain ⟨h1, o, ho, h2⟩ := hm
      have hil : i < listed.size := by
        rcases Nat.lt_or_ge i listed.size with h | h
        · exact h
        · simp [Array.getElem?_eq_none h] at h1
      refine .cons (by omega) ?_ (fun o' ho' e he hb => ?_) ?_
      · simp [hil] at h1 ⊢; exact h1
      · rw [ho] at ho'; cases ho'; exact h2 e he hb
      · have hD : (fun j => listed.getD j false = true ∨ j = i) = (fun j => (listed.setIfInBounds i true).getD j false = true) := by
          funext j
          by_cases hj : j = i
          · subst hj; simp [hil]
          · rw [getD_set_ne false (Ne.symm hj)]; simp [hj]
        rw [hD]
        refine ih _ _ (by simp [hs]) ?_
        have := countP_drop_one (p := fun i => !listed.getD i true) (q := fun j => !(listed.setIfInBounds i true).getD j true) (i := i) (List.nodup_range (n := ops.size)) (List.mem_range.2 (by omega)) (by simp only [h1]; rfl) (fun j => by
          by_cases hj : j = i
          · subst hj; simp [hil]
          · rw [getD_set_ne true (Ne.symm hj)]; simp [hj])
        omega

theorem lin_schedule {ops : Array Oper} (hed : ∀ (i : Nat) o, ops[i]? = some o → ∀ e ∈ o.after, Region.binds .any e = true → e.on < i) (t : Nat) :
    Lin ops (fun _ => False) (Region.schedule true ops t) := by
  have h := lin_go hed ops.size t (Array.replicate ops.size false) (by simp) (by
    have := List.countP_le_length (p := fun i => !(Array.replicate ops.size false).getD i true) (l := List.range ops.size)
    simpa using this)
  have hD : (fun i => (Array.replicate ops.size false).getD i false = true) = (fun _ => False) := by
    funext i
    by_cases h : i < ops.size
    · simp [h]
    · simp [Array.getElem?_eq_none, h]
  rw [hD] at h
  simpa [Region.schedule, Region.linearise] using h

/-! ### Sets as numbers -/

theorem bit_eq (m i : Nat) : bit m i = m.testBit i := by
  unfold bit
  rw [Nat.testBit_eq_decide_div_mod_eq]
  show (match m / 2 ^ i % 2 with | 0 => false | _ => true) = _
  have : m / 2 ^ i % 2 < 2 := Nat.mod_lt _ (by omega)
  rcases Nat.lt_or_ge (m / 2 ^ i % 2) 1 with h | h
  · rw [show m / 2 ^ i % 2 = 0 by omega]; rfl
  · rw [show m / 2 ^ i % 2 = 1 by omega]; rfl

theorem bit_zero (i : Nat) : bit 0 i = false := by rw [bit_eq]; simp

theorem bit_pow (n i : Nat) : bit (Nat.pow 2 n) i = true ↔ n = i := by
  rw [bit_eq]
  show (2 ^ n).testBit i = true ↔ _
  rw [Nat.testBit_two_pow]; simp

theorem bit_lor (a b i : Nat) : bit (Nat.lor a b) i = true ↔ bit a i = true ∨ bit b i = true := by
  simp only [bit_eq]
  show (a ||| b).testBit i = true ↔ _
  rw [Nat.testBit_or]; simp

theorem bit_addB (s n i : Nat) : bit (addB s n) i = true ↔ bit s i = true ∨ n = i := by
  unfold addB; rw [bit_lor, bit_pow]

theorem bit_sub {a b : Nat} (h : subB a b = true) {i : Nat} (hi : bit a i = true) : bit b i = true := by
  unfold subB at h
  rw [nbeq, decide_eq_true_iff] at h
  have h' : a &&& b = a := h
  rw [bit_eq] at hi ⊢
  rw [← h', Nat.testBit_and] at hi
  simp at hi; exact hi.2

theorem bit_minus (a b i : Nat) : bit (minusB a b) i = true ↔ bit a i = true ∧ bit b i = false := by
  unfold minusB
  simp only [bit_eq]
  show (a ^^^ (a &&& b)).testBit i = true ↔ _
  rw [Nat.testBit_xor, Nat.testBit_and]
  cases a.testBit i <;> cases b.testBit i <;> simp

theorem bor_iff (a b : Bool) : bor a b = true ↔ a = true ∨ b = true := by cases a <;> cases b <;> simp [bor]

theorem allB_iff {α : Type} (f : α → Bool) : ∀ l : List α, allB f l = true ↔ ∀ x ∈ l, f x = true
  | [] => by simp [allB, lrec]
  | a :: l => by
    have ih := allB_iff f l
    have e : allB f (a :: l) = (match f a with | true => allB f l | false => false) := rfl
    rw [e]
    cases h : f a <;> simp [h, ih]

theorem posIn_iff (p : Pos) : ∀ l : List Pos, posIn p l = true ↔ p ∈ l
  | [] => by simp [posIn, lrec]
  | a :: l => by
    have ih := posIn_iff p l
    have e : posIn p (a :: l) = (match p.beq a with | true => true | false => posIn p l) := rfl
    rw [e]
    by_cases h : p = a
    · rw [(Pos.beq_iff p a).2 h]; simp [h]
    · rw [(Pos.beq_false_iff p a).2 h]; simp [h, ih]

/-! ### What is ahead of an operation -/

noncomputable def edgesB (acc : List Nat) (es : List Edge) : Nat := lrec 0 (fun (e : Edge) _ s => match Region.binds .any e with
    | true => Nat.lor (Nat.lor s (Nat.pow 2 e.on)) (nth 0 acc e.on)
    | false => s) es

noncomputable def befGo (ops : List Oper) (acc : List Nat) : List Nat :=
  lrec (fun acc => acc) (fun (o : Oper) _ ih acc => ih (app acc [edgesB acc o.after.toList])) ops acc

theorem beforeL_eq (ops : List Oper) : beforeL ops = befGo ops [] := rfl
theorem befGo_cons (o : Oper) (ops : List Oper) (acc : List Nat) : befGo (o :: ops) acc = befGo ops (acc ++ [edgesB acc o.after.toList]) := by
  rw [← app_eq]; rfl
theorem befGo_nil (acc : List Nat) : befGo [] acc = acc := rfl

theorem edgesB_bit (acc : List Nat) (D : Nat → Prop) (hacc : ∀ n, D n → ∀ b, bit (nth 0 acc n) b = true → D b) : ∀ (es : List Edge), (∀ e ∈ es, Region.binds .any e = true → D e.on) → ∀ b, bit (edgesB acc es) b = true → D b
  | [], _, b, h => by rw [show edgesB acc [] = 0 from rfl, bit_zero] at h; cases h
  | e :: es, hd, b, h => by
    have ih := edgesB_bit acc D hacc es (fun x hx => hd x (by simp [hx])) b
    have he : edgesB acc (e :: es) = (match Region.binds .any e with
      | true => Nat.lor (Nat.lor (edgesB acc es) (Nat.pow 2 e.on)) (nth 0 acc e.on)
      | false => edgesB acc es) := rfl
    rw [he] at h
    cases hb : Region.binds .any e with
    | false => rw [hb] at h; exact ih h
    | true =>
      rw [hb] at h
      simp only [bit_lor, bit_pow] at h
      have h0 := hd e (by simp) hb
      rcases h with (h | h) | h
      · exact ih h
      · rw [← h]; exact h0
      · exact hacc _ h0 b h

theorem befGo_spec (all : List Oper) (D : Nat → Prop) (hD : ∀ i o, D i → all[i]? = some o → ∀ e ∈ o.after.toList, Region.binds .any e = true → D e.on) :
    ∀ (ops : List Oper) (acc : List Nat), (∀ i o, ops[i]? = some o → all[acc.length + i]? = some o) →
      (∀ i o b, i < acc.length → all[i]? = some o → (∀ e ∈ o.after.toList, Region.binds .any e = true → D e.on) → bit (nth 0 acc i) b = true → D b) → acc.length + ops.length ≤ all.length →
      ∀ i o b, i < acc.length + ops.length → all[i]? = some o → (∀ e ∈ o.after.toList, Region.binds .any e = true → D e.on) → bit (nth 0 (befGo ops acc) i) b = true → D b
  | [], acc, _, hacc, _, i, o, b, hi, ho, he, hb => by rw [befGo_nil] at hb; exact hacc i o b (by simpa using hi) ho he hb
  | x :: ops, acc, hops, hacc, hlen, i, o, b, hi, ho, he, hb => by
    rw [befGo_cons] at hb
    refine befGo_spec all D hD ops _ (fun i o h => ?_) (fun i o b hi ho he hb => ?_) (by simp at hlen ⊢; omega) i o b (by simp at hi ⊢; omega) ho he hb
    · have := hops (i + 1) o (by simpa using h)
      simp; rw [show acc.length + 1 + i = acc.length + (i + 1) by omega]; exact this
    · rw [nth_eq] at hb
      by_cases hia : i < acc.length
      · rw [List.getD_eq_getElem?_getD, List.getElem?_append_left hia, ← List.getD_eq_getElem?_getD, ← nth_eq] at hb
        exact hacc i o b hia ho he hb
      · have : i = acc.length := by simp at hi; omega
        subst this
        have hx := hops 0 x rfl
        simp only [Nat.add_zero] at hx
        rw [hx] at ho; cases ho
        simp only [List.getD_eq_getElem?_getD, List.getElem?_concat_length, Option.getD_some] at hb
        refine edgesB_bit acc D (fun n hn b hb => ?_) _ he b hb
        by_cases hna : n < acc.length
        · have hna' : n < all.length := by omega
          exact hacc n all[n] b hna (by simp [hna']) (fun e he hb => hD n all[n] hn (by simp [hna']) e he hb) hb
        · rw [nth_eq, List.getD_eq_getElem?_getD, List.getElem?_eq_none (by omega)] at hb
          rw [Option.getD_none, bit_zero] at hb; cases hb

theorem before_closed {ops : List Oper} {D : Nat → Prop} (hD : ∀ i o, D i → ops[i]? = some o → ∀ e ∈ o.after.toList, Region.binds .any e = true → D e.on) {i : Nat} {o : Oper} (ho : ops[i]? = some o)
    (he : ∀ e ∈ o.after.toList, Region.binds .any e = true → D e.on) {b : Nat} (hb : bit (nth 0 (beforeL ops) i) b = true) : D b := by
  have hi : i < ops.length := by
    rcases Nat.lt_or_ge i ops.length with h | h
    · exact h
    · rw [List.getElem?_eq_none h] at ho; cases ho
  exact befGo_spec ops D hD ops [] (fun i o h => by simpa using h) (fun i o b h => by simp at h) (by simp) i o b (by simpa using hi) ho he hb

noncomputable def poGo (P : Program) (nt : Nat) (all ops : List Oper) (bs : List Nat) (n : Nat) : List PO :=
  lrec (fun _ _ => []) (fun (o : Oper) _ ih bs n => poOf P nt all o (nth 0 bs 0) n :: ih (dropN bs 1) (Nat.succ n)) ops bs n

theorem poGo_get (P : Program) (nt : Nat) (all : List Oper) : ∀ (ops : List Oper) (bs : List Nat) (n i : Nat), (poGo P nt all ops bs n)[i]? = (ops[i]?).map fun o => poOf P nt all o (nth 0 bs i) (n + i)
  | [], bs, n, i => by simp [show poGo P nt all [] bs n = [] from rfl]
  | o :: ops, bs, n, i => by
    rw [show poGo P nt all (o :: ops) bs n = poOf P nt all o (nth 0 bs 0) n :: poGo P nt all ops (dropN bs 1) (n + 1) from rfl]
    cases i with
    | zero => simp
    | succ i =>
      have := poGo_get P nt all ops (dropN bs 1) (n + 1) i
      rw [List.getElem?_cons_succ, this, List.getElem?_cons_succ]
      congr 1
      funext o
      rw [dropN_eq]
      rw [nth_eq, nth_eq, List.getD_eq_getElem?_getD, List.getD_eq_getElem?_getD, List.getElem?_drop]
      congr 1
      · congr 2; omega
      · omega

theorem poL_get (P : Program) (nt : Nat) (ops : List Oper) (i : Nat) : (poL P nt ops)[i]? = (ops[i]?).map fun o => poOf P nt ops o (nth 0 (beforeL ops) i) i := by
  have := poGo_get P nt ops ops (beforeL ops) 0 i
  rw [Nat.zero_add] at this
  exact this
end Am

/- An operation hangs on nothing but the slots that it looks at; and equality of values. -/
namespace Am
open Go

section
variable {P : Program} {hp hp' : T AObj} {nx : Pos} {tm tm' : T AV}

theorem consO_mem {x : Option X} {l : List X} {y : X} : y ∈ consO x l ↔ x = some y ∨ y ∈ l := by
  cases x with
  | none => simp [consO]
  | some z => simp [consO, eq_comm]

theorem putParts_tm {ps : List (Nat × Nat × X)} (h : ∀ p ∈ ps, ev tm' p.2.2 = ev tm p.2.2) (l : List AV) : putParts tm' ps l = putParts tm ps l := by
  induction ps generalizing l with
  | nil => rfl
  | cons p ps ih =>
    obtain ⟨off, n, x⟩ := p
    have hx : ev tm' x = ev tm x := h (off, n, x) (by simp)
    have ih' := ih fun p hp => h p (by simp [hp])
    have e : ∀ tm : T AV, putParts tm ((off, n, x) :: ps) l = (match Nat.beq (len (cellsA (ev tm x))) n with
      | true => (match lrec (fun l _ => some l) (fun v _ ih l i => match oneCell v, isUndef (nth .undef l i) with
            | true, false => ih (setNth v l i) (Nat.succ i)
            | _, _ => none) (cellsA (ev tm x)) l off with
          | some l => putParts tm ps l
          | none => none)
      | false => none) := fun _ => rfl
    rw [e, e, hx]
    split
    · split
      · exact ih' _
      · rfl
    · rfl

theorem bound_tm {x : Option X} (h : ∀ y, x = some y → ev tm' y = ev tm y) (d : Nat) : bound tm' d x = bound tm d x := by
  cases x with
  | none => rfl
  | some y => unfold bound; simp only [h y rfl]

theorem slice_tm {k : SlK} {v : AV} {lo hi mx : Option X} (h1 : ∀ y, lo = some y → ev tm' y = ev tm y) (h2 : ∀ y, hi = some y → ev tm' y = ev tm y) (h3 : ∀ y, mx = some y → ev tm' y = ev tm y) :
    slice tm' k v lo hi mx = slice tm k v lo hi mx := by
  unfold slice
  simp only [bound_tm h1, bound_tm h2, bound_tm h3]

theorem mapL_tm {xs : List X} (h : ∀ x ∈ xs, ev tm' x = ev tm x) : mapL (ev tm') xs = mapL (ev tm) xs := by
  rw [mapL_eq, mapL_eq]; exact List.map_congr_left h

theorem pureI_tm {i : Ins} (h : ∀ x ∈ rdI i, ev tm' x = ev tm x) : pureI P tm' hp i = pureI P tm hp i := by
  cases i with
  | mkf f a c =>
    simp only [rdI, app_eq, List.mem_append] at h
    simp only [pureI]
    rw [mapL_tm fun x hx => h x (.inl hx), mapL_tm fun x hx => h x (.inr hx)]
  | slx k x lo hi mx =>
    simp only [rdI, List.mem_cons, consO_mem] at h
    simp only [pureI]
    rw [h x (.inl rfl), slice_tm (fun y hy => h y (.inr (.inl hy))) (fun y hy => h y (.inr (.inr (.inl hy)))) (fun y hy => h y (.inr (.inr (.inr (.inl hy)))))]
  | mx xs => simp only [pureI]; rw [mapL_tm (xs := xs) h]
  | bld zs ps =>
    simp only [rdI, mapL_eq, List.mem_map] at h
    simp only [pureI]
    rw [putParts_tm fun p hp => h p.2.2 ⟨p, hp, rfl⟩]
  | pick c a b => simp only [pureI, h c (by simp [rdI]), h a (by simp [rdI]), h b (by simp [rdI])]
  | _ => simp_all [pureI, rdI]

theorem allocI_tm {i : Ins} (h : ∀ x ∈ rdI i, ev tm' x = ev tm x) : allocI P tm' i = allocI P tm i := by
  cases i with
  | bls n z zs ps =>
    simp only [rdI, mapL_eq, List.mem_map] at h
    simp only [allocI]
    rw [putParts_tm fun p hp => h p.2.2 ⟨p, hp, rfl⟩]
  | cv k x => cases k <;> simp_all [allocI, rdI]
  | _ => simp_all [allocI, rdI]

theorem effI_tm {i : Ins} (h : ∀ x ∈ rdI i, ev tm' x = ev tm x) : effI P tm' hp nx i = effI P tm hp nx i := by
  cases i with
  | cpy z d s =>
    have h1 := h d (by simp [rdI])
    have h2 := h s (by simp [rdI])
    simp only [effI, h1, h2]
  | clr z zs x =>
    have h1 := h x (by simp [rdI])
    simp only [effI, h1]
  | _ => simp_all [effI, rdI]

/-! ### More objects -/

def More (hp hp' : T AObj) : Prop := ∀ o, hp.get .none o ≠ .none → hp'.get .none o = hp.get .none o

theorem cellAt_more (hm : More hp hp') {o : Pos} {f : Nat} (h : cellAt (hp.get .none o) f ≠ .undef) : hp'.get .none o = hp.get .none o := by
  refine hm o fun e => ?_
  rw [e] at h; exact h rfl

theorem cellsFrom_more (hm : More hp hp') {o : Pos} {f n : Nat} {l : List AV} (h : cellsFrom (hp.get .none o) n f = some l) : cellsFrom (hp'.get .none o) n f = some l := by
  by_cases e : hp.get .none o = .none
  · rw [e] at h
    cases n with
    | zero =>
      rw [cellsFrom_zero (by intro l; simp)] at h
      cases h
      cases hx : hp'.get .none o with
      | row l => rw [cellsFrom_row, takeN_zero]
      | _ => exact cellsFrom_zero (by intro l; simp) f
    | succ n =>
      rw [cellsFrom_succ (by intro l; simp)] at h
      cases h
  · rw [hm o e]; exact h

theorem eqV_more (hm : More hp hp') {e : EqK} {t : Nat} {x y : AV} {b : Bool} (h : eqV P hp e t x y = some b) : eqV P hp' e t x y = some b := by
  cases e with
  | ptr =>
    cases x with
    | ptr o f =>
      cases y with
      | ptr p g =>
        simp only [eqV] at h ⊢
        split at h
        · exact h
        · split at h
          · next h1 h2 =>
            have e1 : hp'.get .none o = hp.get .none o := hm o fun e => by rw [e] at h1; cases h1
            have e2 : hp'.get .none p = hp.get .none p := hm p fun e => by rw [e] at h2; cases h2
            rw [e1, e2, h1, h2]; exact h
          · cases h
      | _ => exact h
    | _ => cases y <;> exact h
  | _ => exact h

theorem bin_more (hm : More hp hp') {op : BinOp} {e : EqK} {t : Nat} {x y v : AV} (h : bin P hp op t e x y = some v) : bin P hp' op t e x y = some v := by
  have key : ∀ x y, (match (generalizing := false) op with
    | .eql => (match eqV P hp e t x y with
      | some b => some (AV.bool b)
      | none => none)
    | .neq => (match eqV P hp e t x y with
      | some b => some (AV.bool (bnot b))
      | none => none)
    | _ => none) = some v → (match (generalizing := false) op with
    | .eql => (match eqV P hp' e t x y with
      | some b => some (AV.bool b)
      | none => none)
    | .neq => (match eqV P hp' e t x y with
      | some b => some (AV.bool (bnot b))
      | none => none)
    | _ => none) = some v := by
    intro x y h
    cases op <;> simp only at h ⊢ <;> (first | cases h; done | skip)
    all_goals
      split at h
      · next b hb => rw [eqV_more hm hb]; exact h
      · cases h
  unfold bin at h ⊢
  split at h
  · exact h
  · exact h
  · exact key _ _ h

theorem pureI_more (hm : More hp hp') {i : Ins} {v : AV} (h : pureI P tm hp i = some v) : pureI P tm hp' i = some v := by
  cases i with
  | ld1 a =>
    simp only [pureI] at h ⊢
    split at h
    · next o f e =>
      split at h
      · cases h
      · next hv => 
        cases h
        rw [cellAt_more hm (o := o) (f := f) hv]
        split
        · next hv' => exact absurd hv' hv
        · rfl
    · cases h
  | ldn n a =>
    simp only [pureI] at h ⊢
    split at h
    · next o f e =>
      split at h
      · next l hl => rw [cellsFrom_more hm hl]; exact h
      · cases h
    · cases h
  | bin op t e x y => exact bin_more hm h
  | cv k x =>
    simp only [pureI] at h ⊢
    split at h
    · exact h
    · exact h
    · exact h
    · split at h
      · next hl => simp only [cellsFrom_more hm hl]; exact h
      · cases h
    · split at h
      · next hl => simp only [cellsFrom_more hm hl]; exact h
      · cases h
    · cases h
  | len k x =>
    simp only [pureI] at h ⊢
    split at h
    · exact h
    · exact h
    · exact h
    · split at h
      · exact h
      · next o e =>
        split at h
        · next es c hx => rw [hm o (by rw [hx]; simp), hx]; exact h
        · cases h
      · cases h
  | ent x =>
    have h : entE hp (ev tm x) = some v := h
    show entE hp' (ev tm x) = some v
    revert h
    generalize ev tm x = y
    intro h
    unfold entE at h
    split at h
    · next r =>
      split at h
      · next o a seen last hx =>
        split at h
        · next b es clk hb hmm =>
          unfold entE
          simp only [hm r (by rw [hx]; simp), hx, hb, hm o (by rw [hmm]; simp), hmm]
          exact h
        · cases h
      · cases h
    · cases h
  | lku kt z ok x k =>
    simp only [pureI] at h ⊢
    split at h
    · cases h
    · split at h
      · exact h
      · next o e =>
        split at h
        · next es c hx => rw [hm o (by rw [hx]; simp), hx]; exact h
        · cases h
      · cases h
  | _ => exact h

/-! ### Equality of values -/

theorem intKindBeq_eq {a b : IntKind} (h : intKindBeq a b = true) : a = b := kix_inj h

theorem avBeq_eq : ∀ (n : Nat) (a b : AV), avBeq n a b = true → a = b := by
  intro n
  induction n with
  | zero => intro a b h; cases h
  | succ n ih =>
    have all : ∀ (l m : List AV), (lrec (fun l : List AV => match l with | [] => true | _ => false) (fun x _ r l => match l with | y :: l => band (avBeq n x y) (r l) | [] => false) l : List AV → Bool) m = true → l = m := by
      intro l
      induction l with
      | nil => intro m h; cases m with
        | nil => rfl
        | cons a m => cases h
      | cons a l ihl =>
        intro m h
        cases m with
        | nil => cases h
        | cons b m =>
          have h' : band (avBeq n a b) ((lrec (fun l : List AV => match l with | [] => true | _ => false) (fun x _ r l => match l with | y :: l => band (avBeq n x y) (r l) | [] => false) l : List AV → Bool) m) = true := h
          rw [band_iff] at h'
          rw [ih a b h'.1, ihl m h'.2]
    intro a b h
    cases a <;> cases b <;> first
      | (cases h; done)
      | rfl
      | skip
    case bool.bool x y =>
      cases x <;> cases y <;> first | rfl | cases h
    case int.int k m j i =>
      have h' : band (intKindBeq k j) (eqI m i) = true := h
      rw [band_iff] at h'
      rw [intKindBeq_eq h'.1]
      have := h'.2
      rw [eqI_eq, beq_iff_eq] at this
      rw [this]
    case str.str n c m d =>
      have h' : band (Nat.beq n m) (Nat.beq c d) = true := h
      simp only [band_iff, nbeq, decide_eq_true_iff] at h'
      rw [h'.1, h'.2]
    case ptr.ptr o f p g =>
      have h' : band (o.beq p) (Nat.beq f g) = true := h
      simp only [band_iff, nbeq, decide_eq_true_iff, Pos.beq_iff] at h'
      rw [h'.1, h'.2]
    case slc.slc o f l c z o' f' l' c' z' =>
      have h' : band (o.beq o') (band (Nat.beq f f') (band (Nat.beq l l') (band (Nat.beq c c') (Nat.beq z z')))) = true := h
      simp only [band_iff, nbeq, decide_eq_true_iff, Pos.beq_iff] at h'
      obtain ⟨h1, h2, h3, h4, h5⟩ := h'
      rw [h1, h2, h3, h4, h5]
    case slo.slo o f l z o' f' l' z' =>
      have h' : band (o.beq o') (band (Nat.beq f f') (band (Nat.beq l l') (Nat.beq z z'))) = true := h
      simp only [band_iff, nbeq, decide_eq_true_iff, Pos.beq_iff] at h'
      obtain ⟨h1, h2, h3, h4⟩ := h'
      rw [h1, h2, h3, h4]
    case map.map o p => rw [(Pos.beq_iff o p).1 h]
    case fn.fn f a c f' a' c' =>
      have h' : band (Nat.beq f f') (band ((lrec (fun l : List AV => match l with | [] => true | _ => false) (fun x _ r l => match l with | y :: l => band (avBeq n x y) (r l) | [] => false) a : List AV → Bool) a') ((lrec (fun l : List AV => match l with | [] => true | _ => false) (fun x _ r l => match l with | y :: l => band (avBeq n x y) (r l) | [] => false) c : List AV → Bool) c')) = true := h
      simp only [band_iff, nbeq, decide_eq_true_iff] at h'
      rw [h'.1, all _ _ h'.2.1, all _ _ h'.2.2]
    case yld.yld o p => rw [(Pos.beq_iff o p).1 h]
    case ifc.ifc t v u w =>
      have h' : band (Nat.beq t u) (avBeq n v w) = true := h
      simp only [band_iff, nbeq, decide_eq_true_iff] at h'
      rw [h'.1, ih _ _ h'.2]
    case agg.agg l m => rw [all l m h]
    case tup.tup l m => rw [all l m h]

theorem esBeq_eq : ∀ (es fs : List AE), esBeq es fs = true → es = fs
  | [], [], _ => rfl
  | [], _ :: _, h => by cases h
  | _ :: _, [], h => by cases h
  | e :: es, f :: fs, h => by
    have h' : band (band (avBeq 6 e.k f.k) (band (avBeq 6 e.v f.v) (Nat.beq e.b f.b))) (esBeq es fs) = true := h
    simp only [band_iff, nbeq, decide_eq_true_iff] at h'
    obtain ⟨⟨h1, h2, h3⟩, h4⟩ := h'
    rw [esBeq_eq es fs h4]
    obtain ⟨k, v, b⟩ := e
    obtain ⟨k', v', b'⟩ := f
    simp only at h1 h2 h3
    rw [avBeq_eq _ _ _ h1, avBeq_eq _ _ _ h2, h3]

theorem listBeq_eq {l m : List AV} (h : listBeq l m = true) : l = m := by
  have := avBeq_eq _ _ _ h
  cases this; rfl

/-- The same in one as in the other. -/
theorem sameObj_ok {ρ : Rho} {k : Blk} {a b : AObj} {ob : Obj} (h : sameObj a b = true) (ho : ObjR P ρ k a ob) : ObjR P ρ k b ob := by
  unfold sameObj at h
  split at h
  · rw [← listBeq_eq h]; exact ho
  · next es x fs y =>
    simp only [band_iff, nbeq, decide_eq_true_iff] at h
    rw [← esBeq_eq _ _ h.2, ← h.1]; exact ho
  · next t lo hi zs t' lo' hi' zs' =>
    simp only [band_iff, nbeq, decide_eq_true_iff] at h
    obtain ⟨rfl, rfl, h⟩ := h
    split at h
    · next l m hl hm =>
      have hlm := listBeq_eq h
      subst hlm
      have g1 := cellsFrom_get _ _ _ _ hl
      have g2 := cellsFrom_get _ _ _ _ hm
      cases ho with
      | arr ho =>
        have key : ∀ i, lo ≤ i → i < hi → cellAt (.arr t' lo hi zs') i = cellAt (.arr t lo hi zs) i := by
          intro i h1 h2
          have hlt : i - lo < hi - lo := by omega
          have e1 := g1.2 (i - lo) hlt
          have e2 := g2.2 (i - lo) hlt
          rw [show lo + (i - lo) = i by omega] at e1 e2
          have := e2.1.symm.trans e1.1
          simpa using this
        refine .arr ⟨ho.fz, ho.n, ho.hlo, ho.hhi, fun i h1 h2 => ?_, fun i h1 h2 => ?_⟩
        · obtain ⟨v, h3, h4⟩ := ho.vs i h1 h2
          exact ⟨v, h3, by rw [key i h1 h2]; exact h4⟩
        · rw [key i h1 h2]; exact ho.one i h1 h2
    · cases h
  · cases h

theorem sameObj_none (a : AObj) : sameObj a .none = false := by cases a <;> rfl
end
end Am

/- A drawn region, done in any order, is as its plan says: what is kept meanwhile. -/
namespace Am
open Go

section
variable {P : Program} {ρ ρ' ρ'' : Rho} {hp : T AObj} {nx : Pos} {w w' w'' : World} {tm : T AV} {a : Act}

/-- What a stretch may do, as an older frame sees it: it knows the blocks below `lo`, the names below `nb`. -/
structure Grow (lo nb : Nat) (ρ ρ' : Rho) (w w' : World) : Prop where
  ext : Ext ρ ρ'
  low : ∀ o : Pos, o.num < nb → ρ' o = ρ o
  new : ∀ o k, ρ' o = some k → ρ o = some k ∨ (ρ o = none ∧ (lo ≤ k.b ∨ ∃ p j, ρ p = some j ∧ j.b = k.b))
  size : w.heap.size ≤ w'.heap.size
  kept : ∀ b, b < lo → (∀ o k, ρ o = some k → k.b ≠ b) → w'.heap[b]? = w.heap[b]?
  os : w'.os = w.os
  tape : w'.tape = w.tape
  output : w'.output = w.output

theorem Grow.refl (lo nb : Nat) (ρ : Rho) (w : World) : Grow lo nb ρ ρ w w :=
  ⟨Ext.refl ρ, fun _ _ => rfl, fun _ _ h => .inl h, Nat.le_refl _, fun _ _ _ => rfl, rfl, rfl, rfl⟩

theorem Grow.free {lo nb : Nat} (h : Grow lo nb ρ ρ' w w') {b : Nat} (hb : b < lo) (hf : ∀ o k, ρ o = some k → k.b ≠ b) : ∀ o k, ρ' o = some k → k.b ≠ b := by
  intro o k e
  rcases h.new o k e with h1 | ⟨-, h1 | ⟨p, j, h1, h2⟩⟩
  · exact hf o k h1
  · omega
  · rw [← h2]; exact hf p j h1

theorem Grow.trans {lo nb : Nat} (h : Grow lo nb ρ ρ' w w') (h' : Grow lo nb ρ' ρ'' w' w'') : Grow lo nb ρ ρ'' w w'' := by
  refine ⟨h.ext.trans h'.ext, fun o ho => (h'.low o ho).trans (h.low o ho), fun o k e => ?_, Nat.le_trans h.size h'.size, fun b hb hf => (h'.kept b hb (h.free hb hf)).trans (h.kept b hb hf),
    h'.os.trans h.os, h'.tape.trans h.tape, h'.output.trans h.output⟩
  rcases h'.new o k e with h1 | ⟨h0, h1⟩
  · exact h.new o k h1
  · have h00 : ρ o = none := by
      cases e : ρ o with
      | none => rfl
      | some j => rw [h.ext o j e] at h0; cases h0
    rcases h1 with h1 | ⟨p, j, h1, h2⟩
    · exact .inr ⟨h00, .inl h1⟩
    · rcases h.new p j h1 with h3 | ⟨-, h3 | ⟨q, i, h3, h4⟩⟩
      · exact .inr ⟨h00, .inr ⟨p, j, h3, h2⟩⟩
      · exact .inr ⟨h00, .inl (by omega)⟩
      · exact .inr ⟨h00, .inr ⟨q, i, h3, h4.trans h2⟩⟩

theorem Grow.weaken {lo nb lo' nb' : Nat} (h : Grow lo nb ρ ρ' w w') (hl : lo' ≤ lo) (hn : nb' ≤ nb) : Grow lo' nb' ρ ρ' w w' :=
  ⟨h.ext, fun o ho => h.low o (by omega), fun o k e => (h.new o k e).imp id fun h => ⟨h.1, h.2.imp (fun h => by omega) id⟩, h.size, fun b hb => h.kept b (by omega), h.os, h.tape, h.output⟩

theorem grow_of {lo nb : Nat} (hx : Ex ρ ρ' w) (hn : ∀ o : Pos, o.num < nb → ρ' o = ρ o) (hf : Fr ρ w w') (hl : lo ≤ w.heap.size) : Grow lo nb ρ ρ' w w' :=
  ⟨hx.ext, hn, fun o k e => (hx.new o k e).imp id fun h => ⟨h.1, h.2.imp (fun h => by omega) id⟩, hf.size, fun b hb hf' => hf.kept b (by omega) hf', hf.os, hf.tape, hf.output⟩

/-! ### Single steps -/

variable {b : Frame} {k : List Item} {cs : List Frame} {ops : Array Oper} {i : Nat} {rest : List Nat} {o : Oper}

theorem stepR_value {n : Next} {v' : Value} (ho : ops[i]? = some o) (hw : Region.wanted o (yielded ops a.tmps) = true) (hnd : ∀ c, o.op ≠ .defer c)
    (hr : (execOp a.eval o).run P w = .ok n w') (hn : n = .value v' ∨ (n = .skip ∧ v' = Go.undef)) :
    Go.step P (lone (b.atR a (.inRegion ops (i :: rest) :: k)) cs w) = Stepped.next (lone (b.atR (a.put o.dst v') (.inRegion ops rest :: k)) cs w') := by
  have hg := stepGR_op (P := P) (b := b) (k := k) (cs := cs) (w := w) (rest := rest) ho hw
  rw [Oper.semAt_eq _ _ _ hnd] at hg
  have hfin : (b.atR a (.inRegion ops (i :: rest) :: k)).finish v' = b.atR (a.put o.dst v') (.inRegion ops rest :: k) := by
    rw [Frame.finish_atR, ho]; rfl
  refine step_lone_go ?_
  rw [hg, ← hfin]
  rcases hn with rfl | ⟨rfl, rfl⟩ <;> simp [stepG.apply, hr]

theorem stepR_unwanted (ho : ops[i]? = some o) (hw : Region.wanted o (yielded ops a.tmps) = false) :
    Go.step P (lone (b.atR a (.inRegion ops (i :: rest) :: k)) cs w) = Stepped.next (lone (b.atR (a.put o.dst Go.undef) (.inRegion ops rest :: k)) cs w) := by
  have := stepR_op_skip (P := P) (b := b) (a := a) (k := k) (cs := cs) (w := w) (ops := ops) (i := i) (rest := rest) (by simp [ho, hw])
  simpa [ho] using this

theorem put_TR {nt : Nat} {dst : Option Tmp} {d : Option Pos} (hd : trD nt dst = some d) (hsz : nt ≤ a.tmps.size) {v : AV} {v' : Value} (ht : TR ρ tm a.tmps) (hv : V ρ v v') :
    TR ρ (setD d v tm) (a.put dst v').tmps := by
  cases dst with
  | none => cases hd; exact ht
  | some t =>
    unfold trD at hd
    simp only at hd
    split at hd
    · next hle =>
      cases hd
      rw [Nat.ble_eq] at hle
      exact ht.set hv t (by omega)
    · cases hd

theorem put_size (dst : Option Tmp) (v : Value) : (a.put dst v).tmps.size = a.tmps.size := by
  cases dst <;> simp [Act.put]
theorem put_defers (dst : Option Tmp) (v : Value) : (a.put dst v).defers = a.defers := by
  cases dst <;> rfl

/-- What a translated operation is. -/
theorem trM_ok {nt : Nat} {l : List Oper} (h : isEff (clOf (trM P nt l o).i) = false ∨ (trM P nt l o).i ≠ .bad) :
    ∃ d g, trD nt o.dst = some d ∧ trG l o.guard = some g ∧ okOs o.op = true ∧ trM P nt l o = ⟨false, g, d, trO P o.op⟩ := by
  unfold trM at h ⊢
  split at h
  · next d g hd hg ho => exact ⟨d, g, hd, hg, ho, by simp [hd, hg, ho]⟩
  · rcases h with h | h
    · cases h
    · exact absurd rfl h

theorem trO_defer {c : Call} : isEff (clOf (trO P (.defer c))) = true := by
  simp only [trO]; split <;> rfl

/-- Whether an operation is wanted. -/
theorem wanted_ok {g : Option (Pos × Bool)} {x : Bool} (hg : trG ops.toList o.guard = some g) (ht : TR ρ tm a.tmps) (h : wanted tm g = some x) : Region.wanted o (yielded ops a.tmps) = x := by
  unfold trG at hg
  split at hg
  · next hgd => cases hg; cases h; simp [Region.wanted, hgd]
  · next j bb hgd =>
    split at hg
    · next oj hj =>
      split at hg
      · next t htj =>
        cases hg
        have hv := ht t
        have hy : yielded ops a.tmps j = (match a.tmps[t]? with | some (.bool b) => some b | _ => none) := by
          unfold yielded
          have : ops[j]? = some oj := by simpa using hj
          simp only [this, Option.bind_some, htj]
          rfl
        unfold wanted at h
        simp only at h
        split at h
        · next c hc =>
          rw [hc] at hv
          cases h
          have hb : a.tmps[t]? = some (.bool c) := by
            generalize hx : a.tmps.getD t Go.undef = x at hv
            cases hv
            rw [Array.getD_eq_getD_getElem?] at hx
            cases e : a.tmps[t]? with
            | none => rw [e] at hx; cases hx
            | some y => rw [e] at hx; simp at hx; rw [hx]
          rw [hb] at hy
          simp only [Region.wanted, hgd, hy]
          cases bb <;> cases c <;> rfl
        · next hc =>
          rw [hc] at hv
          cases h
          have hb : ∀ z, a.tmps[t]? ≠ some (.bool z) := by
            intro z e
            rw [Array.getD_eq_getD_getElem?, e] at hv
            cases hv
          have : yielded ops a.tmps j = none := by
            rw [hy]
            split
            · next z e => exact absurd e (hb z)
            · rfl
          simp only [Region.wanted, hgd, this]
          rfl
        · cases h
      · cases hg
    · cases hg

/-! ### The region -/

/-- What is known of a region's plan. -/
structure RI (P : Program) (nt : Nat) (ops : Array Oper) (l : List PO) (pr : Option Pair) : Prop where
  get : ∀ i p, l[i]? = some p → p.n = i ∧ p.rd = rdM p.m ∧ ∃ o, ops[i]? = some o ∧ p.bef = nth 0 (beforeL ops.toList) i ∧ ((∀ r, pr = some r → i ≠ r.m ∧ i ≠ r.i) → p.m = trM P nt ops.toList o)
  len : l.length = ops.size
  one : ∀ p ∈ l, (∀ r, pr = some r → p.n ≠ r.m) → okOne p = true
  pair : ∀ p ∈ l, ∀ q ∈ l, (∀ r, pr = some r → p.n ≠ r.m ∧ q.n ≠ r.m) → okPair p q = true
  ed : ∀ (i : Nat) o, ops[i]? = some o → ∀ e ∈ o.after, Region.binds .any e = true → e.on < i
  prI : ∀ r, pr = some r → r.m ≠ r.i ∧ r.t < nt ∧ ∃ ty kt k v oi pi, ops[r.i]? = some oi ∧ oi.op = .insert ty (.tmp r.t) k v ∧ oi.dst = none ∧ oi.guard = none ∧ keyK P ty = some kt ∧
    okX (trX k) = true ∧ okX (trX v) = true ∧ k ≠ .tmp r.t ∧ v ≠ .tmp r.t ∧ l[r.i]? = some pi ∧ pi.m = ⟨false, none, some (posOf r.t), .mk1 kt (trX k) (trX v)⟩ ∧ pi.ch = false ∧ bit pi.bef r.m = true
  prU : ∀ r, pr = some r → ∀ p ∈ l, p.n ≠ r.i → p.m.d ≠ some (posOf r.t)
  prM : ∀ r, pr = some r → ∃ ty om pm, ops[r.m]? = some om ∧ om.op = .makeMap ty none ∧ om.dst = some r.t ∧ om.guard = none ∧ l[r.m]? = some pm ∧ pm.m.d = none ∧ pm.ch = true ∧ pm.bef = 0

/-- Slots that hold in the run what they don't hold here. -/
def Off (l : List PO) (pr : Option Pair) (E : Nat) (D : Nat → Prop) (t : Pos) : Prop :=
  (∃ q ∈ l, bit E q.n = true ∧ ¬ D q.n ∧ q.m.d = some t) ∨ ∃ r, pr = some r ∧ ¬ D r.i ∧ t = posOf r.t

/-- What an operation answered here, it answers still. -/
def Valid (P : Program) (tm : T AV) (hp : T AObj) (m : MOp) : Prop :=
  (wanted tm m.g = some true ∧ ∃ t, m.d = some t ∧ ((clOf m.i = .pure ∧ pureI P tm hp m.i = some (tm.get .undef t)) ∨
    (clOf m.i = .alloc ∧ ∃ x kk q, allocI P tm m.i = some (x, kk) ∧ tm.get .undef t = mkA kk q ∧ (hp.get .none q = x ∨ sameObj x (hp.get .none q) = true)))) ∨
  (wanted tm m.g = some false ∧ ∃ t, m.d = some t ∧ tm.get .undef t = .tup [])

/-- What is still to come, in the run. -/
def Late (l : List PO) (E : Nat) (D : Nat → Prop) (p : PO) : Prop := p ∈ l ∧ p.ch = false ∧ bit E p.n = true ∧ ¬ D p.n

/-- The object of a slot that a late operation makes. -/
def LateO (l : List PO) (E : Nat) (D : Nat → Prop) (tm : T AV) (p : PO) (q : Pos) : Prop :=
  Late l E D p ∧ clOf p.m.i = .alloc ∧ ∃ t, p.m.d = some t ∧ objOf (tm.get .undef t) = some q

structure DI (P : Program) (ops : Array Oper) (l : List PO) (pr : Option Pair) (lo nb : Nat) (ρ : Rho) (w : World) (nx : Pos) (hp : T AObj) (tm : T AV) (tmps : Array Value) (E M V : Nat) (D : Nat → Prop) : Prop where
  dE : ∀ i, D i → bit E i = true
  dl : ∀ i, D i → i < ops.size
  chD : ∀ p ∈ l, p.ch = true → bit E p.n = true → (∀ r, pr = some r → p.n ≠ r.m) → D p.n
  eM : ∀ p, Late l E D p → bit M p.n = true
  bE : ∀ p ∈ l, bit E p.n = true → ∀ j, bit p.bef j = true → bit E j = true
  cl : ∀ i o, D i → ops.toList[i]? = some o → ∀ e ∈ o.after.toList, Region.binds .any e = true → D e.on
  ts : ∃ tms, TR ρ tms tmps ∧ ∀ t, ¬ Off l pr E D t → tms.get .undef t = tm.get .undef t
  val : ∀ p, Late l E D p → bit V p.n = true → Valid P tm hp p.m
  unb : ∀ p q, LateO l E D tm p q → ρ q = none ∧ nb ≤ q.num ∧ q.num < nx.num
  dis : ∀ p p' q, LateO l E D tm p q → LateO l E D tm p' q → p.n = p'.n
  prS : ∀ r, pr = some r → D r.m → ¬ D r.i → ∃ c, tmps.getD r.t Go.undef = .map (some c) ∧ w.heap[c]? = some (.map #[] 0) ∧ (∀ o k, ρ o = some k → k.b ≠ c) ∧ lo ≤ c
  prE : ∀ r, pr = some r → bit E r.m = true

variable {l : List PO} {pr : Option Pair} {nt lo nb : Nat} {E M V' : Nat} {D : Nat → Prop} {tmps tmps' : Array Value}

theorem RI.mem (hI : RI P nt ops l pr) {p : PO} (hp : p ∈ l) : l[p.n]? = some p := by
  obtain ⟨i, hi, e⟩ := List.mem_iff_getElem.1 hp
  have h1 : l[i]? = some p := by rw [← e]; simp [hi]
  have := (hI.get i p h1).1
  rw [this]; exact h1

theorem RI.same (hI : RI P nt ops l pr) {p q : PO} (hp : p ∈ l) (hq : q ∈ l) (e : p.n = q.n) : p = q := by
  have h1 := hI.mem hp
  have h2 := hI.mem hq
  rw [e, h2] at h1; cases h1; rfl

theorem RI.at (hI : RI P nt ops l pr) {i : Nat} (hi : i < ops.size) : ∃ p, l[i]? = some p ∧ p ∈ l ∧ p.n = i := by
  have : i < l.length := by rw [hI.len]; exact hi
  exact ⟨l[i], by simp [this], List.getElem_mem this, (hI.get i _ (by simp [this])).1⟩

/-- What is ahead of an operation whose turn it is has been done. -/
theorem DI.ahead (hI : RI P nt ops l pr) (h : DI P ops l pr lo nb ρ w nx hp tm tmps E M V' D) {p : PO} (hp : p ∈ l)
    (he : ∀ o, ops[p.n]? = some o → ∀ e ∈ o.after, Region.binds .any e = true → D e.on) {j : Nat} (hj : bit p.bef j = true) : D j := by
  obtain ⟨-, -, o, ho, hb, -⟩ := hI.get _ _ (hI.mem hp)
  rw [hb] at hj
  exact before_closed h.cl (o := o) (by simpa using ho) (fun e h1 h2 => he o ho e (by simpa using h1) h2) hj

theorem DI.ahead' (hI : RI P nt ops l pr) (h : DI P ops l pr lo nb ρ w nx hp tm tmps E M V' D) {p : PO} (hp : p ∈ l) (hd : D p.n) {j : Nat} (hj : bit p.bef j = true) : D j :=
  h.ahead hI hp (fun o ho e h1 h2 => h.cl p.n o hd (by simpa using ho) e (by simpa using h1) h2) hj

/-- A slot that an operation looks at, when its turn has come, holds what it holds here. -/
theorem DI.reads (hI : RI P nt ops l pr) (h : DI P ops l pr lo nb ρ w nx hp tm tmps E M V' D) {p : PO} (hp : p ∈ l) (hm : ∀ r, pr = some r → p.n ≠ r.m)
    (hown : p.ch = false ∨ bit E p.n = false) (ha : ∀ j, bit p.bef j = true → D j) {t : Pos} (ht : t ∈ rdM p.m) : ¬ Off l pr E D t := by
  have hrd : t ∈ p.rd := by rw [(hI.get _ _ (hI.mem hp)).2.1]; exact ht
  have own : p.ch = false → p.m.d = some t → False := by
    intro hc hd
    have := hI.one p hp hm
    unfold okOne at this
    rw [hc, hd] at this
    rw [bor_iff] at this
    rcases this with h1 | h1
    · cases h1
    · split at h1
      · next u he hu =>
        cases hu
        rw [(posIn_iff t p.rd).2 hrd] at h1; cases h1
      · cases h1
  -- another one that writes the slot
  have other : ∀ q ∈ l, q.n ≠ p.n → q.m.d = some t → (∀ r, pr = some r → q.n ≠ r.m) → bit p.bef q.n = true ∨ (q.ch = true ∧ bit q.bef p.n = true) := by
    intro q hq hne hd hqm
    have hpr := hI.pair p hp q hq fun r hr => ⟨hm r hr, hqm r hr⟩
    unfold okPair at hpr
    have hne' : Nat.beq p.n q.n = false := by rw [nbeq]; simp; exact fun e => hne e.symm
    rw [hne', hd] at hpr
    simp only at hpr
    split at hpr
    · next hb =>
      rw [bor_iff, band_iff] at hb
      exact hb
    · rw [(posIn_iff t p.rd).2 hrd] at hpr; cases hpr
  rintro (⟨q, hq, hE, hnd, hd⟩ | ⟨r, hr, hnd, rfl⟩)
  · by_cases e : q.n = p.n
    · have := hI.same hq hp e
      subst this
      rcases hown with h1 | h1
      · exact own h1 hd
      · rw [hE] at h1; cases h1
    · have hqm : ∀ r, pr = some r → q.n ≠ r.m := by
        intro r hr e2
        obtain ⟨ty, om, pm, -, -, -, -, h1, h2, -, -⟩ := hI.prM r hr
        have h3 := hI.mem hq
        rw [e2, h1] at h3; cases h3
        rw [h2] at hd; cases hd
      rcases other q hq e hd hqm with h1 | ⟨h1, h2⟩
      · exact hnd (ha _ h1)
      · exact hnd (h.chD q hq h1 hE hqm)
  · obtain ⟨hmi, -, ty, kt, kk, vv, oi, pi, -, -, -, -, -, -, -, -, -, h1, h2, h3, -⟩ := hI.prI r hr
    have hpi : pi ∈ l := List.mem_of_getElem? h1
    have hpin := (hI.get _ _ h1).1
    by_cases e : pi.n = p.n
    · have := hI.same hpi hp e
      subst this
      exact own h3 (by rw [h2])
    · rcases other pi hpi e (by rw [h2]) (fun r' hr' => by rw [hr] at hr'; cases hr'; rw [hpin]; exact fun e => hmi e.symm) with h4 | ⟨h4, -⟩
      · exact hnd (by rw [← hpin]; exact ha _ h4)
      · rw [h3] at h4; cases h4

/-- One is done. -/
theorem DI.next (h : DI P ops l pr lo nb ρ w nx hp tm tmps E M V' D) {j : Nat} (hj : j < ops.size) (hE : bit E j = true) (hed : ∀ o, ops[j]? = some o → ∀ e ∈ o.after, Region.binds .any e = true → D e.on)
    (ht : ∃ tms, TR ρ' tms tmps' ∧ ∀ t, ¬ Off l pr E (fun i => D i ∨ i = j) t → tms.get .undef t = tm.get .undef t)
    (hu : ∀ p q, LateO l E (fun i => D i ∨ i = j) tm p q → ρ' q = none)
    (hp' : ∀ r, pr = some r → (D r.m ∨ r.m = j) → ¬ (D r.i ∨ r.i = j) → ∃ c, tmps'.getD r.t Go.undef = .map (some c) ∧ w'.heap[c]? = some (.map #[] 0) ∧ (∀ o k, ρ' o = some k → k.b ≠ c) ∧ lo ≤ c) :
    DI P ops l pr lo nb ρ' w' nx hp tm tmps' E M V' (fun i => D i ∨ i = j) := by
  have late : ∀ p, Late l E (fun i => D i ∨ i = j) p → Late l E D p := fun p ⟨h1, h2, h3, h4⟩ => ⟨h1, h2, h3, fun hd => h4 (.inl hd)⟩
  have lateO : ∀ p q, LateO l E (fun i => D i ∨ i = j) tm p q → LateO l E D tm p q := fun p q ⟨h1, h2⟩ => ⟨late p h1, h2⟩
  refine ⟨fun i hi => ?_, fun i hi => ?_, fun p h1 h2 h3 h4 => .inl (h.chD p h1 h2 h3 h4), fun p hl => h.eM p (late p hl), h.bE, fun i o hi ho e h1 h2 => .inl ?_, ht, fun p hl hv => h.val p (late p hl) hv,
    fun p q hl => ⟨hu p q hl, (h.unb p q (lateO p q hl)).2⟩, fun p p' q h1 h2 => h.dis p p' q (lateO p q h1) (lateO p' q h2), hp', h.prE⟩
  · rcases hi with hi | rfl
    · exact h.dE i hi
    · exact hE
  · rcases hi with hi | rfl
    · exact h.dl i hi
    · exact hj
  · rcases hi with hi | rfl
    · exact h.cl i o hi ho e h1 h2
    · exact hed o (by simpa using ho) e (by simpa using h1) h2

theorem off_next {j : Nat} {t : Pos} {p : PO} (hI : RI P nt ops l pr) (hp : p ∈ l) (hj : p.n = j) (h : Off l pr E D t) (hne : p.m.d ≠ some t) : Off l pr E (fun i => D i ∨ i = j) t := by
  rcases h with ⟨q, h1, h2, h3, h4⟩ | ⟨r, h1, h2, h3⟩
  · refine .inl ⟨q, h1, h2, ?_, h4⟩
    rintro (h5 | h5)
    · exact h3 h5
    · have := hI.same h1 hp (h5.trans hj.symm)
      subst this
      exact hne h4
  · refine .inr ⟨r, h1, ?_, h3⟩
    rintro (h5 | h5)
    · exact h2 h5
    · obtain ⟨-, -, ty, kt, kk, vv, oi, pi, -, -, -, -, -, -, -, -, -, g1, g2, -⟩ := hI.prI r h1
      have hpi : pi ∈ l := List.mem_of_getElem? g1
      have hpin := (hI.get _ _ g1).1
      have := hI.same hpi hp (by rw [hpin, h5, hj])
      subst this
      exact hne (by rw [g2, h3])
end
end Am

/- A drawn region: one late operation is done. -/
namespace Am
open Go

section
variable {P : Program} {ρ : Rho} {hp : T AObj} {nx : Pos} {w : World} {tm : T AV} {a : Act} {b : Frame} {k : List Item} {cs : List Frame} {ops : Array Oper} {i : Nat} {rest : List Nat}
  {l : List PO} {pr : Option Pair} {nt lo nb : Nat} {E M V' : Nat} {D : Nat → Prop}

/-- What one late operation leaves. -/
def Late1 (P : Program) (ops : Array Oper) (l : List PO) (pr : Option Pair) (lo nb : Nat) (ρ : Rho) (w : World) (nx : Pos) (hp : T AObj) (tm : T AV) (a : Act) (E M V : Nat) (D : Nat → Prop)
    (b : Frame) (k : List Item) (cs : List Frame) (i : Nat) (rest : List Nat) : Prop :=
  ∃ a' w' ρ', Go.step P (lone (b.atR a (.inRegion ops (i :: rest) :: k)) cs w) = Stepped.next (lone (b.atR a' (.inRegion ops rest :: k)) cs w') ∧ a'.defers = a.defers ∧ a'.tmps.size = a.tmps.size ∧
    Grow lo nb ρ ρ' w w' ∧ Rel P ρ' hp nx w' ∧ DI P ops l pr lo nb ρ' w' nx hp tm a'.tmps E M V (fun j => D j ∨ j = i)

theorem setD_some (t : Pos) (v : AV) (tm : T AV) : setD (some t) v tm = tm.set .undef v t := rfl

theorem ev_eq_of {tm tm' : T AV} {m : MOp} (h : ∀ t ∈ rdM m, tm'.get .undef t = tm.get .undef t) : ∀ x ∈ rdI m.i, ev tm' x = ev tm x := by
  intro x hx
  cases x with
  | t p =>
    refine h p ?_
    have key : ∀ l : List X, X.t p ∈ l → p ∈ lrec [] (fun x _ r => match x with
      | .t p => p :: r
      | _ => r) l := by
      intro l
      induction l with
      | nil => intro h; cases h
      | cons y l ih =>
        intro h
        rw [lrec_cons]
        rcases List.mem_cons.1 h with h' | h'
        · subst h'; simp
        · skip
          cases y with
          | t q => exact List.mem_cons_of_mem _ (ih h')
          | c v => exact ih h'
          | bad => exact ih h'
    unfold rdM
    simp only
    split
    · exact List.mem_cons_of_mem _ (key _ hx)
    · exact key _ hx
  | c v => rfl
  | bad => rfl

theorem wanted_eq_of {tm tm' : T AV} {m : MOp} (h : ∀ t ∈ rdM m, tm'.get .undef t = tm.get .undef t) : wanted tm' m.g = wanted tm m.g := by
  cases hg : m.g with
  | none => rfl
  | some pb =>
    obtain ⟨p, bb⟩ := pb
    have : p ∈ rdM m := by unfold rdM; rw [hg]; simp
    unfold wanted
    simp only [h p this]

theorem not_defer {P : Program} {o : Oper} (h : isEff (clOf (trO P o.op)) = false) : ∀ c, o.op ≠ .defer c := by
  intro c e
  rw [e, trO_defer] at h
  cases h

/-- The slot that a late operation fills. -/
theorem late_ts (hI : RI P nt ops l pr) (h : DI P ops l pr lo nb ρ w nx hp tm a.tmps E M V' D) {p : PO} (hp0 : p ∈ l) {t : Pos} (hd : p.m.d = some t) {tms : T AV} {v : AV}
    (hag : ∀ t, ¬ Off l pr E D t → tms.get .undef t = tm.get .undef t) (hv : v = tm.get .undef t) :
    ∀ u, ¬ Off l pr E (fun i => D i ∨ i = p.n) u → (tms.set .undef v t).get .undef u = tm.get .undef u := by
  intro u hu
  by_cases e : u = t
  · rw [e, T.get_set_same, hv]
  · rw [T.get_set_ne _ _ _ _ _ e]
    exact hag u fun ho => hu (off_next hI hp0 rfl ho (by rw [hd]; intro h; cases h; exact e rfl))

theorem late_pr (hI : RI P nt ops l pr) (h : DI P ops l pr lo nb ρ w nx hp tm a.tmps E M V' D) {p : PO} (hp0 : p ∈ l) (hpr : ∀ r, pr = some r → p.n ≠ r.m ∧ p.n ≠ r.i) (ha : ∀ j, bit p.bef j = true → D j) (hc : p.ch = false) {u : Pos} (hd : p.m.d = some u) {ρ' : Rho} {w' : World} {dst : Option Tmp} {v' : Value}
    (hdst : trD nt dst = some (some u)) (hheap : ∀ c, c < w.heap.size → w'.heap[c]? = w.heap[c]?) (hnew : ∀ o k, ρ' o = some k → ρ o = some k ∨ w.heap.size ≤ k.b) :
    ∀ r, pr = some r → (D r.m ∨ r.m = p.n) → ¬ (D r.i ∨ r.i = p.n) → ∃ c, (a.put dst v').tmps.getD r.t Go.undef = .map (some c) ∧ w'.heap[c]? = some (.map #[] 0) ∧ (∀ o k, ρ' o = some k → k.b ≠ c) ∧ lo ≤ c := by
  intro r hr h1 h2
  have hm : D r.m := h1.resolve_right fun e => (hpr r hr).1 e.symm
  have hni : ¬ D r.i := fun h => h2 (.inl h)
  obtain ⟨c, g1, g2, g3, g4⟩ := h.prS r hr hm hni
  have hcl : c < w.heap.size := by
    rcases Nat.lt_or_ge c w.heap.size with h | h
    · exact h
    · rw [Array.getElem?_eq_none h] at g2; cases g2
  refine ⟨c, ?_, by rw [hheap c hcl]; exact g2, fun o k e => ?_, g4⟩
  · -- another slot
    obtain ⟨hmi, -, ty, kt, kk, vv, oi, pi, -, -, -, -, -, -, -, -, -, q1, q2, q3, -⟩ := hI.prI r hr
    have hpi : pi ∈ l := List.mem_of_getElem? q1
    have hpin := (hI.get _ _ q1).1
    have hne : u ≠ posOf r.t := by
      intro e
      have hpair := hI.pair p hp0 pi hpi fun r' hr' => ⟨(hpr r' hr').1, by rw [hr] at hr'; cases hr'; rw [hpin]; exact fun e => hmi e.symm⟩
      unfold okPair at hpair
      have hne' : Nat.beq p.n pi.n = false := by rw [nbeq]; simp; rw [hpin]; exact (hpr r hr).2
      have hbit : bit p.bef pi.n = false := by
        cases hb : bit p.bef pi.n with
        | false => rfl
        | true => exact absurd (ha _ hb) (by rw [hpin]; exact hni)
      have hbeq : (posOf r.t).beq u = true := (Pos.beq_iff _ _).2 e.symm
      rw [hne', q2, hd, hbit, q3, hc] at hpair
      simp only [bor, band, hbeq] at hpair
      split at hpair
      · cases hpair
      · cases hpair
    unfold trD at hdst
    split at hdst
    · cases hdst
    · next t' =>
      split at hdst
      · cases hdst
        have : t' ≠ r.t := fun e => hne (by rw [e])
        simp only [Act.put]
        have : (a.tmps.setIfInBounds t' v').getD r.t Go.undef = a.tmps.getD r.t Go.undef := by
          simp [Array.getD_eq_getD_getElem?, this]
        rw [this]; exact g1
      · cases hdst
  · rcases hnew o k e with h | h
    · exact g3 o k h
    · omega

/-- A late operation that is no part of a pair. -/
theorem late1 (hI : RI P nt ops l pr) (hR : Rel P ρ hp nx w) (h : DI P ops l pr lo nb ρ w nx hp tm a.tmps E M V' D) (hsz : nt ≤ a.tmps.size) (hlo : lo ≤ w.heap.size)
    (hi : i < ops.size) (hnd : ¬ D i) (hed : ∀ o, ops[i]? = some o → ∀ e ∈ o.after, Region.binds .any e = true → D e.on) {p : PO} (hp0 : l[i]? = some p) (hc : p.ch = false) (hE : bit E i = true) (hV : bit V' i = true)
    (hpr : ∀ r, pr = some r → i ≠ r.m ∧ i ≠ r.i) : Late1 P ops l pr lo nb ρ w nx hp tm a E M V' D b k cs i rest := by
  have hpm : p ∈ l := List.mem_of_getElem? hp0
  obtain ⟨hpn, hprd, o, ho, hbef, htr⟩ := hI.get i p hp0
  subst hpn
  have hpr1 : ∀ r, pr = some r → p.n ≠ r.m := fun r hr => (hpr r hr).1
  have htr := htr hpr
  have hl : Late l E D p := ⟨hpm, hc, hE, hnd⟩
  have hval := h.val p hl hV
  have hahead : ∀ j, bit p.bef j = true → D j := fun j hj => h.ahead hI hpm hed hj
  obtain ⟨tms, hts, hag⟩ := h.ts
  have hrd : ∀ t ∈ rdM p.m, tms.get .undef t = tm.get .undef t := fun t ht => hag t (h.reads hI hpm hpr1 (.inl hc) hahead ht)
  have hone := hI.one p hpm hpr1
  unfold okOne at hone
  rw [hc, bor_iff] at hone
  have hone := hone.resolve_left (by simp)
  split at hone
  · next t hcl hd =>
    obtain ⟨d, g, hd1, hg1, hok, hm⟩ := trM_ok (o := o) (nt := nt) (l := ops.toList) (P := P) (.inl (by rw [← htr]; exact hcl))
    rw [hm] at htr
    have hpd : p.m.d = d := by rw [htr]
    have hpg : p.m.g = g := by rw [htr]
    have hpi : p.m.i = trO P o.op := by rw [htr]
    rw [hd] at hpd
    subst hpd
    have hdef : ∀ c, o.op ≠ .defer c := not_defer (P := P) (by rw [← hpi]; exact hcl)
    have hev := ev_eq_of hrd
    have hwt := wanted_eq_of hrd
    rw [hpg] at hwt
    have fin : ∀ (v : AV) (v' : Value), v = tm.get .undef t → V ρ v v' → DI P ops l pr lo nb ρ w nx hp tm (a.put o.dst v').tmps E M V' (fun j => D j ∨ j = p.n) := by
      intro v v' hv hV
      refine h.next (j := p.n) hi hE hed ⟨tms.set .undef v t, ?_, late_ts hI h hpm hd hag hv⟩ (fun p' q hq => ?_) (late_pr hI h hpm hpr hahead hc hd hd1 (fun _ _ => rfl) fun _ _ e => .inl e)
      · exact put_TR hd1 hsz hts hV
      · exact (h.unb p' q ⟨⟨hq.1.1, hq.1.2.1, hq.1.2.2.1, fun hd => hq.1.2.2.2 (.inl hd)⟩, hq.2⟩).1
    rcases hval with ⟨hw, t', hdt, hag2⟩ | ⟨hw, t', hd', hu⟩
    · have hw' : Region.wanted o (yielded ops a.tmps) = true := wanted_ok hg1 hts (by rw [hwt, ← hpg]; exact hw)
      rw [hd] at hdt; cases hdt
      rcases hag2 with ⟨hcl2, hpv⟩ | ⟨hcl2, x, kk, q, hal, hv, h2⟩
      · -- it computes or reads
        rw [← pureI_tm hev, hpi] at hpv
        obtain ⟨v', hr, hVv⟩ := pure_sim hR hts hok hpv
        exact ⟨a.put o.dst v', w, ρ, stepR_value ho hw' hdef hr (.inl rfl), put_defers _ _, put_size _ _, Grow.refl _ _ _ _, hR, fin _ v' rfl hVv⟩
      · -- it makes an object
        have hq : objOf (tm.get .undef t) = some q := by rw [hv]; cases kk <;> rfl
        rw [← allocI_tm hev, hpi] at hal
        obtain ⟨ob, v', w', n, hr, hheap, hsame, hobj, hVv⟩ := alloc_sim hts hok hal
        have hL : LateO l E D tm p q := ⟨hl, hcl2, t, hd, hq⟩
        obtain ⟨hq0, hq1, hq2⟩ := h.unb p q hL
        have hobj' : ObjR P ρ ⟨w.heap.size, 0, n⟩ (hp.get .none q) ob := by
          rcases h2 with h2 | h2
          · rw [h2]; exact hobj
          · exact sameObj_ok h2 hobj
        have hR' := hR.born (q := q) (k0 := ⟨w.heap.size, 0, n⟩) rfl hq0 hq2 hheap hobj'
        have hex := ex_born (w := w) (q := q) (k0 := ⟨w.heap.size, 0, n⟩) rfl hq0
        refine ⟨a.put o.dst v', w', upd ρ q ⟨w.heap.size, 0, n⟩, stepR_value ho hw' hdef hr (.inl rfl), put_defers _ _, put_size _ _,
          grow_of hex (fun o' ho' => upd_ne _ (by rintro rfl; omega)) (fr_push hheap hsame) hlo, hR', ?_⟩
        refine h.next (j := p.n) hi hE hed ⟨tms.set .undef (mkA kk q) t, put_TR hd1 hsz (hts.mono hex.ext) (hVv _ q (upd_same _ _ _)), late_ts hI h hpm hd hag hv.symm⟩ (fun p' q' hq' => ?_)
          (late_pr hI h hpm hpr hahead hc hd hd1 (fun c hc => by rw [hheap, Array.getElem?_push_lt hc]; simp [hc]) fun o' k' e => ?_)
        · have hlo' : LateO l E D tm p' q' := ⟨⟨hq'.1.1, hq'.1.2.1, hq'.1.2.2.1, fun hd => hq'.1.2.2.2 (.inl hd)⟩, hq'.2⟩
          have hne : q' ≠ q := by
            rintro rfl
            exact hq'.1.2.2.2 (.inr (h.dis p' p q' hlo' hL))
          rw [upd_ne _ hne]
          exact (h.unb p' q' hlo').1
        · by_cases e2 : o' = q
          · subst e2; rw [upd_same] at e; cases e; exact .inr (Nat.le_refl _)
          · rw [upd_ne _ e2] at e; exact .inl e
    · have hw' : Region.wanted o (yielded ops a.tmps) = false := wanted_ok hg1 hts (by rw [hwt, ← hpg]; exact hw)
      rw [hd] at hd'; cases hd'
      exact ⟨a.put o.dst Go.undef, w, ρ, stepR_unwanted ho hw', put_defers _ _, put_size _ _, Grow.refl _ _ _ _, hR, fin (.tup []) Go.undef hu.symm (.tup .nil)⟩
  · cases hone
end
end Am

/- A drawn region: a map that is made, and its one entry. -/
namespace Am
open Go

section
variable {P : Program} {ρ : Rho} {hp hp' : T AObj} {nx : Pos} {w w' : World} {tm : T AV} {a : Act} {b : Frame} {k : List Item} {cs : List Frame} {ops : Array Oper} {i : Nat} {rest : List Nat}
  {l : List PO} {pr : Option Pair} {nt lo nb : Nat} {E M V' : Nat} {D : Nat → Prop}

theorem Rel.push (hR : Rel P ρ hp nx w) {ob : Obj} (hw : w'.heap = w.heap.push ob) : Rel P ρ hp nx w' := by
  refine ⟨fun o k h hn => ?_, hR.inj, fun o k h => ?_, hR.new⟩
  · obtain ⟨oc, h1, h2⟩ := hR.obj o k h hn
    refine ⟨oc, ?_, h2⟩
    rw [hw, Array.getElem?_push_lt (hR.dom o k h).2, ← h1]; simp [(hR.dom o k h).2]
  · have := hR.dom o k h; rw [hw]; simp; exact ⟨this.1, by omega⟩

theorem late_m (hI : RI P nt ops l pr) (hR : Rel P ρ hp nx w) (h : DI P ops l pr lo nb ρ w nx hp tm a.tmps E M V' D) (hsz : nt ≤ a.tmps.size) (hlo : lo ≤ w.heap.size)
    (hi : i < ops.size) (hnd : ¬ D i) (hed : ∀ o, ops[i]? = some o → ∀ e ∈ o.after, Region.binds .any e = true → D e.on) (hE : bit E i = true)
    {r : Pair} (hr : pr = some r) (him : i = r.m) : Late1 P ops l pr lo nb ρ w nx hp tm a E M V' D b k cs i rest := by
  obtain ⟨hmi, htn, ty, kt, kk, vv, oi, pi, q1, q2, q3, q4, q5, q6, q7, q8, q9, q10, q11, q12, q13⟩ := hI.prI r hr
  obtain ⟨ty', om, pm, m1, m2, m3, m4, m5, m6, m7, m8⟩ := hI.prM r hr
  have hpi : pi ∈ l := List.mem_of_getElem? q10
  have hpin := (hI.get _ _ q10).1
  have hpm : pm ∈ l := List.mem_of_getElem? m5
  have hpmn := (hI.get _ _ m5).1
  have hni : ¬ D r.i := fun hd => hnd (by rw [him]; exact h.ahead' hI hpi (by rw [hpin]; exact hd) q13)
  obtain ⟨tms, hts, hag⟩ := h.ts
  have hw' : Region.wanted om (yielded ops a.tmps) = true := by simp [Region.wanted, m4]
  have hrun : (execOp a.eval om).run P w = .ok (.value (.map (some w.heap.size))) { w with heap := w.heap.push (.map #[] 0) } := by
    simp [execOp, m2, Instr.makeMap]
  have hstep := stepR_value (b := b) (k := k) (cs := cs) (rest := rest) (i := i) (by rw [him]; exact m1) hw' (by rw [m2]; intro c e; cases e) hrun (.inl rfl)
  have hheap : ({ w with heap := w.heap.push (.map #[] 0) } : World).heap = w.heap.push (.map #[] 0) := rfl
  refine ⟨_, _, ρ, hstep, put_defers _ _, put_size _ _, ?_, hR.push hheap, ?_⟩
  · refine ⟨Ext.refl ρ, fun _ _ => rfl, fun _ _ h => .inl h, by simp, fun c hc _ => ?_, rfl, rfl, rfl⟩
    have : c < w.heap.size := by omega
    show (w.heap.push (.map #[] 0))[c]? = _
    rw [Array.getElem?_push_lt this]; simp [this]
  · refine h.next hi hE hed ⟨tms.set .undef .undef (posOf r.t), ?_, fun u hu => ?_⟩ (fun p' q hq => ?_) (fun r' hr' h1 h2 => ?_)
    · have hdd : trD nt om.dst = some (some (posOf r.t)) := by
        rw [m3]; unfold trD; simp only
        rw [Nat.ble_eq_true_of_le (by omega : Nat.succ r.t ≤ nt)]
      exact put_TR hdd hsz hts (.undef rfl)
    · by_cases e : u = posOf r.t
      · refine absurd (.inr ⟨r, hr, ?_, e⟩) hu
        rintro (h1 | h1)
        · exact hni h1
        · exact hmi (by rw [← him, h1])
      · rw [T.get_set_ne _ _ _ _ _ e]
        exact hag u fun ho => hu (off_next hI hpm (by rw [hpmn, him]) ho (by rw [m6]; simp))
    · exact (h.unb p' q ⟨⟨hq.1.1, hq.1.2.1, hq.1.2.2.1, fun hd => hq.1.2.2.2 (.inl hd)⟩, hq.2⟩).1
    · rw [hr] at hr'; cases hr'
      refine ⟨w.heap.size, ?_, by simp, fun o k e => ?_, hlo⟩
      · rw [m3]
        have : r.t < a.tmps.size := by omega
        simp [Act.put, Array.getD_eq_getD_getElem?, this]
      · have := (hR.dom o k e).2; omega

/-- A name more for a block that has none. -/
theorem Rel.name (hR : Rel P ρ hp nx w) {q : Pos} {c : Nat} {x : AObj} {ob : Obj} (hq : ρ q = none) (hn : q.num < nx.num) (hc : w.heap[c]? = some ob) (hf : ∀ o k, ρ o = some k → k.b ≠ c) (ho : ObjR P ρ ⟨c, 0, 0⟩ x ob) :
    Rel P (upd ρ q ⟨c, 0, 0⟩) (hp.set .none x q) nx w := by
  have hx := ext_upd (ρ := ρ) (q := q) ⟨c, 0, 0⟩ hq
  have hcl : c < w.heap.size := by
    rcases Nat.lt_or_ge c w.heap.size with h | h
    · exact h
    · rw [Array.getElem?_eq_none h] at hc; cases hc
  refine ⟨fun o k e hne => ?_, fun o p k j e1 e2 h1 h2 hb => ?_, fun o k e => ?_, fun o ho => ?_⟩
  · by_cases h : o = q
    · subst h
      rw [upd_same] at e; cases e
      rw [T.get_set_same]
      exact ⟨ob, hc, ho.mono hx⟩
    · rw [upd_ne _ h] at e
      rw [T.get_set_ne _ _ _ _ _ h] at hne ⊢
      obtain ⟨oc, h3, h4⟩ := hR.obj o k e hne
      exact ⟨oc, h3, h4.mono hx⟩
  · by_cases ho' : o = q
    · by_cases hp' : p = q
      · rw [ho', hp']
      · subst ho'
        rw [upd_same] at e1; cases e1
        rw [upd_ne _ hp'] at e2
        exact absurd hb.symm (hf p j e2)
    · by_cases hp' : p = q
      · subst hp'
        rw [upd_same] at e2; cases e2
        rw [upd_ne _ ho'] at e1
        exact absurd hb (hf o k e1)
      · rw [upd_ne _ ho'] at e1
        rw [upd_ne _ hp'] at e2
        rw [T.get_set_ne _ _ _ _ _ ho'] at h1
        rw [T.get_set_ne _ _ _ _ _ hp'] at h2
        exact hR.inj o p k j e1 e2 h1 h2 hb
  · by_cases h : o = q
    · subst h
      rw [upd_same] at e; cases e
      exact ⟨hn, hcl⟩
    · rw [upd_ne _ h] at e; exact hR.dom o k e
  · rw [T.get_set_ne _ _ _ _ _ (by rintro rfl; omega)]
    exact hR.new o ho

theorem Rel.eq (hR : Rel P ρ hp nx w) (e : ∀ o, hp'.get .none o = hp.get .none o) : Rel P ρ hp' nx w :=
  ⟨fun o k h hn => by rw [e] at hn ⊢; exact hR.obj o k h hn, fun o p k j e1 e2 h1 h2 hb => by rw [e] at h1 h2; exact hR.inj o p k j e1 e2 h1 h2 hb, hR.dom, fun o h => by rw [e]; exact hR.new o h⟩

theorem late_i (hI : RI P nt ops l pr) (hR : Rel P ρ hp nx w) (h : DI P ops l pr lo nb ρ w nx hp tm a.tmps E M V' D) (hsz : nt ≤ a.tmps.size) (hlo : lo ≤ w.heap.size)
    (hi : i < ops.size) (hnd : ¬ D i) (hed : ∀ o, ops[i]? = some o → ∀ e ∈ o.after, Region.binds .any e = true → D e.on) (hE : bit E i = true) (hV : bit V' i = true)
    {r : Pair} (hr : pr = some r) (him : i = r.i) : Late1 P ops l pr lo nb ρ w nx hp tm a E M V' D b k cs i rest := by
  obtain ⟨hmi, htn, ty, kt, kk, vv, oi, pi, q1, q2, q3, q4, q5, q6, q7, q8, q9, q10, q11, q12, q13⟩ := hI.prI r hr
  have hpi : pi ∈ l := List.mem_of_getElem? q10
  have hpin := (hI.get _ _ q10).1
  have hl : Late l E D pi := ⟨hpi, q12, by rw [hpin, ← him]; exact hE, by rw [hpin, ← him]; exact hnd⟩
  have hval := h.val pi hl (by rw [hpin, ← him]; exact hV)
  have hahead : ∀ j, bit pi.bef j = true → D j := fun j hj => h.ahead hI hpi (by rw [hpin, ← him]; exact hed) hj
  obtain ⟨tms, hts, hag⟩ := h.ts
  have hni : ¬ D r.i := by rw [← him]; exact hnd
  have hrd : ∀ t ∈ rdM pi.m, tms.get .undef t = tm.get .undef t := fun t ht => hag t (h.reads hI hpi (fun r' hr' => by rw [hr] at hr'; cases hr'; rw [hpin]; exact fun e => hmi e.symm) (.inl q12) hahead ht)
  have hev := ev_eq_of hrd
  rw [q11] at hval hev
  have hag2 := (hval.resolve_right fun ⟨hw, _⟩ => by cases hw).2
  obtain ⟨t2, hd2, hag2⟩ := hag2
  cases hd2
  rcases hag2 with ⟨hcl, -⟩ | ⟨-, x, kd, q, hal, hv, h2⟩
  · cases hcl
  · rw [← allocI_tm hev] at hal
    have hq : objOf (tm.get .undef (posOf r.t)) = some q := by rw [hv]; cases kd <;> rfl
    · skip
      have hal' : (match keyOk P kt (ev tms (trX kk)) with
        | true => some (AObj.map [⟨ev tms (trX kk), ev tms (trX vv), 0⟩] 1, AK.map)
        | false => none) = some (x, kd) := hal
      split at hal'
      · next hkey =>
        cases hal'
        have hL : LateO l E D tm pi q := ⟨hl, by rw [q11]; rfl, posOf r.t, by rw [q11], hq⟩
        obtain ⟨hq0, hq1, hq2⟩ := h.unb pi q hL
        obtain ⟨c, g1, g2, g3, g4⟩ := h.prS r hr (hahead _ q13) hni
        have hRn := hR.name (x := .map [] 0) hq0 hq2 g2 g3 (.map .nil)
        have hex := ext_upd (ρ := ρ) (q := q) ⟨c, 0, 0⟩ hq0
        -- the slot of the map, as the run has it
        have htn' : r.t < a.tmps.size := by omega
        have htsn : TR (upd ρ q ⟨c, 0, 0⟩) (tms.set .undef (.map q) (posOf r.t)) a.tmps := by
          intro m
          by_cases e : m = r.t
          · subst e
            rw [T.get_set_same, g1]
            exact .map (k := ⟨c, 0, 0⟩) (upd_same _ _ _)
          · rw [T.get_set_ne _ _ _ _ _ fun h' => e (posOf_inj h')]
            exact (hts m).mono hex
        have hex1 : ev (tms.set .undef (.map q) (posOf r.t)) (trX (.tmp r.t)) = .map q := T.get_set_same _ _ _ _
        have hexo : ∀ y : Operand, y ≠ .tmp r.t → ev (tms.set .undef (.map q) (posOf r.t)) (trX y) = ev tms (trX y) := by
          intro y hy
          cases y with
          | tmp u => exact T.get_set_ne _ _ _ _ _ fun e => hy (by rw [posOf_inj e])
          | const v =>
            simp only [trX]
            cases avOf 4 v <;> rfl
          | func f => rfl
          | global g => rfl
        have hgq : (hp.set .none (.map [] 0) q).get .none q = .map [] 0 := T.get_set_same _ _ _ _
        obtain ⟨w', g5, g6, g7, g8, g9⟩ := sim_mup (a := a) (hR := hRn) (ht := htsn) (t := ty) (kt := kt) (x := .tmp r.t) (y := kk) (z := vv) rfl q6 q7 q5
          (e := ⟨.undef, (hp.set .none (.map [] 0) q).set .none (.map [⟨ev tms (trX kk), ev tms (trX vv), 0⟩] 1) q, nx⟩) (by
            simp only [effI, hex1, hexo kk q8, hexo vv q9, hkey, hgq]
            rfl)
        have hw' : Region.wanted oi (yielded ops a.tmps) = true := by simp [Region.wanted, q4]
        have hrun : (execOp a.eval oi).run P w = .ok .skip w' := by
          simp only [execOp, q2]
          simp [g5]
        have hstep := stepR_value (b := b) (k := k) (cs := cs) (rest := rest) (i := i) (by rw [him]; exact q1) hw' (by rw [q2]; intro c e; cases e) hrun (.inr ⟨rfl, rfl⟩)
        rw [q3] at hstep
        have hput : a.put none Go.undef = a := rfl
        rw [hput] at hstep
        -- the object is what it is here
        have hobj : hp.get .none q = .map [⟨ev tms (trX kk), ev tms (trX vv), 0⟩] 1 := by
          rcases h2 with h2 | h2
          · exact h2
          generalize hp.get .none q = y at h2
          unfold sameObj at h2
          split at h2
          · next e1 => cases e1
          · next es xx fs yy e1 =>
            cases e1
            rw [band_iff, nbeq, decide_eq_true_iff] at h2
            rw [← esBeq_eq _ _ h2.2, ← h2.1]
          · next e1 => cases e1
          · cases h2
        have hRf : Rel P (upd ρ q ⟨c, 0, 0⟩) hp nx w' := by
          refine g8.eq fun o => ?_
          by_cases e : o = q
          · subst e; rw [hobj]; exact (T.get_set_same _ _ _ _).symm
          · show _ = ((hp.set .none (.map [] 0) q).set .none _ q).get .none o
            rw [T.get_set_ne _ _ _ _ _ e, T.get_set_ne _ _ _ _ _ e]
        refine ⟨a, w', upd ρ q ⟨c, 0, 0⟩, hstep, rfl, rfl, ?_, hRf, ?_⟩
        · refine ⟨hex, fun o ho => upd_ne _ (by rintro rfl; omega), fun o k e => ?_, g9.size, fun c' hc' hf => ?_, g9.os, g9.tape, g9.output⟩
          · by_cases e2 : o = q
            · subst e2; rw [upd_same] at e; cases e; exact .inr ⟨hq0, .inl g4⟩
            · rw [upd_ne _ e2] at e; exact .inl e
          · refine g9.kept c' (by omega) fun o k e => ?_
            by_cases e2 : o = q
            · subst e2; rw [upd_same] at e; cases e
              show c ≠ c'; omega
            · rw [upd_ne _ e2] at e; exact hf o k e
        · refine h.next hi hE hed ⟨tms.set .undef (.map q) (posOf r.t), htsn, fun u hu => ?_⟩ (fun p' q' hq' => ?_) (fun r' hr' h1 h2 => ?_)
          · by_cases e : u = posOf r.t
            · rw [e, T.get_set_same, hv]; rfl
            · rw [T.get_set_ne _ _ _ _ _ e]
              exact hag u fun ho => hu (off_next hI hpi (by rw [hpin, him]) ho (by rw [q11]; intro h; cases h; exact e rfl))
          · have hlo' : LateO l E D tm p' q' := ⟨⟨hq'.1.1, hq'.1.2.1, hq'.1.2.2.1, fun hd => hq'.1.2.2.2 (.inl hd)⟩, hq'.2⟩
            have hne : q' ≠ q := by
              rintro rfl
              exact hq'.1.2.2.2 (.inr ((h.dis p' pi q' hlo' hL).trans (by rw [hpin, him])))
            rw [upd_ne _ hne]
            exact (h.unb p' q' hlo').1
          · rw [hr] at hr'; cases hr'
            exact absurd (.inr him.symm) h2
      · cases hal'

/-- A late operation. -/
theorem late_any (hI : RI P nt ops l pr) (hR : Rel P ρ hp nx w) (h : DI P ops l pr lo nb ρ w nx hp tm a.tmps E M V' D) (hsz : nt ≤ a.tmps.size) (hlo : lo ≤ w.heap.size)
    (hi : i < ops.size) (hnd : ¬ D i) (hed : ∀ o, ops[i]? = some o → ∀ e ∈ o.after, Region.binds .any e = true → D e.on) (hE : bit E i = true) (hMV : subB M V' = true) :
    Late1 P ops l pr lo nb ρ w nx hp tm a E M V' D b k cs i rest := by
  obtain ⟨p, h1, h2, h3⟩ := hI.at hi
  by_cases hm : ∃ r, pr = some r ∧ i = r.m
  · obtain ⟨r, hr, him⟩ := hm
    exact late_m hI hR h hsz hlo hi hnd hed hE hr him
  · have hc : p.ch = false := by
      cases hc : p.ch with
      | false => rfl
      | true => exact absurd (h.chD p h2 hc (by rw [h3]; exact hE) fun r hr e => hm ⟨r, hr, by rw [← h3, e]⟩) (by rw [h3]; exact hnd)
    have hV : bit V' i = true := by
      have := bit_sub hMV (h.eM p ⟨h2, hc, by rw [h3]; exact hE, by rw [h3]; exact hnd⟩)
      rw [h3] at this; exact this
    by_cases hii : ∃ r, pr = some r ∧ i = r.i
    · obtain ⟨r, hr, him⟩ := hii
      exact late_i hI hR h hsz hlo hi hnd hed hE hV hr him
    · exact late1 hI hR h hsz hlo hi hnd hed h1 hc hE hV fun r hr => ⟨fun e => hm ⟨r, hr, e⟩, fun e => hii ⟨r, hr, e⟩⟩
end
end Am

/- A drawn region: the run catches up; the plan goes on. -/
namespace Am
open Go

section
variable {P : Program} {ρ ρ' : Rho} {hp hp' : T AObj} {nx nx' : Pos} {w w' : World} {tm : T AV} {a : Act} {b : Frame} {k : List Item} {cs : List Frame} {ops : Array Oper} {rest : List Nat}
  {l : List PO} {pr : Option Pair} {nt lo nb : Nat} {E M V' : Nat} {D : Nat → Prop} {pl : List (Bool × Nat)}

theorem getO_eq {α : Type} : ∀ (l : List α) (n : Nat), getO l n = l[n]?
  | [], _ => rfl
  | _ :: _, 0 => rfl
  | _ :: l, n + 1 => getO_eq l n

/-- The run has caught up as far as rest. -/
def Caught (P : Program) (ops : Array Oper) (l : List PO) (pr : Option Pair) (lo nb : Nat) (ρ : Rho) (w : World) (nx : Pos) (hp : T AObj) (tm : T AV) (a : Act) (E M V : Nat)
    (b : Frame) (k : List Item) (cs : List Frame) (m : Machine) (Q : List Nat → (Nat → Prop) → Prop) : Prop :=
  ∃ rest' D' a' w' ρ', Steps P m (lone (b.atR a' (.inRegion ops rest' :: k)) cs w') ∧ Lin ops D' rest' ∧ Q rest' D' ∧ DI P ops l pr lo nb ρ' w' nx hp tm a'.tmps E M V D' ∧ Rel P ρ' hp nx w' ∧
    Grow lo nb ρ ρ' w w' ∧ a'.defers = a.defers ∧ a'.tmps.size = a.tmps.size

theorem Caught.before {ρ0 : Rho} {w0 : World} {a0 : Act} {m0 m : Machine} {Q : List Nat → (Nat → Prop) → Prop} (hs : Steps P m0 m) (hg : Grow lo nb ρ0 ρ w0 w) (hd : a.defers = a0.defers) (hz : a.tmps.size = a0.tmps.size)
    (h : Caught P ops l pr lo nb ρ w nx hp tm a E M V' b k cs m Q) : Caught P ops l pr lo nb ρ0 w0 nx hp tm a0 E M V' b k cs m0 Q := by
  obtain ⟨rest', D', a', w', ρ', h1, h2, h3, h4, h5, h6, h7, h8⟩ := h
  exact ⟨rest', D', a', w', ρ', hs.trans h1, h2, h3, h4, h5, hg.trans h6, h7.trans hd, h8.trans hz⟩

theorem flush_to (hI : RI P nt ops l pr) {c : Nat} (hc : c < ops.size) (hcE : bit E c = false) (hall : ∀ q ∈ l, bit E q.n = false → q.n ≠ c → bit q.bef c = true) (hMV : subB M V' = true) {rest : List Nat} (hL : Lin ops D rest) :
    ∀ {ρ : Rho} {w : World} {a : Act}, DI P ops l pr lo nb ρ w nx hp tm a.tmps E M V' D → Rel P ρ hp nx w → nt ≤ a.tmps.size → lo ≤ w.heap.size →
      Caught P ops l pr lo nb ρ w nx hp tm a E M V' b k cs (lone (b.atR a (.inRegion ops rest :: k)) cs w) fun r _ => ∃ r', r = c :: r' := by
  induction hL with
  | nil hall' =>
    intro ρ w a h hR hsz hlo
    have := h.dE c (hall' c hc)
    rw [hcE] at this; cases this
  | @cons D i rest hi hn he hL ih =>
    intro ρ w a h hR hsz hlo
    by_cases hic : i = c
    · subst hic
      exact ⟨i :: rest, D, a, w, ρ, Steps.refl P _, .cons hi hn he hL, ⟨rest, rfl⟩, h, hR, Grow.refl _ _ _ _, rfl, rfl⟩
    · have hE : bit E i = true := by
        cases hb : bit E i with
        | true => rfl
        | false =>
          obtain ⟨p, h1, h2, h3⟩ := hI.at hi
          have hD := h.ahead hI h2 (by rw [h3]; exact he) (hall p h2 (by rw [h3]; exact hb) (by rw [h3]; exact hic))
          have := h.dE c hD
          rw [hcE] at this; cases this
      obtain ⟨a', w', ρ', h1, h2, h3, h4, h5, h6⟩ := late_any (b := b) (k := k) (cs := cs) (rest := rest) hI hR h hsz hlo hi hn he hE hMV
      exact Caught.before (.one h1) h4 h2 h3 (ih h6 h5 (by omega) (Nat.le_trans hlo h4.size))

theorem flush_end (hI : RI P nt ops l pr) (hall : ∀ q ∈ l, bit E q.n = true) (hMV : subB M V' = true) {rest : List Nat} (hL : Lin ops D rest) :
    ∀ {ρ : Rho} {w : World} {a : Act}, DI P ops l pr lo nb ρ w nx hp tm a.tmps E M V' D → Rel P ρ hp nx w → nt ≤ a.tmps.size → lo ≤ w.heap.size →
      Caught P ops l pr lo nb ρ w nx hp tm a E M V' b k cs (lone (b.atR a (.inRegion ops rest :: k)) cs w) fun r D' => r = [] ∧ ∀ i, i < ops.size → D' i := by
  induction hL with
  | @nil D hall' =>
    intro ρ w a h hR hsz hlo
    exact ⟨[], D, a, w, ρ, Steps.refl P _, .nil hall', ⟨rfl, hall'⟩, h, hR, Grow.refl _ _ _ _, rfl, rfl⟩
  | @cons D i rest hi hn he hL ih =>
    intro ρ w a h hR hsz hlo
    have hE : bit E i = true := by
      obtain ⟨p, h1, h2, h3⟩ := hI.at hi
      rw [← h3]; exact hall p h2
    obtain ⟨a', w', ρ', h1, h2, h3, h4, h5, h6⟩ := late_any (b := b) (k := k) (cs := cs) (rest := rest) hI hR h hsz hlo hi hn he hE hMV
    exact Caught.before (.one h1) h4 h2 h3 (ih h6 h5 (by omega) (Nat.le_trans hlo h4.size))

/-- At a region's end the slots hold what they hold here. -/
theorem DI.end_TR (hI : RI P nt ops l pr) (h : DI P ops l pr lo nb ρ w nx hp tm a.tmps E M V' D) (hall : ∀ i, i < ops.size → D i) : TR ρ tm a.tmps := by
  obtain ⟨tms, h1, h2⟩ := h.ts
  intro n
  rw [← h2]
  · exact h1 n
  · rintro (⟨q, hq, -, hn, -⟩ | ⟨r, hr, hn, -⟩)
    · refine hn (hall q.n ?_)
      have := hI.mem hq
      rcases Nat.lt_or_ge q.n ops.size with h | h
      · exact h
      · rw [List.getElem?_eq_none (by rw [hI.len]; exact h)] at this; cases this
    · obtain ⟨-, -, ty, kt, kk, vv, oi, pi, q1, -⟩ := hI.prI r hr
      refine hn (hall r.i ?_)
      rcases Nat.lt_or_ge r.i ops.size with h | h
      · exact h
      · rw [Array.getElem?_eq_none h] at q1; cases q1

/-! ### The plan -/

theorem okGo_nil : okGo l [] E M V' = band (allB (fun p => bit E p.n) l) (subB M V') := rfl
theorem okGo_ck (n : Nat) : okGo l ((true, n) :: pl) E M V' = (match getO l n with
  | none => false
  | some _ => okGo l pl E M (addB V' n)) := rfl
theorem okGo_ex (n : Nat) : okGo l ((false, n) :: pl) E M V' = (match getO l n with
  | none => false
  | some p => match bit E n, subB p.bef E with
    | false, true => match p.ch with
      | true => match subB M V', allB (fun q => bor (bit E q.n) (bor (Nat.beq q.n n) (bit q.bef n))) l with
        | true, true => okGo l pl (addB E n) (minusB M p.bef) 0
        | _, _ => false
      | false => okGo l pl (addB E n) (addB M n) (addB V' n)
    | _, _ => false) := rfl

theorem okGo_end (h : okGo l [] E M V' = true) : (∀ q ∈ l, bit E q.n = true) ∧ subB M V' = true := by
  rw [okGo_nil, band_iff, allB_iff] at h; exact h

theorem okGo_cks {n : Nat} (h : okGo l ((true, n) :: pl) E M V' = true) : ∃ p, l[n]? = some p ∧ okGo l pl E M (addB V' n) = true := by
  rw [okGo_ck, getO_eq] at h
  split at h
  · cases h
  · next p hp => exact ⟨p, hp, h⟩

theorem okGo_exs {n : Nat} (h : okGo l ((false, n) :: pl) E M V' = true) : ∃ p, l[n]? = some p ∧ bit E n = false ∧ (∀ j, bit p.bef j = true → bit E j = true) ∧
    ((p.ch = true ∧ subB M V' = true ∧ (∀ q ∈ l, bit E q.n = false → q.n ≠ n → bit q.bef n = true) ∧ okGo l pl (addB E n) (minusB M p.bef) 0 = true) ∨
     (p.ch = false ∧ okGo l pl (addB E n) (addB M n) (addB V' n) = true)) := by
  rw [okGo_ex, getO_eq] at h
  split at h
  · cases h
  · next p hp =>
    split at h
    · next hE hb =>
      refine ⟨p, hp, hE, fun j hj => bit_sub hb hj, ?_⟩
      split at h
      · next hc =>
        split at h
        · next h1 h2 =>
          refine .inl ⟨hc, h1, fun q hq hqE hqn => ?_, h⟩
          have := (allB_iff _ _).1 h2 q hq
          rw [bor_iff, bor_iff, nbeq, decide_eq_true_iff] at this
          rcases this with h3 | h3 | h3
          · rw [hqE] at h3; cases h3
          · exact absurd h3 hqn
          · exact h3
        · cases h
      · next hc => exact .inr ⟨hc, h⟩
    · cases h

theorem toM_ck {n : Nat} {p : PO} (h : l[n]? = some p) (c : Bool) : toM l (c, n) = ⟨c, p.m.g, p.m.d, p.m.i⟩ := by
  unfold toM; simp only [getO_eq, h]

/-- A repetition has passed. -/
theorem DI.check (hI : RI P nt ops l pr) (h : DI P ops l pr lo nb ρ w nx hp tm a.tmps E M V' D) {n : Nat} {p : PO} (hp0 : l[n]? = some p) (hv : Valid P tm hp p.m) :
    DI P ops l pr lo nb ρ w nx hp tm a.tmps E M (addB V' n) D := by
  refine { h with val := fun q hq hb => ?_ }
  rw [bit_addB] at hb
  rcases hb with hb | hb
  · exact h.val q hq hb
  · have := hI.mem hq.1
    rw [← hb, hp0] at this; cases this; exact hv

theorem objOf_mkA (kk : AK) (q : Pos) : objOf (mkA kk q) = some q := by cases kk <;> rfl

theorem again_valid {m : MOp} (hw : wanted tm m.g = some true) (h : again P tm hp m.d m.i = true) : Valid P tm hp m := by
  refine .inl ⟨hw, ?_⟩
  unfold again at h
  split at h
  · next hcl =>
    split at h
    · next v t hv hd => exact ⟨t, hd, .inl ⟨hcl, by rw [hv, avBeq_eq _ _ _ h]⟩⟩
    · cases h
  · next hcl =>
    split at h
    · next x kk t hx hd =>
      split at h
      · next q hq =>
        rw [band_iff] at h
        exact ⟨t, hd, .inr ⟨hcl, x, kk, q, hx, (avBeq_eq _ _ _ h.1).symm, .inr h.2⟩⟩
      · cases h
    · cases h
  · cases h

/-- A late operation is done here. -/
theorem DI.exec (hI : RI P nt ops l pr) (h : DI P ops l pr lo nb ρ w nx hp tm a.tmps E M V' D) {n : Nat} {p : PO} (hp0 : l[n]? = some p) (hnE : bit E n = false) (hbef : ∀ j, bit p.bef j = true → bit E j = true)
    (hc : p.ch = false) {t : Pos} (hd : p.m.d = some t) {v : AV} (hnx : nx.num ≤ nx'.num) (hnb : nb ≤ nx.num) (hm : More hp hp') (hlt : ∀ o : Pos, o.num < nx.num → hp'.get .none o = hp.get .none o)
    (hval : Valid P (tm.set .undef v t) hp' p.m) (hobj : ∀ q, clOf p.m.i = .alloc → objOf v = some q → ρ q = none ∧ q.num = nx.num ∧ q.num < nx'.num) :
    DI P ops l pr lo nb ρ w nx' hp' (tm.set .undef v t) a.tmps (addB E n) (addB M n) (addB V' n) D := by
  obtain ⟨hpn, -, -⟩ := hI.get n p hp0
  have hpl : p ∈ l := List.mem_of_getElem? hp0
  have hnD : ¬ D n := fun hd => by have := h.dE n hd; rw [hnE] at this; cases this
  have hprm : ∀ r, pr = some r → n ≠ r.m := by
    intro r hr e
    obtain ⟨ty, om, pm, -, -, -, -, m5, m6, m7, m8⟩ := hI.prM r hr
    rw [← e, hp0] at m5; cases m5
    rw [hc] at m7; cases m7
  have isN : ∀ q ∈ l, q.n = n → q = p := fun q hq e => hI.same hq hpl (by rw [e, hpn])
  have old : ∀ q, Late l (addB E n) D q → q.n ≠ n → Late l E D q := by
    rintro q ⟨h1, h2, h3, h4⟩ hne
    refine ⟨h1, h2, ?_, h4⟩
    rw [bit_addB] at h3
    exact h3.resolve_right fun e => hne e.symm
  -- another late one does not look at the slot, nor fill it
  have apart : ∀ q, Late l E D q → t ∉ rdM q.m ∧ q.m.d ≠ some t := by
    intro q hq
    have hqm : ∀ r, pr = some r → q.n ≠ r.m := by
      intro r hr e
      obtain ⟨ty, om, pm, -, -, -, -, m5, m6, m7, m8⟩ := hI.prM r hr
      have := hI.mem hq.1
      rw [e, m5] at this; cases this
      have := hq.2.1
      rw [m7] at this; cases this
    have hpair := hI.pair q hq.1 p hpl fun r hr => ⟨hqm r hr, by rw [hpn]; exact hprm r hr⟩
    have hne : q.n ≠ n := by intro e; have := hq.2.2.1; rw [e, hnE] at this; cases this
    have hb1 : bit q.bef p.n = false := by
      cases hb : bit q.bef p.n with
      | false => rfl
      | true => have := h.bE q hq.1 hq.2.2.1 _ hb; rw [hpn, hnE] at this; cases this
    unfold okPair at hpair
    have hbq : Nat.beq q.n p.n = false := by rw [nbeq]; simp; rw [hpn]; exact hne
    rw [hbq, hd, hb1, hc] at hpair
    simp only [bor, band] at hpair
    split at hpair
    · cases hpair
    · next hrd =>
      have hrd' : t ∉ q.rd := fun hm => by rw [(posIn_iff t q.rd).2 hm] at hrd; cases hrd
      rw [(hI.get _ _ (hI.mem hq.1)).2.1] at hrd'
      refine ⟨hrd', fun e => ?_⟩
      rw [e] at hpair
      simp only [(Pos.beq_iff t t).2 rfl] at hpair
      rw [hq.2.1] at hpair
      cases hpair
  have lateO : ∀ q o, LateO l (addB E n) D (tm.set .undef v t) q o → q.n ≠ n → LateO l E D tm q o := by
    rintro q o ⟨h1, h2, u, h3, h4⟩ hne
    have hl := old q h1 hne
    refine ⟨hl, h2, u, h3, ?_⟩
    rw [T.get_set_ne _ _ _ _ _ (fun e => (apart q hl).2 (by rw [h3, e]))] at h4
    exact h4
  have lateN : ∀ q o, LateO l (addB E n) D (tm.set .undef v t) q o → q.n = n → clOf p.m.i = .alloc ∧ objOf v = some o := by
    rintro q o ⟨h1, h2, u, h3, h4⟩ e
    have := isN q h1.1 e
    subst this
    rw [hd] at h3; cases h3
    rw [T.get_set_same] at h4
    exact ⟨h2, h4⟩
  refine ⟨fun i hi => (bit_addB _ _ _).2 (.inl (h.dE i hi)), h.dl, fun q hq h1 h2 h3 => ?_, fun q hq => ?_, fun q hq h1 j h2 => ?_, h.cl, ?_, fun q hq hb => ?_, fun q o hq => ?_, fun q q' o h1 h2 => ?_, h.prS, fun r hr => (bit_addB _ _ _).2 (.inl (h.prE r hr))⟩
  · rw [bit_addB] at h2
    rcases h2 with h2 | h2
    · exact h.chD q hq h1 h2 h3
    · have := isN q hq h2.symm
      subst this; rw [hc] at h1; cases h1
  · rw [bit_addB]
    by_cases e : q.n = n
    · exact .inr e.symm
    · exact .inl (h.eM q (old q hq e))
  · rw [bit_addB] at h1 ⊢
    rcases h1 with h1 | h1
    · exact .inl (h.bE q hq h1 j h2)
    · have := isN q hq h1.symm
      subst this
      exact .inl (hbef j h2)
  · obtain ⟨tms, h1, h2⟩ := h.ts
    refine ⟨tms, h1, fun u hu => ?_⟩
    have hne : u ≠ t := by
      rintro rfl
      exact hu (.inl ⟨p, hpl, by rw [bit_addB, hpn]; exact .inr rfl, by rw [hpn]; exact hnD, hd⟩)
    rw [T.get_set_ne _ _ _ _ _ hne]
    refine h2 u fun ho => hu ?_
    rcases ho with ⟨q, h3, h4, h5⟩ | ho
    · exact .inl ⟨q, h3, by rw [bit_addB]; exact .inl h4, h5⟩
    · exact .inr ho
  · by_cases e : q.n = n
    · have := isN q hq.1 e
      subst this; exact hval
    · have hl := old q hq e
      have hb' : bit V' q.n = true := by
        rw [bit_addB] at hb
        exact hb.resolve_right fun e' => e e'.symm
      obtain ⟨h1, h2⟩ := apart q hl
      have hg : ∀ u ∈ rdM q.m, (tm.set .undef v t).get .undef u = tm.get .undef u := fun u hu => T.get_set_ne _ _ _ _ _ (by rintro rfl; exact h1 hu)
      have hev := ev_eq_of hg
      have hw := wanted_eq_of hg
      have hdg : ∀ u, q.m.d = some u → (tm.set .undef v t).get .undef u = tm.get .undef u := fun u hu => T.get_set_ne _ _ _ _ _ (by rintro rfl; exact h2 hu)
      rcases h.val q hl hb' with ⟨g1, u, g2, g3⟩ | ⟨g1, u, g2, g3⟩
      · refine .inl ⟨by rw [hw]; exact g1, u, g2, ?_⟩
        rw [hdg u g2]
        rcases g3 with ⟨g3, g4⟩ | ⟨g3, x, kk, o, g4, g5, g6⟩
        · exact .inl ⟨g3, by rw [pureI_tm hev]; exact pureI_more hm g4⟩
        · refine .inr ⟨g3, x, kk, o, by rw [allocI_tm hev]; exact g4, g5, ?_⟩
          have hou := h.unb q o ⟨hl, g3, u, g2, by rw [g5]; exact objOf_mkA kk o⟩
          rw [hlt o hou.2.2]; exact g6
      · exact .inr ⟨by rw [hw]; exact g1, u, g2, by rw [hdg u g2]; exact g3⟩
  · by_cases e : q.n = n
    · obtain ⟨h1, h2⟩ := lateN q o hq e
      obtain ⟨h3, h4, h5⟩ := hobj o h1 h2
      exact ⟨h3, by omega, h5⟩
    · have := h.unb q o (lateO q o hq e)
      exact ⟨this.1, this.2.1, by omega⟩
  · by_cases e : q.n = n
    · by_cases e' : q'.n = n
      · rw [e, e']
      · obtain ⟨g1, g2⟩ := lateN q o h1 e
        have g3 := (hobj o g1 g2).2.1
        have g4 := (h.unb q' o (lateO q' o h2 e')).2.2
        omega
    · by_cases e' : q'.n = n
      · obtain ⟨g1, g2⟩ := lateN q' o h2 e'
        have g3 := (hobj o g1 g2).2.1
        have g4 := (h.unb q o (lateO q o h1 e)).2.2
        omega
      · exact h.dis q q' o (lateO q o h1 e) (lateO q' o h2 e')

/-- One of the chain is done, here and in the run. -/
theorem DI.chain (hI : RI P nt ops l pr) (h : DI P ops l pr lo nb ρ w nx hp tm a.tmps E M V' D) {n : Nat} {p : PO} (hp0 : l[n]? = some p) (hnE : bit E n = false)
    (hed : ∀ o, ops[n]? = some o → ∀ e ∈ o.after, Region.binds .any e = true → D e.on) (hc : p.ch = true) (hlo : lo ≤ w.heap.size) (hnb : nb ≤ nx.num)
    (hg : Grow w.heap.size nx.num ρ ρ' w w') (hnx : nx.num ≤ nx'.num) {dst : Option Tmp} (hdst : trD nt dst = some p.m.d) (hsz : nt ≤ a.tmps.size) {v : AV} {v' : Value} (hv : V ρ' v v') :
    DI P ops l pr lo nb ρ' w' nx' hp' (setD p.m.d v tm) (a.put dst v').tmps (addB E n) (minusB M p.bef) 0 (fun j => D j ∨ j = n) := by
  obtain ⟨hpn, -, -⟩ := hI.get n p hp0
  have hpl : p ∈ l := List.mem_of_getElem? hp0
  have hahead : ∀ j, bit p.bef j = true → D j := fun j hj => h.ahead hI hpl (by rw [hpn]; exact hed) hj
  have isN : ∀ q ∈ l, q.n = n → q = p := fun q hq e => hI.same hq hpl (by rw [e, hpn])
  have hns : n < ops.size := by
    rcases Nat.lt_or_ge n ops.size with h | h
    · exact h
    · rw [List.getElem?_eq_none (by rw [hI.len]; exact h)] at hp0; cases hp0
  have old : ∀ q, Late l (addB E n) (fun j => D j ∨ j = n) q → Late l E D q := by
    rintro q ⟨h1, h2, h3, h4⟩
    refine ⟨h1, h2, ?_, fun hd => h4 (.inl hd)⟩
    rw [bit_addB] at h3
    exact h3.resolve_right fun e => h4 (.inr e.symm)
  have hprm : ∀ r, pr = some r → n ≠ r.i := by
    intro r hr e
    obtain ⟨-, -, ty, kt, kk, vv, oi, pi, -, -, -, -, -, -, -, -, -, q10, q11, q12, -⟩ := hI.prI r hr
    rw [← e, hp0] at q10; cases q10
    rw [hc] at q12; cases q12
  -- a late one fills another slot
  have apart : ∀ q, Late l E D q → ∀ u, q.m.d = some u → p.m.d ≠ some u := by
    intro q hq u hu e
    have hqm : ∀ r, pr = some r → q.n ≠ r.m := by
      intro r hr e
      obtain ⟨ty, om, pm, -, -, -, -, m5, m6, m7, m8⟩ := hI.prM r hr
      have := hI.mem hq.1
      rw [e, m5] at this; cases this
      have := hq.2.1
      rw [m7] at this; cases this
    have hpm' : ∀ r, pr = some r → p.n ≠ r.m := by
      intro r hr e'
      obtain ⟨ty, om, pm, -, -, -, -, m5, m6, m7, m8⟩ := hI.prM r hr
      have := hI.mem hpl
      rw [e', m5] at this; cases this
      rw [m6] at e; cases e
    have hpair := hI.pair q hq.1 p hpl fun r hr => ⟨hqm r hr, hpm' r hr⟩
    have hb1 : bit q.bef p.n = false := by
      cases hb : bit q.bef p.n with
      | false => rfl
      | true => have := h.bE q hq.1 hq.2.2.1 _ hb; rw [hpn, hnE] at this; cases this
    have hb2 : bit p.bef q.n = false := by
      cases hb : bit p.bef q.n with
      | false => rfl
      | true => exact absurd (hahead _ hb) hq.2.2.2
    have hne : q.n ≠ p.n := by intro e'; have := hq.2.2.1; rw [e', hpn, hnE] at this; cases this
    have hbq : Nat.beq q.n p.n = false := by rw [nbeq]; simp; exact hne
    unfold okPair at hpair
    rw [hbq, e, hb1, hb2, hc, hu, hq.2.1] at hpair
    simp only [bor, band, (Pos.beq_iff u u).2 rfl] at hpair
    split at hpair
    · cases hpair
    · cases hpair
  have tmu : ∀ u, p.m.d ≠ some u → ∀ tm : T AV, (setD p.m.d v tm).get .undef u = tm.get .undef u := by
    intro u hu tm
    cases hd : p.m.d with
    | none => rfl
    | some t => exact T.get_set_ne _ _ _ _ _ (by rintro rfl; exact hu hd)
  have lateO : ∀ q o, LateO l (addB E n) (fun j => D j ∨ j = n) (setD p.m.d v tm) q o → LateO l E D tm q o := by
    rintro q o ⟨h1, h2, u, h3, h4⟩
    have hl := old q h1
    rw [tmu u (apart q hl u h3)] at h4
    exact ⟨hl, h2, u, h3, h4⟩
  refine ⟨fun i hi => ?_, fun i hi => ?_, fun q hq h1 h2 h3 => ?_, fun q hq => ?_, fun q hq h1 j h2 => ?_, fun i o hi ho e h1 h2 => ?_, ?_, fun q hq hb => ?_, fun q o hq => ?_, fun q q' o h1 h2 => h.dis q q' o (lateO q o h1) (lateO q' o h2), fun r hr h1 h2 => ?_, fun r hr => (bit_addB _ _ _).2 (.inl (h.prE r hr))⟩
  · rw [bit_addB]; exact hi.imp (h.dE i) Eq.symm
  · rcases hi with hi | rfl
    · exact h.dl i hi
    · exact hns
  · rw [bit_addB] at h2
    rcases h2 with h2 | h2
    · exact .inl (h.chD q hq h1 h2 h3)
    · exact .inr h2.symm
  · rw [bit_minus]
    have hl := old q hq
    refine ⟨h.eM q hl, ?_⟩
    cases hb : bit p.bef q.n with
    | false => rfl
    | true => exact absurd (hahead _ hb) hl.2.2.2
  · rw [bit_addB] at h1 ⊢
    rcases h1 with h1 | h1
    · exact .inl (h.bE q hq h1 j h2)
    · have := isN q hq h1.symm
      subst this
      exact .inl (h.dE j (hahead j h2))
  · rcases hi with hi | rfl
    · exact .inl (h.cl i o hi ho e h1 h2)
    · exact .inl (hed o (by simpa using ho) e (by simpa using h1) h2)
  · obtain ⟨tms, h1, h2⟩ := h.ts
    refine ⟨setD p.m.d v tms, put_TR hdst hsz (h1.mono hg.ext) hv, fun u hu => ?_⟩
    by_cases e : p.m.d = some u
    · rw [e]; rw [setD_some, setD_some, T.get_set_same, T.get_set_same]
    · rw [tmu u e, tmu u e]
      refine h2 u fun ho => hu ?_
      rcases ho with ⟨q, h3, h4, h5, h6⟩ | ⟨r, h3, h4, h5⟩
      · refine .inl ⟨q, h3, by rw [bit_addB]; exact .inl h4, ?_, h6⟩
        rintro (h7 | h7)
        · exact h5 h7
        · rw [h7, hnE] at h4; cases h4
      · refine .inr ⟨r, h3, ?_, h5⟩
        rintro (h7 | h7)
        · exact h4 h7
        · exact hprm r h3 h7.symm
  · rw [bit_zero] at hb; cases hb
  · have := h.unb q o (lateO q o hq)
    exact ⟨by rw [hg.low o this.2.2]; exact this.1, this.2.1, by omega⟩
  · have hm : D r.m := by
      rcases h1 with h1 | h1
      · exact h1
      · have := h.prE r hr
        rw [h1, hnE] at this; cases this
    have hni : ¬ D r.i := fun h => h2 (.inl h)
    obtain ⟨c, g1, g2, g3, g4⟩ := h.prS r hr hm hni
    have hcl : c < w.heap.size := by
      rcases Nat.lt_or_ge c w.heap.size with h | h
      · exact h
      · rw [Array.getElem?_eq_none h] at g2; cases g2
    refine ⟨c, ?_, by rw [hg.kept c hcl g3]; exact g2, hg.free hcl g3, g4⟩
    have hne := hI.prU r hr p hpl (by rw [hpn]; exact hprm r hr)
    have : (a.put dst v').tmps.getD r.t Go.undef = a.tmps.getD r.t Go.undef := by
      cases dst with
      | none => rfl
      | some u =>
        unfold trD at hdst
        simp only at hdst
        split at hdst
        · have hu : p.m.d = some (posOf u) := (Option.some.inj hdst).symm
          have hur : u ≠ r.t := fun e => hne (by rw [hu, e])
          simp [Act.put, Array.getD_eq_getD_getElem?, hur]
        · cases hdst
    rw [this]; exact g1
end
end Am

/- A drawn region: its plan is what the check found. -/
namespace Am
open Go

section
variable {P : Program} {nt : Nat} {ops : Array Oper} {l : List PO}

noncomputable def edgesGo (ops : List Oper) (n : Nat) : Bool := lrec (β := Nat → Bool) (fun _ => true) (fun (o : Oper) _ ih n => band (allB (fun (e : Edge) => match Region.binds .any e with
  | true => Nat.ble (Nat.succ e.on) n
  | false => true) o.after.toList) (ih (Nat.succ n))) ops n

theorem edgesGo_spec : ∀ (ops : List Oper) (n : Nat), edgesGo ops n = true → ∀ (i : Nat) o, ops[i]? = some o → ∀ e ∈ o.after.toList, Region.binds .any e = true → e.on < n + i
  | [], n, _, i, o, ho, _, _, _ => by simp at ho
  | x :: ops, n, h, i, o, ho, e, he, hb => by
    have h' : band (allB (fun (e : Edge) => match Region.binds .any e with
      | true => Nat.ble (Nat.succ e.on) n
      | false => true) x.after.toList) (edgesGo ops (n + 1)) = true := h
    rw [band_iff, allB_iff] at h'
    cases i with
    | zero =>
      simp at ho; subst ho
      have := h'.1 e he
      rw [hb] at this
      have := Nat.le_of_ble_eq_true this
      omega
    | succ i =>
      have := edgesGo_spec ops (n + 1) h'.2 i o (by simpa using ho) e he hb
      omega

noncomputable def makerGo (t : Nat) (ops : List Oper) (n : Nat) : Option Nat := lrec (β := Nat → Option Nat) (fun _ => none) (fun (o : Oper) _ ih n => match o.op, o.dst, o.guard with
  | .makeMap _ none, some u, none => match Nat.beq t u with
    | true => some n
    | false => ih (Nat.succ n)
  | _, _, _ => ih (Nat.succ n)) ops n

theorem makerGo_spec (t : Nat) : ∀ (ops : List Oper) (n m : Nat), makerGo t ops n = some m → ∃ i o ty, m = n + i ∧ ops[i]? = some o ∧ o.op = .makeMap ty none ∧ o.dst = some t ∧ o.guard = none
  | [], n, m, h => by cases h
  | o :: ops, n, m, h => by
    have h' : (match o.op, o.dst, o.guard with
      | .makeMap _ none, some u, none => (match Nat.beq t u with
        | true => some n
        | false => makerGo t ops (Nat.succ n))
      | _, _, _ => makerGo t ops (Nat.succ n)) = some m := h
    have tl : makerGo t ops (n + 1) = some m → ∃ i o' ty, m = n + i ∧ (o :: ops)[i]? = some o' ∧ o'.op = .makeMap ty none ∧ o'.dst = some t ∧ o'.guard = none := by
      intro h
      obtain ⟨i, o', ty, h1, h2, h3⟩ := makerGo_spec t ops (n + 1) m h
      exact ⟨i + 1, o', ty, by omega, by simpa using h2, h3⟩
    split at h'
    · next ty u h1 h2 h3 =>
      split at h'
      · next hb =>
        cases h'
        rw [nbeq, decide_eq_true_iff] at hb
        subst hb
        exact ⟨0, o, ty, rfl, rfl, h1, h2, h3⟩
      · exact tl h'
    · exact tl h'

noncomputable def pairGo (P : Program) (nt : Nat) (all ops : List Oper) (n : Nat) : Option Pair := lrec (β := Nat → Option Pair) (fun _ => none) (fun (o : Oper) _ ih n => match o.op, o.dst, o.guard with
  | .insert ty (.tmp t) k v, none, none => match keyK P ty, makerOf t all, okX (trX k), okX (trX v), bor (tmpIs t k) (tmpIs t v), Nat.ble (Nat.succ t) nt with
    | some kt, some m, true, true, false, true => some ⟨m, n, t, .mk1 kt (trX k) (trX v)⟩
    | _, _, _, _, _, _ => ih (Nat.succ n)
  | _, _, _ => ih (Nat.succ n)) ops n

theorem tmpIs_ne {t : Nat} {x : Operand} (h : tmpIs t x = false) : x ≠ .tmp t := by
  rintro rfl
  have : Nat.beq t t = false := h
  rw [nbeq] at this
  simp at this

theorem pairGo_spec (all : List Oper) : ∀ (ops : List Oper) (n : Nat) (r : Pair), pairGo P nt all ops n = some r → ∃ i o ty k v kt, r.i = n + i ∧ ops[i]? = some o ∧ o.op = .insert ty (.tmp r.t) k v ∧ o.dst = none ∧ o.guard = none ∧
    keyK P ty = some kt ∧ okX (trX k) = true ∧ okX (trX v) = true ∧ k ≠ .tmp r.t ∧ v ≠ .tmp r.t ∧ r.c = .mk1 kt (trX k) (trX v) ∧ makerOf r.t all = some r.m ∧ r.t < nt
  | [], n, r, h => by cases h
  | o :: ops, n, r, h => by
    have h' : (match o.op, o.dst, o.guard with
      | .insert ty (.tmp t) k v, none, none => (match keyK P ty, makerOf t all, okX (trX k), okX (trX v), bor (tmpIs t k) (tmpIs t v), Nat.ble (Nat.succ t) nt with
        | some kt, some m, true, true, false, true => some (⟨m, n, t, .mk1 kt (trX k) (trX v)⟩ : Pair)
        | _, _, _, _, _, _ => pairGo P nt all ops (Nat.succ n))
      | _, _, _ => pairGo P nt all ops (Nat.succ n)) = some r := h
    have tl : pairGo P nt all ops (n + 1) = some r → ∃ i o' ty k v kt, r.i = n + i ∧ (o :: ops)[i]? = some o' ∧ o'.op = .insert ty (.tmp r.t) k v ∧ o'.dst = none ∧ o'.guard = none ∧
        keyK P ty = some kt ∧ okX (trX k) = true ∧ okX (trX v) = true ∧ k ≠ .tmp r.t ∧ v ≠ .tmp r.t ∧ r.c = .mk1 kt (trX k) (trX v) ∧ makerOf r.t all = some r.m ∧ r.t < nt := by
      intro h
      obtain ⟨i, o', ty, k, v, kt, h1, h2, h3⟩ := pairGo_spec all ops (n + 1) r h
      exact ⟨i + 1, o', ty, k, v, kt, by omega, by simpa using h2, h3⟩
    split at h'
    · next ty t k v h1 h2 h3 =>
      split at h'
      · next kt m g1 g2 g3 g4 g5 g6 =>
        cases h'
        have g5' : tmpIs t k = false ∧ tmpIs t v = false := by
          cases e1 : tmpIs t k <;> cases e2 : tmpIs t v <;> rw [e1, e2] at g5 <;> first | exact ⟨rfl, rfl⟩ | cases g5
        exact ⟨0, o, ty, k, v, kt, rfl, rfl, h1, h2, h3, g1, g3, g4, tmpIs_ne g5'.1, tmpIs_ne g5'.2, rfl, g2, Nat.le_of_ble_eq_true g6⟩
      · exact tl h'
    · exact tl h'

theorem bodyOf_mem {E0 : Nat} : ∀ {l : List PO} {p : PO}, p ∈ bodyOf E0 l ↔ p ∈ l ∧ bit E0 p.n = false
  | [], p => by simp [bodyOf, lrec]
  | q :: l, p => by
    have ih := bodyOf_mem (E0 := E0) (l := l) (p := p)
    have e : bodyOf E0 (q :: l) = (match bit E0 q.n with
      | true => bodyOf E0 l
      | false => q :: bodyOf E0 l) := rfl
    rw [e]
    cases hb : bit E0 q.n with
    | true =>
      simp only [ih, List.mem_cons]
      constructor
      · rintro ⟨h1, h2⟩; exact ⟨.inr h1, h2⟩
      · rintro ⟨rfl | h1, h2⟩
        · rw [hb] at h2; cases h2
        · exact ⟨h1, h2⟩
    | false =>
      simp only [List.mem_cons, ih]
      constructor
      · rintro (rfl | ⟨h1, h2⟩)
        · exact ⟨.inl rfl, hb⟩
        · exact ⟨.inr h1, h2⟩
      · rintro ⟨rfl | h1, h2⟩
        · exact .inl rfl
        · exact .inr ⟨h1, h2⟩

theorem planM_some {E0 : Nat} {ms : List MOp} (h : planM l E0 = some ms) : (∀ p ∈ l, bit E0 p.n = false → okOne p = true) ∧ (∀ p ∈ l, ∀ q ∈ l, bit E0 p.n = false → bit E0 q.n = false → okPair p q = true) ∧
    ∃ pl, okGo l pl E0 0 0 = true ∧ ms = pl.map (toM l) := by
  unfold planM at h
  simp only at h
  split at h
  · next h1 h2 =>
    cases h
    unfold okStat at h1
    rw [allB_iff] at h1
    refine ⟨fun p hp hb => ?_, fun p hp q hq hb hb' => ?_, _, h2, mapL_eq _ _⟩
    · have := h1 p (bodyOf_mem.2 ⟨hp, hb⟩)
      rw [band_iff] at this; exact this.1
    · have := h1 p (bodyOf_mem.2 ⟨hp, hb⟩)
      rw [band_iff, allB_iff] at this; exact this.2 q (bodyOf_mem.2 ⟨hq, hb'⟩)
  · cases h

theorem poOf_bef (all : List Oper) (o : Oper) (b n : Nat) : (poOf P nt all o b n).bef = b := rfl
theorem poOf_n (all : List Oper) (o : Oper) (b n : Nat) : (poOf P nt all o b n).n = n := rfl
theorem poOf_m (all : List Oper) (o : Oper) (b n : Nat) : (poOf P nt all o b n).m = trM P nt all o := rfl
theorem poOf_rd (all : List Oper) (o : Oper) (b n : Nat) : (poOf P nt all o b n).rd = rdM (poOf P nt all o b n).m := rfl

theorem poL_len : (poL P nt ops.toList).length = ops.size := by
  have h : ∀ i, i < (poL P nt ops.toList).length ↔ i < ops.size := by
    intro i
    have := poL_get P nt ops.toList i
    constructor
    · intro h
      rcases Nat.lt_or_ge i ops.size with h' | h'
      · exact h'
      · rw [List.getElem?_eq_getElem h] at this
        simp [Array.getElem?_eq_none h'] at this
    · intro h
      rcases Nat.lt_or_ge i (poL P nt ops.toList).length with h' | h'
      · exact h'
      · rw [List.getElem?_eq_none h'] at this
        simp [h] at this
  have h1 := h (poL P nt ops.toList).length
  have h2 := h ops.size
  omega

theorem pairPO_n (r : Pair) (p : PO) : (pairPO r p).n = p.n := by
  unfold pairPO; split
  · rfl
  · split <;> rfl
theorem pairPO_bef (r : Pair) (p : PO) : (pairPO r p).bef = p.bef := by
  unfold pairPO; split
  · rfl
  · split <;> rfl
theorem pairPO_rd (r : Pair) (p : PO) (h : p.rd = rdM p.m) : (pairPO r p).rd = rdM (pairPO r p).m := by
  unfold pairPO; split
  · rfl
  · split
    · rfl
    · exact h

theorem planR_spec {ms : List MOp} (h : planR P nt ops.toList = some ms) : ∃ l pr pl E0, RI P nt ops l pr ∧ okGo l pl E0 0 0 = true ∧ ms = pl.map (toM l) ∧
    (∀ j, bit E0 j = true ↔ ∃ r, pr = some r ∧ r.m = j) := by
  unfold planR at h
  split at h
  · cases h
  · next hed =>
    have hed' : ∀ (i : Nat) o, ops[i]? = some o → ∀ e ∈ o.after, Region.binds .any e = true → e.on < i := by
      intro i o ho e he hb
      have := edgesGo_spec ops.toList 0 hed i o (by simpa using ho) e (by simpa using he) hb
      omega
    have get : ∀ i p, (poL P nt ops.toList)[i]? = some p → ∃ o, ops[i]? = some o ∧ p = poOf P nt ops.toList o (nth 0 (beforeL ops.toList) i) i := by
      intro i p hp
      rw [poL_get] at hp
      cases e : ops.toList[i]? with
      | none => rw [e] at hp; cases hp
      | some o => rw [e] at hp; cases hp; exact ⟨o, by simpa using e, rfl⟩
    split at h
    · next ms' hm =>
      cases h
      obtain ⟨h1, h2, pl, h3, h4⟩ := planM_some hm
      refine ⟨poL P nt ops.toList, none, pl, 0, ⟨fun i p hp => ?_, poL_len, fun p hp _ => h1 p hp (bit_zero _), fun p hp q hq _ => h2 p hp q hq (bit_zero _) (bit_zero _), hed', fun r hr => (nomatch hr), fun r hr => (nomatch hr), fun r hr => (nomatch hr)⟩, h3, h4, fun j => ?_⟩
      · obtain ⟨o, ho, rfl⟩ := get i p hp
        exact ⟨rfl, rfl, o, ho, rfl, fun _ => rfl⟩
      · rw [bit_zero]; constructor
        · intro h; cases h
        · rintro ⟨r, h, _⟩; cases h
    · split at h
      · next r hr =>
        split at h
        · next pi pm hpi hpm =>
          split at h
          · next hb1 hb2 hb3 =>
            rw [getO_eq] at hpi hpm
            obtain ⟨h1, h2, pl, h3, h4⟩ := planM_some h
            obtain ⟨i, oi, ty, k, v, kt, q1, q2, q3, q4, q5, q6, q7, q8, q9, q10, q11, q12, q13⟩ := pairGo_spec ops.toList ops.toList 0 r hr
            obtain ⟨m, om, ty', m1, m2, m3, m4, m5⟩ := makerGo_spec r.t ops.toList 0 r.m q12
            rw [Nat.zero_add] at q1 m1
            subst q1 m1
            have hmi : r.m ≠ r.i := by
              intro e
              rw [e, q2] at m2; cases m2
              rw [q3] at m3; cases m3
            obtain ⟨oi', ho1, hpi'⟩ := get r.i pi hpi
            obtain ⟨om', ho2, hpm'⟩ := get r.m pm hpm
            have hpin : pi.n = r.i := by rw [hpi']; rfl
            have hpmn : pm.n = r.m := by rw [hpm']; rfl
            have hmb : ∀ j, bit (Nat.pow 2 r.m) j = true ↔ r.m = j := bit_pow r.m
            have nm : ∀ p : PO, p.n ≠ r.m → bit (Nat.pow 2 r.m) p.n = false := by
              intro p hp
              cases hb : bit (Nat.pow 2 r.m) p.n with
              | false => rfl
              | true => exact absurd ((hmb _).1 hb).symm hp
            have hfi : pairPO r pi = ⟨pi.n, pi.bef, false, ⟨false, none, some (posOf r.t), r.c⟩, rdM ⟨false, none, some (posOf r.t), r.c⟩⟩ := by
              unfold pairPO
              have e1 : Nat.beq pi.n r.m = false := by rw [nbeq, hpin]; simp; exact fun e => hmi e.symm
              have e2 : Nat.beq pi.n r.i = true := by rw [nbeq, hpin]; simp
              rw [e1, e2]
            have hfm : pairPO r pm = ⟨pm.n, pm.bef, true, badM, []⟩ := by
              unfold pairPO
              have e1 : Nat.beq pm.n r.m = true := by rw [nbeq, hpmn]; simp
              rw [e1]
            rw [mapL_eq] at h1 h2 h3 h4 hb3
            rw [allB_iff] at hb3
            rw [nbeq, decide_eq_true_iff] at hb2
            refine ⟨(poL P nt ops.toList).map (pairPO r), some r, pl, Nat.pow 2 r.m, ⟨fun i p hp => ?_, by rw [List.length_map]; exact poL_len, fun p hp hm => h1 p hp (nm p (hm r rfl)),
              fun p hp q hq hm => h2 p hp q hq (nm p (hm r rfl).1) (nm q (hm r rfl).2), hed', fun r' hr' => ?_, fun r' hr' p hp hne => ?_, fun r' hr' => ?_⟩, h3, h4, fun j => ?_⟩
            · rw [List.getElem?_map] at hp
              cases e : (poL P nt ops.toList)[i]? with
              | none => rw [e] at hp; cases hp
              | some p0 =>
                rw [e] at hp; cases hp
                obtain ⟨o, ho, hp0⟩ := get i p0 e
                have hn0 : p0.n = i := by rw [hp0]; rfl
                refine ⟨by rw [pairPO_n]; exact hn0, pairPO_rd r p0 (by rw [hp0]; rfl), o, ho, by rw [pairPO_bef, hp0]; rfl, fun hne => ?_⟩
                obtain ⟨n1, n2⟩ := hne r rfl
                have e1 : Nat.beq p0.n r.m = false := by rw [nbeq, hn0]; simp; exact n1
                have e2 : Nat.beq p0.n r.i = false := by rw [nbeq, hn0]; simp; exact n2
                unfold pairPO
                rw [e1, e2, hp0]; rfl
            · cases hr'
              refine ⟨hmi, q13, ty, kt, k, v, oi, pairPO r pi, by simpa using q2, q3, q4, q5, q6, q7, q8, q9, q10, ?_, ?_, ?_, ?_⟩
              · rw [List.getElem?_map, hpi]; rfl
              · rw [hfi, q11]
              · rw [hfi]
              · rw [hfi]; exact hb1
            · cases hr'
              have := hb3 p hp
              unfold pairD at this
              have e2 : Nat.beq p.n r.i = false := by rw [nbeq]; simp; exact hne
              rw [e2] at this
              simp only at this
              intro hd
              rw [hd] at this
              simp only [(Pos.beq_iff (posOf r.t) (posOf r.t)).2 rfl] at this
              cases this
            · cases hr'
              refine ⟨ty', om, pairPO r pm, by simpa using m2, m3, m4, m5, ?_, ?_, ?_, ?_⟩
              · rw [List.getElem?_map, hpm]; rfl
              · rw [hfm]; rfl
              · rw [hfm]
              · rw [hfm]; exact hb2
            · rw [hmb]
              constructor
              · rintro rfl; exact ⟨r, rfl, rfl⟩
              · rintro ⟨r', h, rfl⟩; cases h; rfl
          · cases h
        · cases h
      · cases h

theorem DI.start {pr : Option Pair} {lo nb : Nat} {ρ : Rho} {w : World} {nx : Pos} {hp : T AObj} {tm : T AV} {tmps : Array Value} {E0 : Nat} (hI : RI P nt ops l pr) (hE : ∀ j, bit E0 j = true ↔ ∃ r, pr = some r ∧ r.m = j)
    (ht : TR ρ tm tmps) : DI P ops l pr lo nb ρ w nx hp tm tmps E0 0 0 (fun _ => False) := by
  have chm : ∀ p ∈ l, bit E0 p.n = true → p.ch = true ∧ p.bef = 0 := by
    intro p hp hb
    obtain ⟨r, hr, hm⟩ := (hE _).1 hb
    obtain ⟨ty, om, pm, -, -, -, -, m5, m6, m7, m8⟩ := hI.prM r hr
    have := hI.mem hp
    rw [← hm, m5] at this; cases this
    exact ⟨m7, m8⟩
  have nl : ∀ p, ¬ Late l E0 (fun _ => False) p := by
    rintro p ⟨h1, h2, h3, -⟩
    rw [(chm p h1 h3).1] at h2; cases h2
  refine ⟨fun i h => h.elim, fun i h => h.elim, fun p hp h1 h2 h3 => ?_, fun p hp => (nl p hp).elim, fun p hp hb j hj => ?_, fun i o h => h.elim, ⟨tm, ht, fun _ _ => rfl⟩, fun p hp => (nl p hp).elim, fun p q hp => (nl p hp.1).elim,
    fun p p' q hp => (nl p hp.1).elim, fun r hr h => h.elim, fun r hr => (hE _).2 ⟨r, hr, rfl⟩⟩
  · obtain ⟨r, hr, hm⟩ := (hE _).1 h2
    exact h3 r hr hm.symm
  · rw [(chm p hp hb).2, bit_zero] at hj; cases hj
end
end Am
