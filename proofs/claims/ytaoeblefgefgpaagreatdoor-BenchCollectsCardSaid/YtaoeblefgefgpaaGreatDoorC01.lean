/- A part of the proof of a statement of this seat: the machine on which the program is read, and what it computes; for every input. -/
import Derived.Test.YtaoeblefgefgpaaGreatDoorC00
import Derived.RangeFuncLeaves
import Derived.Orders
import Derived.RangeFuncCalls
import Derived.Scope
import Derived.RangeFuncRecord
import Derived.Conc.LoneSelect
set_option linter.all false
set_option linter.unusedSimpArgs false
set_option linter.unusedVariables false
set_option linter.unusedSectionVars false
set_option linter.unusedVariables false
namespace Go.Am
open Go
section
variable [Stat]
variable {X : Cx} {P : Program} {w : World} {σ : Sg} {s : St}

theorem growBy_le (need M : Nat) (hM : need + (need + 768) / 4 ≤ M) : ∀ (r c : Nat), c ≤ M → Builtin.growBy need r c ≤ M
  | 0, c, h => h
  | r + 1, c, h => by
    simp only [Builtin.growBy]
    split
    · exact h
    · exact growBy_le need M hM r _ (by omega)

theorem nextcap_le {need cap : Nat} (h : cap < need) : Builtin.nextslicecap need cap ≤ need + need / 4 + 512 := by
  unfold Builtin.nextslicecap
  split
  · omega
  · split
    · omega
    · exact growBy_le need _ (by omega) 4 cap (by omega)

theorem flat_len {α β : Type} (f : α → List β) (n : Nat) : ∀ (l : List α), (∀ u ∈ l, (f u).length = n) → (l.flatMap f).length = l.length * n
  | [], _ => by simp
  | x :: l, hl => by
    rw [List.flatMap_cons, List.length_append, hl x (List.mem_cons_self ..), flat_len f n l fun u hu => hl u (List.mem_cons_of_mem _ hu), List.length_cons, Nat.add_mul]
    omega

theorem sourceA_run (H : HR σ s w) {n m : Nat} {x : AV} {xv : Value} {new : List AV} (hx : vrel σ x xv) (h : sourceA n x s = some (m, new)) :
    (∀ w, (Builtin.lenOf xv).run P w = .ok m w) ∧ ∃ vs : Array Value, (∀ w', w'.heap = w.heap → (Builtin.firstCells n m xv).run P w' = .ok vs w') ∧ vrels σ new vs.toList := by
  unfold sourceA at h
  split at h
  · cases h
    simp only [vrel] at hx; subst hx
    exact ⟨fun _ => rfl, #[], fun _ _ => rfl, by simp [vrels]⟩
  · rename_i b o len cap esz
    obtain ⟨a, c, rfl, hlen, ⟨p, hp, ha, _⟩, _⟩ := vrel_sl hx
    split at h
    · rename_i cs hc
      split at h
      · rename_i r hg
        cases h
        refine ⟨fun _ => rfl, ?_⟩
        by_cases hm : m = 0
        · subst hm
          have : new = [] := by have := (grab_spec hg).1; simpa using this
          subst this
          exact ⟨#[], fun _ _ => by simp [Builtin.firstCells, loadCells, loadCellsFrom], by simp [vrels]⟩
        · obtain ⟨vs, h1, h2⟩ := loadCells_run (P := P) H hp hc hg
          exact ⟨vs.toArray, fun w' hw => by simp only [Builtin.firstCells]; rw [ha (by omega)]; exact h1 w' hw, h2⟩
      · cases h
    · cases h
  · rename_i bs
    cases h
    obtain ⟨b, rfl, rfl⟩ := vrel_str hx
    have hsz : b.data.toList.length = b.size := by rw [Array.length_toList]; rfl
    refine ⟨fun _ => by rw [hsz]; rfl, (b.extract 0 b.data.toList.length).data.map fun b => .int .u8 b.toNat, fun _ _ => rfl, ?_⟩
    have e : (b.extract 0 b.data.toList.length).data.toList = b.data.toList := by
      rw [extract_toList, List.drop_zero, List.take_of_length_le (Nat.le_refl _)]
    have : ((b.extract 0 b.data.toList.length).data.map fun b => Value.int .u8 b.toNat).toList = b.data.toList.map fun b => Value.int .u8 b.toNat := by
      rw [Array.toList_map, e]
    rw [this]
    generalize b.data.toList = l
    induction l with
    | nil => simp [vrels]
    | cons c l ih => simp only [List.map_cons, vrels]; exact ⟨_, _, rfl, by simp [vrel], ih⟩
  · rename_i es
    split at h
    · rename_i hall
      cases h
      simp only [Bool.and_eq_true, List.all_eq_true, beq_iff_eq, bne_iff_ne] at hall
      obtain ⟨a, c, us, rfl, hlc, hrel, hrow⟩ := vrel_fz hx
      refine ⟨fun _ => rfl, (us.flatMap fun u => u.cells.toList).toArray, fun w' hw => ?_, ?_⟩
      · have hll := hrel.length
        rcases hrow with rfl | ⟨hsp, cc, ee, fz, m, g1, g2, g3, g4⟩
        · have : es.length = 0 := hll
          rw [this]
          simp [Builtin.firstCells, loadCells, loadCellsFrom]
        · by_cases hem : us = []
          · subst hem
            have : es.length = 0 := hll
            rw [this]
            simp [Builtin.firstCells, loadCells, loadCellsFrom]
          · have hmn : m = n := by
              obtain ⟨u, hu⟩ := List.exists_mem_of_ne_nil us hem
              obtain ⟨i, hi⟩ := List.getElem?_of_mem hu
              have hlt : i < es.length := by rw [hll]; exact (List.getElem?_eq_some_iff.1 hi).1
              obtain ⟨u', h1, h2⟩ := hrel.get i _ (List.getElem?_eq_getElem hlt)
              rw [hi] at h1; cases h1
              have h3 := (vrel_cells h2).length
              have h4 := hall.1 _ (List.getElem_mem hlt)
              have h5 := g3 u hu
              have h6 : u.cells.toList.length = u.cells.size := rfl
              omega
            subst hmn
            obtain ⟨ab, ao, asp⟩ := a
            simp only at hsp g1 g4; subst hsp
            have := run_loadCells_list (P := P) w' ⟨ab, ao, none⟩ (us.flatMap fun u => u.cells.toList) (fun j v hv => by
              rw [addr_add, cell_of_heap hw, cell_of_block (H.fz _ _ g1).1]; exact g4 _ _ hv)
            simp only [Builtin.firstCells]
            have hlen : (us.flatMap fun u => u.cells.toList).length = es.length * m := by
              rw [hll]; exact flat_len _ m us fun u hu => by simpa using g3 u hu
            rw [hlen] at this
            exact this
      · have : vrels σ.bare (es.flatMap AV.cells) (us.flatMap fun u => u.cells.toList) := by
          clear hrow hx hlc hall
          induction es generalizing us with
          | nil => simp only [vrels] at hrel; subst hrel; simp [vrels]
          | cons x es ih =>
            simp only [vrels] at hrel
            obtain ⟨v, y, rfl, h1, h2⟩ := hrel
            rw [List.flatMap_cons, List.flatMap_cons]
            exact (vrel_cells h1).append (ih y h2)
        simpa using vrels.mono (Sg.bare_le σ) _ _ this
    · cases h
  · cases h

/-- the old elements -/
theorem old_run (H : HR σ s w) {b o len n : Nat} {cap : Option Nat} {esz : Nat} {a : Addr} {c : Nat} {cs old : List AV} (hsl : SlRel σ b o len cap esz a c) (hc : s.cells b = some cs) (hg : grab (len * n) o cs = some old) :
    ∃ vs : Array Value, (∀ w', w'.heap = w.heap → (Builtin.firstCells n len (.slice (some a) len c)).run P w' = .ok vs w') ∧ vrels σ old vs.toList := by
  obtain ⟨hlen, ⟨p, hp, ha, _⟩, _⟩ := hsl
  by_cases hm : len = 0
  · subst hm
    have : old = [] := by have := (grab_spec hg).1; simpa using this
    subst this
    exact ⟨#[], fun _ _ => by simp [Builtin.firstCells, loadCells, loadCellsFrom], by simp [vrels]⟩
  · obtain ⟨vs, h1, h2⟩ := loadCells_run (P := P) H hp hc hg
    exact ⟨vs.toArray, fun w' hw => by simp only [Builtin.firstCells]; rw [ha (by omega)]; exact h1 w' hw, h2⟩

/-- a block of ours is given up for a new one in the same place -/
theorem Good.inPlace (H : HR σ s w) (hf : σ s.next = none) {b : Nat} {p q : Pl} {b0 b1 : Blk} (hp : σ b = some p) (hl : s.look b = some b0) (hown : b0.own = true) (hb1 : b1 ≠ .gone) (hq : q.b = p.b) {w' : World} (hsz : w'.heap.size = w.heap.size)
    (hrest : ∀ c, c ≠ p.b → w'.heap[c]? = w.heap[c]?) {o : Obj} (ho : w'.heap[p.b]? = some o) (hr : BR (σ.add s.next q) q b1 o) (hos : w'.os = w.os) (ht : w'.tape = w.tape) (hout : w'.output = w.output) (hdr : Drw w w' := by first | exact Drw.refl _ | exact Drw.of (Nat.le_refl _) | assumption) :
    Good σ s w (σ.add s.next q) ((s.put b .gone).new b1) w' := by
  have hle : Sg.le σ (σ.add s.next q) := Sg.le_add hf
  have look : ∀ j c, ((s.put b .gone).new b1).look j = some c → (j = s.next ∧ c = b1) ∨ (j ≠ s.next ∧ j ≠ b ∧ s.look j = some c) := by
    intro j c hj
    rw [St.look_new _ _ _ hb1, St.next_put] at hj
    by_cases e : s.next = j
    · rw [if_pos e] at hj; cases hj; exact .inl ⟨e.symm, rfl⟩
    · rw [if_neg e, St.look_put] at hj
      by_cases e' : b = j
      · rw [if_pos e'] at hj; cases hj
      · rw [if_neg e'] at hj; exact .inr ⟨fun h => e h.symm, fun h => e' h.symm, hj⟩
  have hlt : p.b < w.heap.size := H.lt _ _ hp
  refine ⟨⟨?_, ?_, ?_, ?_⟩, ⟨hle, fun _ _ h => .inl h, by omega, ?_, ?_, hos, ht, hout, hdr⟩, ?_, by rw [St.next_new, St.next_put]; omega, ?_, ?_, rfl⟩
  · intro i r hi
    by_cases e : i = s.next
    · subst e; rw [Sg.add_self] at hi; cases hi; omega
    · rw [Sg.add_ne _ _ e] at hi; rw [hsz]; exact H.lt i r hi
  · intro i r c hi hc
    rcases look i c hc with ⟨rfl, rfl⟩ | ⟨e, e', hc'⟩
    · rw [Sg.add_self] at hi; cases hi
      exact ⟨o, by rw [hq]; exact ho, hr⟩
    · rw [Sg.add_ne _ _ e] at hi
      obtain ⟨o', h1, h2⟩ := H.blk i r c hi hc'
      have hne : r.b ≠ p.b := fun he => e' (H.inj i b r p c b0 hi hp hc' hl he)
      exact ⟨o', by rw [hrest _ hne]; exact h1, h2.mono hle⟩
  · intro i j r t c d hi hj hc hd he
    rcases look i c hc with ⟨rfl, rfl⟩ | ⟨e1, e2, hc'⟩ <;> rcases look j d hd with ⟨e3, rfl⟩ | ⟨e3, e4, hd'⟩
    · exact e3.symm
    · rw [Sg.add_self] at hi; cases hi
      rw [Sg.add_ne _ _ e3] at hj
      exact absurd (H.inj j b t p d b0 hj hp hd' hl (by omega)) e4
    · subst e3
      rw [Sg.add_self] at hj; cases hj
      rw [Sg.add_ne _ _ e1] at hi
      exact absurd (H.inj i b r p c b0 hi hp hc' hl (by omega)) e2
    · rw [Sg.add_ne _ _ e1] at hi
      rw [Sg.add_ne _ _ e3] at hj
      exact H.inj i j r t c d hi hj hc' hd' he
  · intro c o' hc
    obtain ⟨h1, h2⟩ := H.fz c o' hc
    have hcp : c ≠ p.b := fun e => h2 ⟨b, p, b0, hp, hl, hown, e.symm⟩
    refine ⟨by rw [hrest c hcp]; exact h1, ?_⟩
    rintro ⟨j, r, d, hj, hd, hdo, rfl⟩
    rcases look j d hd with ⟨rfl, rfl⟩ | ⟨e, e', hd'⟩
    · rw [Sg.add_self] at hj; cases hj
      exact hcp hq
    · rw [Sg.add_ne _ _ e] at hj
      exact h2 ⟨j, r, d, hj, hd', hdo, rfl⟩
  · intro c _ hn
    exact hrest c (fun e => hn ⟨b, p, b0, hp, hl, hown, e.symm⟩)
  · rintro c hc ⟨j, r, d, hj, hd, hdo, rfl⟩
    rcases look j d hd with ⟨rfl, rfl⟩ | ⟨e, e', hd'⟩
    · rw [Sg.add_self] at hj; cases hj
      exact ⟨b, p, b0, hp, hl, hown, hq.symm⟩
    · rw [Sg.add_ne _ _ e] at hj
      exact ⟨j, r, d, hj, hd', hdo, rfl⟩
  · intro i hi
    rw [St.next_new, St.next_put] at hi
    exact Sg.add_ne _ _ (by omega)
  · intro i hi hil
    cases hc : ((s.put b .gone).new b1).look i with
    | none => rfl
    | some c =>
      rcases look i c hc with ⟨rfl, _⟩ | ⟨_, _, hc'⟩
      · omega
      · rw [hil] at hc'; cases hc'
  · intro i r hi hn
    by_cases e : i = s.next
    · subst e; rw [Sg.add_self] at hi; cases hi
      exact .inr ⟨b, p, b0, hp, hl, hown, hq.symm⟩
    · rw [Sg.add_ne _ _ e, hn] at hi; cases hi

/-- a block of ours is given up on the abstract side alone -/
theorem Good.drop (H : HR σ s w) {b : Nat} {b0 : Blk} (hl : s.look b = some b0) : Good σ s w σ (s.put b .gone) w := by
  have look : ∀ j c, (s.put b .gone).look j = some c → s.look j = some c := by
    intro j c hj
    rw [St.look_put] at hj
    by_cases e : b = j
    · rw [if_pos e] at hj; cases hj
    · rw [if_neg e] at hj; exact hj
  refine ⟨⟨H.lt, fun i p c hi hc => H.blk i p c hi (look i c hc), fun i j p q c d hi hj hc hd he => H.inj i j p q c d hi hj (look i c hc) (look j d hd) he, fun c o hc => ⟨(H.fz c o hc).1, fun ⟨i, p, d, hi, hd, ho, he⟩ => (H.fz c o hc).2 ⟨i, p, d, hi, look i d hd, ho, he⟩⟩⟩,
    ⟨Sg.le_refl _, fun _ _ h => .inl h, Nat.le_refl _, fun _ _ _ => rfl, ?_, rfl, rfl, rfl, Drw.of (Nat.le_refl _)⟩, fun _ _ => rfl, Nat.le_refl _, ?_, fun i p h k => (by rw [k] at h; cases h), rfl⟩
  · rintro c _ ⟨i, p, d, hi, hd, ho, rfl⟩
    exact ⟨i, p, d, hi, look i d hd, ho, rfl⟩
  · intro i _ hi
    cases hc : (s.put b .gone).look i with
    | none => rfl
    | some c => rw [look i c hc] at hi; cases hi

theorem zeroCells_size (z : Array Value) (n : Nat) : (Builtin.zeroCells z n).size = n * z.size := by simp [Builtin.zeroCells]

/-- the concrete append, where it needs a new array -/
theorem append_new (hX : CxOk X P) {t u elem : TypeId} {ts : Array TypeId} {ty : TypeId} {ei : TypeInfo} {z : Value} {n m len c : Nat} {base : Option Addr} {xv : Value} {old new : Array Value} (ht : ts[0]? = some t) (hu2 : ts[1]? = some u)
    (hud : ∃ d, X.und u = some d ∧ ∀ k, d ≠ .int k) (hu : X.und t = some (.slice elem)) (hi : X.inf elem = some ei) (hsz : ei.size = n) (hz : ei.zero = some z)
    (hl : (Builtin.lenOf xv).run P w = .ok m w) (hx : ∀ w', w'.heap = w.heap → (Builtin.firstCells n m xv).run P w' = .ok new w') (ho : ∀ w', w'.heap = w.heap → (Builtin.firstCells n len (.slice base len c)).run P w' = .ok old w')
    (hneed : c < len + m) (hb : (len + m) * ei.bytes ≤ 2 ^ 47) (hb2 : ei.bytes ≤ 2 ^ 20) (hb3 : len + m ≤ 2 ^ 47) (hb0 : ei.bytes ≠ 0) :
    ∃ cap, len + m ≤ cap ∧ cap < 2 ^ 63 ∧ (Builtin.append_ ts ty #[.slice base len c, xv]).run P w = .ok (.slice (some ⟨w.heap.size, 0, none⟩) (len + m) cap) (w.drew.alloc (.cells (old ++ new ++ Builtin.zeroCells z.cells (cap - (len + m))) elem)) := by
  obtain ⟨d, hd, hdi⟩ := hud
  refine ⟨(len + m) + (w.tape w.drawn (.appendCap (len + m) c elem)) % (2 ^ 63 - (len + m)), by omega, (by have := Nat.mod_lt (w.tape w.drawn (.appendCap (len + m) c elem)) (show 0 < 2 ^ 63 - (len + m) by omega); omega), ?_⟩
  have hs : size X elem = some n := by simp [size, hi, hsz]
  have hnc : ¬ (Builtin.nextslicecap (len + m) c * ei.bytes > 2 ^ 48) := by
    have h1 := nextcap_le hneed
    have h2 : 4 * Builtin.nextslicecap (len + m) c * ei.bytes ≤ (5 * (len + m) + 2048) * ei.bytes := Nat.mul_le_mul_right _ (by omega)
    have h3 : (5 * (len + m) + 2048) * ei.bytes = 5 * ((len + m) * ei.bytes) + 2048 * ei.bytes := by rw [Nat.add_mul, Nat.mul_assoc]
    rw [Nat.mul_assoc] at h2
    omega
  have hbig : ¬ (((len + m : Nat) : Int) > IntKind.i64.max ∧ ei.bytes = 0) := fun h => hb0 h.2
  have hle : ¬ (len + m ≤ c) := by omega
  have e0 : (#[Value.slice base len c, xv] : Array Value)[0]? = some (.slice base len c) := rfl
  have e1 : (#[Value.slice base len c, xv] : Array Value)[1]? = some xv := rfl
  unfold Builtin.append_
  simp only [ht, e0, e1, Sem.run_bind, run_und (hX.und _ _ hu), Result.andThen_ok, run_size' hX hs, hu2, run_und (hX.und _ _ hd), Sem.run_pure]
  simp only [Bool.false_eq_true, if_false, Sem.run_bind, hl, Result.andThen_ok, hle, Bool.not_false, if_true, run_inf (hX.inf _ _ hi), false_or, hbig, hnc, run_choose, Question.forced, Question.cut, run_askRoom, World.drew_eq,
    ho w.drew rfl, hx w.drew rfl, run_zero (hX.inf _ _ hi) hz, newRow, run_newObj, World.alloc_eq, Sem.run_pure]
  rfl

/-- the concrete append, where there is room -/
theorem append_room (hX : CxOk X P) {t u elem : TypeId} {ts : Array TypeId} {ty : TypeId} {n m len c : Nat} {base : Option Addr} {xv : Value} {new : Array Value} {w' : World} (ht : ts[0]? = some t) (hu2 : ts[1]? = some u)
    (hud : ∃ d, X.und u = some d ∧ ∀ k, d ≠ .int k) (hu : X.und t = some (.slice elem)) (hs : size X elem = some n)
    (hl : (Builtin.lenOf xv).run P w = .ok m w) (hx : (Builtin.firstCells n m xv).run P w = .ok new w) (hneed : len + m ≤ c)
    (hst : match base with | some a => (storeCells (a.add (len * n)) new.toList).run P w = .ok () w' | none => w' = w) :
    (Builtin.append_ ts ty #[.slice base len c, xv]).run P w = .ok (.slice base (len + m) c) w' := by
  obtain ⟨d, hd, hdi⟩ := hud
  have e0 : (#[Value.slice base len c, xv] : Array Value)[0]? = some (.slice base len c) := rfl
  have e1 : (#[Value.slice base len c, xv] : Array Value)[1]? = some xv := rfl
  unfold Builtin.append_
  simp only [ht, e0, e1, Sem.run_bind, run_und (hX.und _ _ hu), Result.andThen_ok, run_size' hX hs, hu2, run_und (hX.und _ _ hd), Sem.run_pure]
  simp only [Bool.false_eq_true, if_false, Sem.run_bind, hl, Result.andThen_ok, hneed, Bool.not_false, if_true, hx]
  cases base with
  | none => simp only at hst; subst hst; rfl
  | some a => simp only at hst ⊢; simp only [Sem.run_bind, hst, Result.andThen_ok, Sem.run_pure]

theorem append_vals {old new : List AV} {ov nv : Array Value} (ho : vrels σ old ov.toList) (hn : vrels σ new nv.toList) (z : Array Value) : ∀ (j : Nat) (a : AV), (old ++ new)[j]? = some a → ∃ v, (ov ++ nv ++ z)[j]? = some v ∧ vrel σ a v := by
  intro j a ha
  obtain ⟨v, hv, hr⟩ := (ho.append hn).get j a ha
  refine ⟨v, ?_, hr⟩
  have hj : j < (ov ++ nv).size := by
    have := (List.getElem?_eq_some_iff.1 hv).1
    simp at this ⊢; omega
  rw [← Array.toList_append, Array.getElem?_toList] at hv
  rw [Array.getElem?_append_left hj]; exact hv

theorem appendA_run (hX : CxOk X P) (H : HR σ s w) (hf : σ s.next = none) {t u : TypeId} {ts : Array TypeId} {ty : TypeId} {d x r : AV} {dv xv : Value} {s' : St} (ht : ts[0]? = some t) (hu2 : ts[1]? = some u)
    (hud : ∃ d, X.und u = some d ∧ ∀ k, d ≠ .int k) (hd : vrel σ d dv) (hx : vrel σ x xv) (h : appendA X t d x s = some (r, s')) : ORun P σ s w (Builtin.append_ ts ty #[dv, xv]) r s' := by
  unfold appendA at h
  split at h
  · rename_i elem hu
    split at h
    · rename_i ei n hi hs
      split at h
      · rename_i m new hsrc
        split at h
        · cases h
        · rename_i hbad
          simp only [not_or, Decidable.not_not, Nat.not_lt, ne_eq] at hbad
          obtain ⟨hnl, hb, hb2, hb3, hn0, hb0, hz, hspec⟩ := hbad
          obtain ⟨z, hz, hzs⟩ : ∃ z, ei.zero = some z ∧ z.cells.size = n := by
            cases hzz : ei.zero with
            | none => rw [hzz] at hz; exact absurd rfl hz
            | some z => rw [hzz] at hz; exact ⟨z, rfl, by simpa [zeroBad] using hz⟩
          obtain ⟨hl, nv, hnv, hnr⟩ := sourceA_run (P := P) H hx hsrc
          have hsz : ei.size = n := by simp only [size, hi] at hs; exact Option.some.inj hs
          split at h
          · -- nothing is appended
            rename_i hm0
            subst hm0
            have hnv0 : nv.toList = [] := by
              have := hnr.length
              rw [hnl, Nat.zero_mul] at this
              exact List.length_eq_zero_iff.1 this.symm
            split at h
            · cases h
              simp only [vrel] at hd; subst hd
              exact ⟨σ, _, w, append_room hX ht hu2 hud hu hs (hl w) (hnv w rfl) (by omega) rfl, by simp [vrel], Good.refl H⟩
            · cases h
              have hd' := hd
              obtain ⟨a, c, rfl, hsl⟩ := vrel_sl hd
              refine ⟨σ, _, w, append_room hX ht hu2 hud hu hs (hl w) (hnv w rfl) hsl.len ?_, hd', Good.refl H⟩
              rw [hnv0]; rfl
            · cases h
              have hd' := hd
              obtain ⟨a, c, us, rfl, hlc, _⟩ := vrel_fz hd
              refine ⟨σ, _, w, append_room hX ht hu2 hud hu hs (hl w) (hnv w rfl) hlc ?_, hd', Good.refl H⟩
              rw [hnv0]; rfl
            · cases h
          · rename_i hm0
            -- a new array, whatever the old one was
            have fresh : ∀ (σ0 : Sg) (s0 : St) (base : Option Addr) (len c : Nat) (old : List AV) (ov : Array Value), HR σ0 s0 w → σ0 s0.next = none → vrels σ0 old ov.toList → vrels σ0 new nv.toList → (∀ w', w'.heap = w.heap → (Builtin.firstCells n len (.slice base len c)).run P w' = .ok ov w') → old.length = len * n →
                c < len + m → (len + m) * ei.bytes ≤ 2 ^ 47 → len + m ≤ 2 ^ 47 → ∀ (flo fhi : Nat), ORun P σ0 s0 w (Builtin.append_ ts ty #[.slice base len c, xv]) (.sl s0.next 0 (len + m) none n) (s0.new (.cells (old ++ new) elem false flo fhi)) := by
              intro σ0 s0 base len c old ov H0 hf0 hor hnr0 hov hol hneed hbb hbl flo fhi
              obtain ⟨cap, hcap, hcr, hrun⟩ := append_new (w := w) hX (ty := ty) ht hu2 hud hu hi hsz hz (hl w) hnv hov hneed hbb hb2 hbl hb0
              have hos := hor.size
              have hns := hnr0.size
              have hsize : (ov ++ nv ++ Builtin.zeroCells z.cells (cap - (len + m))).size = cap * n := by
                simp only [Array.size_append, zeroCells_size, hzs, ← hos, ← hns, hol, hnl, ← Nat.add_mul]
                congr 1; omega
              refine ⟨σ0.add s0.next ⟨w.heap.size, 0, cap * n⟩, _, _, hrun, ?_, ?_⟩
              · simp only [vrel]
                exact ⟨_, _, rfl, by omega, ⟨_, Sg.add_self _ _ _, fun _ => by simp, fun _ => by simp⟩, by simp, hcr⟩
              · have hle : Sg.le σ0 (σ0.add s0.next ⟨w.heap.size, 0, cap * n⟩) := Sg.le_add hf0
                refine Good.drew0 (Good.new (w := w.drew) (H0.of_heap rfl) hf0 _ (by simp) _ _ ⟨hsize, ?_, rfl, ?_, ?_, fun h => absurd (hX.spec _ h) (by simpa using hspec)⟩)
                · simp only [List.length_append, hol, hnl, ← Nat.add_mul, Nat.zero_add]
                  exact Nat.mul_le_mul_right _ hcap
                · intro j a ha
                  obtain ⟨v, hv, hr⟩ := append_vals hor hnr0 (Builtin.zeroCells z.cells (cap - (len + m))) j a ha
                  exact ⟨v, by simpa using hv, vrel.mono hle _ _ hr⟩
                · intro _ j h1 h2 _
                  simp at h2
            split at h
            · -- the nil slice
              cases h
              simp only [vrel] at hd; subst hd
              have hlz : lenA AV.nils = 0 := rfl
              rw [hlz] at hb hb3
              have := fresh σ s none 0 0 [] #[] H hf (by simp [vrels]) hnr (fun w' _ => rfl) (by simp) (by omega) hb hb3 0 0
              simpa using this
            · rename_i b o len cap esz
              obtain ⟨a, c, rfl, hsl⟩ := vrel_sl hd
              split at h
              · rename_i cs hc
                split at h
                · rename_i old hg
                  obtain ⟨ov, hov, hor⟩ := old_run (P := P) H hsl hc hg
                  have hol := (grab_spec hg).1
                  simp only [lenA] at hb hb3
                  split at h
                  · rename_i k
                    have hck := hsl.cap k rfl
                    subst hck
                    split at h
                    · rename_i hroom
                      split at h
                      · rename_i hesz
                        subst hesz
                        split at h
                        · rename_i s1 hwr
                          cases h
                          obtain ⟨hlen, ⟨p, hp, ha, hbd⟩, _, hrm⟩ := hsl
                          have ha' := ha (by omega)
                          subst ha'
                          obtain ⟨w', g1, g2⟩ := writeCells_run (P := P) H hp hnr hwr
                          refine ⟨σ, _, w', append_room hX ht hu2 hud hu hs (hl w) (hnv w rfl) hroom (by simp only [addr_add, Nat.add_assoc] at g1 ⊢; exact g1), ?_, g2⟩
                          simp only [vrel]
                          exact ⟨_, _, rfl, hroom, ⟨p, hp, fun _ => rfl, hbd⟩, fun q hq => by cases hq; rfl, hrm⟩
                        · cases h
                      · cases h
                    · rename_i hroom
                      cases h
                      exact fresh σ s (some a) len c old ov H hf hor hnr hov hol (by omega) hb hb3 0 0
                  · split at h
                    · rename_i cs' e0 flo fhi hgb
                      split at h
                      · rename_i hcond
                        obtain ⟨hesz, hfhi, he0, hall⟩ := hcond
                        subst hesz; subst he0
                        cases h
                        have hlb : s.look b = some (.cells cs' e0 false flo fhi) := St.look_some hgb (by simp)
                        have hcs : cs' = cs := by
                          obtain ⟨_, _, _, _, hl2, _⟩ := cells_look hc
                          rw [hlb] at hl2; cases hl2; rfl
                        subst hcs
                        by_cases hroom : len + m ≤ c
                        · -- in place
                          obtain ⟨hlen, ⟨p, hp, ha, hbd⟩, _, hrm⟩ := hsl
                          have ha' := ha (by omega)
                          subst ha'
                          obtain ⟨cc, fz, k1, k2, k3, k4, k5⟩ := H.cells hp hlb
                          have hnl' : nv.toList.length = m * esz := by rw [← hnl]; exact hnr.length.symm
                          have hcb : p.sh + o + c * esz ≤ p.n := hbd hn0
                          have hmul : (len + m) * esz ≤ c * esz := Nat.mul_le_mul_right _ hroom
                          have hmul2 : (len + m) * esz = len * esz + m * esz := Nat.add_mul _ _ _
                          have hones : ∀ v ∈ nv.toList, v.oneCell' = true := by
                            intro v hv
                            obtain ⟨i, hi, rfl⟩ := List.mem_iff_getElem.1 hv
                            have hix : i < new.length := by have := hnr.length; omega
                            obtain ⟨v', hv1, hv2⟩ := vrels.get hnr i new[i] (List.getElem?_eq_getElem hix)
                            rw [List.getElem?_eq_getElem hi] at hv1; cases hv1
                            exact oneCell_of_noAgg hv2 (List.all_eq_true.1 hall _ (List.getElem_mem hix))
                          obtain ⟨w', cc', q1, q2, q3, q4, q5, q6, q7, q8, q9⟩ := storeCells_run (P := P) (b := p.b) (e := e0) (fz := fz) nv.toList (p.sh + o + len * esz) 0 w cc k1 hones (by rw [k2]; omega)
                            (fun j hj hj' hfj => by
                              obtain ⟨r1, r2⟩ := k5 rfl (j - p.sh) (by rw [show p.sh + (j - p.sh) = j from by omega]; exact hfj.1) (by rw [show p.sh + (j - p.sh) = j from by omega]; exact hfj.2) (by omega)
                              omega)
                          refine ⟨σ.add s.next ⟨p.b, p.sh + o, p.n⟩, _, w', append_room hX ht hu2 hud hu hs (hl w) (hnv w rfl) hroom (by simp only [addr_add]; exact q1), ?_, ?_⟩
                          · simp only [vrel]
                            exact ⟨_, _, rfl, hroom, ⟨_, Sg.add_self _ _ _, fun _ => by simp, fun _ => by simpa using hcb⟩, by simp, hrm⟩
                          · have hle : Sg.le σ (σ.add s.next ⟨p.b, p.sh + o, p.n⟩) := Sg.le_add hf
                            have hold := hor.length
                            refine Good.inPlace (q := ⟨p.b, p.sh + o, p.n⟩) (b1 := .cells (old ++ new) e0 false (flo - o) (fhi - o)) H hf hp hlb rfl (by simp) rfl q2 q3 q4 ⟨by rw [q5, k2], ?_, rfl, ?_, ?_, fun h => absurd (hX.spec _ h) (by simpa using hspec)⟩ q7 q8 q9.1 (Drw.of (Nat.le_of_eq q9.2.symm))
                            · simp only [List.length_append, hol, hnl]; omega
                            · intro j a ha
                              simp only
                              rw [q6]
                              by_cases hj : j < old.length
                              · rw [List.getElem?_append_left hj] at ha
                                rw [if_neg (by omega)]
                                have := k4 (o + j) a (grab_get hg ha)
                                obtain ⟨v, hv, hr⟩ := this
                                exact ⟨v, by rw [Nat.add_assoc]; exact hv, vrel.mono hle _ _ hr⟩
                              · rw [List.getElem?_append_right (by omega)] at ha
                                obtain ⟨v, hv, hr⟩ := hnr.get _ _ ha
                                have hjm : j - old.length < new.length := (List.getElem?_eq_some_iff.1 ha).1
                                rw [if_pos (by omega)]
                                refine ⟨v, ?_, vrel.mono hle _ _ hr⟩
                                rw [show p.sh + o + j - (p.sh + o + len * esz + 0) = j - old.length from by omega]
                                exact hv
                            · intro _ j h1 h2 h3
                              simp only at h1 h2 h3
                              obtain ⟨r1, r2⟩ := k5 rfl (o + j) (by omega) (by omega) (by omega)
                              omega
                        · -- elsewhere
                          have hd0 := Good.drop H hlb
                          have := fresh σ (s.put b .gone) (some a) len c old ov hd0.hr hf hor hnr hov hol (by omega) hb hb3 (flo - o) (fhi - o)
                          obtain ⟨σ', v, w', g1, g2, g3⟩ := this
                          exact ⟨σ', v, w', g1, g2, hd0.trans g3⟩
                      · cases h
                    · cases h
                · cases h
              · cases h
            · cases h
      · cases h
    · cases h
  · cases h

end

end Go.Am
set_option linter.unusedSimpArgs false
set_option linter.unusedVariables false
set_option linter.unusedSectionVars false
set_option linter.unusedVariables false
namespace Go.Am
open Go
section
variable [Stat]
variable {X : Cx} {P : Program} {w : World} {σ : Sg} {s : St}

/-! ### UTF-8 -/

theorem get!_eq (bs : ByteArray) (n : Nat) : bs.get! n = (bs.data.toList[n]?).getD 0 := by
  cases bs with
  | mk a =>
    simp only [ByteArray.get!, getElem!_def, Array.getElem?_toList]
    cases a[n]? <;> rfl

theorem decodeL_eq (bs : ByteArray) (i : Nat) : decodeL (bs.data.toList.drop i) = Utf8.decode bs i := by
  have hg : ∀ k, (((bs.data.toList.drop i)[k]?).getD 0).toNat = (bs.get! (i + k)).toNat := by
    intro k
    rw [get!_eq, List.getElem?_drop]
  have hc : ∀ k, decide (k < (bs.data.toList.drop i).length) = decide (i + k < bs.size) := by
    intro k
    have : bs.data.toList.length = bs.size := by rw [Array.length_toList]; rfl
    rw [List.length_drop, this]
    congr 1
    rw [eq_iff_iff]; omega
  unfold decodeL Utf8.decode
  simp only [hg, hc]

theorem range_run (hX : CxOk X P) (H : HR σ s w) (hf : σ s.next = none) {t : TypeId} {b : List UInt8} {v : Value} (hu : X.und t = some .string) (hv : vrel σ (.str b) v) :
    ORun P σ s w (Instr.range t v) (.ptr s.next 0) (s.new (.iter b 0)) := by
  obtain ⟨bs, rfl, rfl⟩ := vrel_str hv
  refine ⟨_, .pointer (some ⟨w.heap.size, 0, none⟩), w.alloc (.stringIter bs 0), ?_, ?_, Good.new H hf (.iter _ 0) (by simp) _ 0 ⟨rfl, rfl, by simp⟩⟩
  · simp only [Instr.range, Sem.run_bind, run_und (hX.und _ _ hu), Result.andThen_ok, Sem.run_pure, run_newObj, World.alloc_eq]
  · simp only [vrel]; exact ⟨_, Sg.add_self _ _ _, by simp⟩

theorem next_run (H : HR σ s w) {r pos : Nat} {b : List UInt8} {v : Value} {ty : TypeId} (hv : vrel σ (.ptr r 0) v) (hg : s.get r = some (.iter b pos)) :
    ORun P σ s w (Instr.next v true ty) (match b with | [] => .tup [.bool false] | _ :: _ => .tup [.bool true, .int .i64 pos, .int .i32 (decodeL b).1])
      (match b with | [] => s | _ :: _ => s.put r (.iter (b.drop (decodeL b).2) (pos + (decodeL b).2))) := by
  obtain ⟨p, hp, rfl⟩ := vrel_ptr hv
  have hl : s.look r = some (.iter b pos) := St.look_some hg (by simp)
  obtain ⟨o, ho, hb⟩ := H.blk r p _ hp hl
  cases o <;> simp only [BR] at hb
  rename_i bs pos'
  obtain ⟨h0, rfl, h2⟩ := hb
  have hsz : bs.data.toList.length = bs.size := by rw [Array.length_toList]; rfl
  cases b with
  | nil =>
    have hge : ¬ (pos < bs.size) := by
      have := List.drop_eq_nil_iff.1 h2
      omega
    refine ⟨σ, .tuple #[.bool false], w, ?_, ?_, Good.refl H⟩
    · simp only [Instr.next, h0, Nat.add_zero, Sem.run_bind, run_getObj ho (by simp), Result.andThen_ok, hge, if_false, Sem.run_pure]
    · simp only [vrel]; exact ⟨_, rfl, by simp only [vrels]; exact ⟨_, _, rfl, by simp [vrel], rfl⟩⟩
  | cons c b =>
    have hlt : pos < bs.size := by
      rcases Nat.lt_or_ge pos bs.size with h | h
      · exact h
      · rw [List.drop_eq_nil_of_le (by omega)] at h2; cases h2
    have hd := decodeL_eq bs pos
    rw [h2] at hd
    have hplt : p.b < w.heap.size := H.lt _ _ hp
    refine ⟨σ, .tuple #[.bool true, goInt pos, .int .i32 (decodeL (c :: b)).1], { w with heap := w.heap.setIfInBounds p.b (.stringIter bs (pos + (decodeL (c :: b)).2)) }, ?_, ?_, ?_⟩
    · simp only [Instr.next, h0, Nat.add_zero, Sem.run_bind, run_getObj ho (by simp), Result.andThen_ok, hlt, if_true, hd, run_setObj ho (by simp), Sem.run_pure]
    · simp only [vrel]
      exact ⟨_, rfl, by simp only [vrels]; exact ⟨_, _, rfl, by simp [vrel], _, _, rfl, by simp [vrel, goInt], _, _, rfl, by simp [vrel], rfl⟩⟩
    · refine Good.put H hp hl rfl (by simp) (by simp) ?_ (o := .stringIter bs (pos + (decodeL (c :: b)).2)) ?_ ⟨h0, rfl, ?_⟩ rfl rfl rfl
      · intro d hd
        simp only
        rw [Array.getElem?_setIfInBounds_ne (fun e => hd e.symm)]
      · simp [hplt]
      · rw [← h2, List.drop_drop]

/-! ### bytes and strings -/

theorem loadBytesA_vals : ∀ {r : List AV} {bs : List UInt8} {vs : List Value}, loadBytesA r = some bs → vrels σ r vs → ∃ ns : List Int, vs = ns.map (Value.int .u8) ∧ bs = ns.map fun n => UInt8.ofNat n.toNat
  | [], bs, vs, h, hv => by simp only [loadBytesA] at h; cases h; simp only [vrels] at hv; exact ⟨[], hv, rfl⟩
  | a :: r, bs, vs, h, hv => by
    simp only [vrels] at hv
    obtain ⟨v, y, rfl, h1, h2⟩ := hv
    unfold loadBytesA at h
    split at h
    · rename_i h'; cases h'
    · rename_i n l heq
      cases heq
      split at h
      · rename_i q hq
        cases h
        obtain ⟨ns, rfl, rfl⟩ := loadBytesA_vals hq h2
        rw [vrel_int h1]
        exact ⟨n :: ns, rfl, rfl⟩
      · cases h
    · cases h

theorem fold_push (ns : List Int) (b : ByteArray) : (ns.foldl (fun r n => r.push (UInt8.ofNat n.toNat)) b).data.toList = b.data.toList ++ ns.map fun n => UInt8.ofNat n.toNat := by
  induction ns generalizing b with
  | nil => simp
  | cons n ns ih => rw [List.foldl_cons, ih]; simp [ByteArray.push]

/-- string(b) -/
theorem loadBytesA_ones : ∀ {es : List AV} {bs : List UInt8}, loadBytesA es = some bs → (∀ x ∈ es, x.cells.length = 1) ∧ es.flatMap AV.cells = es
  | [], bs, _ => ⟨by simp, rfl⟩
  | x :: es, bs, h => by
    unfold loadBytesA at h
    split at h
    · rename_i e; cases e
    · rename_i n l e
      cases e
      split at h
      · rename_i r hr
        obtain ⟨h1, h2⟩ := loadBytesA_ones hr
        refine ⟨?_, by rw [List.flatMap_cons, h2]; rfl⟩
        intro y hy
        rcases List.mem_cons.1 hy with rfl | hy
        · rfl
        · exact h1 y hy
      · cases h
    · cases h

theorem bytesToString_run (hX : CxOk X P) (H : HR σ s w) {src dst e : TypeId} {x r : AV} {v : Value} {s' : St} (hs : X.und src = some (.slice e)) (hd : X.und dst = some .string) (hx : vrel σ x v) (h : convA X src dst x s = some (r, s')) : s' = s ∧ PRun P w σ (convert src dst v) r := by
  unfold convA at h
  rw [hs, hd] at h
  cases x
  case int k n =>
    cases h
    have := vrel_int hx; subst this
    refine ⟨rfl, .string (Utf8.encode n), ?_, by simp only [vrel]; exact ⟨_, rfl, rfl⟩⟩
    simp [convert, run_und (hX.und _ _ hs), run_und (hX.und _ _ hd), Conv.intToString]
  case str l =>
    cases h
    obtain ⟨bs, rfl, rfl⟩ := vrel_str hx
    refine ⟨rfl, .string bs, ?_, by simp only [vrel]; exact ⟨_, rfl, rfl⟩⟩
    simp [convert, run_und (hX.und _ _ hs), run_und (hX.und _ _ hd)]
  case nils =>
    simp only at h
    split at h
    · rename_i he
      cases h
      simp only [vrel] at hx; subst hx
      refine ⟨rfl, .string .empty, ?_, by simp only [vrel]; exact ⟨_, rfl, rfl⟩⟩
      simp [convert, run_und (hX.und _ _ hs), run_und (hX.und _ _ hd), run_und (hX.und _ _ he), Conv.bytesToString]
    · cases h
  case sl b o len cap esz =>
    simp only at h
    split at h
    · rename_i he
      split at h
      · rename_i c hc
        split at h
        · rename_i q hq
          split at h
          · rename_i bs hbs
            cases h
            obtain ⟨a, k, rfl, hsl⟩ := vrel_sl hx
            have hq' : grab (len * 1) o c = some q := by rw [Nat.mul_one]; exact hq
            obtain ⟨vs, h1, h2⟩ := old_run (P := P) H hsl hc hq'
            have h1 := h1 w rfl
            simp only [Builtin.firstCells, Nat.mul_one] at h1
            obtain ⟨ns, e1, e2⟩ := loadBytesA_vals hbs h2
            have e3 : vs = (ns.map (Value.int .u8)).toArray := by rw [← e1]
            rw [e3] at h1
            refine ⟨rfl, .string (ns.foldl (fun r n => r.push (UInt8.ofNat n.toNat)) ByteArray.empty), ?_, ?_⟩
            · rw [run_convert_bytes_string w src dst e (some a) len k (hX.und _ _ hs) (hX.und _ _ he) (hX.und _ _ hd)]
              exact run_bytesToString w a len k ns h1
            · simp only [vrel]
              exact ⟨_, rfl, by rw [fold_push, e2]; simp⟩
          · cases h
        · cases h
      · cases h
    · cases h
  case fz es =>
    simp only at h
    split at h
    · rename_i he
      split at h
      · rename_i bs hbs
        cases h
        obtain ⟨k1, k2⟩ := loadBytesA_ones hbs
        obtain ⟨_, vs, h1, h2⟩ := sourceA_run (P := P) (n := 1) (m := es.length) (new := es.flatMap AV.cells) H hx (by
          simp only [sourceA]; rw [if_pos]; simpa using k1)
        rw [k2] at h2
        obtain ⟨a, k, us, rfl, hlc, _⟩ := vrel_fz hx
        have h1 := h1 w rfl
        simp only [Builtin.firstCells, Nat.mul_one] at h1
        obtain ⟨ns, e1, e2⟩ := loadBytesA_vals hbs h2
        have e3 : vs = (ns.map (Value.int .u8)).toArray := by rw [← e1]
        rw [e3] at h1
        refine ⟨rfl, .string (ns.foldl (fun r n => r.push (UInt8.ofNat n.toNat)) ByteArray.empty), ?_, ?_⟩
        · rw [run_convert_bytes_string w src dst _ (some a) es.length k (hX.und _ _ hs) (hX.und _ _ he) (hX.und _ _ hd)]
          exact run_bytesToString w a es.length k ns h1
        · simp only [vrel]
          exact ⟨_, rfl, by rw [fold_push, e2]; simp⟩
      · cases h
    · cases h
  all_goals
    exfalso
    simp only at h
    split at h <;> cases h

/-- []byte(s) -/
theorem stringToBytes_run (hX : CxOk X P) (H : HR σ s w) (hf : σ s.next = none) {src dst e : TypeId} {d : TypeDesc} {l : List UInt8} {v r : AV} {u : Value} {s' : St} (hs : X.und src = some d) (hd : X.und dst = some (.slice e)) (hx : vrel σ (.str l) u) (h : convA X src dst (.str l) s = some (r, s')) :
    ORun P σ s w (convert src dst u) r s' := by
  obtain ⟨bs, rfl, rfl⟩ := vrel_str hx
  unfold convA at h
  rw [hs, hd] at h
  simp only at h
  split at h
  · rename_i he
    split at h
    case isFalse => cases h
    rename_i hrm
    cases h
    have hsz : bs.data.toList.length = bs.size := by rw [Array.length_toList]; rfl
    have hcr : bs.size + (w.tape w.drawn (.appendCap bs.size 0 e)) % (2 ^ 63 - bs.size) < 2 ^ 63 := by
      have := Nat.mod_lt (w.tape w.drawn (.appendCap bs.size 0 e)) (show 0 < 2 ^ 63 - bs.size by omega)
      omega
    generalize hcap : bs.size + (w.tape w.drawn (.appendCap bs.size 0 e)) % (2 ^ 63 - bs.size) = cap at hcr ⊢
    have hle : bs.size ≤ cap := by omega
    have hvs : ((bs.data.map fun b => Value.int .u8 b.toNat) ++ Array.replicate (cap - bs.size) (Value.int .u8 0)).size = cap := by
      simp only [Array.size_append, Array.size_map, Array.size_replicate]
      have : bs.data.size = bs.size := rfl
      omega
    have g := newCells_good (w := w.drew) (H.of_heap rfl) hf (c := bs.data.toList.map fun c => AV.int .u8 c.toNat) (vs := (bs.data.map fun b => Value.int .u8 b.toNat) ++ Array.replicate (cap - bs.size) (Value.int .u8 0)) e (cap, cap + 1) (.inr (by rw [hvs]; exact Nat.le_refl _)) (by rw [hvs]; simp only [List.length_map, hsz]; exact hle)
      (by
        intro j a ha
        rw [List.getElem?_map] at ha
        cases hj : bs.data.toList[j]? with
        | none => rw [hj] at ha; cases ha
        | some c =>
          rw [hj] at ha
          simp at ha; subst ha
          have hlt : j < bs.data.toList.length := (List.getElem?_eq_some_iff.1 hj).1
          rw [Array.length_toList] at hlt
          refine ⟨.int .u8 c.toNat, ?_, by simp [vrel]⟩
          rw [Array.getElem?_append_left (by simpa using hlt), Array.getElem?_map]
          rw [Array.getElem?_toList] at hj
          rw [hj]; rfl) (fun h => absurd he (hX.spec8 _ h))
    rw [hvs] at g
    refine ⟨_, .slice (some ⟨w.heap.size, 0, none⟩) bs.size cap, _, ?_, ?_, g.drew0⟩
    · have hsrc : ∀ k, d ≠ .int k → True := fun _ _ => trivial
      have hconv : (convert src dst (.string bs)).run P w = (Conv.stringToBytes e bs).run P w := by
        simp only [convert, Sem.run_bind, run_und (hX.und _ _ hs), run_und (hX.und _ _ hd), Result.andThen_ok]
        cases d <;> simp [run_und (hX.und _ _ he)]
      rw [hconv]
      simp only [Conv.stringToBytes, Sem.run_bind, run_choose, Question.forced, Question.cut, Bool.false_eq_true, if_false, Result.andThen_ok, hcap, newRow, run_newObj, Sem.run_pure, markStringish, run_shape, World.drew_eq, World.alloc_eq]
      have hsh : (w.drew.alloc (.cells ((bs.data.map fun b => Value.int .u8 b.toNat) ++ Array.replicate (cap - bs.size) (Value.int .u8 0)) e)).shape? w.drew.heap.size = some (e, cap) := by
        simp only [World.shape?, World.alloc]
        rw [Array.getElem?_push, if_pos rfl]
        simp only [hvs]
      rw [hsh]
      simp only [run_freeze, Result.andThen_ok]
      congr 1
      simp only [World.freeze, Nat.one_ne_zero, if_false, World.alloc]
      congr 1
      apply Array.ext_getElem?
      intro i
      rw [Array.getElem?_modify]
      by_cases hi : w.drew.heap.size = i
      · subst hi
        rw [if_pos rfl, Array.getElem?_push, if_pos rfl, Array.getElem?_push, if_pos rfl]
        simp
      · rw [if_neg hi, Array.getElem?_push, Array.getElem?_push, if_neg (fun e => hi e.symm), if_neg (fun e => hi e.symm)]
    · rw [hsz]
      simp only [vrel]
      exact ⟨_, _, rfl, hle, ⟨_, Sg.add_self _ _ _, fun _ => by simp, fun _ => by simp⟩, by simp, hcr⟩
  · cases h

/-! ### Built-in functions -/

theorem lenA_run (hX : CxOk X P) (H : HR σ s w) {ts : Array TypeId} {ty : TypeId} {x r : AV} {v : Value} {s' : St} (hx : vrel σ x v) (h : builtinA X .len ts [x] s = some (r, s')) : s' = s ∧ PRun P w σ (Builtin.len_ ts ty #[v]) r := by
  have e0 : (#[v] : Array Value)[0]? = some v := rfl
  simp only [builtinA] at h
  split at h
  · rename_i t ht
    split at h
    · rename_i l hu
      cases h
      obtain ⟨bs, rfl, rfl⟩ := vrel_str hx
      have hsz : bs.data.toList.length = bs.size := by rw [Array.length_toList]; rfl
      exact ⟨rfl, ⟨goInt bs.size, by simp only [Builtin.len_, ht, e0, Sem.run_bind, run_und (hX.und _ _ hu), Result.andThen_ok, Sem.run_pure], by rw [hsz]; simp [vrel, goInt]⟩⟩
    · rename_i e hu
      cases h
      simp only [vrel] at hx; subst hx
      exact ⟨rfl, ⟨goInt (0 : Nat), by simp only [Builtin.len_, ht, e0, Sem.run_bind, run_und (hX.und _ _ hu), Result.andThen_ok, Sem.run_pure], by simp [vrel, goInt]⟩⟩
    · rename_i e b o n c z hu
      cases h
      obtain ⟨a, k, rfl, _⟩ := vrel_sl hx
      exact ⟨rfl, ⟨goInt n, by simp only [Builtin.len_, ht, e0, Sem.run_bind, run_und (hX.und _ _ hu), Result.andThen_ok, Sem.run_pure], by simp [vrel, goInt]⟩⟩
    · rename_i k es hu
      cases h
      obtain ⟨a, c, us, rfl, _⟩ := vrel_fz hx
      exact ⟨rfl, ⟨goInt es.length, by simp only [Builtin.len_, ht, e0, Sem.run_bind, run_und (hX.und _ _ hu), Result.andThen_ok, Sem.run_pure], by simp [vrel, goInt]⟩⟩
    · rename_i k e ks vs hu
      cases h
      obtain ⟨r, ces, clock, rfl, g1, g2, _⟩ := vrel_fm hx
      have hl : ks.length = ces.size := by have := g2.length; simpa using this
      exact ⟨rfl, ⟨goInt ces.size, by simp only [Builtin.len_, ht, e0, Sem.run_bind, run_und (hX.und _ _ hu), Result.andThen_ok, run_getObj (H.fz _ _ g1).1 (by simp), Sem.run_pure], by rw [hl]; simp [vrel, goInt]⟩⟩
    · rename_i k e hu
      cases h
      simp only [vrel] at hx; subst hx
      exact ⟨rfl, ⟨goInt 0, by simp only [Builtin.len_, ht, e0, Sem.run_bind, run_und (hX.und _ _ hu), Result.andThen_ok, Sem.run_pure], by simp [vrel, goInt]⟩⟩
    · rename_i k e m hu
      split at h
      · rename_i es ro hg
        cases h
        obtain ⟨p, hp, rfl⟩ := vrel_map hx
        obtain ⟨ces, clock, g1, g2, _⟩ := H.map hp hg
        have hl : es.length = ces.size := by
          have : ∀ {es : List (AV × AV)} {l : List MapEntry}, entriesRel σ es l → es.length = l.length := by
            intro es
            induction es with
            | nil => intro l hl; simp only [entriesRel] at hl; subst hl; rfl
            | cons a es ih =>
              intro l hl
              obtain ⟨k, v⟩ := a
              simp only [entriesRel] at hl
              obtain ⟨m, r, rfl, _, _, h3⟩ := hl
              simp [ih h3]
          have := this g2
          simpa using this
        exact ⟨rfl, ⟨goInt ces.size, by simp only [Builtin.len_, ht, e0, Sem.run_bind, run_und (hX.und _ _ hu), Result.andThen_ok, run_getObj g1 (by simp), Sem.run_pure], by rw [hl]; simp [vrel, goInt]⟩⟩
      · cases h
    · rename_i _ n e hu
      cases h
      exact ⟨rfl, ⟨goInt n, by simp only [Builtin.len_, ht, e0, Sem.run_bind, run_und (hX.und _ _ hu), Result.andThen_ok, Sem.run_pure], by simp [vrel, goInt]⟩⟩
    · rename_i p _ hu
      split at h
      · rename_i n e hp
        cases h
        exact ⟨rfl, ⟨goInt n, by simp only [Builtin.len_, ht, e0, Sem.run_bind, run_und (hX.und _ _ hu), run_und (hX.und _ _ hp), Result.andThen_ok, Sem.run_pure], by simp [vrel, goInt]⟩⟩
      · cases h
    · cases h
  · cases h

theorem minA_run {k : IntKind} : ∀ {l : List AV} {x : Int} {vs : List Value} {r : AV}, minA k x l = some r → vrels σ l vs → ∃ v, (vs.foldlM Builtin.min2 (.int k x) : Sem Value).run P w = .ok v w ∧ vrel σ r v
  | [], x, vs, r, h, hv => by
    simp only [minA] at h; cases h
    simp only [vrels] at hv; subst hv
    exact ⟨_, rfl, by simp [vrel]⟩
  | a :: l, x, vs, r, h, hv => by
    cases a <;> simp only [minA] at h <;> try (cases h; done)
    simp only [vrels] at hv
    obtain ⟨v, y, rfl, h1, h2⟩ := hv
    rw [vrel_int h1]
    obtain ⟨u, g1, g2⟩ := minA_run h h2
    exact ⟨u, by simp only [List.foldlM_cons, Sem.run_bind, Builtin.min2, Sem.run_pure, Result.andThen_ok]; exact g1, g2⟩

theorem maxA_run {k : IntKind} : ∀ {l : List AV} {x : Int} {vs : List Value} {r : AV}, maxA k x l = some r → vrels σ l vs → ∃ v, (vs.foldlM Builtin.max2 (.int k x) : Sem Value).run P w = .ok v w ∧ vrel σ r v
  | [], x, vs, r, h, hv => by
    simp only [maxA] at h; cases h
    simp only [vrels] at hv; subst hv
    exact ⟨_, rfl, by simp [vrel]⟩
  | a :: l, x, vs, r, h, hv => by
    cases a <;> simp only [maxA] at h <;> try (cases h; done)
    simp only [vrels] at hv
    obtain ⟨v, y, rfl, h1, h2⟩ := hv
    rw [vrel_int h1]
    obtain ⟨u, g1, g2⟩ := maxA_run h h2
    exact ⟨u, by simp only [List.foldlM_cons, Sem.run_bind, Builtin.max2, Sem.run_pure, Result.andThen_ok]; exact g1, g2⟩

theorem loadBytes_run {b : Nat} : ∀ (ns : List Int) (off : Nat) (acc : ByteArray), (∀ i v, (ns.map (Value.int .u8))[i]? = some v → w.cell? ⟨b, off + i, none⟩ = some v) →
    ∃ bs, (loadBytes ⟨b, off, none⟩ acc ns.length).run P w = .ok bs w ∧ bs.data.toList = acc.data.toList ++ ns.map fun n => UInt8.ofNat n.toNat
  | [], off, acc, _ => ⟨acc, rfl, by simp⟩
  | n :: ns, off, acc, h => by
    have h0 := h 0 (.int .u8 n) rfl
    simp only [Nat.add_zero] at h0
    obtain ⟨bs, h1, h2⟩ := loadBytes_run ns (off + 1) (acc.push n.toNat.toUInt8) (fun i v hv => by rw [show off + 1 + i = off + (i + 1) from by omega]; exact h (i + 1) v (by simpa using hv))
    refine ⟨bs, ?_, ?_⟩
    · simp only [List.length_cons, loadBytes, Sem.run_bind, run_load, h0, Result.andThen_ok, addr_add]
      exact h1
    · rw [h2]; simp [ByteArray.push]

theorem rowAt_self {p : Program} {e : TypeId} {count off n : Nat} (hs : p.cellsOf e = 1) (hn : off + n ≤ count) (hd : ∃ d, p.depth = d + 1) : liesAt p p.depth e count off e n = true := by
  obtain ⟨d, hd⟩ := hd
  rw [hd, liesAt, hd]
  have : rowAt p (fun x => sameLayout p (d + 1) x e) (d + 1) e count off n = true := by
    rw [rowAt]
    simp only [hs, Nat.one_ne_zero, if_false, Nat.mod_one, Nat.div_one]
    have : sameLayout p (d + 1) e e = true := by rw [sameLayout]; simp
    simp [this, hn]
  simp [this]

theorem unsafeString_def (ts : Array TypeId) (ty : TypeId) (p : Option Addr) (l : Value) : ∃ (w1 : String) (e1 e2 : RuntimeError) (u1 u2 : Unsupported), Builtin.unsafeString_ ts ty #[.pointer p, l] = (do
    let n ← asInt l
    let some pt := ts[0]? | stuck w1
    if n < 0 then runtimePanic e1
    if n > IntKind.i64.max then unsupported u1
    match p with
    | none =>
      if n = 0 then pure (.string .empty)
      else runtimePanic e2
    | some a =>
      if n = 0 then pure (.string .empty)
      else if ← variablesAt a (← elemOf pt) n.toNat then do
        let s ← loadBytes a .empty n.toNat
        freeze a n.toNat
        pure (.string s)
      else unsupported u2) := ⟨_, _, _, _, _, rfl⟩

theorem unsafeString_run (hX : CxOk X P) (H : HR σ s w) {ts : Array TypeId} {ty : TypeId} {x r : AV} {k : IntKind} {n : Int} {v : Value} {s' : St} (hx : vrel σ x v) (h : builtinA X .unsafeString ts [x, .int k n] s = some (r, s')) (ht0 : ∃ t, ts[0]? = some t) :
    ORun P σ s w (Builtin.unsafeString_ ts ty #[v, .int k n]) r s' := by
  obtain ⟨t, ht⟩ := ht0
  have hts : ¬ ts.size = 0 := fun e => by rw [Array.getElem?_eq_none (by omega)] at ht; cases ht
  simp only [builtinA, if_neg hts] at h
  split at h
  · split at h
    · rename_i hn
      cases h; subst hn
      simp only [vrel] at hx; subst hx
      refine PRun.o ⟨.string .empty, ?_, by simp only [vrel]; exact ⟨_, rfl, rfl⟩⟩ H
      obtain ⟨w1, e1, e2, u1, u2, hdef⟩ := unsafeString_def ts ty _ (.int k 0)
      rw [hdef]
      simp [asInt, asIntOf, ht]
    · cases h
  · rename_i b o
    obtain ⟨p, hp, rfl⟩ := vrel_ptr hx
    split at h
    · rename_i hn
      cases h; subst hn
      refine PRun.o ⟨.string .empty, ?_, by simp only [vrel]; exact ⟨_, rfl, rfl⟩⟩ H
      obtain ⟨w1, e1, e2, u1, u2, hdef⟩ := unsafeString_def ts ty _ (.int k 0)
      rw [hdef]
      simp [asInt, asIntOf, ht]
    · rename_i hn0
      split at h
      · cases h
      · rename_i hnb
        split at h
        · rename_i c e flo fhi t' hg ht'
          rw [ht] at ht'; cases ht'
          split at h
          · rename_i u hu
            split at h
            · rename_i hue
              obtain ⟨rfl, hsz⟩ := hue
              split at h
              · rename_i q hq
                split at h
                · rename_i bs hbs
                  cases h
                  have hl : s.look b = some (.cells c u false flo fhi) := St.look_some hg (by simp)
                  have hc : s.cells b = some c := by simp [St.cells, hg]
                  obtain ⟨cc, fz, k1, k2, k3, k4, k5⟩ := H.cells hp hl
                  obtain ⟨vs, hv1, hv2⟩ := H.row hp hc q o (fun i a ha => grab_get hq ha)
                  obtain ⟨ns, rfl, rfl⟩ := loadBytesA_vals hbs hv1
                  have hlen : ns.length = n.toNat := by
                    have h1 := (grab_spec hq).1
                    have h2 := hv1.length
                    simp at h2; omega
                  obtain ⟨b', g1, g2⟩ := loadBytes_run (P := P) (w := w) (b := p.b) ns (p.sh + o) .empty hv2
                  rw [hlen] at g1
                  have hcells : P.cellsOf u = 1 := by
                    unfold size at hsz
                    split at hsz
                    · rename_i i hi
                      simp only [Program.cellsOf, hX.inf _ _ hi, Option.map_some, Option.getD_some]
                      exact Option.some.inj hsz
                    · cases hsz
                  have hnpos : 0 < n.toNat := by omega
                  have hoc : o + n.toNat ≤ c.length := by
                    have := (grab_spec hq).2 (n.toNat - 1) (by omega)
                    omega
                  have hva : (variablesAt ⟨p.b, p.sh + o, none⟩ u n.toNat).run P w = .ok true w := by
                    simp only [variablesAt, Sem.run_bind, run_program, Result.andThen_ok, run_shape, World.shape?, k1, Sem.run_pure]
                    rw [hcells, Nat.div_one, rowAt_self hcells (by rw [k2]; omega) ⟨2 * (P.types.size + Made.depth) + 1, rfl⟩]
                  refine ⟨σ, .string b', w.freeze ⟨p.b, p.sh + o, none⟩ n.toNat, ?_, ?_, ?_⟩
                  · have n1 : ¬ (n < 0) := by omega
                    have n2 : ¬ (n > IntKind.i64.max) := by rw [IntKind.max_i64]; omega
                    obtain ⟨w1, e1, e2, u1, u2, hdef⟩ := unsafeString_def ts ty (some ⟨p.b, p.sh + o, none⟩) (.int k n)
                    rw [hdef]
                    simp only [asInt, asIntOf, Sem.run_bind, Sem.run_pure, Result.andThen_ok, ht, n1, n2, hn0, if_false, elemOf, run_und (hX.und _ _ hu), hva, if_true, g1, run_freeze]
                  · simp only [vrel]; exact ⟨_, rfl, by rw [g2]; simp⟩
                  · have hfr : (w.freeze ⟨p.b, p.sh + o, none⟩ n.toNat).heap = w.heap.modify p.b fun
                        | .cells c elem (lo, hi) => .cells c elem (if lo == hi then (p.sh + o, p.sh + o + n.toNat) else (min lo (p.sh + o), max hi (p.sh + o + n.toNat)))
                        | o => o := by
                      unfold World.freeze
                      rw [if_neg (by omega)]
                      rfl
                    obtain ⟨lo, hi⟩ := fz
                    refine Good.put H hp hl rfl (by simp) (by rw [hfr]; simp) ?_ (o := .cells cc u (if lo == hi then (p.sh + o, p.sh + o + n.toNat) else (min lo (p.sh + o), max hi (p.sh + o + n.toNat)))) ?_ ⟨k2, k3, rfl, k4, (fun h => by cases h), H.spec hp hl⟩ ?_ ?_ ?_ (Drw.of (Nat.le_of_eq (by simp only [World.freeze]; split <;> rfl)))
                    · intro d hd
                      rw [hfr, Array.getElem?_modify, if_neg (fun e => hd e.symm)]
                    · rw [hfr, Array.getElem?_modify, if_pos rfl, k1]; rfl
                    · simp only [World.freeze]; split <;> rfl
                    · simp only [World.freeze]; split <;> rfl
                    · simp only [World.freeze]; split <;> rfl
                · cases h
              · cases h
            · cases h
          · cases h
        · cases h
  · cases h

end

end Go.Am
set_option linter.unusedSimpArgs false
set_option linter.unusedVariables false
set_option linter.unusedSectionVars false
namespace Go.Am
open Go
section
variable [Stat]
variable {X : Cx} {P : Program} {w : World} {σ : Sg} {s : St}

/-- what the machine gets of an operation that enters nothing -/
def NextIs (nx : Next) (v : Value) : Prop := nx = .value v ∨ (nx = .skip ∧ v = Go.undef)

def OpRun (P : Program) (σ : Sg) (s : St) (w : World) (m : Sem Next) (a : AV) (s' : St) : Prop :=
  ∃ σ' nx v w', m.run P w = .ok nx w' ∧ NextIs nx v ∧ vrel σ' a v ∧ Good σ s w σ' s' w'

theorem ORun.op {m : Sem Value} {a : AV} {s' : St} (h : ORun P σ s w m a s') : OpRun P σ s w (do pure (.value (← m))) a s' := by
  obtain ⟨σ', v, w', h1, h2, h3⟩ := h
  exact ⟨σ', .value v, v, w', by simp only [Sem.run_bind, h1, Result.andThen_ok, Sem.run_pure], .inl rfl, h2, h3⟩

theorem PRun.op {m : Sem Value} {a : AV} (h : PRun P w σ m a) (H : HR σ s w) : OpRun P σ s w (do pure (.value (← m))) a s := (h.o H).op

theorem undef_rel : vrel σ Am.undef Go.undef := by
  simp only [Am.undef, vrel]; exact ⟨#[], rfl, by simp [vrels]⟩

theorem unit_op {m : Sem Unit} {s' : St} (h : ∃ w', m.run P w = .ok () w' ∧ Good σ s w σ s' w') : OpRun P σ s w (do m; pure .skip) Am.undef s' := by
  obtain ⟨w', h1, h2⟩ := h
  exact ⟨σ, .skip, Go.undef, w', by simp only [Sem.run_bind, h1, Result.andThen_ok, Sem.run_pure], .inr ⟨rfl, rfl⟩, undef_rel, h2⟩

theorem evalO_rel (hg : GlobOk X σ) {e : Env} {tmps : Array Value} (he : erel σ e tmps) {x : Option Operand} {a : Option AV} (h : evalO X e x = some a) : orel σ a (x.map (rho tmps)) := by
  unfold evalO at h
  split at h
  · cases h; exact trivial
  · rename_i x
    split at h
    · rename_i v hv; cases h
      exact eval_rel hg he hv
    · cases h

/-- it is no call of a function value -/
theorem pureO_some {v : Option AV} {r : AV} {s s' : St} (h : pureO v s = some (r, s')) : v = some r ∧ s' = s := by
  unfold pureO at h
  split at h
  · cases h; exact ⟨rfl, rfl⟩
  · cases h

theorem unitO_some {t : Option St} {r : AV} {s' : St} (h : unitO t = some (r, s')) : t = some s' ∧ r = Am.undef := by
  unfold unitO at h
  split at h
  · cases h; exact ⟨rfl, rfl⟩
  · cases h

theorem copyA_run (hX : CxOk X P) (H : HR σ s w) {ts : Array TypeId} {ty t : TypeId} {d x r : AV} {dv xv : Value} {s' : St} (ht : ts[0]? = some t) (hd : vrel σ d dv) (hx : vrel σ x xv) (h : copyA X t d x s = some (r, s')) :
    ORun P σ s w (Builtin.copy_ ts ty #[dv, xv]) r s' := by
  unfold copyA at h
  split at h
  · rename_i e b o len cap esz hu
    split at h
    · rename_i n hs
      split at h
      · rename_i m new hsrc
        split at h
        · rename_i hm0
          cases h
          obtain ⟨rfl, he⟩ := hm0
          have he : new = [] := by simpa using he
          subst he
          obtain ⟨a, c, rfl, hlen, _⟩ := vrel_sl hd
          obtain ⟨k1, vs, k2, k3⟩ := sourceA_run (P := P) H hx hsrc
          simp only [vrels] at k3
          have k3 : vs = #[] := by cases vs; simpa using k3
          subst k3
          refine ⟨σ, .int .i64 0, w, ?_, by simp [vrel], Good.refl H⟩
          have hmin : Nat.min 0 len = 0 := Nat.zero_min len
          simp only [Builtin.copy_, ht, List.getElem?_toArray, List.getElem?_cons_zero, List.getElem?_cons_succ, Sem.run_bind, Sem.run_pure, Result.andThen_ok, run_und (hX.und _ _ hu), k1, hmin, run_size' hX hs, k2 w rfl, storeCells]
          rfl
        split at h
        · rename_i hm
          split at h
          · rename_i s1 hw
            cases h
            obtain ⟨a, c, rfl, hlen, ⟨p, hp, ha, _⟩, _⟩ := vrel_sl hd
            have := ha (by omega); subst this
            obtain ⟨k1, vs, k2, k3⟩ := sourceA_run (P := P) H hx hsrc
            obtain ⟨w', g1, g2⟩ := writeCells_run (P := P) H hp k3 hw
            refine ⟨σ, .int .i64 m, w', ?_, by simp [vrel], g2⟩
            have hmin : Nat.min m len = m := Nat.min_eq_left hm.1
            simp only [Builtin.copy_, ht, List.getElem?_toArray, List.getElem?_cons_zero, List.getElem?_cons_succ, Sem.run_bind, Sem.run_pure, Result.andThen_ok, run_und (hX.und _ _ hu), k1, hmin, run_size' hX hs, k2 w rfl, g1]
            rfl
          · cases h
        · cases h
      · cases h
    · cases h
  · cases h

theorem clearA_run (hX : CxOk X P) (H : HR σ s w) {ts : Array TypeId} {ty t : TypeId} {d r : AV} {dv : Value} {s' : St} (ht : ts[0]? = some t) (hd : vrel σ d dv) (h : clearA X t d s = some (r, s')) :
    ORun P σ s w (Builtin.clear_ ts ty #[dv]) r s' := by
  unfold clearA at h
  split at h
  · rename_i e hu
    cases h
    simp only [vrel] at hd; subst hd
    refine ⟨σ, .tuple #[], w, ?_, by simp [vrel, vrels], Good.refl H⟩
    simp only [Builtin.clear_, ht, List.getElem?_toArray, List.getElem?_cons_zero, Sem.run_bind, Sem.run_pure, Result.andThen_ok, run_und (hX.und _ _ hu)]
  · rename_i e b o len cap esz hu
    obtain ⟨a, c, rfl, hlen, ⟨p, hp, ha, _⟩, _⟩ := vrel_sl hd
    split at h
    · rename_i h0
      cases h
      subst h0
      refine ⟨σ, .tuple #[], w, ?_, by simp [vrel, vrels], Good.refl H⟩
      simp only [Builtin.clear_, ht, List.getElem?_toArray, List.getElem?_cons_zero, Sem.run_bind, Sem.run_pure, Result.andThen_ok, run_und (hX.und _ _ hu)]
    · rename_i h0
      split at h
      · rename_i z hz
        split at h
        · cases h
        · rename_i hz0
          split at h
          · rename_i s1 hw
            cases h
            have := ha (by omega); subst this
            obtain ⟨zv, g1, g2⟩ := zero_run (P := P) (w := w) (σ := σ) hX hz
            have hzc := vrel_cells g2
            have hrep := repeatL_rel hzc (by have := hzc.size; omega) len
            obtain ⟨w', k1, k2⟩ := writeCells_run (P := P) H hp hrep hw
            obtain ⟨n, rfl⟩ : ∃ n, len = n + 1 := ⟨len - 1, by omega⟩
            refine ⟨σ, .tuple #[], w', ?_, by simp [vrel, vrels], k2⟩
            simp only [Builtin.clear_, ht, List.getElem?_toArray, List.getElem?_cons_zero, Sem.run_bind, Sem.run_pure, Result.andThen_ok, run_und (hX.und _ _ hu), g1, Builtin.zeroCells, k1]
          · cases h
      · cases h
  · cases h

theorem builtinA_sound (hX : CxOk X P) (H : HR σ s w) (hf : σ s.next = none) {b : Builtin} {ts : Array TypeId} {ty : TypeId} {cs : Array Bool} {vs : List AV} {us : List Value} {r : AV} {s' : St} (hv : vrels σ vs us)
    (h : builtinA X b ts vs s = some (r, s')) : OpRun P σ s w (builtin b ts ty cs us.toArray) r s' := by
  have h0 := h
  unfold builtinA at h
  split at h
  · -- len
    simp only [vrels] at hv
    obtain ⟨v, y, rfl, h1, rfl⟩ := hv
    obtain ⟨rfl, h2⟩ := lenA_run (P := P) (ty := ty) hX H h1 h0
    exact h2.op H
  · -- append
    simp only [vrels] at hv
    obtain ⟨v, y, rfl, h1, u, z, rfl, h2, rfl⟩ := hv
    split at h
    · rename_i t u' ht hu
      split at h
      · rename_i e hd
        exact (appendA_run (P := P) hX H hf ht hu ⟨_, hd, by simp⟩ h1 h2 h).op
      · rename_i hd
        exact (appendA_run (P := P) hX H hf ht hu ⟨_, hd, by simp⟩ h1 h2 h).op
      · cases h
    · cases h
  · -- delete
    simp only [vrels] at hv
    obtain ⟨v, y, rfl, h1, u, z, rfl, h2, rfl⟩ := hv
    split at h
    · rename_i t ht
      exact (deleteA_run (P := P) (ty := ty) hX H ht h1 h2 h).op
    · cases h
  · -- clear
    simp only [vrels] at hv
    obtain ⟨v, y, rfl, h1, rfl⟩ := hv
    split at h
    · rename_i t ht
      exact (clearA_run (P := P) (ty := ty) hX H ht h1 h).op
    · cases h
  · -- copy
    simp only [vrels] at hv
    obtain ⟨v, y, rfl, h1, u, z, rfl, h2, rfl⟩ := hv
    split at h
    · rename_i t ht
      exact (copyA_run (P := P) (ty := ty) hX H ht h1 h2 h).op
    · cases h
  · -- min
    rename_i k x l
    split at h
    · rename_i q hq
      cases h
      simp only [vrels] at hv
      obtain ⟨v, y, rfl, h1, h2⟩ := hv
      rw [vrel_int h1]
      obtain ⟨u, g1, g2⟩ := minA_run (P := P) (w := w) hq h2
      exact PRun.op (m := Builtin.min_ ts ty _) ⟨u, g1, g2⟩ H
    · cases h
  · -- max
    rename_i k x l
    split at h
    · rename_i q hq
      cases h
      simp only [vrels] at hv
      obtain ⟨v, y, rfl, h1, h2⟩ := hv
      rw [vrel_int h1]
      obtain ⟨u, g1, g2⟩ := maxA_run (P := P) (w := w) hq h2
      exact PRun.op (m := Builtin.max_ ts ty _) ⟨u, g1, g2⟩ H
    · cases h
  · -- unsafe.SliceData
    simp only [vrels] at hv
    obtain ⟨v, y, rfl, h1, rfl⟩ := hv
    split at h
    · cases h
      simp only [vrel] at h1; subst h1
      exact PRun.op (m := Builtin.unsafeSliceData_ ts ty _) ⟨.pointer none, rfl, by simp [vrel]⟩ H
    · cases h
      obtain ⟨a, c, rfl, hlen, ⟨p, hp, ha, _⟩, _⟩ := vrel_sl h1
      obtain ⟨c', rfl⟩ : ∃ c', c = c' + 1 := ⟨c - 1, by omega⟩
      have := ha (by omega); subst this
      exact PRun.op (m := Builtin.unsafeSliceData_ ts ty _) ⟨.pointer (some ⟨p.b, p.sh + _, none⟩), rfl, by simp only [vrel]; exact ⟨p, hp, rfl⟩⟩ H
    · cases h
  · -- unsafe.String
    rename_i p k n
    simp only [vrels] at hv
    obtain ⟨v, y, rfl, h1, u, z, rfl, h2, rfl⟩ := hv
    rw [vrel_int h2]
    cases ht : ts[0]? with
    | some t => exact (unsafeString_run (P := P) (ty := ty) hX H h1 h0 ⟨t, ht⟩).op
    | none =>
      have : ts.size = 0 := by
        rcases Nat.eq_zero_or_pos ts.size with h | h
        · exact h
        · rw [Array.getElem?_eq_getElem h] at ht; cases ht
      rw [if_pos this] at h; cases h
  · cases h

theorem opA_sound (hX : CxOk X P) (hG : GlobOk X σ) (H : HR σ s w) (hf : σ s.next = none) {ex : Ex} {e : Env} {tmps : Array Value} (E : erel σ e tmps) {o : Oper} {v : AV} {s' : St} (hn : isCallV o.op = false)
    (h : opA X ex e o.op s = some (v, s')) : OpRun P σ s w (execOp (rho tmps) o) v s' := by
  obtain ⟨dst, op, type, pos, after, guard⟩ := o
  simp only at h hn
  have ev : ∀ {x a}, eval X e x = some a → vrel σ a (rho tmps x) := fun h => eval_rel hG E h
  cases op <;> simp only [opA] at h <;> try (cases h; done)
  case move x =>
    obtain ⟨h1, rfl⟩ := pureO_some h
    exact ⟨σ, _, _, w, rfl, .inl rfl, ev h1, Good.refl H⟩
  case assign x =>
    obtain ⟨h1, rfl⟩ := pureO_some h
    exact ⟨σ, _, _, w, rfl, .inl rfl, ev h1, Good.refl H⟩
  case pick c a b =>
    split at h
    · rename_i hc
      obtain ⟨h1, rfl⟩ := pureO_some h
      exact ⟨σ, _, _, w, by simp only [execOp, Sem.run_bind, vrel_bool (ev hc), asBool, Sem.run_pure, Result.andThen_ok, if_true], .inl rfl, ev h1, Good.refl H⟩
    · rename_i hc
      obtain ⟨h1, rfl⟩ := pureO_some h
      exact ⟨σ, _, _, w, by simp only [execOp, Sem.run_bind, vrel_bool (ev hc), asBool, Sem.run_pure, Result.andThen_ok, Bool.false_eq_true, if_false], .inl rfl, ev h1, Good.refl H⟩
    · cases h
  case alloc t =>
    split at h
    · rename_i z hz
      cases h
      exact (alloc_run (P := P) hX H hf hz).op
    · cases h
  case box t x =>
    split at h
    · rename_i a ha
      cases h
      exact (box_run (P := P) H hf (ev ha)).op
    · cases h
  case build t ps =>
    split at h
    · rename_i l hl
      obtain ⟨h1, rfl⟩ := pureO_some h
      exact (buildA_run (w := w) hX (by simpa using evalParts_rel hG E hl) h1).op H
    · cases h
  case buildSlice t n ps =>
    split at h
    · rename_i l hl
      exact (buildSliceA_run (P := P) hX H hf (by simpa using evalParts_rel hG E hl) h).op
    · cases h
  case load t a =>
    split at h
    · rename_i x hx
      obtain ⟨h1, rfl⟩ := pureO_some h
      exact (loadA_run (P := P) hX H (ev hx) h1).op H
    · cases h
  case store t a x =>
    split at h
    · rename_i y z hy hz
      obtain ⟨h1, rfl⟩ := unitO_some h
      exact unit_op (storeA_run (P := P) hX H (ev hy) (ev hz) h1)
    · cases h
  case nilCheck x =>
    split at h
    · rename_i b o hx
      cases h
      have hr := ev hx
      obtain ⟨p, hp, hv⟩ := vrel_ptr hr
      exact ⟨σ, .value (rho tmps x), _, w, by simp only [execOp, hv]; rfl, .inl rfl, hr, Good.refl H⟩
    · rename_i c o hx
      cases h
      have hr := ev hx
      obtain ⟨b, base, us, cc, e, fz, hv, _⟩ := vrel_fp hr
      exact ⟨σ, .value (rho tmps x), _, w, by simp only [execOp, hv]; rfl, .inl rfl, hr, Good.refl H⟩
    · rename_i f a b hx
      cases h
      have hr := ev hx
      have hr' := hr
      simp only [vrel] at hr'
      obtain ⟨f', x', y', hv, hf', _, _⟩ := hr'
      simp only [fnrel] at hf'; subst hf'
      exact ⟨σ, .value (rho tmps x), _, w, by simp only [execOp, hv]; rfl, .inl rfl, hr, Good.refl H⟩
    · rename_i f a b hx
      cases h
      have hr := ev hx
      have hr' := hr
      simp only [vrel] at hr'
      obtain ⟨f', x', y', hv, hf', _, _⟩ := hr'
      simp only [fnrel] at hf'
      obtain ⟨p, _, rfl⟩ := hf'
      exact ⟨σ, .value (rho tmps x), _, w, by simp only [execOp, hv]; rfl, .inl rfl, hr, Good.refl H⟩
    · cases h
  case binOp op t x y yt =>
    split at h
    · rename_i a b ha hb
      obtain ⟨h1, rfl⟩ := pureO_some h
      exact (binA_run (w := w) hX rfl (ev ha) (ev hb) h1).op H
    · cases h
  case unOp op t x =>
    split at h
    · rename_i a ha
      obtain ⟨h1, rfl⟩ := pureO_some h
      exact (unA_run (P := P) (w := w) (ev ha) h1).op H
    · cases h
  case convert src dst x =>
    split at h
    · rename_i a ha
      have hr := ev ha
      cases hs : X.und src with
      | none => unfold convA at h; rw [hs] at h; simp at h
      | some sd =>
        cases hd : X.und dst with
        | none => unfold convA at h; rw [hs, hd] at h; cases a <;> simp at h
        | some dd =>
          by_cases h1 : ∃ e, sd = .slice e ∧ dd = .string
          · obtain ⟨e, rfl, rfl⟩ := h1
            obtain ⟨rfl, h2⟩ := bytesToString_run (P := P) hX H hs hd hr h
            exact h2.op H
          · by_cases h2 : ∃ e l, dd = .slice e ∧ a = .str l
            · obtain ⟨e, l, rfl, rfl⟩ := h2
              exact (stringToBytes_run (P := P) (v := .nilp) hX H hf hs hd hr h).op
            · obtain ⟨rfl, h3⟩ := convP_run (P := P) (w := w) hX hr h (fun ⟨e, g1, g2⟩ => h1 ⟨e, by rw [hs] at g1; exact Option.some.inj g1, by rw [hd] at g2; exact Option.some.inj g2⟩) (fun ⟨e, l, g1, g2⟩ => h2 ⟨e, l, by rw [hd] at g1; exact Option.some.inj g1, g2⟩)
              exact h3.op H
    · cases h
  case sliceToArrayPointer t x =>
    split at h
    · rename_i b o len cap esz n el ha hn
      split at h
      · rename_i hnl
        obtain ⟨h1, rfl⟩ := pureO_some h
        cases h1
        obtain ⟨a, c, hv, hlen, ⟨p, hp, hpa, _⟩, _⟩ := vrel_sl (ev ha)
        have := hpa (by omega); subst this
        refine PRun.op (m := Instr.arrayAt t (rho tmps x)) ⟨.pointer (some ⟨p.b, p.sh + o, none⟩), ?_, by simp only [vrel]; exact ⟨p, hp, rfl⟩⟩ H
        simp only [Instr.arrayAt, Sem.run_bind, run_und (hX.und _ _ hn), Result.andThen_ok, hv]
        rw [if_neg (by omega)]; rfl
      · cases h
    · cases h
  case makeInterface t x =>
    split at h
    · rename_i a ha
      split at h
      · cases h
      · rename_i d hd hni
        cases h
        exact (makeInterface_run (P := P) (w := w) hX (ev ha) hni (fun ms hm => by subst hm; exact hd ms rfl)).op H
      · cases h
    · cases h
  case makeFunc f a b =>
    split at h
    · rename_i g
      split at h
      · rename_i x y hx hy
        cases h
        have hx' := evals_rel hG E hx
        have hy' := evals_rel hG E hy
        refine PRun.op (m := Instr.makeFunc (.func g) (a.map (rho tmps)) (b.map (rho tmps))) ⟨.func (.func g) (a.map (rho tmps)) (b.map (rho tmps)), by simp [Instr.makeFunc], ?_⟩ H
        simp only [vrel]
        exact ⟨_, _, _, rfl, by simp [fnrel], by simpa using hx', by simpa using hy'⟩
      · cases h
    · cases h
  case makeMap t r =>
    split at h
    · cases h
      exact (makeMap_run (P := P) H hf).op
    · rename_i x
      split at h
      · rename_i k n kt et hx hu
        cases h
        have := (makeMap_run' (P := P) hX H hf (kn := k) (n := n) hu).op
        simp only [execOp, Option.map_some, vrel_int (ev hx)]
        exact this
      · cases h
  case makeChan t x =>
    split at h
    · rename_i k n d el hx hu
      split at h
      · rename_i i hi
        split at h
        · rename_i hcond
          cases h
          have := (makeChan_run (P := P) hX H hf (kn := k) hu hi hcond).op
          simp only [execOp, vrel_int (ev hx)]
          exact this
        · cases h
      · cases h
    · cases h
  case makeSlice t l c =>
    split at h
    · rename_i kl l kc c elem hl hc hu
      split at h
      · rename_i i z hi hz
        split at h
        · rename_i hcond
          cases h
          have := (makeSlice_run (P := P) hX H hf (kl := kl) (kc := kc) hu hi hz hcond).op
          simp only [execOp, vrel_int (ev hl), vrel_int (ev hc)]
          exact this
        · cases h
      · cases h
    · cases h
  case slice t x lo hi mx =>
    split at h
    · rename_i v lo' hi' mx' hv hl hh hm
      obtain ⟨h1, rfl⟩ := pureO_some h
      exact (sliceA_run (w := w) hX (ev hv) (evalO_rel hG E hl) (evalO_rel hG E hh) (evalO_rel hG E hm) h1).op H
    · cases h
  case fieldAddr t x f =>
    split at h
    · rename_i a ha
      obtain ⟨h1, rfl⟩ := pureO_some h
      exact (fieldAddr_run (w := w) hX (ev ha) h1).op H
    · cases h
  case field t x f =>
    split at h
    · rename_i cs fs hc hu
      split at h
      · rename_i fd hfd
        obtain ⟨h1, rfl⟩ := pureO_some h
        exact (field_run (w := w) hX hu (ev hc) hfd h1).op H
      · cases h
    · cases h
  case indexAddr t x i =>
    split at h
    · rename_i a b ha hb
      obtain ⟨h1, rfl⟩ := pureO_some h
      exact (indexAddr_run (w := w) hX (ev ha) (ev hb) h1).op H
    · cases h
  case index t x i =>
    split at h
    · rename_i a b ha hb
      obtain ⟨h1, rfl⟩ := pureO_some h
      exact (index_run (w := w) hX (ev ha) (ev hb) h1).op H
    · cases h
  case lookup t m k ok =>
    split at h
    · rename_i a b ha hb
      obtain ⟨h1, rfl⟩ := pureO_some h
      exact (lookupA_run (P := P) hX H (ev ha) (ev hb) h1).op H
    · cases h
  case mapUpdate t m k x =>
    split at h
    · rename_i a b c ha hb hc
      obtain ⟨h1, rfl⟩ := unitO_some h
      exact unit_op (updateA_run (P := P) hX H (ev ha) (ev hb) (ev hc) h1)
    · cases h
  case insert t m k x =>
    split at h
    · rename_i a b c ha hb hc
      obtain ⟨h1, rfl⟩ := unitO_some h
      exact unit_op (updateA_run (P := P) hX H (ev ha) (ev hb) (ev hc) h1)
    · cases h
  case mapEntry t m k =>
    split at h
    · rename_i a b ha hb
      exact (entryA_run (P := P) hX H (ev ha) (ev hb) h).op
    · cases h
  case entryStore t m i x =>
    split at h
    · rename_i a b c ha hb hc
      obtain ⟨h1, rfl⟩ := unitO_some h
      exact unit_op (entryStoreA_run (P := P) hX H (ev ha) (ev hb) (ev hc) h1)
    · cases h
  case range t x =>
    split at h
    · rename_i b hb hu
      cases h
      exact (range_run (P := P) hX H hf hu (ev hb)).op
    · rename_i k e hb hu
      cases h
      exact (rangeNil_run (P := P) hX H hf hu (ev hb)).op
    · rename_i m k e hb hu
      split at h
      · rename_i es mi hg
        cases h
        exact (rangeMap_run (P := P) hX H hf hu (ev hb) hg).op
      · cases h
    · cases h
  case typeAssert x xt a ok =>
    split at h
    · rename_i t v d hx hu
      split at h
      · rename_i hc
        simp only [Bool.and_eq_true, decide_eq_true_eq] at hc
        cases h
        exact (typeAssert_run (P := P) (w := w) hX hu hc.1 (ev hx) hc.2).op H
      · cases h
    · cases h
  case entry it =>
    split at h
    · rename_i r hr
      obtain ⟨h1, rfl⟩ := pureO_some h
      exact (roundA_run (P := P) H (ev hr) h1).op H
    · cases h
  case next it str =>
    cases str with
    | false =>
      simp only [opA] at h
      split at h
      · rename_i r hr
        have hone := one_some h
        obtain ⟨x, hx, hrun⟩ := nextA_run (P := P) (ty := type) H (ev hr) (by rw [hone]; simp)
        rw [hone, List.mem_singleton] at hx
        subst hx
        exact hrun.op
      · cases h
    | true =>
      simp only [opA] at h
      split at h
      · rename_i r hr
        split at h
        · rename_i b pos hg
          have := next_run (P := P) (ty := type) H (ev hr) hg
          cases b with
          | nil => cases h; exact this.op
          | cons c b => cases h; exact this.op
        · cases h
      · cases h
  case extract t i =>
    split at h
    · rename_i vs hvs
      obtain ⟨h1, rfl⟩ := pureO_some h
      exact (extract_run (P := P) (w := w) (ev hvs) h1).op H
    · cases h
  case call c =>
    obtain ⟨callee, args, argTypes⟩ := c
    cases callee with
    | value f => simp [isCallV] at hn
    | invoke r m => simp only at h; cases h
    | builtin b =>
      simp only at h
      split at h
      · rename_i vs hvs
        have hv := evals_rel hG E hvs
        have := builtinA_sound (P := P) (ty := type) (cs := args.map fun | .const _ => true | _ => false) hX H hf hv h
        have he : (args.toList.map (rho tmps)).toArray = args.map (rho tmps) := by
          apply Array.ext'; simp
        rw [he] at this
        exact this
      · cases h

end

end Go.Am
set_option linter.unusedSimpArgs false
set_option linter.unusedVariables false
set_option linter.unusedSectionVars false
namespace Go.Am
open Go
abbrev FW (r : Option Nat) : Fence := { Fence.wide with round := r }

section
variable [Stat]

/-- the marks among the deferred calls -/
def DF (n0 : Nat) (σ : Sg) (w : World) (ds : List Deferred) : Prop :=
  ∃ rs : List Nat, ds = rs.map (fun r => ({ target := .collected r, args := #[] } : Deferred)) ∧ rs.Nodup ∧ ∀ r ∈ rs, n0 ≤ r ∧ w.heap[r]? = some (.deferred (some [])) ∧ (∀ i p, σ i = some p → p.b ≠ r) ∧ σ.fz r = none

theorem DF.nil (n0 : Nat) (σ : Sg) (w : World) : DF n0 σ w [] := ⟨[], rfl, List.nodup_nil, fun _ h => by cases h⟩

theorem DF.good {n0 : Nat} {σ σ' : Sg} {s s' : St} {w w' : World} {ds : List Deferred} (h : DF n0 σ w ds) (g : Good σ s w σ' s' w') : DF n0 σ' w' ds := by
  obtain ⟨rs, e, hn, hr⟩ := h
  refine ⟨rs, e, hn, fun r hm => ?_⟩
  obtain ⟨h1, h2, h3, h4⟩ := hr r hm
  have hlt : r < w.heap.size := (Array.getElem?_eq_some_iff.1 h2).1
  have hno : ¬ Owns σ s r := fun ⟨i, p, b, hp, _, _, hb⟩ => h3 i p hp hb
  refine ⟨h1, by rw [g.ext.keep r hlt hno]; exact h2, fun i p hp hb => ?_, ?_⟩
  rotate_left
  · cases hz : σ'.fz r with
    | none => rfl
    | some o =>
      rcases g.ext.nfz r o hz with h5 | h5
      · rw [h4] at h5; cases h5
      · omega
  by_cases e : σ i = none
  · rcases g.news i p hp e with hk | hk
    · omega
    · exact hno (hb ▸ hk)
  · cases hq : σ i with
    | none => exact e hq
    | some q =>
      have := g.ext.le.p i q hq
      rw [hp] at this; cases this
      exact h3 i p hq hb

structure Inv (X : Cx) (σ : Sg) (s : St) (w : World) (n0 : Nat) (e : Env) (a : Act) : Prop where
  hr : HR σ s w
  fresh : Fresh σ s
  glob : GlobOk X σ
  env : erel σ e a.tmps
  df : DF n0 σ w a.defers
  n0 : n0 ≤ w.heap.size

def exRel : Out → Exit → Prop
  | .norm, .normal => True
  | .exit i, .exit j => i = j
  | .ret, .ret => True
  | _, _ => False

def After (X : Cx) (σ : Sg) (s : St) (w : World) (n0 : Nat) (a : Act) (e' : Env) (s' : St) (a' : Act) (w' : World) : Prop :=
  ∃ σ', Good σ s w σ' s' w' ∧ Inv X σ' s' w' n0 e' a' ∧ a'.tmps.size = a.tmps.size

def Post (X : Cx) (σ : Sg) (s : St) (w : World) (n0 : Nat) (a : Act) (out : Out) (e' : Env) (s' : St) : Exit → Act → World → Prop :=
  fun ex a' w' => exRel out ex ∧ After X σ s w n0 a e' s' a' w'

theorem GlobOk.mono {X : Cx} {σ τ : Sg} (h : Sg.le σ τ) (k : GlobOk X σ) : GlobOk X τ := fun g hg => by
  obtain ⟨n, hn, hb⟩ := k g hg
  refine ⟨n, h.p _ _ hn, fun b e => ?_⟩
  obtain ⟨h1, o, h2, h3⟩ := hb b e
  exact ⟨h1, o, h.z _ _ h2, h3.mono h.bare⟩

theorem After.refl {X : Cx} {σ : Sg} {s : St} {w : World} {n0 : Nat} {e : Env} {a : Act} (I : Inv X σ s w n0 e a) : After X σ s w n0 a e s a w := ⟨σ, Good.refl I.hr, I, rfl⟩

theorem After.trans {X : Cx} {σ σ1 : Sg} {s s1 s2 : St} {w w1 w2 : World} {n0 : Nat} {e2 : Env} {a a1 a2 : Act} (g : Good σ s w σ1 s1 w1) (hs : a1.tmps.size = a.tmps.size) (k : After X σ1 s1 w1 n0 a1 e2 s2 a2 w2) :
    After X σ s w n0 a e2 s2 a2 w2 := by
  obtain ⟨σ2, g2, i2, h2⟩ := k
  exact ⟨σ2, g.trans g2, i2, h2.trans hs⟩

theorem erel.put {σ : Sg} {e : Env} {tmps : Array Value} (h : erel σ e tmps) {d : Nat} (hd : d < tmps.size) {v : AV} {u : Value} (hv : vrel σ v u) : erel σ (Tr.set e d v) (tmps.setIfInBounds d u) := by
  intro t
  rw [Env.get_set]
  by_cases ht : d = t
  · subst ht
    rw [if_pos rfl]
    simp only [Array.getD_eq_getD_getElem?, Array.getElem?_setIfInBounds, hd, if_true, if_pos, Option.getD_some]
    exact hv
  · rw [if_neg ht]
    have := h t
    simp only [Array.getD_eq_getD_getElem?, Array.getElem?_setIfInBounds] at this ⊢
    rw [if_neg ht]
    exact this

def dstOk (m : Nat) (d : Option Tmp) : Prop := ∀ t, d = some t → t < m

theorem put_size (a : Act) (d : Option Tmp) (u : Value) : (a.put d u).tmps.size = a.tmps.size := by
  cases d <;> simp [Act.put]
theorem put_defers (a : Act) (d : Option Tmp) (u : Value) : (a.put d u).defers = a.defers := by
  cases d <;> simp [Act.put]

theorem erel_setDst {σ : Sg} {e : Env} {a : Act} (h : erel σ e a.tmps) {d : Option Tmp} (hd : dstOk a.tmps.size d) {v : AV} {u : Value} (hv : vrel σ v u) : erel σ (setDst e d v) (a.put d u).tmps := by
  cases d with
  | none => exact h
  | some d => exact h.put (hd d rfl) hv

theorem Inv.put {X : Cx} {σ σ' : Sg} {s s' : St} {w w' : World} {n0 : Nat} {e : Env} {a : Act} (I : Inv X σ s w n0 e a) (g : Good σ s w σ' s' w') {d : Option Tmp} (hd : dstOk a.tmps.size d) {v : AV} {u : Value} (hv : vrel σ' v u) :
    After X σ s w n0 a (setDst e d v) s' (a.put d u) w' :=
  ⟨σ', g, ⟨g.hr, g.fresh I.fresh, I.glob.mono g.ext.le, erel_setDst (I.env.mono g.ext.le) hd hv, by rw [put_defers]; exact I.df.good g, Nat.le_trans I.n0 g.ext.size⟩, put_size _ _ _⟩

theorem eval_eq_rho (a : Act) : a.eval = rho a.tmps := by
  funext x; cases x <;> rfl

theorem vrel_bool_inv {σ : Sg} {a : AV} {b : Bool} (h : vrel σ a (.bool b)) : a = .bool b := by
  cases a <;> simp only [vrel] at h <;> first
    | (injection h with h; subst h; rfl)
    | (cases h; done)
    | (obtain ⟨_, h, _⟩ := h; cases h; done)
    | (obtain ⟨_, _, h⟩ := h; cases h; done)
    | (obtain ⟨_, _, h, _⟩ := h; cases h; done)
    | (obtain ⟨_, _, _, h, _⟩ := h; cases h; done)
    | (obtain ⟨_, _, _, _, _, _, h, _⟩ := h; cases h; done)

theorem wanted_eq {σ : Sg} {e : Env} {tmps : Array Value} (h : erel σ e tmps) (ops : Array Oper) (o : Oper) : Region.wanted o (yielded ops tmps) = wantedA ops e o := by
  unfold Region.wanted wantedA
  cases hg : o.guard with
  | none => rfl
  | some g =>
    obtain ⟨j, want⟩ := g
    simp only [yielded]
    cases ho : ops[j]? with
    | none => simp
    | some oj =>
      cases hd : oj.dst with
      | none => simp [hd]
      | some d =>
        simp only [Option.bind_some, hd]
        have ht := h d
        rw [Array.getD_eq_getD_getElem?] at ht
        cases hv : tmps[d]? with
        | none =>
          rw [hv] at ht
          simp only [Option.getD_none] at ht
          cases ha : Env.get e d <;> rw [ha] at ht <;> simp only [vrel] at ht <;> first | rfl | (cases ht; done)
        | some v =>
          rw [hv] at ht
          simp only [Option.getD_some] at ht
          cases v with
          | bool b =>
            rw [vrel_bool_inv ht]
            show (some b == some want) = (b == want)
            cases b <;> cases want <;> rfl
          | _ =>
            cases ha : Env.get e d <;> rw [ha] at ht <;> simp only [vrel] at ht <;> first | rfl | (cases ht; done)

/-- how a callee ends -/
def FnPost (P : Program) (R : Value → World → Prop) : Result Next → Prop
  | .ok (.value v) w' => R v w'
  | .ok (.enter f args) w' => Calls P f args w' fun e w'' => ∃ v, e = .returned v ∧ R v w''
  | _ => False

def FnOk (X : Cx) (P : Program) (f : FuncId) (g : List AV → St → Option (AV × St)) : Prop :=
  ∀ args s v s' σ w (us : Array Value), g args s = some (v, s') → HR σ s w → Fresh σ s → GlobOk X σ → vrels σ args us.toList →
    FnPost P (fun u w' => ∃ σ', vrel σ' v u ∧ Good σ s w σ' s' w') ((callFunc f us).run P w)

structure Full (X : Cx) (P : Program) : Prop extends CxOk X P where
  stat : ∀ m c, Stat.ok m c ↔ ∃ n, n ≤ m ∧ okC Stat.w n c = true ∧ noRF c = true
  le : ∀ n c, okC Stat.w n c = true → okC X n c = true
  fok : ∀ f fn c, X.fn f = some fn → fn.body = some c → okC Stat.w fn.ntmps c = true
  nm : ∀ f fn, X.fn f = some fn → (fn.name == "runtime.NumGoroutine") = false
  ext : ∀ f g, X.ext f = some g → FnOk X P f g
  mixed : P.follows .mixedOrders = true
  gb : ∀ i b, X.gbase i = some b → b ≠ .gone

def Cok (X : Cx) (r : Option Nat) (m : Nat) (c : Code) : Prop := ∃ n, n ≤ m ∧ okC Stat.w n c = true ∧ (r.isSome = true → noRF c = true)

theorem callsIn_of {r : Option Nat} {n : Nat} {P : Program} {f : FuncId} {args : Array Value} {w : World} {R : Ending → World → Prop} (h : Calls P f args w R) : CallsIn (FW r) n P f args w R := by
  cases r with
  | none => exact callsIn_wide.2 h
  | some l => exact CallsIn.inRound l (callsIn_wide.2 h)

theorem callsIn_mono {F : Fence} {n : Nat} {P : Program} {f : FuncId} {args : Array Value} {w : World} {R R' : Ending → World → Prop} (h : CallsIn F n P f args w R) (hr : ∀ e w', R e w' → R' e w') : CallsIn F n P f args w R' :=
  ⟨h.1, fun cs hroom => let ⟨e, w', fr, r, s⟩ := h.2 cs hroom; ⟨e, w', fr, hr _ _ r, s⟩⟩

/-- What an operation comes to, with a callee walked. -/
theorem upon_of {X : Cx} {P : Program} {r : Option Nat} {o : Oper} {a : Act} {nxt : Act → World → Prop} {Q : Exit → Act → World → Prop} {m : Result Next} {R : Value → World → Prop} (h : FnPost P R m) (hn : ∀ v w', R v w' → nxt (a.put o.dst v) w') :
    o.uponIn (FW r) 0 P a nxt Q m := by
  unfold FnPost at h
  split at h
  · rw [Oper.uponIn_value]; exact hn _ _ h
  · rw [Oper.uponIn_enter]
    refine ⟨fun hd => (by cases hd), callsIn_mono (callsIn_of h) ?_⟩
    rintro e w' ⟨v, rfl, hv⟩
    exact hn _ _ hv
  · exact h.elim

theorem about_wide {r : Option Nat} {P : Program} {w : World} {o : Oper} {ρ : Operand → Value} : ∀ f, o.about P w ρ = some f → (FW r).fn f := fun _ _ => trivial

theorem wpIn_scope {F : Fence} {n : Nat} {P : Program} {Q : Exit → Act → World → Prop} {a : Act} {w : World} {c : Code} (h : c.wpIn F n P (Exit.noGoto Q) a w) : (Code.scope c).wpIn F n P Q a w := by
  intro b k cs hro hb hr
  have h0 : (lone (b.atR a (.code (.scope c) :: k)) cs w).fenced P F := fenced_calm hb hr rfl
  have hst : step P (lone (b.atR a (.code (.scope c) :: k)) cs w) = .next (lone (b.atR a (.code c :: .inScope c :: k)) cs w) := step_lone_go (by simp [stepG, stepG.exec, Frame.atR])
  have hst2 : ∀ a w, step P (lone (b.atR a (.inScope c :: k)) cs w) = .next (lone (b.atR a k) cs w) := fun a w => step_lone_go (by simp [stepG, stepG.exec, Frame.atR])
  obtain ⟨e, a₁, w₁, hq, harr⟩ := h b (.inScope c :: k) cs hro hb hr
  cases e with
  | normal => exact ⟨.normal, a₁, w₁, hq, .head h0 hst (StepsIn.trans harr (.one (fenced_calm hb hr rfl) (hst2 _ _)))⟩
  | exit id => 
    have hx : exitTo id (.inScope c :: k) = exitTo id k := by simp [exitTo]
    exact ⟨.exit id, a₁, w₁, hq, fun k' hk => .head h0 hst (harr.1 k' (by rw [hx]; exact hk)), fun hr' hk => let ⟨k₁, h1, h2⟩ := harr.2 hr' (by rw [hx]; exact hk); ⟨k₁, h1, .head h0 hst h2⟩⟩
  | goto l => exact hq.elim
  | ret => exact ⟨.ret, a₁, w₁, hq, .of_steps (b := b) (k := k) (cs := cs) (e := .ret) (.one h0 hst) harr⟩
  | panic ch => exact ⟨.panic ch, a₁, w₁, hq, .of_steps (b := b) (k := k) (cs := cs) (e := .panic ch) (.one h0 hst) harr⟩
  | outgrown => exact ⟨.outgrown, a₁, w₁, hq, .of_steps (b := b) (k := k) (cs := cs) (e := .outgrown) (.one h0 hst) harr⟩

/-- a loop, from the head of its body on -/
def LoopRuns (F : Fence) (n : Nat) (P : Program) (c : Code) (Q : Exit → Act → World → Prop) (a : Act) (w : World) : Prop :=
  ∀ (b : Frame) (k : List Item) (cs : List Frame), b.roundOf = F.round → F.fn b.fn → F.room (cs.length + 1 + n) →
    ∃ e a' w', Q e a' w' ∧ ArrivesIn (Machine.fenced P F) P (lone (b.atR a (.code c :: .inLoop c :: k)) cs w) b k cs e a' w'

def Goes (F : Fence) (n : Nat) (P : Program) (c : Code) (Q : Exit → Act → World → Prop) (a : Act) (w : World) : Prop :=
  match c with
  | .loop b => LoopRuns F n P b Q a w
  | c => c.wpIn F n P Q a w

theorem Goes.wpIn {F : Fence} {n : Nat} {P : Program} {c : Code} {Q : Exit → Act → World → Prop} {a : Act} {w : World} (h : Goes F n P c Q a w) : c.wpIn F n P Q a w := by
  unfold Goes at h
  split at h
  · intro b k cs hro hb hr
    obtain ⟨e, a', w', hq, harr⟩ := h b k cs hro hb hr
    exact ⟨e, a', w', hq, .of_steps (.one (fenced_calm hb hr rfl) stepR_loop) harr⟩
  · exact h

theorem loopRuns_of {F : Fence} {n : Nat} {P : Program} {Q : Exit → Act → World → Prop} {a : Act} {w : World} {c : Code} (h : c.wpIn F n P (Exit.then (LoopRuns F n P c Q) Q) a w) : LoopRuns F n P c Q a w := by
  intro b k cs hro hb hr
  obtain ⟨e, a₁, w₁, hq, harr⟩ := h b (.inLoop c :: k) cs hro hb hr
  cases e with
  | normal =>
    obtain ⟨e2, a2, w2, hq2, harr2⟩ := hq b k cs hro hb hr
    exact ⟨e2, a2, w2, hq2, .of_steps (StepsIn.trans harr (.one (fenced_calm hb hr rfl) stepR_inLoop)) harr2⟩
  | exit id => exact ⟨_, a₁, w₁, hq, .pass (x := .inLoop c) rfl (fun _ _ => .inl (by simp)) harr⟩
  | goto l => exact ⟨_, a₁, w₁, hq, .pass (x := .inLoop c) rfl (fun _ _ => .inl (by simp)) harr⟩
  | ret => exact ⟨_, a₁, w₁, hq, .pass (x := .inLoop c) rfl (fun _ _ => .inl (by simp)) harr⟩
  | panic ch => exact ⟨_, a₁, w₁, hq, .pass (x := .inLoop c) rfl (fun _ _ => .inl (by simp)) harr⟩
  | outgrown => exact ⟨_, a₁, w₁, hq, .pass (x := .inLoop c) rfl (fun _ _ => .inl (by simp)) harr⟩

def ExOk (X : Cx) (P : Program) (ex : Ex) : Prop :=
  ∀ c e s out e' s', ex c e s = some (out, e', s') → ∀ r n0 a w σ, Cok X r a.tmps.size c → Inv X σ s w n0 e a → Goes (FW r) 0 P c (Post X σ s w n0 a out e' s') a w

end
end Go.Am
set_option linter.unusedSimpArgs false
set_option linter.unusedVariables false
set_option linter.unusedSectionVars false
namespace Go.Am
open Go
section
variable [Stat]

theorem HR.congr {σ : Sg} {s t : St} {w : World} (H : HR σ s w) (h : ∀ i, s.look i = t.look i) : HR σ t w :=
  ⟨H.lt, fun i p b hp hb => H.blk i p b hp (by rw [h]; exact hb), fun i j p q b c hp hq hb hc he => H.inj i j p q b c hp hq (by rw [h]; exact hb) (by rw [h]; exact hc) he, fun c o hc => ⟨(H.fz c o hc).1, fun ⟨i, p, b, h1, h2, h3, h4⟩ => (H.fz c o hc).2 ⟨i, p, b, h1, by rw [h]; exact h2, h3, h4⟩⟩⟩

theorem Good.congr {σ σ' : Sg} {s s' t : St} {w w' : World} (g : Good σ s w σ' s' w') (h : ∀ i, s'.look i = t.look i) (hn : t.next = s'.next) (hb : t.base = s'.base) : Good σ s w σ' t w' where
  hr := g.hr.congr h
  ext := { le := g.ext.le, nfz := g.ext.nfz, size := g.ext.size, keep := g.ext.keep, os := g.ext.os, tape := g.ext.tape, output := g.ext.output, drawn := g.ext.drawn,
           owns := fun c hc ⟨i, p, b, h1, h2, h3, h4⟩ => g.ext.owns c hc ⟨i, p, b, h1, by rw [h]; exact h2, h3, h4⟩ }
  dom := fun i hi => g.dom i (by rw [hn] at hi; exact hi)
  next := by rw [hn]; exact g.next
  dead := fun i hi hl => by rw [← h]; exact g.dead i hi hl
  news := g.news
  glob := by rw [hb]; exact g.glob

theorem putput_look (s : St) (l : Nat) (b : Blk) (i : Nat) : ((s.put l b).put l .gone).look i = (s.put l .gone).look i := by
  rw [St.look_put, St.look_put, St.look_put]
  by_cases h : l = i <;> simp [h]

/-- A concrete block more that nobody of the abstract heap stands for. -/
theorem Good.alloc0 {σ : Sg} {s : St} {w : World} (H : HR σ s w) (o : Obj) : Good σ s w σ s (w.alloc o) where
  hr := ⟨fun i p h => by have := H.lt i p h; simp; omega, fun i p b hp hb => by
      obtain ⟨o', ho, hr⟩ := H.blk i p b hp hb
      have := H.lt i p hp
      exact ⟨o', by simp only [World.alloc]; rw [Array.getElem?_push, if_neg (by omega)]; exact ho, hr⟩, H.inj, fun c o' hc => by
      obtain ⟨h1, h2⟩ := H.fz c o' hc
      have hlt : c < w.heap.size := (Array.getElem?_eq_some_iff.1 h1).1
      exact ⟨by simp only [World.alloc]; rw [Array.getElem?_push, if_neg (by omega)]; exact h1, h2⟩⟩
  ext := ⟨Sg.le_refl _, fun _ _ h => .inl h, by simp, fun c hc _ => by simp only [World.alloc]; rw [Array.getElem?_push, if_neg (by omega)], fun _ _ h => h, rfl, rfl, rfl, Drw.of (Nat.le_refl _)⟩
  dom := fun _ _ => rfl
  next := Nat.le_refl _
  dead := fun _ _ h => h
  news := fun i p h k => by rw [k] at h; cases h
  glob := rfl

/-- A mark taken off: the block of the deferred calls is no block of the abstract heap and was made since. -/
theorem Good.unmark {σ σ' : Sg} {s s' : St} {w w' : World} (g : Good σ s w σ' s' w') {r : Nat} (hr : w.heap.size ≤ r) (hno : ∀ i p, σ' i = some p → p.b ≠ r) (hz : σ'.fz r = none) (o : Obj) :
    Good σ s w σ' s' { w' with heap := w'.heap.setIfInBounds r o } where
  hr := ⟨fun i p h => by have := g.hr.lt i p h; simpa using this, fun i p b hp hb => by
      obtain ⟨o', ho, hr⟩ := g.hr.blk i p b hp hb
      have := hno i p hp
      exact ⟨o', by show (w'.heap.setIfInBounds r o)[p.b]? = some o'; rw [Array.getElem?_setIfInBounds, if_neg (fun h => this h.symm)]; exact ho, hr⟩, g.hr.inj, fun c o' hc => by
      obtain ⟨h1, h2⟩ := g.hr.fz c o' hc
      have hne : r ≠ c := fun e => by subst e; rw [hz] at hc; cases hc
      exact ⟨by show (w'.heap.setIfInBounds r o)[c]? = some o'; rw [Array.getElem?_setIfInBounds, if_neg hne]; exact h1, h2⟩⟩
  ext := ⟨g.ext.le, g.ext.nfz, by simpa using g.ext.size, fun c hc hn => by
      show (w'.heap.setIfInBounds r o)[c]? = _
      rw [Array.getElem?_setIfInBounds, if_neg (by omega)]; exact g.ext.keep c hc hn, g.ext.owns, g.ext.os, g.ext.tape, g.ext.output, g.ext.drawn⟩
  dom := g.dom
  next := g.next
  dead := g.dead
  news := g.news
  glob := g.glob

variable {X : Cx} {P : Program}

theorem results1 (hX : CxOk X P) {σ : Sg} {s : St} {w : World} (H : HR σ s w) {e : Env} {tmps : Array Value} (E : erel σ e tmps) {r : ResultVar} {v : AV} (h : resultA X e s r = some v) :
    ∃ u, (match r with | .tmp t => pure (tmps.getD t Go.undef) | .cell a t => do loadVar t (← asAddr (tmps.getD a Go.undef)) : Sem Value).run P w = .ok u w ∧ vrel σ v u := by
  cases r with
  | tmp t => simp only [resultA] at h; cases h; exact ⟨_, rfl, E t⟩
  | cell a t =>
    simp only [resultA] at h
    have hrel := E a
    obtain ⟨u, h1, h2⟩ := loadA_run (P := P) hX H hrel h
    cases ha : Env.get e a <;> rw [ha] at h <;> simp only [loadA] at h <;> try (cases h; done)
    all_goals rw [ha] at hrel
    all_goals
      have hv : ∃ ad, tmps.getD a Go.undef = .pointer (some ad) := by
        first
          | (obtain ⟨p, hp, hv⟩ := vrel_ptr hrel; exact ⟨_, hv⟩)
          | (obtain ⟨_, _, _, _, _, _, hv, _⟩ := vrel_fp hrel; exact ⟨_, hv⟩)
      obtain ⟨ad, hv⟩ := hv
      refine ⟨u, ?_, h2⟩
      show Sem.run P (do loadVar t (← asAddr (tmps.getD a Go.undef))) w = _
      rw [hv] at h1 ⊢
      simp only [Instr.loadAt, Instr.sureAddr, Sem.run_bind, Sem.run_pure, Result.andThen_ok] at h1
      simp only [asAddr, Sem.run_bind, Sem.run_pure, Result.andThen_ok]
      exact h1

theorem resultsL_run (hX : CxOk X P) {σ : Sg} {s : St} {w : World} (H : HR σ s w) {e : Env} {tmps : Array Value} (E : erel σ e tmps) : ∀ {l : List ResultVar} {vs : List AV}, resultsL X e s l = some vs →
    ∃ us, (l.mapM fun r => (match r with | .tmp t => pure (tmps.getD t Go.undef) | .cell a t => do loadVar t (← asAddr (tmps.getD a Go.undef)) : Sem Value)).run P w = .ok us w ∧ vrels σ vs us
  | [], vs, h => by simp only [resultsL] at h; cases h; exact ⟨[], rfl, by simp [vrels]⟩
  | r :: l, vs, h => by
    simp only [resultsL] at h
    split at h
    · rename_i v vs' h1 h2
      cases h
      obtain ⟨u, g1, g2⟩ := results1 (P := P) hX H E h1
      obtain ⟨us, g3, g4⟩ := resultsL_run hX H E h2
      refine ⟨u :: us, ?_, by simp only [vrels]; exact ⟨_, _, rfl, g2, g4⟩⟩
      rw [List.mapM_cons, Sem.run_bind, g1, Result.andThen_ok, Sem.run_bind, g3, Result.andThen_ok, Sem.run_pure]
    · cases h

theorem results_run (hX : CxOk X P) {σ : Sg} {s : St} {w : World} (H : HR σ s w) {e : Env} {tmps : Array Value} (E : erel σ e tmps) {fn : Func} {v : AV} (h : resultsA X fn e s = some v) :
    ∃ u, (results fn tmps).run P w = .ok u w ∧ vrel σ v u := by
  unfold resultsA at h
  have key : ∀ vs, resultsL X e s fn.results.toList = some vs → ∃ us : Array Value, (fn.results.mapM fun r => (match r with | .tmp t => pure (tmps.getD t Go.undef) | .cell a t => do loadVar t (← asAddr (tmps.getD a Go.undef)) : Sem Value)).run P w = .ok us w ∧ vrels σ vs us.toList := by
    intro vs hvs
    obtain ⟨us, h1, h2⟩ := resultsL_run (P := P) hX H E hvs
    exact ⟨us.toArray, run_mapM_array _ _ _ h1, by simpa using h2⟩
  split at h
  · rename_i v' hv
    cases h
    obtain ⟨us, h1, h2⟩ := key _ hv
    simp only [vrels] at h2
    obtain ⟨u, y, hu, hr, rfl⟩ := h2
    have : us = #[u] := by apply Array.ext'; rw [hu]
    subst this
    refine ⟨u, ?_, hr⟩
    unfold results
    rw [Sem.run_bind]
    refine (congrArg (fun m => Result.andThen m _) h1).trans ?_
    simp
  · rename_i vs hne hv
    cases h
    obtain ⟨us, h1, h2⟩ := key _ hv
    have hl : us.size ≠ 1 := by
      intro hs
      have := h2.length
      have h3 : us.toList.length = us.size := rfl
      rw [h3, hs] at this
      match vs, this with
      | [x], _ => exact hne x rfl
    refine ⟨.tuple us, ?_, by simp only [vrel]; exact ⟨_, rfl, h2⟩⟩
    unfold results
    rw [Sem.run_bind]
    refine (congrArg (fun m => Result.andThen m _) h1).trans ?_
    simp [hl]
  · cases h

/-- the temporaries at a function's entry -/
theorem bindArgs_rel {σ : Sg} : ∀ (l : List AV) (us : List Value) (i : Nat) (e : Env) (f : Nat → Value), vrels σ l us → (∀ t : Nat, t < i ∨ i + l.length ≤ t → vrel σ (Env.get e t) (f t)) →
    ∀ t : Nat, vrel σ (Env.get (bindArgs i l e) t) (if i ≤ t ∧ t < i + l.length then (us[t - i]?).getD Go.undef else f t)
  | [], us, i, e, f, h, he, t => by
    simp only [bindArgs, List.length_nil, Nat.add_zero]
    rw [if_neg (by omega)]
    exact he t (by simp; omega)
  | v :: l, us, i, e, f, h, he, t => by
    simp only [vrels] at h
    obtain ⟨u, us, rfl, h1, h2⟩ := h
    simp only [bindArgs]
    have := bindArgs_rel l us (i + 1) (Tr.set e i v) (fun t => if t = i then u else f t) h2 (fun (t : Nat) ht => by
      rw [Env.get_set]
      by_cases hti : i = t
      · subst hti; simp only [if_pos]; exact h1
      · rw [if_neg hti, if_neg (fun h => hti h.symm)]
        exact he t (by simp only [List.length_cons]; omega)) t
    simp only [List.length_cons]
    by_cases c : i + 1 ≤ t ∧ t < i + 1 + l.length
    · rw [if_pos c] at this
      rw [if_pos (by omega)]
      rw [show t - i = (t - (i + 1)) + 1 from by omega, List.getElem?_cons_succ]
      exact this
    · rw [if_neg c] at this
      by_cases ht : t = i
      · subst ht
        rw [if_pos rfl] at this
        rw [if_pos (by omega)]
        simpa using this
      · rw [if_neg ht] at this
        rw [if_neg (by omega)]
        exact this

theorem enter_rel {σ : Sg} {l : List AV} {us : Array Value} (h : vrels σ l us.toList) (k : Nat) : erel σ (bindArgs 0 l .nil) (us ++ Array.replicate k Go.undef) := by
  intro (t : Nat)
  have := bindArgs_rel l us.toList 0 .nil (fun _ => Go.undef) h (fun t _ => by
    show vrel σ (Env.get (Tr.nil : Tr AV) t) Go.undef
    simp only [Env.get, Tr.get_nil]; exact undef_rel) t
  have hl := h.length
  have hl : l.length = us.size := hl
  simp only [Nat.zero_le, true_and, Nat.zero_add, Nat.sub_zero] at this
  rw [Array.getD_eq_getD_getElem?, Array.getElem?_append]
  by_cases c : t < l.length
  · rw [if_pos c] at this
    rw [if_pos (by omega)]
    simpa using this
  · rw [if_neg c] at this
    rw [if_neg (by omega)]
    rw [Array.getElem?_replicate]
    split <;> simpa using this

end
end Go.Am
set_option linter.unusedSimpArgs false
set_option linter.unusedVariables false
set_option linter.unusedSectionVars false
namespace Go.Am
open Go
section
variable [Stat]
variable {X : Cx} {P : Program}

mutual
theorem still_rel {σ : Sg} : ∀ {v : AV} {u : Value}, still v = true → vrel σ v u → vrel σ.bare v u
  | .bool _, _, _, k | .int _ _, _, _, k | .flt _ _, _, _, k | .str _, _, _, k | .nilp, _, _, k | .nils, _, _, k | .nilm, _, _, k | .nilch, _, _, k | .nilfn, _, _, k | .nili, _, _, k => by simpa only [vrel] using k
  | .ptr .., _, h, _ => by simp [still] at h
  | .sl .., _, h, _ => by simp [still] at h
  | .map _, _, h, _ => by simp [still] at h
  | .chan _, _, h, _ => by simp [still] at h
  | .fn f x y, u, h, k => by
    simp only [still, Bool.and_eq_true] at h
    simp only [vrel] at k ⊢
    obtain ⟨f', x', y', e, h1, h2, h3⟩ := k
    refine ⟨f', x', y', e, ?_, stills_rel h.1.2 h2, stills_rel h.2 h3⟩
    cases f <;> simp only [Bool.false_eq_true, false_and, and_false] at h
    simpa only [fnrel] using h1
  | .iface t x, u, h, k => by
    simp only [still] at h
    simp only [vrel] at k ⊢
    obtain ⟨y, e, r⟩ := k
    exact ⟨y, e, still_rel h r⟩
  | .agg cs, u, h, k => by
    simp only [still] at h
    simp only [vrel] at k ⊢
    obtain ⟨y, e, r⟩ := k
    exact ⟨y, e, stills_rel h r⟩
  | .tup cs, u, h, k => by
    simp only [still] at h
    simp only [vrel] at k ⊢
    obtain ⟨y, e, r⟩ := k
    exact ⟨y, e, stills_rel h r⟩
  | .fz es, u, h, k => by
    simp only [vrel] at k ⊢
    exact k
  | .fp _ _, u, h, k => by
    simp only [vrel] at k ⊢
    exact k
  | .fm _ _, u, h, k => by
    simp only [vrel] at k ⊢
    exact k
theorem stills_rel {σ : Sg} : ∀ {v : List AV} {u : List Value}, stills v = true → vrels σ v u → vrels σ.bare v u
  | [], _, _, k => by simpa only [vrels] using k
  | a :: x, u, h, k => by
    simp only [stills, Bool.and_eq_true] at h
    simp only [vrels] at k ⊢
    obtain ⟨v, y, e, h1, h2⟩ := k
    exact ⟨v, y, e, still_rel h.1 h1, stills_rel h.2 h2⟩
end

mutual
theorem flat_rel {σ τ : Sg} : ∀ {v : AV} {u : Value}, flat v = true → vrel σ v u → vrel τ v u
  | .bool _, _, _, k | .int _ _, _, _, k | .flt _ _, _, _, k | .str _, _, _, k | .nilp, _, _, k | .nils, _, _, k | .nilm, _, _, k | .nilch, _, _, k | .nilfn, _, _, k | .nili, _, _, k => by simpa only [vrel] using k
  | .ptr .., _, h, _ => by simp [flat] at h
  | .sl .., _, h, _ => by simp [flat] at h
  | .map _, _, h, _ => by simp [flat] at h
  | .chan _, _, h, _ => by simp [flat] at h
  | .fn f x y, u, h, k => by
    simp only [flat, Bool.and_eq_true] at h
    simp only [vrel] at k ⊢
    obtain ⟨f', x', y', e, h1, h2, h3⟩ := k
    refine ⟨f', x', y', e, ?_, flats_rel h.1.2 h2, flats_rel h.2 h3⟩
    cases f <;> simp only [Bool.false_eq_true, false_and, and_false] at h
    simpa only [fnrel] using h1
  | .iface t x, u, h, k => by
    simp only [flat] at h
    simp only [vrel] at k ⊢
    obtain ⟨y, e, r⟩ := k
    exact ⟨y, e, flat_rel h r⟩
  | .agg cs, u, h, k => by
    simp only [flat] at h
    simp only [vrel] at k ⊢
    obtain ⟨y, e, r⟩ := k
    exact ⟨y, e, flats_rel h r⟩
  | .tup cs, u, h, k => by
    simp only [flat] at h
    simp only [vrel] at k ⊢
    obtain ⟨y, e, r⟩ := k
    exact ⟨y, e, flats_rel h r⟩
  | .fz es, u, h, k => by simp [flat] at h
  | .fp _ _, u, h, k => by simp [flat] at h
  | .fm _ _, u, h, k => by simp [flat] at h
theorem flats_rel {σ τ : Sg} : ∀ {v : List AV} {u : List Value}, flats v = true → vrels σ v u → vrels τ v u
  | [], _, _, k => by simpa only [vrels] using k
  | a :: x, u, h, k => by
    simp only [flats, Bool.and_eq_true] at h
    simp only [vrels] at k ⊢
    obtain ⟨v, y, e, h1, h2⟩ := k
    exact ⟨v, y, e, flat_rel h.1 h1, flats_rel h.2 h2⟩
end

theorem mapO_rel {σ τ : Sg} {f : AV → Option AV} (hf : ∀ a b u, f a = some b → vrel σ a u → vrel τ b u) : ∀ {l r : List AV} {us : List Value}, mapO f l = some r → vrels σ l us → vrels τ r us
  | [], r, us, h, k => by simp only [mapO] at h; cases h; simpa only [vrels] using k
  | x :: l, r, us, h, k => by
    simp only [mapO] at h
    split at h
    · rename_i y r' h1 h2
      cases h
      simp only [vrels] at k ⊢
      obtain ⟨v, z, e, k1, k2⟩ := k
      exact ⟨v, z, e, hf _ _ _ h1 k1, mapO_rel hf h2 k2⟩
    · cases h

/-- the elements' values -/
def chunksV (agg : Bool) (n : Nat) : Nat → List Value → List Value
  | 0, _ => []
  | k + 1, l => (match agg, l with | false, x :: _ => x | _, _ => .agg (l.take n).toArray) :: chunksV agg n k (l.drop n)

theorem chunks_rel {σ : Sg} {ag : Bool} {n : Nat} (hn : n ≠ 0) (ha : ag = false → n = 1) : ∀ (k : Nat) {r : List AV} {vs : List Value}, vrels σ r vs → r.length = k * n → (ag = false → r.all noAgg = true) →
    vrels σ (chunksA ag n k r) (chunksV ag n k vs) ∧ (chunksV ag n k vs).flatMap (fun u => u.cells.toList) = vs ∧ (∀ u ∈ chunksV ag n k vs, u.cells.size = n) ∧ (chunksV ag n k vs).length = k
  | 0, r, vs, h, hl, _ => by
    have : r = [] := by apply List.length_eq_zero_iff.1; simpa using hl
    subst this
    simp only [vrels] at h; subst h
    simp [chunksA, chunksV, vrels]
  | k + 1, r, vs, h, hl, hno => by
    have hll := h.length
    have hdl : (r.drop n).length = k * n := by rw [List.length_drop, hl, Nat.add_mul]; omega
    obtain ⟨i1, i2, i3, i4⟩ := chunks_rel hn ha k (h.drop n) hdl (fun e => by
      have := hno e
      rw [List.all_eq_true] at this ⊢
      exact fun x hx => this x (List.mem_of_mem_drop hx))
    have hnl : n ≤ r.length := by rw [hl, Nat.add_mul]; omega
    have htake := h.take n
    have hlen : (vs.take n).length = n := by rw [List.length_take]; omega
    cases ag with
    | true =>
      simp only [chunksA, chunksV, vrels, List.flatMap_cons, List.length_cons]
      refine ⟨⟨_, _, rfl, by simp only [vrel]; exact ⟨_, rfl, htake⟩, i1⟩, ?_, ?_, by rw [i4]⟩
      · rw [i2]; simp [Value.cells]
      · intro u hu
        rcases List.mem_cons.1 hu with rfl | hu
        · simp only [Value.cells]; simpa using hlen
        · exact i3 u hu
    | false =>
      have hn1 := ha rfl
      subst hn1
      cases r with
      | nil => simp at hnl
      | cons x r =>
        simp only [vrels] at h
        obtain ⟨v, y, rfl, h1, h2⟩ := h
        have hna : noAgg x = true := by have := hno rfl; simp only [List.all_cons, Bool.and_eq_true] at this; exact this.1
        have hc := (cells_of_noAgg h1 hna).1
        simp only [chunksA, chunksV, vrels, List.flatMap_cons, List.length_cons] at i1 i2 i3 ⊢
        refine ⟨⟨_, _, rfl, h1, i1⟩, ?_, ?_, by rw [i4]⟩
        · rw [i2, hc]; simp
        · intro u hu
          rcases List.mem_cons.1 hu with rfl | hu
          · rw [hc]; rfl
          · exact i3 u hu

/-- what is written out stands for the value as long as nobody writes there -/
theorem frz_rel {σ τ : Sg} {s : St} {w : World} (H : HR σ s w) (hz : ∀ b o, σ.fz b = some o → τ.fz b = some o) (ho : ∀ i p b o, σ i = some p → s.look i = some b → b.own = true → w.heap[p.b]? = some o → τ.fz p.b = some o) :
    ∀ (d : Nat) (v v' : AV) (u : Value), frz X s d v = some v' → vrel σ v u → vrel τ.bare v' u
  | 0, v, v', u, h, _ => by simp [frz] at h
  | d + 1, v, v', u, h, k => by
    have ih := frz_rel H hz ho d
    have hle : Sg.le σ.bare τ.bare := ⟨fun _ _ h => by simp [Sg.bare] at h, hz⟩
    have same : still v = true → vrel τ.bare v u := fun hs => vrel.mono hle _ _ (still_rel hs k)
    cases v with
    | ptr b o =>
      simp only [frz] at h
      split at h
      · rename_i c e lo hi hg
        split at h
        · rename_i c' hc'
          cases h
          obtain ⟨p, hp, rfl⟩ := vrel_ptr k
          have hl := St.look_some hg (by simp)
          obtain ⟨cc, fz, h1, h2, h3, h4, _⟩ := H.cells hp hl
          have hfz := ho _ _ _ _ hp hl rfl h1
          obtain ⟨vs, r1, r2⟩ := H.row (s := s) (c := c) hp (by simp [St.cells, hg]) c 0 (fun i a ha => by simpa using ha)
          simp only [vrel]
          refine ⟨p.b, p.sh, vs, cc, e, fz, rfl, hfz, mapO_rel ih hc' r1, fun i u hu => ?_⟩
          have := r2 i u hu
          rw [cell_of_block h1] at this
          simpa using this
        · cases h
      · cases h
    | sl b o len cap esz =>
      simp only [frz] at h
      split at h
      · rename_i c e lo hi hg
        split at h
        · rename_i r ag n hr hag hs
          split at h
          · rename_i hc
            obtain ⟨rfl, hn, hcond⟩ := hc
            split at h
            · rename_i es hes
              cases h
              obtain ⟨a, k', rfl, hlen, ⟨p, hp, hat, _⟩, _⟩ := vrel_sl k
              have hl := St.look_some hg (by simp)
              obtain ⟨cc, fz, h1, h2, h3, h4, _⟩ := H.cells hp hl
              have hfz := ho _ _ _ _ hp hl rfl h1
              obtain ⟨vs, r1, r2⟩ := H.row (s := s) (c := c) hp (by simp [St.cells, hg]) r o (fun i a ha => grab_get hr ha)
              have hrl := (grab_spec hr).1
              obtain ⟨q1, q2, q3, q4⟩ := chunks_rel hn (fun e => (hcond e).1) len r1 hrl (fun e => (hcond e).2)
              have q5 := mapO_rel ih hes q1
              have hesl : es.length = len := by rw [q5.length, q4]
              simp only [vrel]
              refine ⟨a, k', chunksV ag esz len vs, by rw [hesl], by omega, q5, ?_⟩
              by_cases hl0 : len = 0
              · subst hl0; exact .inl rfl
              · right
                have := hat (by omega); subst this
                refine ⟨rfl, cc, e, fz, esz, hfz, hn, q3, fun i v hv => ?_⟩
                rw [q2] at hv
                have := r2 i v hv
                rw [cell_of_block h1] at this
                exact this
            · cases h
          · cases h
        · cases h
      · cases h
    | map r =>
      simp only [frz] at h
      split at h
      · rename_i es hg
        split at h
        · rename_i ks vs hk hv
          cases h
          obtain ⟨p, hp, rfl⟩ := vrel_map k
          obtain ⟨ces, clock, g1, g2, _⟩ := H.map hp hg
          have hfz := ho _ _ _ _ hp (St.look_some hg (by simp)) rfl g1
          have key : ∀ (es : List (AV × AV)) (l : List MapEntry), entriesRel σ es l → vrels σ (es.map (·.1)) (l.map MapEntry.key) ∧ vrels σ (es.map (·.2)) (l.map MapEntry.val) := by
            intro es
            induction es with
            | nil => intro l hl; simp only [entriesRel] at hl; subst hl; simp [vrels]
            | cons a es ihe =>
              intro l hl
              obtain ⟨x, y⟩ := a
              simp only [entriesRel] at hl
              obtain ⟨m, r, rfl, e1, e2, e3⟩ := hl
              obtain ⟨j1, j2⟩ := ihe r e3
              simp only [List.map_cons, vrels]
              exact ⟨⟨_, _, rfl, e1, j1⟩, ⟨_, _, rfl, e2, j2⟩⟩
          obtain ⟨j1, j2⟩ := key _ _ g2
          simp only [vrel]
          exact ⟨p.b, ces, clock, rfl, hfz, mapO_rel ih hk j1, mapO_rel ih hv j2⟩
        · cases h
      · cases h
    | fn f x y =>
      simp only [frz] at h
      split at h
      · rename_i g
        split at h
        · rename_i x' y' hx hy
          cases h
          simp only [vrel] at k ⊢
          obtain ⟨f', x1, y1, e, h1, h2, h3⟩ := k
          simp only [fnrel] at h1 ⊢
          exact ⟨f', x1, y1, e, h1, mapO_rel ih hx h2, mapO_rel ih hy h3⟩
        · cases h
      · cases h
    | iface t x =>
      simp only [frz] at h
      split at h
      · rename_i x' hx
        cases h
        simp only [vrel] at k ⊢
        obtain ⟨y, e, r⟩ := k
        exact ⟨y, e, ih _ _ _ hx r⟩
      · cases h
    | agg cs =>
      simp only [frz] at h
      split at h
      · rename_i x' hx
        cases h
        simp only [vrel] at k ⊢
        obtain ⟨y, e, r⟩ := k
        exact ⟨y, e, mapO_rel ih hx r⟩
      · cases h
    | tup cs =>
      simp only [frz] at h
      split at h
      · rename_i x' hx
        cases h
        simp only [vrel] at k ⊢
        obtain ⟨y, e, r⟩ := k
        exact ⟨y, e, mapO_rel ih hx r⟩
      · cases h
    | chan _ => simp [frz] at h
    | _ => simp only [frz] at h; cases h; exact same rfl

/-- the same, where all of it is of the call's own making -/
theorem frzN_rel {σ τ : Sg} {s : St} {w : World} (H : HR σ s w) (ho : ∀ i p b o, σ i = some p → s.look i = some b → b.own = true → w.heap[p.b]? = some o → τ.fz p.b = some o) :
    ∀ (d : Nat) (v v' : AV) (u : Value), frzN X s d v = some v' → vrel σ v u → vrel τ.bare v' u
  | 0, v, v', u, h, _ => by simp [frzN] at h
  | d + 1, v, v', u, h, k => by
    have ih := frzN_rel H ho d
    have same : flat v = true → vrel τ.bare v u := fun hs => flat_rel hs k
    cases v with
    | ptr b o =>
      simp only [frzN] at h
      split at h
      · rename_i c e lo hi hg
        split at h
        · rename_i c' hc'
          cases h
          obtain ⟨p, hp, rfl⟩ := vrel_ptr k
          have hl := St.look_some hg (by simp)
          obtain ⟨cc, fz, h1, h2, h3, h4, _⟩ := H.cells hp hl
          have hfz := ho _ _ _ _ hp hl rfl h1
          obtain ⟨vs, r1, r2⟩ := H.row (s := s) (c := c) hp (by simp [St.cells, hg]) c 0 (fun i a ha => by simpa using ha)
          simp only [vrel]
          refine ⟨p.b, p.sh, vs, cc, e, fz, rfl, hfz, mapO_rel ih hc' r1, fun i u hu => ?_⟩
          have := r2 i u hu
          rw [cell_of_block h1] at this
          simpa using this
        · cases h
      · cases h
    | sl b o len cap esz =>
      simp only [frzN] at h
      split at h
      · rename_i c e lo hi hg
        split at h
        · rename_i r ag n hr hag hs
          split at h
          · rename_i hc
            obtain ⟨rfl, hn, hcond⟩ := hc
            split at h
            · rename_i es hes
              cases h
              obtain ⟨a, k', rfl, hlen, ⟨p, hp, hat, _⟩, _⟩ := vrel_sl k
              have hl := St.look_some hg (by simp)
              obtain ⟨cc, fz, h1, h2, h3, h4, _⟩ := H.cells hp hl
              have hfz := ho _ _ _ _ hp hl rfl h1
              obtain ⟨vs, r1, r2⟩ := H.row (s := s) (c := c) hp (by simp [St.cells, hg]) r o (fun i a ha => grab_get hr ha)
              have hrl := (grab_spec hr).1
              obtain ⟨q1, q2, q3, q4⟩ := chunks_rel hn (fun e => (hcond e).1) len r1 hrl (fun e => (hcond e).2)
              have q5 := mapO_rel ih hes q1
              have hesl : es.length = len := by rw [q5.length, q4]
              simp only [vrel]
              refine ⟨a, k', chunksV ag esz len vs, by rw [hesl], by omega, q5, ?_⟩
              by_cases hl0 : len = 0
              · subst hl0; exact .inl rfl
              · right
                have := hat (by omega); subst this
                refine ⟨rfl, cc, e, fz, esz, hfz, hn, q3, fun i v hv => ?_⟩
                rw [q2] at hv
                have := r2 i v hv
                rw [cell_of_block h1] at this
                exact this
            · cases h
          · cases h
        · cases h
      · cases h
    | map r =>
      simp only [frzN] at h
      split at h
      · rename_i es hg
        split at h
        · rename_i ks vs hk hv
          cases h
          obtain ⟨p, hp, rfl⟩ := vrel_map k
          obtain ⟨ces, clock, g1, g2, _⟩ := H.map hp hg
          have hfz := ho _ _ _ _ hp (St.look_some hg (by simp)) rfl g1
          have key : ∀ (es : List (AV × AV)) (l : List MapEntry), entriesRel σ es l → vrels σ (es.map (·.1)) (l.map MapEntry.key) ∧ vrels σ (es.map (·.2)) (l.map MapEntry.val) := by
            intro es
            induction es with
            | nil => intro l hl; simp only [entriesRel] at hl; subst hl; simp [vrels]
            | cons a es ihe =>
              intro l hl
              obtain ⟨x, y⟩ := a
              simp only [entriesRel] at hl
              obtain ⟨m, r, rfl, e1, e2, e3⟩ := hl
              obtain ⟨j1, j2⟩ := ihe r e3
              simp only [List.map_cons, vrels]
              exact ⟨⟨_, _, rfl, e1, j1⟩, ⟨_, _, rfl, e2, j2⟩⟩
          obtain ⟨j1, j2⟩ := key _ _ g2
          simp only [vrel]
          exact ⟨p.b, ces, clock, rfl, hfz, mapO_rel ih hk j1, mapO_rel ih hv j2⟩
        · cases h
      · cases h
    | fn f x y =>
      simp only [frzN] at h
      split at h
      · rename_i g
        split at h
        · rename_i x' y' hx hy
          cases h
          simp only [vrel] at k ⊢
          obtain ⟨f', x1, y1, e, h1, h2, h3⟩ := k
          simp only [fnrel] at h1 ⊢
          exact ⟨f', x1, y1, e, h1, mapO_rel ih hx h2, mapO_rel ih hy h3⟩
        · cases h
      · cases h
    | iface t x =>
      simp only [frzN] at h
      split at h
      · rename_i x' hx
        cases h
        simp only [vrel] at k ⊢
        obtain ⟨y, e, r⟩ := k
        exact ⟨y, e, ih _ _ _ hx r⟩
      · cases h
    | agg cs =>
      simp only [frzN] at h
      split at h
      · rename_i x' hx
        cases h
        simp only [vrel] at k ⊢
        obtain ⟨y, e, r⟩ := k
        exact ⟨y, e, mapO_rel ih hx r⟩
      · cases h
    | tup cs =>
      simp only [frzN] at h
      split at h
      · rename_i x' hx
        cases h
        simp only [vrel] at k ⊢
        obtain ⟨y, e, r⟩ := k
        exact ⟨y, e, mapO_rel ih hx r⟩
      · cases h
    | fz _ => simp [frzN] at h
    | fp _ _ => simp [frzN] at h
    | fm _ _ => simp [frzN] at h
    | chan _ => simp [frzN] at h
    | _ => simp only [frzN] at h; cases h; exact same rfl

end
end Go.Am
set_option linter.unusedSimpArgs false
set_option linter.unusedVariables false
set_option linter.unusedSectionVars false
namespace Go.Am
open Go
section
variable [Stat]
variable {X : Cx} {P : Program}

theorem leaves_marks (hX : CxOk X P) {F : Fence} {n : Nat} {σ0 σ : Sg} {s0 s : St} {w0 : World} {e : Env} {fn : Func} {v : AV} {tmps : Array Value} (E : erel σ e tmps) (hres : resultsA X fn e s = some v) :
    ∀ (rs : List Nat) (w : World), Good σ0 s0 w0 σ s w → rs.Nodup → (∀ r ∈ rs, w0.heap.size ≤ r ∧ w.heap[r]? = some (.deferred (some [])) ∧ (∀ i p, σ i = some p → p.b ≠ r) ∧ σ.fz r = none) →
      LeavesInM F n P fn tmps (fun en w' => ∃ u σ', en = .returned u ∧ vrel σ' v u ∧ Good σ0 s0 w0 σ' s w') (rs.map fun r => ({ target := .collected r, args := #[] } : Deferred)) .returning w
  | [], w, g, _, _ => by
    obtain ⟨u, h1, h2⟩ := results_run (P := P) hX g.hr E hres
    exact ⟨u, h1, u, σ, rfl, h2, g⟩
  | r :: rs, w, g, hn, hm => by
    obtain ⟨h1, h2, h3, h4⟩ := hm r (List.mem_cons_self ..)
    refine ⟨by simp, .inl ⟨r, w.putObj r (.deferred none), rfl, run_takeDeferred h2, ?_⟩⟩
    rw [List.nodup_cons] at hn
    refine leaves_marks hX E hres rs _ (g.unmark h1 h3 h4 _) hn.2 fun r' hr' => ?_
    obtain ⟨g1, g2, g3⟩ := hm r' (List.mem_cons_of_mem _ hr')
    refine ⟨g1, ?_, g3⟩
    show (w.heap.setIfInBounds r _)[r']? = _
    rw [Array.getElem?_setIfInBounds, if_neg (fun h : r = r' => hn.1 (by rw [h]; exact hr'))]
    exact g2

theorem callB_enter (hX : Full X P) {ex : Ex} (hE : ExOk X P ex) {f : FuncId} {args : List AV} {s s' : St} {v : AV} (h : callB X ex f args s = some (v, s')) {σ : Sg} {w : World} {us : Array Value}
    (H : HR σ s w) (F : Fresh σ s) (G : GlobOk X σ) (hv : vrels σ args us.toList) :
    (callFunc f us).run P w = .ok (.enter f us) w ∧ Calls P f us w fun en w' => ∃ u σ', en = .returned u ∧ vrel σ' v u ∧ Good σ s w σ' s' w' := by
  unfold callB at h
  split at h
  · rename_i fn hfn
    split at h
    · rename_i c hb
      have hf := hX.fn f fn hfn
      refine ⟨?_, ?_⟩
      · have hnm : ¬ fn.name = "runtime.NumGoroutine" := by have := hX.nm f fn hfn; simpa using this
        simp [callFunc, Sem.run_bind, Result.andThen, hf, hnm, hb]
      · refine callsIn_wide.1 (callsIn_of_wp_marks (F := FW none) (n := 0) hf hb trivial ?_)
        have I : Inv X σ s w w.heap.size (bindArgs 0 args .nil) { tmps := us ++ Array.replicate (fn.ntmps - us.size) Go.undef, defers := [] } :=
          ⟨H, F, G, enter_rel hv _, DF.nil _ _ _, Nat.le_refl _⟩
        have hok : Cok X none (us ++ Array.replicate (fn.ntmps - us.size) Go.undef).size c := ⟨fn.ntmps, by simp; omega, hX.fok f fn c hfn hb, by simp⟩
        have key : ∀ out e s1, ex c (bindArgs 0 args .nil) s = some (out, e, s1) → out = .norm ∨ out = .ret → resultsA X fn e s1 = some v → s1 = s' →
            c.wpIn (FW none) 0 P (bodyPostM (FW none) 0 P fn fun en w' => ∃ u σ', en = .returned u ∧ vrel σ' v u ∧ Good σ s w σ' s' w') { tmps := us ++ Array.replicate (fn.ntmps - us.size) Go.undef, defers := [] } w := by
          intro out e s1 hex hout hres hs
          subst hs
          refine wpIn_mono (hE c _ _ _ _ _ hex none _ _ w σ hok I).wpIn ?_
          rintro en a' w' ⟨hx, σ', g, i', _⟩
          have hl : LeavesInM (FW none) 0 P fn a'.tmps (fun en w' => ∃ u σ', en = .returned u ∧ vrel σ' v u ∧ Good σ s w σ' s1 w') a'.defers .returning w' := by
            obtain ⟨rs, hrs, hn, hm⟩ := i'.df
            rw [hrs]
            exact leaves_marks hX.toCxOk i'.env hres rs w' g hn hm
          rcases hout with rfl | rfl <;> cases en <;> simp only [exRel] at hx
          · exact hl
          · exact hl
        split at h
        · rename_i e s1 hex
          split at h
          · rename_i u hres; cases h
            exact key _ _ _ hex (.inl rfl) hres rfl
          · cases h
        · rename_i e s1 hex
          split at h
          · rename_i u hres; cases h
            exact key _ _ _ hex (.inr rfl) hres rfl
          · cases h
        · cases h
    · cases h
  · cases h

/-- the package's variables alone -/
def Sg.low (σ : Sg) (n : Nat) (z : Nat → Option Obj) : Sg := { m := fun i => if i < n then σ i else none, fz := z }

theorem low_some {σ : Sg} {n : Nat} {z : Nat → Option Obj} {i : Nat} {p : Pl} (h : (σ.low n z) i = some p) : i < n ∧ σ i = some p := by
  unfold Sg.low at h
  simp only at h
  split at h
  · exact ⟨‹_›, h⟩
  · cases h

theorem own_hr {σ : Sg} {w : World} (G : GlobOk X σ) (hlt : ∀ i p, σ i = some p → p.b < w.heap.size) (hg : ∀ c o, σ.fz c = some o → w.heap[c]? = some o) (z : Nat → Option Obj) (hz : ∀ c o, σ.fz c = some o → z c = some o) (hz' : ∀ c o, z c = some o → w.heap[c]? = some o)
    (hb : ∀ i b, X.gbase i = some b → b ≠ .gone) : HR (σ.low X.glob z) (ownSt X) w ∧ Fresh (σ.low X.glob z) (ownSt X) ∧ GlobOk X (σ.low X.glob z) ∧ ∀ c, ¬ Owns (σ.low X.glob z) (ownSt X) c := by
  have hle : Sg.le σ.bare (σ.low X.glob z).bare := ⟨fun _ _ h => by simp [Sg.bare] at h, hz⟩
  have look : ∀ i b, (ownSt X).look i = some b → X.gbase i = some b := by
    intro i b h
    unfold St.look St.get ownSt at h
    simp only [Tr.get_nil] at h
    split at h
    · cases h
    · exact h
  have hno : ∀ c, ¬ Owns (σ.low X.glob z) (ownSt X) c := by
    rintro c ⟨i, p, b, hp, hl, ho, _⟩
    obtain ⟨hi, _⟩ := low_some hp
    obtain ⟨n, _, hb'⟩ := G i hi
    rw [(hb' b (look i b hl)).1] at ho; cases ho
  refine ⟨⟨fun i p hp => hlt i p (low_some hp).2, fun i p b hp hl => ?_, fun i j p q b c hp hq hl hl' he => ?_, fun c o hc => ⟨hz' c o hc, hno c⟩⟩, fun i hi => ?_, fun g hgl => ?_, hno⟩
  · obtain ⟨hi, hs⟩ := low_some hp
    obtain ⟨n, hn, hb'⟩ := G i hi
    rw [hn] at hs; cases hs
    obtain ⟨_, o, ho, hbr⟩ := hb' b (look i b hl)
    exact ⟨o, hg _ _ ho, (hbr.mono hle).mono (Sg.bare_le _)⟩
  · obtain ⟨hi, hs⟩ := low_some hp
    obtain ⟨hj, ht⟩ := low_some hq
    obtain ⟨n, hn, _⟩ := G i hi
    obtain ⟨m, hm, _⟩ := G j hj
    rw [hn] at hs; cases hs
    rw [hm] at ht; cases ht
    exact he
  · show (if i < X.glob then σ i else none) = none
    rw [if_neg]
    exact Nat.not_lt.2 hi
  · obtain ⟨n, hn, hb'⟩ := G g hgl
    refine ⟨n, ?_, fun b hb1 => ?_⟩
    · show (if g < X.glob then σ g else none) = _
      rw [if_pos hgl]; exact hn
    · obtain ⟨h1, o, h2, h3⟩ := hb' b hb1
      exact ⟨h1, o, hz _ _ h2, h3.mono hle⟩

/-- back from a state of its own -/
theorem own_good {σ σ0 σ1 σ2 : Sg} {s t t' : St} {w w' : World} (H : HR σ s w) (g : Good σ0 t w σ1 t' w') (hno : ∀ c, ¬ Owns σ0 t c) (hm : σ2.m = σ.m) (h1 : ∀ c o, σ.fz c = some o → σ2.fz c = some o)
    (h2 : ∀ c o, σ2.fz c = some o → σ.fz c = some o ∨ (w.heap.size ≤ c ∧ w'.heap[c]? = some o)) : Good σ s w σ2 s w' := by
  have hle : Sg.le σ σ2 := ⟨fun i p hp => by rw [hm]; exact hp, h1⟩
  have keep : ∀ c, c < w.heap.size → w'.heap[c]? = w.heap[c]? := fun c hc => g.ext.keep c hc (hno c)
  have own : ∀ c, Owns σ2 s c → Owns σ s c := fun c ⟨i, p, b, hp, hl, ho, he⟩ => ⟨i, p, b, by rw [hm] at hp; exact hp, hl, ho, he⟩
  refine ⟨⟨fun i p hp => ?_, fun i p b hp hl => ?_, fun i j p q b c hp hq => ?_, fun c o hc => ?_⟩, ⟨hle, fun c o hc => ?_, g.ext.size, fun c hc _ => keep c hc, fun c _ ho => own c ho, g.ext.os, g.ext.tape, g.ext.output, g.ext.drawn⟩, fun i _ => by rw [hm], Nat.le_refl _, fun _ _ h => h, fun i p hp hn => ?_, rfl⟩
  · rw [hm] at hp
    exact Nat.lt_of_lt_of_le (H.lt i p hp) g.ext.size
  · rw [hm] at hp
    obtain ⟨o, ho, hbr⟩ := H.blk i p b hp hl
    exact ⟨o, by rw [keep _ (H.lt i p hp)]; exact ho, hbr.mono hle⟩
  · rw [hm] at hp hq
    exact H.inj i j p q b c hp hq
  · rcases h2 c o hc with hs | ⟨hge, hs⟩
    · obtain ⟨k1, k2⟩ := H.fz c o hs
      have hlt : c < w.heap.size := (Array.getElem?_eq_some_iff.1 k1).1
      exact ⟨by rw [keep c hlt]; exact k1, fun ho => k2 (own c ho)⟩
    · refine ⟨hs, fun ho => ?_⟩
      obtain ⟨i, p, b, hp, _, _, he⟩ := own c ho
      have := H.lt i p hp
      omega
  · rcases h2 c o hc with hs | ⟨hge, _⟩
    · exact .inl hs
    · exact .inr hge
  · rw [hm, hn] at hp; cases hp

theorem callP_enter (hX : Full X P) {ex : Ex} (hE : ExOk X P ex) {f : FuncId} {args : List AV} {s s' : St} {v : AV} (h : callP X ex f args s = some (v, s')) {σ : Sg} {w : World} {us : Array Value}
    (H : HR σ s w) (F : Fresh σ s) (G : GlobOk X σ) (hv : vrels σ args us.toList) :
    (callFunc f us).run P w = .ok (.enter f us) w ∧ Calls P f us w fun en w' => ∃ u σ', en = .returned u ∧ vrel σ' v u ∧ Good σ s w σ' s' w' := by
  have hg : ∀ c o, σ.fz c = some o → w.heap[c]? = some o := fun c o hc => (H.fz c o hc).1
  unfold callP at h
  split at h
  · rename_i args' hargs'
    split at h
    · rename_i v1 hq
      cases h
      unfold callQ at hq
      split at hq
      · rename_i v2 s1 hcall
        unfold frzArgs at hargs'
        split at hargs'
        · rename_i hst
          cases hargs'
          rw [hst] at hq
          simp only [if_true] at hq
          obtain ⟨a1, a2, a3, a4⟩ := own_hr (X := X) G H.lt hg σ.fz (fun _ _ h => h) hg hX.gb
          have hargs : vrels (σ.low X.glob σ.fz) args us.toList := vrels.mono (show Sg.le σ.bare (σ.low X.glob σ.fz) from ⟨fun _ _ h => by simp [Sg.bare] at h, fun _ _ h => h⟩) _ _ (stills_rel hst hv)
          obtain ⟨c1, c2⟩ := callB_enter hX hE hcall a1 a2 a3 hargs
          refine ⟨c1, Calls.mono c2 ?_⟩
          rintro en w' ⟨u, σ1, rfl, hu, g⟩
          have hfzlt : ∀ b o, σ.fz b = some o → b < w.heap.size := fun b o hb => (Array.getElem?_eq_some_iff.1 (hg b o hb)).1
          let z : Nat → Option Obj := fun b => match σ.fz b with | some o => some o | none => if w.heap.size ≤ b then w'.heap[b]? else none
          have hz1 : ∀ b o, σ.fz b = some o → z b = some o := fun b o hb => by simp only [z, hb]
          have hz2 : ∀ b o, w.heap.size ≤ b → w'.heap[b]? = some o → z b = some o := fun b o hb ho => by
            cases hs : σ.fz b with
            | some o' => have := hfzlt b o' hs; omega
            | none => simp only [z, hs]; rw [if_pos hb]; exact ho
          have hz3 : ∀ b o, z b = some o → σ.fz b = some o ∨ (w.heap.size ≤ b ∧ w'.heap[b]? = some o) := fun b o hb => by
            simp only [z] at hb
            cases hs : σ.fz b with
            | some o' => rw [hs] at hb; exact .inl hb
            | none =>
              rw [hs] at hb
              simp only at hb
              split at hb
              · exact .inr ⟨‹_›, hb⟩
              · cases hb
          refine ⟨u, { m := σ.m, fz := z }, rfl, ?_, own_good H g a4 rfl hz1 hz3⟩
          have := frz_rel (X := X) (τ := { m := σ.m, fz := z }) g.hr (fun b o hb => ?_) (fun i p b o hp hl hown ho => ?_) _ _ _ _ hq hu
          · exact vrel.mono (Sg.bare_le _) _ _ this
          · rcases g.ext.nfz b o hb with hb' | hb'
            · exact hz1 b o hb'
            · exact hz2 b o hb' (g.hr.fz b o hb).1
          · refine hz2 _ _ (Nat.le_of_not_lt fun hlt => ?_) ho
            exact a4 _ (g.ext.owns _ hlt ⟨i, p, b, hp, hl, hown, rfl⟩)
        · rename_i hst
          rw [if_neg hst] at hq
          split at hq
          · rename_i hfl
            cases hq
            obtain ⟨a1, a2, a3, a4⟩ := own_hr (X := X) G H.lt hg (fun c => w.heap[c]?) hg (fun _ _ h => h) hX.gb
            have hargs : vrels (σ.low X.glob fun c => w.heap[c]?) args' us.toList := by
              have := mapO_rel (τ := (σ.low X.glob fun c => w.heap[c]?).bare) (frz_rel (X := X) H hg (fun i p b o _ _ _ ho => ho) _) hargs' hv
              exact vrels.mono (Sg.bare_le _) _ _ this
            obtain ⟨c1, c2⟩ := callB_enter hX hE hcall a1 a2 a3 hargs
            refine ⟨c1, Calls.mono c2 ?_⟩
            rintro en w' ⟨u, σ1, rfl, hu, g⟩
            exact ⟨u, σ, rfl, flat_rel hfl hu, own_good H g a4 rfl (fun _ _ h => h) (fun _ _ h => .inl h)⟩
          · obtain ⟨a1, a2, a3, a4⟩ := own_hr (X := X) G H.lt hg (fun c => w.heap[c]?) hg (fun _ _ h => h) hX.gb
            have hargs : vrels (σ.low X.glob fun c => w.heap[c]?) args' us.toList := by
              have := mapO_rel (τ := (σ.low X.glob fun c => w.heap[c]?).bare) (frz_rel (X := X) H hg (fun i p b o _ _ _ ho => ho) _) hargs' hv
              exact vrels.mono (Sg.bare_le _) _ _ this
            obtain ⟨c1, c2⟩ := callB_enter hX hE hcall a1 a2 a3 hargs
            refine ⟨c1, Calls.mono c2 ?_⟩
            rintro en w' ⟨u, σ1, rfl, hu, g⟩
            have hfzlt : ∀ b o, σ.fz b = some o → b < w.heap.size := fun b o hb => (Array.getElem?_eq_some_iff.1 (hg b o hb)).1
            let z : Nat → Option Obj := fun b => match σ.fz b with | some o => some o | none => if w.heap.size ≤ b then w'.heap[b]? else none
            have hz1 : ∀ b o, σ.fz b = some o → z b = some o := fun b o hb => by simp only [z, hb]
            have hz2 : ∀ b o, w.heap.size ≤ b → w'.heap[b]? = some o → z b = some o := fun b o hb ho => by
              cases hs : σ.fz b with
              | some o' => have := hfzlt b o' hs; omega
              | none => simp only [z, hs]; rw [if_pos hb]; exact ho
            have hz3 : ∀ b o, z b = some o → σ.fz b = some o ∨ (w.heap.size ≤ b ∧ w'.heap[b]? = some o) := fun b o hb => by
              simp only [z] at hb
              cases hs : σ.fz b with
              | some o' => rw [hs] at hb; exact .inl hb
              | none =>
                rw [hs] at hb
                simp only at hb
                split at hb
                · exact .inr ⟨‹_›, hb⟩
                · cases hb
            refine ⟨u, { m := σ.m, fz := z }, rfl, ?_, own_good H g a4 rfl hz1 hz3⟩
            have := frzN_rel (X := X) (τ := { m := σ.m, fz := z }) g.hr (fun i p b o hp hl hown ho => ?_) _ _ _ _ hq hu
            · exact vrel.mono (Sg.bare_le _) _ _ this
            · refine hz2 _ _ (Nat.le_of_not_lt fun hlt => ?_) ho
              exact a4 _ (g.ext.owns _ hlt ⟨i, p, b, hp, hl, hown, rfl⟩)
      · cases hq
    · cases h
  · cases h

theorem callF_enter (hX : Full X P) {ex : Ex} (hE : ExOk X P ex) {f : FuncId} (hext : X.ext f = none) {args : List AV} {s s' : St} {v : AV} (h : callF X ex f args s = some (v, s')) {σ : Sg} {w : World} {us : Array Value}
    (H : HR σ s w) (F : Fresh σ s) (G : GlobOk X σ) (hv : vrels σ args us.toList) :
    (callFunc f us).run P w = .ok (.enter f us) w ∧ Calls P f us w fun en w' => ∃ u σ', en = .returned u ∧ vrel σ' v u ∧ Good σ s w σ' s' w' := by
  unfold callF at h
  rw [hext] at h
  simp only at h
  split at h
  · exact callP_enter hX hE h H F G hv
  · exact callB_enter hX hE h H F G hv

theorem callF_ok (hX : Full X P) {ex : Ex} (hE : ExOk X P ex) (f : FuncId) : FnOk X P f (callF X ex f) := by
  intro args s v s' σ w us h H F G hv
  cases hext : X.ext f with
  | none =>
    obtain ⟨h1, h2⟩ := callF_enter hX hE hext h H F G hv
    rw [h1]
    refine Calls.mono h2 ?_
    rintro en w' ⟨u, σ', rfl, h3, h4⟩
    exact ⟨u, rfl, σ', h3, h4⟩
  | some g =>
    unfold callF at h
    rw [hext] at h
    exact hX.ext f g hext args s v s' σ w us h H F G hv

/-- yield's parameters -/
theorem params_rel {σ : Sg} : ∀ (ps : List Tmp) (as : List AV) (us : List Value) (e : Env) (tmps : Array Value), erel σ e tmps → vrels σ as us → (∀ t ∈ ps, t < tmps.size) →
    erel σ ((ps.zip as).foldl (fun e (t, a) => Tr.set e t a) e) ((ps.zip us).foldl (fun tmps (t, a) => tmps.setIfInBounds t a) tmps) ∧ ((ps.zip us).foldl (fun tmps (t, a) => tmps.setIfInBounds t a) tmps).size = tmps.size
  | [], as, us, e, tmps, h, _, _ => ⟨h, rfl⟩
  | p :: ps, [], us, e, tmps, h, hv, _ => by
    simp only [vrels] at hv; subst hv
    exact ⟨h, rfl⟩
  | p :: ps, a :: as, us, e, tmps, h, hv, hp => by
    simp only [vrels] at hv
    obtain ⟨u, us, rfl, h1, h2⟩ := hv
    simp only [List.zip_cons_cons, List.foldl_cons]
    have := params_rel ps as us (Tr.set e p a) (tmps.setIfInBounds p u) (h.put (hp p (List.mem_cons_self ..)) h1) h2 (fun t ht => by simpa using hp t (List.mem_cons_of_mem _ ht))
    exact ⟨this.1, by simpa using this.2⟩

theorem zip_fold (ps : Array Tmp) (us tmps : Array Value) : (ps.zip us).foldl (fun tmps (t, a) => tmps.setIfInBounds t a) tmps = (ps.toList.zip us.toList).foldl (fun tmps (t, a) => tmps.setIfInBounds t a) tmps := by
  rw [← Array.foldl_toList, Array.toList_zip]

/-- a loop's record rewritten on both sides -/
theorem loop_put {σ : Sg} {s : St} {w : World} (H : HR σ s w) {l : Nat} {p : Pl} (hp : σ l = some p) {st : Nat} {pe : Option Code} {env : Env} {ps : List Tmp} {as bo : Code} (hg : s.get l = some (.loop st pe env ps as bo))
    {r : Loop} (hr : w.heap[p.b]? = some (.loop r)) (st' : Nat) (pe' : Option Code) :
    Good σ s w σ (s.put l (.loop st' pe' env ps as bo)) (w.putObj p.b (.loop { r with state := loopState st', pending := pe' })) := by
  have hl : s.look l = some (.loop st pe env ps as bo) := St.look_some hg (by simp)
  obtain ⟨o, ho, hbr⟩ := H.blk l p _ hp hl
  rw [hr] at ho; cases ho
  have hlt := H.lt l p hp
  simp only [BR] at hbr
  obtain ⟨_, _, h3⟩ := hbr
  refine Good.put H hp hl rfl (by simp) (by simp [World.putObj]) (fun c hc => World.putObj_heap_other hc) (World.putObj_heap_same hlt) ?_ rfl rfl rfl
  show BR σ p (.loop st' pe' env ps as bo) _
  unfold BR
  exact ⟨rfl, rfl, h3⟩

theorem loop_rec {σ : Sg} {s : St} {w : World} (H : HR σ s w) {l : Nat} {p : Pl} (hp : σ l = some p) {st : Nat} {pe : Option Code} {env : Env} {ps : List Tmp} {as bo : Code} (hg : s.get l = some (.loop st pe env ps as bo)) :
    ∃ r : Loop, w.heap[p.b]? = some (.loop r) ∧ BR σ p (.loop st pe env ps as bo) (.loop r) := by
  have hl : s.look l = some (.loop st pe env ps as bo) := St.look_some hg (by simp)
  obtain ⟨o, ho, hbr⟩ := H.blk l p _ hp hl
  cases o <;> simp only [BR] at hbr
  exact ⟨_, ho, hbr⟩

theorem endRoundA_some {l : Nat} {o : Out} {e : Env} {q : List Tmp} {a b : Code} {s s' : St} {v : AV} (h : endRoundA l o e q a b s = some (v, s')) :
    ∃ j : Option Code, v = .bool j.isNone ∧ s' = s.put l (.loop (if j.isNone then 0 else 2) j e q a b) ∧ (match o with | .norm => j = none | .exit i => j = some (.exit i) | .ret => j = some .ret) := by
  cases o <;> simp only [endRoundA] at h <;> cases h
  · exact ⟨none, rfl, rfl, rfl⟩
  · exact ⟨some (.exit _), rfl, rfl, rfl⟩
  · exact ⟨some .ret, rfl, rfl, rfl⟩

theorem yield_ok (hX : Full X P) {ex : Ex} (hE : ExOk X P ex) {l : Nat} {args : List AV} {s s' : St} {v : AV} (h : yieldA ex l args s = some (v, s')) {σ : Sg} {w : World} {us : Array Value} {p : Pl} (hp : σ l = some p)
    (H : HR σ s w) (F : Fresh σ s) (G : GlobOk X σ) (hv : vrels σ args us.toList) {ro : Option Nat} :
    ∃ f tmps assign body, (Instr.yield p.b us).run P w = .ok (.round p.b f tmps assign body) w ∧
      RoundIn (FW ro) 0 P p.b f tmps assign body w fun en w' => ∃ u σ', en = .returned u ∧ vrel σ' v u ∧ Good σ s w σ' s' w' := by
  unfold yieldA at h
  split at h
  · rename_i pe env params assign body hg
    obtain ⟨r, hr, hbr⟩ := loop_rec H hp hg
    simp only [BR] at hbr
    obtain ⟨b1, b2, b3, b4, b5, b6, b7, b8, b9⟩ := hbr
    split at h
    · rename_i hlen
      have hsz : us.size = r.params.size := by
        have h1 := hv.length
        have h2 : us.toList.length = us.size := rfl
        have h3 : r.params.toList.length = r.params.size := rfl
        rw [← h2, ← h3, ← h1, hlen, b4]
      refine ⟨_, _, _, _, run_yield hr hsz, ?_⟩
      rw [zip_fold, b4, b5, b6]
      obtain ⟨e1, e2⟩ := params_rel params args us.toList env r.tmps b3 hv b9
      refine roundIn_of_wpIn trivial ?_
      have I : Inv X σ s w w.heap.size ((params.zip args).foldl (fun e (t, a) => Tr.set e t a) env) { tmps := (params.zip us.toList).foldl (fun tmps (t, a) => tmps.setIfInBounds t a) r.tmps, defers := [] } :=
        ⟨H, F, G, e1, DF.nil _ _ _, Nat.le_refl _⟩
      have cok : ∀ c, Stat.ok r.tmps.size c → ∀ m, m = r.tmps.size → Cok X (some p.b) m c := by
        intro c hc m hm
        subst hm
        obtain ⟨n, h1, h2, h3⟩ := (hX.stat _ _).1 hc
        exact ⟨n, h1, h2, fun _ => h3⟩
      simp only at h
      split at h
      · rename_i env1 s1 hex1
        split at h
        · rename_i p1 en1 q1 a1 c1 hg1
          split at h
          · rename_i o2 e2' s2 hex2
            split at h
            · rename_i st3 p3 en3 q3 a3 c3 hg2
              have hr1 := (hE _ _ _ _ _ _ hex1 (some p.b) _ _ w σ (cok assign b7 _ e2) I).wpIn
              refine wpIn_mono hr1 ?_
              rintro en a1' w1 ⟨hx, σ1, g1, i1, hs1⟩
              cases en <;> simp only [exRel] at hx
              have hp1 := g1.ext.le.p _ _ hp
              obtain ⟨r1, hr1', hbr1⟩ := loop_rec g1.hr hp1 hg1
              have hst : r1.state = .ready := by simp only [BR] at hbr1; exact hbr1.1
              have gp := loop_put g1.hr hp1 hg1 hr1' 1 p1
              have hw : ({ r1 with state := loopState 1, pending := p1 } : Loop) = { r1 with state := .busy } := by
                simp only [BR] at hbr1
                rw [← hbr1.2.1]; rfl
              rw [hw] at gp
              refine ⟨_, run_beginRound hr1' hst, ?_⟩
              have g2 := g1.trans gp
              have I2 : Inv X σ1 (s1.put l (.loop 1 p1 en1 q1 a1 c1)) (w1.putObj p.b (.loop { r1 with state := .busy })) w.heap.size env1 a1' :=
                ⟨gp.hr, gp.fresh i1.fresh, i1.glob, i1.env, i1.df.good gp, by simpa [World.putObj] using i1.n0⟩
              have hr2 := (hE _ _ _ _ _ _ hex2 (some p.b) _ _ _ σ1 (cok body b8 _ (hs1.trans e2)) I2).wpIn
              refine wpIn_mono hr2 ?_
              rintro en2 a2' w2 ⟨hx2, σ2, g3, i2, _⟩
              obtain ⟨j, rfl, rfl, hj⟩ := endRoundA_some h
              have hp2 := g3.ext.le.p _ _ hp1
              obtain ⟨r2, hr2', hbr2⟩ := loop_rec g3.hr hp2 hg2
              have fin : ∀ j', j = j' → ∃ v w', (Instr.endRound p.b j').run P w2 = .ok v w' ∧ ∃ u σ', (Ending.returned v) = .returned u ∧ vrel σ' (.bool j.isNone) u ∧ Good σ s w σ' (s2.put l (.loop (if j.isNone then 0 else 2) j en3 q3 a3 c3)) w' := by
                intro j' hj'
                subst hj'
                have gp2 := loop_put g3.hr hp2 hg2 hr2' (if j.isNone then 0 else 2) j
                refine ⟨_, _, run_endRound j hr2', _, σ2, rfl, by simp only [vrel], ?_⟩
                have hst2 : loopState (if j.isNone then 0 else 2) = (if j.isNone then LoopState.ready else .done) := by cases j <;> rfl
                rw [hst2] at gp2
                exact (g2.trans g3).trans gp2
              cases o2 <;> cases en2 <;> simp only [exRel] at hx2
              · exact fin none hj
              · subst hx2; exact fin _ hj
              · exact fin _ hj
            · cases h
          · cases h
        · cases h
      · cases h
    · cases h
  · cases h

end
end Go.Am
set_option linter.unusedSimpArgs false
set_option linter.unusedVariables false
set_option linter.unusedSectionVars false
namespace Go.Am
open Go
section
variable [Stat]
variable {X : Cx} {P : Program}

theorem resolve_value {ρ : Operand → Value} {f : Operand} {args : Array Operand} {ats : Array TypeId} {ty : TypeId} {fn : Fn} {x y : Array Value} {w : World} (h : ρ f = .func fn x y) :
    (resolve ρ { callee := .value f, args, argTypes := ats } ty).run P w = .ok { target := .fn fn y, args := x ++ args.map ρ } w := by
  simp [resolve, h, Deferred.ofValue]

theorem op_step (hX : Full X P) {ex : Ex} (hE : ExOk X P ex) {r : Option Nat} {o : Oper} {e : Env} {s s' : St} {v : AV} {a : Act} {σ : Sg} {w : World} {n0 : Nat} (I : Inv X σ s w n0 e a) (h : opA X ex e o.op s = some (v, s'))
    {nxt : Act → World → Prop} {Q : Exit → Act → World → Prop} (hn : ∀ u w' σ', vrel σ' v u → Good σ s w σ' s' w' → nxt (a.put o.dst u) w') : o.wpIn (FW r) 0 P a w nxt Q := by
  refine ⟨about_wide, ?_⟩
  rw [Oper.semAt_eq _ _ _ (fun c hc => by rw [hc] at h; simp [opA] at h), eval_eq_rho]
  cases hc : isCallV o.op with
  | false =>
    obtain ⟨σ', nx, u, w', h1, h2, h3, h4⟩ := opA_sound (P := P) hX.toCxOk I.glob I.hr (I.fresh _ (Nat.le_refl _)) I.env hc h
    rw [h1]
    rcases h2 with rfl | ⟨rfl, rfl⟩
    · rw [Oper.uponIn_value]; exact hn _ _ _ h3 h4
    · rw [Oper.uponIn_skip]; exact hn _ _ _ h3 h4
  | true =>
    obtain ⟨dst, op, type, pos, after, guard⟩ := o
    simp only at h hc hn ⊢
    cases op <;> simp only [isCallV] at hc <;> try (cases hc; done)
    rename_i c
    obtain ⟨callee, args, ats⟩ := c
    cases callee <;> simp only at hc <;> try (cases hc; done)
    rename_i f
    simp only [opA] at h
    split at h
    · rename_i fv vs hf hvs
      have hfr := eval_rel I.glob I.env hf
      have hvr := evals_rel I.glob I.env hvs
      unfold callV at h
      split at h
      · rename_i g first cap
        simp only [vrel] at hfr
        obtain ⟨f', x', y', hfv, hf', hx, hy⟩ := hfr
        simp only [fnrel] at hf'; subst hf'
        have hrel : vrels σ (first ++ vs ++ cap) ((x' ++ args.map (rho a.tmps)) ++ y').toList := by
          simp only [Array.toList_append]
          exact (hx.append (by simpa using hvr)).append hy
        have := callF_ok hX hE g _ _ _ _ _ w _ h I.hr I.fresh I.glob hrel
        have hrun : (execOp (rho a.tmps) { dst := dst, op := .call { callee := .value f, args := args, argTypes := ats }, type := type, pos := pos, after := after, guard := guard }).run P w = (callFunc g ((x' ++ args.map (rho a.tmps)) ++ y')).run P w := by
          simp only [execOp, Sem.run_bind, resolve_value hfv, Result.andThen_ok, invoke]
        rw [hrun]
        exact upon_of (X := X) this fun u w' ⟨σ', h1, h2⟩ => hn u w' σ' h1 h2
      · rename_i l first cap
        simp only [vrel] at hfr
        obtain ⟨f', x', y', hfv, hf', hx, hy⟩ := hfr
        simp only [fnrel] at hf'
        obtain ⟨p, hp, rfl⟩ := hf'
        have hrel : vrels σ (first ++ vs) (x' ++ args.map (rho a.tmps)).toList := by
          simp only [Array.toList_append]
          exact hx.append (by simpa using hvr)
        obtain ⟨fn, tmps, assign, body, h1, h2⟩ := yield_ok hX hE h hp I.hr I.fresh I.glob hrel (ro := r)
        have hrun : (execOp (rho a.tmps) { dst := dst, op := .call { callee := .value f, args := args, argTypes := ats }, type := type, pos := pos, after := after, guard := guard }).run P w = .ok (.round p.b fn tmps assign body) w := by
          simp only [execOp, Sem.run_bind, resolve_value hfv, Result.andThen_ok, invoke]
          exact h1
        rw [hrun, Oper.uponIn_round]
        refine ⟨fun hd => (by cases hd), RoundIn.mono h2 ?_⟩
        rintro en w' ⟨u, σ', rfl, h3, h4⟩
        exact hn u w' σ' h3 h4
      · cases h
    · cases h

/-- a region in its written order -/
theorem opsA_sound (hX : Full X P) {ex : Ex} (hE : ExOk X P ex) {r : Option Nat} {ops : Array Oper} {Q : Exit → Act → World → Prop} {out : Env × St} {n0 : Nat} :
    ∀ (k i : Nat) (e : Env) (s : St) (a : Act) (w : World) (σ : Sg), i + k = ops.size → opsA X ex ops (ops.toList.drop i) e s = some out → (∀ o ∈ ops.toList, dstOk a.tmps.size o.dst) → Inv X σ s w n0 e a →
      (∀ a' w', After X σ s w n0 a out.1 out.2 a' w' → Q .normal a' w') → wpOpsIn (FW r) 0 P ops Q (List.range' i k) a w
  | 0, i, e, s, a, w, σ, hk, h, hd, I, hq => by
    rw [List.drop_of_length_le (by simp; omega)] at h
    simp only [opsA] at h
    cases h
    exact hq _ _ (After.refl I)
  | k + 1, i, e, s, a, w, σ, hk, h, hd, I, hq => by
    have hi : i < ops.size := by omega
    have hl : ops.toList.drop i = ops[i] :: ops.toList.drop (i + 1) := by
      rw [List.drop_eq_getElem_cons (by simpa using hi)]; simp
    rw [hl] at h
    rw [List.range'_succ]
    simp only [wpOpsIn, Array.getElem?_eq_getElem hi]
    have hdi := hd ops[i] (by simp)
    simp only [opsA] at h
    rw [wanted_eq I.env]
    split at h
    · rename_i hw
      rw [if_pos hw]
      split at h
      · rename_i v s1 hop
        refine op_step hX hE I hop fun u w' σ' hv g => ?_
        have hA := I.put g hdi hv
        obtain ⟨τ, gτ, Iτ, hsz⟩ := hA
        exact opsA_sound hX hE k (i + 1) _ _ _ _ τ (by omega) h (fun o ho => by rw [hsz]; exact hd o ho) Iτ fun a' w'' hA' => hq _ _ (hA'.trans gτ hsz)
      · cases h
    · rename_i hw
      rw [if_neg hw]
      refine ⟨about_wide, ?_⟩
      obtain ⟨τ, gτ, Iτ, hsz⟩ := I.put (Good.refl I.hr) hdi (undef_rel (σ := σ))
      exact opsA_sound hX hE k (i + 1) _ _ _ _ τ (by omega) h (fun o ho => by rw [hsz]; exact hd o ho) Iτ fun a' w'' hA' => hq _ _ (hA'.trans gτ hsz)

/-- what is to be shown of a region whose order is drawn -/
def DrawOk (X : Cx) (P : Program) : Prop :=
  ∀ ex, ExOk X P ex → ∀ (r : Option Nat) (ops : Array Oper) (e e' : Env) (s s' : St) (a : Act) (w : World) (σ : Sg) (n0 t : Nat) (Q : Exit → Act → World → Prop),
    drawA X ex ops e s = some (e', s') → okD X ops = true → (∀ o ∈ ops.toList, dstOk a.tmps.size o.dst) → Inv X σ s w n0 e a → (∀ a' w', After X σ s w n0 a e' s' a' w' → Q .normal a' w') →
    wpOpsIn (FW r) 0 P ops Q (Region.linearise .any ops t) a w

theorem loop_new {X : Cx} {σ : Sg} {s : St} {w : World} {e : Env} {a : Act} {n0 : Nat} (I : Inv X σ s w n0 e a) (fn : FuncId) (ps : Array Tmp) (assign body : Code) (ha : Stat.ok a.tmps.size assign) (hb : Stat.ok a.tmps.size body) (hp : ∀ t ∈ ps.toList, t < a.tmps.size) :
    Good σ s w (σ.add s.next ⟨w.heap.size + 1, 0, 0⟩) (s.new (.loop 0 none e ps.toList assign body)) ((w.alloc (.deferred (some []))).alloc (.loop { state := .ready, pending := none, fn, tmps := a.tmps, params := ps, assign, body, defers := w.heap.size })) := by
  have g0 := Good.alloc0 I.hr (.deferred (some []))
  have hf := I.fresh s.next (Nat.le_refl _)
  have g1 := Good.new g0.hr hf (.loop 0 none e ps.toList assign body) (by simp) (.loop { state := .ready, pending := none, fn, tmps := a.tmps, params := ps, assign, body, defers := w.heap.size }) 0 (by
    unfold BR
    exact ⟨rfl, rfl, I.env.mono (Sg.le_add hf), rfl, rfl, rfl, ha, hb, hp⟩)
  have : (w.alloc (.deferred (some []))).heap.size = w.heap.size + 1 := by simp
  rw [this] at g1
  exact g0.trans g1

theorem endLoopA_some {p : Option Code} {e e' : Env} {s s' : St} {out : Out} (h : endLoopA p e s = some (out, e', s')) : e' = e ∧ s' = s ∧ ((p = none ∧ out = .norm) ∨ (∃ i, p = some (.exit i) ∧ out = .exit i) ∨ (p = some .ret ∧ out = .ret)) := by
  unfold endLoopA at h
  split at h <;> cases h
  · exact ⟨rfl, rfl, .inl ⟨rfl, rfl⟩⟩
  · exact ⟨rfl, rfl, .inr (.inl ⟨_, rfl, rfl⟩)⟩
  · exact ⟨rfl, rfl, .inr (.inr ⟨rfl, rfl⟩)⟩

theorem rangeFunc_sound (hX : Full X P) {ex : Ex} (hE : ExOk X P ex) {gop : Operand} {ps : Array Tmp} {assign body : Code} {e e' : Env} {s s' : St} {out : Out} (h : stepA X ex (.rangeFunc gop ps assign body) e s = some (out, e', s'))
    {a : Act} {σ : Sg} {w : World} {n0 : Nat} (I : Inv X σ s w n0 e a) (hok : Cok X none a.tmps.size (.rangeFunc gop ps assign body)) :
    (Code.rangeFunc gop ps assign body).wpIn (FW none) 0 P (Post X σ s w n0 a out e' s') a w := by
  obtain ⟨n, hn, hok, _⟩ := hok
  simp only [okC, Bool.and_eq_true, List.all_eq_true, decide_eq_true_eq] at hok
  obtain ⟨⟨⟨⟨k1, k2⟩, k3⟩, k4⟩, k5⟩ := hok
  have ha : Stat.ok a.tmps.size assign := (hX.stat _ _).2 ⟨n, hn, k2, k4⟩
  have hb : Stat.ok a.tmps.size body := (hX.stat _ _).2 ⟨n, hn, k3, k5⟩
  simp only [stepA] at h
  split at h
  · rename_i g first cap hf
    split at h
    · rename_i hext
      rw [Option.isNone_iff_eq_none] at hext
      split at h
      · rename_i rv s1 hcall
        split at h
        · rename_i st p e1 q1 a1 b1 hg1
          split at h
          · cases h
          · rename_i hst
            obtain ⟨rfl, rfl, hout⟩ := endLoopA_some h
            have hfr := eval_rel I.glob I.env hf
            simp only [vrel] at hfr
            obtain ⟨f', x', y', hfv, hf', hx, hy⟩ := hfr
            simp only [fnrel] at hf'; subst hf'
            refine wpIn_rangeFunc fun fn _ => ?_
            have gl := loop_new I fn ps assign body ha hb (fun t ht => Nat.lt_of_lt_of_le (k1 t ht) hn)
            have hfv' : a.eval gop = .func (.func g) x' y' := by rw [eval_eq_rho]; exact hfv
            have hle := gl.ext.le
            have hyield : vrel (σ.add s.next ⟨w.heap.size + 1, 0, 0⟩) (.fn (.yield s.next) [] []) (.func (.yield (w.heap.size + 1)) #[] #[]) := by
              simp only [vrel]
              exact ⟨_, _, _, rfl, by simp only [fnrel]; exact ⟨_, Sg.add_self _ _ _, rfl⟩, by simp [vrels], by simp [vrels]⟩
            have hrel : vrels (σ.add s.next ⟨w.heap.size + 1, 0, 0⟩) (first ++ [.fn (.yield s.next) [] []] ++ cap) ((x' ++ #[Value.func (.yield (w.heap.size + 1)) #[] #[]]) ++ y').toList := by
              simp only [Array.toList_append]
              exact ((vrels.mono hle _ _ hx).append (vrels_one hyield)).append (vrels.mono hle _ _ hy)
            obtain ⟨c1, c2⟩ := callF_enter hX hE hext hcall gl.hr (gl.fresh I.fresh) (I.glob.mono hle) hrel
            refine ⟨w.heap.size + 1, [{ target := .collected w.heap.size, args := #[] }], _, _, _, g, (x' ++ #[Value.func (.yield (w.heap.size + 1)) #[] #[]]) ++ y', (w.alloc (.deferred (some []))).alloc (.loop { state := .ready, pending := none, fn, tmps := a.tmps, params := ps, assign, body, defers := w.heap.size }), run_enterLoop_outer fn a.tmps ps assign body, resolve_value hfv', fun _ _ => trivial, ?_, fun hd => (by cases hd), ?_⟩
            · have hm : Array.map a.eval #[Operand.const (Value.func (.yield (w.heap.size + 1)) #[] #[])] = #[Value.func (.yield (w.heap.size + 1)) #[] #[]] := by simp [Act.eval]
              simp only [invoke]
              rw [hm]
              exact c1
            · refine callsIn_mono (callsIn_of c2) ?_
              rintro en w' ⟨u, σ', rfl, _, g2⟩
              have hp1 := g2.ext.le.p _ _ (Sg.add_self σ s.next ⟨w.heap.size + 1, 0, 0⟩)
              obtain ⟨r1, hr1, hbr1⟩ := loop_rec g2.hr hp1 hg1
              have hbr1' := hbr1
              simp only [BR] at hbr1'
              obtain ⟨hs1, hp1', _⟩ := hbr1'
              have hnb : r1.state ≠ .busy := by
                rw [hs1]
                unfold loopState
                split <;> simp_all
              have gp := loop_put g2.hr hp1 hg1 hr1 3 p
              have hw : ({ r1 with state := loopState 3, pending := p } : Loop) = { r1 with state := .exhausted } := by
                rw [← hp1']; rfl
              rw [hw] at gp
              have gd := Good.drop gp.hr (b := s.next) (b0 := .loop 3 p e1 q1 a1 b1) (by rw [St.look_put, if_pos rfl])
              have g3 := (gl.trans (g2.trans gp)).trans gd
              have g4 : Good σ s w σ' (s1.put s.next .gone) _ := g3.congr (putput_look _ _ _) rfl rfl
              have hD0 : DF n0 (σ.add s.next ⟨w.heap.size + 1, 0, 0⟩) ((w.alloc (.deferred (some []))).alloc (.loop { state := .ready, pending := none, fn, tmps := a.tmps, params := ps, assign, body, defers := w.heap.size })) ([{ target := .collected w.heap.size, args := #[] }] ++ a.defers) := by
                obtain ⟨rs, hrs, hnd, hm⟩ := I.df.good gl
                obtain ⟨rs0, hrs0, hnd0, hm0⟩ := I.df
                refine ⟨w.heap.size :: rs0, by simp [hrs0], List.nodup_cons.2 ⟨fun hin => ?_, hnd0⟩, fun r' hr' => ?_⟩
                · have := (Array.getElem?_eq_some_iff.1 (hm0 _ hin).2.1).1
                  omega
                · rcases List.mem_cons.1 hr' with rfl | hr'
                  · refine ⟨I.n0, ?_, fun i q hq => ?_, ?_⟩
                    · simp only [World.alloc]
                      rw [Array.getElem?_push, if_neg (by simp)]
                      simp
                    · by_cases hi : i = s.next
                      · subst hi; rw [Sg.add_self] at hq; cases hq; simp
                      · rw [Sg.add_ne _ _ hi] at hq
                        have := I.hr.lt i q hq
                        omega
                    · show σ.fz w.heap.size = none
                      cases hz : σ.fz w.heap.size with
                      | none => rfl
                      | some o =>
                        have := (Array.getElem?_eq_some_iff.1 (I.hr.fz _ o hz).1).1
                        omega
                  · have heq : rs = rs0 := by
                      have := hrs.symm.trans hrs0
                      exact List.map_inj_right (by intro x y hxy; simpa using hxy) |>.1 this
                    subst heq
                    exact hm r' hr'
              have I' : Inv X σ' (s1.put s.next .gone) (w'.putObj (w.heap.size + 1) (.loop { r1 with state := .exhausted })) n0 e' { a with defers := [{ target := .collected w.heap.size, args := #[] }] ++ a.defers } :=
                ⟨g4.hr, g4.fresh I.fresh, I.glob.mono g4.ext.le, I.env.mono g4.ext.le, ((hD0.good g2).good gp).good gd, Nat.le_trans I.n0 g4.ext.size⟩
              have hA : After X σ s w n0 a e' (s1.put s.next .gone) { a with defers := [{ target := .collected w.heap.size, args := #[] }] ++ a.defers } (w'.putObj (w.heap.size + 1) (.loop { r1 with state := .exhausted })) := ⟨σ', g4, I', rfl⟩
              refine ⟨p, w'.putObj (w.heap.size + 1) (.loop { r1 with state := .exhausted }), (run_endLoop hr1 hnb).trans (congrArg (fun x => Result.ok x _) hp1'), ?_⟩
              rcases hout with ⟨rfl, rfl⟩ | ⟨i, rfl, rfl⟩ | ⟨rfl, rfl⟩
              · exact ⟨trivial, hA⟩
              · exact wpIn_exit ⟨rfl, hA⟩
              · exact wpIn_ret ⟨trivial, hA⟩
        · cases h
      · cases h
    · cases h
  · cases h

end
end Go.Am
set_option linter.unusedSimpArgs false
set_option linter.unusedVariables false
set_option linter.unusedSectionVars false
namespace Go.Am
open Go
/-! # A communication that does not wait, of a goroutine that is alone -/
section
variable [Stat]
variable {P : Program}
/-- what the step hands up -/
theorem step_hand {b : Frame} {a : Act} {k : List Item} {cs : List Frame} {w : World} {ops : Array Oper} {i : Nat} {rest : List Nat} {o : Oper} {cases : Array CommCase} (ho : ops[i]? = some o) (hw : Region.wanted o (yielded ops a.tmps) = true)
    (hr : (o.semAt b.roundOf a.eval).run P w = .ok (.comm cases false .select) w) :
    ∃ es, stepG P true (Go.Conc.G (b.atR a (.inRegion ops (i :: rest) :: k)) cs) w = .comm (Go.Conc.G (b.atR a (.inRegion ops (i :: rest) :: k)) cs) cases false .select w es := by
  have hg := stepGR_op (P := P) (b := b) (k := k) (cs := cs) (w := w) (rest := rest) ho hw
  show ∃ es, stepG P true { frame := b.atR a (.inRegion ops (i :: rest) :: k), callers := cs, status := .running, dying := none } w = .comm { frame := b.atR a (.inRegion ops (i :: rest) :: k), callers := cs, status := .running, dying := none } cases false .select w es
  generalize hs : stepG P true { frame := b.atR a (.inRegion ops (i :: rest) :: k), callers := cs, status := .running, dying := none } w = s at hg
  have hb : s.bare = .comm { frame := b.atR a (.inRegion ops (i :: rest) :: k), callers := cs, status := .running, dying := none } cases false .select w := by
    rw [hg]; simp [stepG.apply, hr]
  cases s <;> simp at hb
  obtain ⟨rfl, rfl, rfl, rfl, rfl⟩ := hb
  exact ⟨_, rfl⟩
theorem hand_finish {b : Frame} {a : Act} {k : List Item} {ops : Array Oper} {i : Nat} {rest : List Nat} {o : Oper} {u : Value} (ho : ops[i]? = some o) :
    (b.atR a (.inRegion ops (i :: rest) :: k)).finish u = b.atR (a.put o.dst u) (.inRegion ops rest :: k) := by
  rw [Frame.finish_atR, ho]; rfl
/-- from the operations that are left on -/
def OpsGo (F : Fence) (n : Nat) (P : Program) (ops : Array Oper) (Q : Exit → Act → World → Prop) (l : List Nat) (a : Act) (w : World) : Prop :=
  ∀ (b : Frame) (k : List Item) (cs : List Frame), b.roundOf = F.round → F.fn b.fn → F.room (cs.length + 1 + n) →
    ∃ e a' w', Q e a' w' ∧ ArrivesIn (Machine.fenced P F) P (lone (b.atR a (.inRegion ops l :: k)) cs w) b k cs e a' w'
theorem OpsGo.nil {F : Fence} {n : Nat} {ops : Array Oper} {Q : Exit → Act → World → Prop} {a : Act} {w : World} (h : Q .normal a w) : OpsGo F n P ops Q [] a w :=
  fun _ _ _ _ hb hr => ⟨.normal, a, w, h, .one (fenced_calm hb hr rfl) stepR_region_end⟩
/-- one step of the machine, then on -/
theorem OpsGo.step {r : Option Nat} {n : Nat} {ops : Array Oper} {Q : Exit → Act → World → Prop} {i : Nat} {rest : List Nat} {o : Oper} {a a1 : Act} {w w1 : World} (ho : ops[i]? = some o)
    (hst : ∀ (b : Frame) (k : List Item) (cs : List Frame), b.roundOf = (FW r).round → Go.step P (lone (b.atR a (.inRegion ops (i :: rest) :: k)) cs w) = .next (lone (b.atR a1 (.inRegion ops rest :: k)) cs w1))
    (h : OpsGo (FW r) n P ops Q rest a1 w1) : OpsGo (FW r) n P ops Q (i :: rest) a w := by
  intro b k cs hro hb hr
  obtain ⟨e, a', w', hq, harr⟩ := h b k cs hro hb hr
  exact ⟨e, a', w', hq, .of_steps (.one (fenced_oper hb hr ho about_wide) (hst b k cs hro)) harr⟩
theorem step_value {b : Frame} {a : Act} {k : List Item} {cs : List Frame} {w w1 : World} {ops : Array Oper} {i : Nat} {rest : List Nat} {o : Oper} {nx : Next} {u : Value} (ho : ops[i]? = some o) (hw : Region.wanted o (yielded ops a.tmps) = true)
    (hr : (o.semAt b.roundOf a.eval).run P w = .ok nx w1) (hn : nx = .value u ∨ (nx = .skip ∧ u = Go.undef)) :
    step P (lone (b.atR a (.inRegion ops (i :: rest) :: k)) cs w) = .next (lone (b.atR (a.put o.dst u) (.inRegion ops rest :: k)) cs w1) := by
  have hg := stepGR_op (P := P) (b := b) (k := k) (cs := cs) (w := w) (rest := rest) ho hw
  have hfin : (b.atR a (.inRegion ops (i :: rest) :: k)).finish u = b.atR (a.put o.dst u) (.inRegion ops rest :: k) := by
    rw [Frame.finish_atR, ho]; rfl
  refine step_lone_go ?_
  rw [hg, ← hfin]
  rcases hn with rfl | ⟨rfl, rfl⟩
  · simp [stepG.apply, hr]
  · simp [stepG.apply, hr]
section
variable {X : Cx}
theorem isSel_some {o : Op} {c : SelectCase} (h : isSel o = some c) : o = .select #[c] false := by
  unfold isSel at h
  split at h
  · rename_i cs
    split at h
    · rename_i c' hc
      cases h
      have : cs = #[c] := by cases cs; simp at hc; subst hc; rfl
      rw [this]
    · cases h
  · cases h
theorem HR.chan {σ : Sg} {s : St} {w : World} (H : HR σ s w) {b : Nat} {p : Pl} {cap : Nat} {buf : List AV} (hp : σ b = some p) (hc : s.get b = some (.chan cap buf)) :
    ∃ vals sent rcvd tm, w.heap[p.b]? = some (.chan cap vals false sent rcvd tm) ∧ vrels σ buf vals.toList := by
  obtain ⟨o, ho, hb⟩ := H.blk b p _ hp (St.look_some hc (by simp))
  cases o <;> simp only [BR] at hb
  obtain ⟨h1, h2, h3⟩ := hb
  subst h1 h2
  exact ⟨_, _, _, _, ho, h3⟩
theorem put_chan {σ : Sg} {s : St} {w : World} (H : HR σ s w) {b : Nat} {p : Pl} {cap : Nat} {buf buf' : List AV} (hp : σ b = some p) (hc : s.get b = some (.chan cap buf)) {vals : Array Value} {sent rcvd : Nat} {tm : Bool} (hv : vrels σ buf' vals.toList) :
    Good σ s w σ (s.put b (.chan cap buf')) { w with heap := w.heap.setIfInBounds p.b (.chan cap vals false sent rcvd tm) } := by
  have hlt : p.b < w.heap.size := H.lt _ _ hp
  refine Good.put H hp (St.look_some hc (by simp)) rfl (by simp) (by simp) (fun c hne => ?_) (o := .chan cap vals false sent rcvd tm) ?_ ⟨rfl, rfl, hv⟩ rfl rfl rfl
  · show (w.heap.setIfInBounds p.b _)[c]? = _
    rw [Array.getElem?_setIfInBounds_ne (fun e => hne e.symm)]
  · show (w.heap.setIfInBounds p.b _)[p.b]? = _
    rw [Array.getElem?_setIfInBounds_self]
    simp [hlt]
theorem selA_step (hX : CxOk X P) {r : Option Nat} {ops : Array Oper} {i : Nat} {rest : List Nat} {o : Oper} {c : SelectCase} {e : Env} {s s' : St} {v : AV} {a : Act} {σ : Sg} {w : World} {n0 : Nat} (I : Inv X σ s w n0 e a) (ho : ops[i]? = some o) (hw : Region.wanted o (yielded ops a.tmps) = true)
    (hs : isSel o.op = some c) (h : selA X e c s = some (v, s')) : ∃ u w', (∀ (b : Frame) (k : List Item) (cs : List Frame), b.roundOf = (FW r).round → step P (lone (b.atR a (.inRegion ops (i :: rest) :: k)) cs w) = .next (lone (b.atR (a.put o.dst u) (.inRegion ops rest :: k)) cs w')) ∧ vrel σ v u ∧ Good σ s w σ s' w' := by
  have hop := isSel_some hs
  unfold selA at h
  split at h
  · rename_i z rr hz hch
    obtain ⟨zv, hz1, hz2⟩ := zero_run (P := P) (w := w) (σ := σ) hX hz
    have hcr := eval_rel I.glob I.env hch
    simp only [vrel] at hcr
    obtain ⟨p, hp, hcv⟩ := hcr
    split at h
    · rename_i cap buf hg
      obtain ⟨vals, sent, rcvd, tm, g1, g2⟩ := I.hr.chan hp hg
      have hlen : buf.length = vals.size := by rw [g2.length]; exact Array.length_toList
      have hrun : ∀ (x : Option Value), c.send.map (rho a.tmps) = x → ∀ ro, (o.semAt ro a.eval).run P w = .ok (.comm #[{ chan := .chan (some p.b), send := x, zero := zv }] false .select) w := by
        intro x hx ro
        rw [Oper.semAt_eq _ _ _ (fun c hc => by rw [hop] at hc; cases hc), eval_eq_rho]
        obtain ⟨dst, op, type, pos, after, guard⟩ := o
        simp only at hop
        subst hop
        simp [execOp, hz1, hcv, hx]
      split at h
      · rename_i x hsd
        split at h
        · rename_i xv hxv
          have hxr := eval_rel I.glob I.env hxv
          have hrun := hrun (some (rho a.tmps x)) (by rw [hsd]; rfl)
          split at h
          · rename_i hlt
            cases h
            refine ⟨_, _, fun b k cs _ => by
              obtain ⟨es, he⟩ := step_hand (rest := rest) (k := k) (cs := cs) ho hw (hrun b.roundOf)
              have := Go.Conc.step_lone_select_send_room he g1 (by omega)
              rw [hand_finish ho] at this
              exact this, ?_, put_chan I.hr hp hg (by
              rw [Array.toList_push]
              exact g2.append ⟨_, _, rfl, hxr, rfl⟩)⟩
            exact ⟨_, rfl, _, _, rfl, rfl, _, _, rfl, rfl, rfl⟩
          · rename_i hlt
            cases h
            refine ⟨_, _, fun b k cs _ => by
              obtain ⟨es, he⟩ := step_hand (rest := rest) (k := k) (cs := cs) ho hw (hrun b.roundOf)
              have := Go.Conc.step_lone_select_send_full he g1 (by omega)
              rw [hand_finish ho] at this
              exact this, ?_, Good.refl I.hr⟩
            exact ⟨_, rfl, _, _, rfl, rfl, _, _, rfl, rfl, rfl⟩
        · cases h
      · rename_i hsd
        have hrun := hrun none (by rw [hsd]; rfl)
        split at h
        · rename_i v0 rest0
          cases h
          simp only [vrels] at g2
          obtain ⟨u, y, e1, e2, e3⟩ := g2
          have hpos : 0 < vals.size := by simp at hlen; omega
          refine ⟨_, _, fun b k cs _ => by
            obtain ⟨es, he⟩ := step_hand (rest := rest) (k := k) (cs := cs) ho hw (hrun b.roundOf)
            have := Go.Conc.step_lone_select_recv_buf he g1 hpos
            rw [hand_finish ho] at this
            exact this, ?_, put_chan I.hr hp hg (by
            have : (vals.extract 1 vals.size).toList = y := by
              have hsz : vals.size = y.length + 1 := by rw [← Array.length_toList, e1]; rfl
              rw [Array.toList_extract, e1, hsz]
              simp [List.extract]
            rw [this]; exact e3)⟩
          have hu : vals.getD 0 Go.undef = u := by
            cases vals
            simp only at e1
            subst e1; rfl
          exact ⟨_, rfl, _, _, rfl, rfl, _, _, rfl, rfl, _, _, rfl, by rw [hu]; exact e2, rfl⟩
        · cases h
          have hpos : ¬ 0 < vals.size := by simp at hlen; omega
          have hz0 : vals = #[] := Array.eq_empty_of_size_eq_zero (by omega)
          subst hz0
          refine ⟨_, _, fun b k cs _ => by
            obtain ⟨es, he⟩ := step_hand (rest := rest) (k := k) (cs := cs) ho hw (hrun b.roundOf)
            have := Go.Conc.step_lone_select_default he g1
            rw [hand_finish ho] at this
            exact this, ?_, Good.refl I.hr⟩
          exact ⟨_, rfl, _, _, rfl, rfl, _, _, rfl, rfl, _, _, rfl, hz2, rfl⟩
    · cases h
  · cases h
/-- a region with communications -/
theorem opsS_sound (hX : Full X P) {r : Option Nat} {ops : Array Oper} {Q : Exit → Act → World → Prop} {out : Env × St} {n0 : Nat} :
    ∀ (k i : Nat) (e : Env) (s : St) (a : Act) (w : World) (σ : Sg), i + k = ops.size → opsS X ops (ops.toList.drop i) e s = some out → (∀ o ∈ ops.toList, dstOk a.tmps.size o.dst) → Inv X σ s w n0 e a →
      (∀ a' w', After X σ s w n0 a out.1 out.2 a' w' → Q .normal a' w') → OpsGo (FW r) 0 P ops Q (List.range' i k) a w
  | 0, i, e, s, a, w, σ, hk, h, hd, I, hq => by
    rw [List.drop_of_length_le (by simp; omega)] at h
    simp only [opsS] at h
    cases h
    exact .nil (hq _ _ (After.refl I))
  | k0 + 1, i, e, s, a, w, σ, hk, h, hd, I, hq => by
    have hi : i < ops.size := by omega
    have hl : ops.toList.drop i = ops[i] :: ops.toList.drop (i + 1) := by
      rw [List.drop_eq_getElem_cons (by simpa using hi)]; simp
    rw [hl] at h
    rw [List.range'_succ]
    have ho : ops[i]? = some ops[i] := Array.getElem?_eq_getElem hi
    have hdi := hd ops[i] (by simp)
    simp only [opsS] at h
    split at h
    · rename_i hw
      have hw' : Region.wanted ops[i] (yielded ops a.tmps) = true := by rw [wanted_eq I.env]; exact hw
      have next : ∀ (u : Value) (w1 : World) (σ1 : Sg) (v : AV) (s1 : St), vrel σ1 v u → Good σ s w σ1 s1 w1 → opsS X ops (ops.toList.drop (i + 1)) (setDst e ops[i].dst v) s1 = some out → OpsGo (FW r) 0 P ops Q (List.range' (i + 1) k0) (a.put ops[i].dst u) w1 := by
        intro u w1 σ1 v s1 hv g h1
        obtain ⟨τ, gτ, Iτ, hsz⟩ := I.put g hdi hv
        exact opsS_sound hX k0 (i + 1) _ _ _ _ τ (by omega) h1 (fun o ho => by rw [hsz]; exact hd o ho) Iτ fun a' w'' hA' => hq _ _ (hA'.trans gτ hsz)
      split at h
      · rename_i v s1 hop
        unfold opS at hop
        split at hop
        · rename_i c hs
          obtain ⟨u, w1, q1, q2, q3⟩ := selA_step (r := r) (rest := List.range' (i + 1) k0) hX.toCxOk I ho hw' hs hop
          exact .step ho q1 (next u w1 σ v s1 q2 q3 h)
        · split at hop
          · cases hop
          · rename_i hcv
            have hcv : isCallV ops[i].op = false := by simpa using hcv
            obtain ⟨σ1, nx, u, w1, h1, h2, h3, h4⟩ := opA_sound (P := P) hX.toCxOk I.glob I.hr (I.fresh _ (Nat.le_refl _)) I.env hcv hop
            refine .step ho (fun b k cs hro => step_value (nx := nx) (u := u) ho hw' ?_ h2) (next u w1 σ1 v s1 h3 h4 h)
            rw [Oper.semAt_eq _ _ _ (fun c hc => by rw [hc] at hop; simp [opA] at hop), eval_eq_rho]
            exact h1
      · cases h
    · rename_i hw
      have hw' : Region.wanted ops[i] (yielded ops a.tmps) = false := by rw [wanted_eq I.env]; simpa using hw
      obtain ⟨τ, gτ, Iτ, hsz⟩ := I.put (Good.refl I.hr) hdi (undef_rel (σ := σ))
      refine .step (a1 := a.put ops[i].dst Go.undef) (w1 := w) ho (fun b k cs _ => ?_) (opsS_sound hX k0 (i + 1) _ _ _ _ τ (by omega) h (fun o ho => by rw [hsz]; exact hd o ho) Iτ fun a' w'' hA' => hq _ _ (hA'.trans gτ hsz))
      have := stepR_op_skip (P := P) (b := b) (a := a) (k := k) (cs := cs) (w := w) (ops := ops) (i := i) (rest := List.range' (i + 1) k0) (by rw [ho]; simp [hw'])
      rw [ho] at this
      exact this
end
end
end Go.Am
set_option linter.unusedSimpArgs false
set_option linter.unusedVariables false
set_option linter.unusedSectionVars false
namespace Go.Am
open Go
section
variable [Stat]
variable {X : Cx} {P : Program}

theorem stepA_sound (hX : Full X P) (hD : DrawOk X P) {ex : Ex} (hE : ExOk X P ex) : ExOk X P (stepA X ex) := by
  intro c e s out e' s' h r n0 a w σ hok I
  cases c with
  | loop b =>
    simp only [stepA] at h
    have hokb : ∀ a' : Act, a'.tmps.size = a.tmps.size → Cok X r a'.tmps.size b := fun a' ha' => by
      obtain ⟨n, h1, h2, h3⟩ := hok
      exact ⟨n, by rw [ha']; exact h1, by simpa [okC] using h2, fun h => by simpa [noRF] using h3 h⟩
    have hokl : ∀ a' : Act, a'.tmps.size = a.tmps.size → Cok X r a'.tmps.size (.loop b) := fun a' ha' => by rw [ha']; exact hok
    show LoopRuns (FW r) 0 P b _ a w
    refine loopRuns_of ?_
    split at h
    · rename_i e1 s1 h1
      refine wpIn_mono (hE _ _ _ _ _ _ h1 r n0 a w σ (hokb a rfl) I).wpIn ?_
      rintro en a1 w1 ⟨hx, σ1, g1, i1, hs1⟩
      cases en <;> simp only [exRel] at hx
      have := hE _ _ _ _ _ _ h r n0 a1 w1 σ1 (hokl a1 hs1) i1
      have h2 : LoopRuns (FW r) 0 P b (Post X σ1 s1 w1 n0 a1 out e' s') a1 w1 := this
      show LoopRuns (FW r) 0 P b _ a1 w1
      intro b' k cs hro hb hr
      obtain ⟨e2, a2, w2, ⟨hq1, hq2⟩, harr⟩ := h2 b' k cs hro hb hr
      exact ⟨e2, a2, w2, ⟨hq1, hq2.trans g1 hs1⟩, harr⟩
    · rename_i hne
      refine wpIn_mono (hE _ _ _ _ _ _ h r n0 a w σ (hokb a rfl) I).wpIn ?_
      rintro en a1 w1 ⟨hx, hA⟩
      cases out with
      | norm => exact absurd h (hne _ _)
      | exit i => cases en <;> simp only [exRel] at hx; exact ⟨hx, hA⟩
      | ret => cases en <;> simp only [exRel] at hx; exact ⟨hx, hA⟩
  | skip =>
    simp only [stepA] at h; cases h
    exact wpIn_skip ⟨trivial, After.refl I⟩
  | label l =>
    simp only [stepA] at h; cases h
    exact wpIn_label ⟨trivial, After.refl I⟩
  | exit i =>
    simp only [stepA] at h; cases h
    exact wpIn_exit ⟨rfl, After.refl I⟩
  | ret =>
    simp only [stepA] at h; cases h
    exact wpIn_ret ⟨trivial, After.refl I⟩
  | region id ops d =>
    have hdst : ∀ o ∈ ops.toList, dstOk a.tmps.size o.dst := by
      obtain ⟨n, h1, h2, _⟩ := hok
      simp only [okC, Bool.and_eq_true, List.all_eq_true] at h2
      intro o ho t ht
      have := h2.1 o ho
      rw [ht] at this
      simp only [decide_eq_true_eq] at this
      exact Nat.lt_of_lt_of_le this h1
    simp only [stepA] at h
    cases d with
    | false =>
      simp only [Bool.false_eq_true, if_false] at h
      split at h
      · split at h
        · rename_i e1 s1 h1
          cases h
          show Code.wpIn _ _ _ _ _ _ _
          refine wpIn_region ?_
          rw [List.range_eq_range']
          exact opsA_sound hX hE ops.size 0 e s a w σ (by omega) (by simpa using h1) hdst I fun a' w' hA => ⟨trivial, hA⟩
        · cases h
      · split at h
        · rename_i e1 s1 h1
          cases h
          show Code.wpIn _ _ _ _ _ _ _
          intro b k cs hro hb hr
          have hgo := opsS_sound (P := P) hX (r := r) (Q := Post X σ s w n0 a .norm e' s') ops.size 0 e s a w σ (by omega) (by simpa using h1) hdst I fun a' w' hA => ⟨trivial, hA⟩
          rw [← List.range_eq_range'] at hgo
          obtain ⟨e2, a2, w2, hq, harr⟩ := hgo b k cs hro hb hr
          exact ⟨e2, a2, w2, hq, .of_steps (.one (fenced_calm hb hr rfl) stepR_region) harr⟩
        · cases h
    | true =>
      simp only [if_true] at h
      split at h
      · rename_i e1 s1 h1
        cases h
        show Code.wpIn _ _ _ _ _ _ _
        refine wpIn_region_draw fun t => ?_
        obtain ⟨n, _, h2, _⟩ := hok
        have h2 := hX.le _ _ h2
        simp only [okC, Bool.and_eq_true, Bool.not_true, Bool.false_or] at h2
        have I' : Inv X σ s { w with drawn := w.drawn + 1 } n0 e a := ⟨I.hr.of_heap rfl, I.fresh, I.glob, I.env, I.df, I.n0⟩
        have hsch : Region.schedule (P.follows .mixedOrders) ops t = Region.linearise .any ops t := by
          unfold Region.schedule; rw [hX.mixed]; simp
        rw [hsch]
        refine hD ex hE r ops e _ s _ a _ σ n0 t _ h1 h2.2 hdst I' ?_
        rintro a' w' ⟨σ', g, i', hs⟩
        refine ⟨trivial, σ', ?_, i', hs⟩
        exact Good.drew0 (w := w) g
      · cases h
  | seq x y =>
    have hokx : Cok X r a.tmps.size x := by
      obtain ⟨n, h1, h2, h3⟩ := hok
      simp only [okC, Bool.and_eq_true] at h2
      exact ⟨n, h1, h2.1, fun h => by have := h3 h; simp only [noRF, Bool.and_eq_true] at this; exact this.1⟩
    have hoky : ∀ m, m = a.tmps.size → Cok X r m y := by
      rintro m rfl
      obtain ⟨n, h1, h2, h3⟩ := hok
      simp only [okC, Bool.and_eq_true] at h2
      exact ⟨n, h1, h2.2, fun h => by have := h3 h; simp only [noRF, Bool.and_eq_true] at this; exact this.2⟩
    simp only [stepA] at h
    show Code.wpIn _ _ _ _ _ _ _
    refine wpIn_seq ?_
    split at h
    · rename_i e1 s1 h1
      refine wpIn_mono (hE _ _ _ _ _ _ h1 r n0 a w σ hokx I).wpIn ?_
      rintro en a1 w1 ⟨hx, σ1, g1, i1, hs1⟩
      cases en <;> simp only [exRel] at hx
      refine wpIn_mono (hE _ _ _ _ _ _ h r n0 a1 w1 σ1 (hoky _ hs1) i1).wpIn ?_
      rintro en2 a2 w2 ⟨hq1, hq2⟩
      exact ⟨hq1, hq2.trans g1 hs1⟩
    · rename_i hne
      refine wpIn_mono (hE _ _ _ _ _ _ h r n0 a w σ hokx I).wpIn ?_
      rintro en a1 w1 ⟨hx, hA⟩
      cases out with
      | norm => exact absurd h (hne _ _)
      | exit i => cases en <;> simp only [exRel] at hx; exact ⟨hx, hA⟩
      | ret => cases en <;> simp only [exRel] at hx; exact ⟨hx, hA⟩
  | cond c x y =>
    have hok2 : Cok X r a.tmps.size x ∧ Cok X r a.tmps.size y := by
      obtain ⟨n, h1, h2, h3⟩ := hok
      simp only [okC, Bool.and_eq_true] at h2
      exact ⟨⟨n, h1, h2.1, fun h => by have := h3 h; simp only [noRF, Bool.and_eq_true] at this; exact this.1⟩,
        ⟨n, h1, h2.2, fun h => by have := h3 h; simp only [noRF, Bool.and_eq_true] at this; exact this.2⟩⟩
    simp only [stepA] at h
    show Code.wpIn _ _ _ _ _ _ _
    split at h
    · rename_i hc
      have := vrel_bool (eval_rel I.glob I.env hc)
      exact wpIn_cond_true (by rw [eval_eq_rho]; exact this) (hE _ _ _ _ _ _ h r n0 a w σ hok2.1 I).wpIn
    · rename_i hc
      have := vrel_bool (eval_rel I.glob I.env hc)
      exact wpIn_cond_false (by rw [eval_eq_rho]; exact this) (hE _ _ _ _ _ _ h r n0 a w σ hok2.2 I).wpIn
    · cases h
  | block id b =>
    have hokb : Cok X r a.tmps.size b := by
      obtain ⟨n, h1, h2, h3⟩ := hok
      exact ⟨n, h1, by simpa [okC] using h2, fun h => by simpa [noRF] using h3 h⟩
    simp only [stepA] at h
    show Code.wpIn _ _ _ _ _ _ _
    refine wpIn_block ?_
    split at h
    · rename_i i e1 s1 h1
      refine wpIn_mono (hE _ _ _ _ _ _ h1 r n0 a w σ hokb I).wpIn ?_
      rintro en a1 w1 ⟨hx, hA⟩
      cases en <;> simp only [exRel] at hx
      subst hx
      split at h
      · rename_i hid
        cases h
        simp only [Exit.inBlock, hid, if_true]
        exact ⟨trivial, hA⟩
      · rename_i hid
        cases h
        simp only [Exit.inBlock, hid, if_false]
        exact ⟨rfl, hA⟩
    · rename_i hne
      refine wpIn_mono (hE _ _ _ _ _ _ h r n0 a w σ hokb I).wpIn ?_
      rintro en a1 w1 ⟨hx, hA⟩
      cases out with
      | norm => cases en <;> simp only [exRel] at hx; exact ⟨trivial, hA⟩
      | exit i => exact absurd h (hne _ _ _)
      | ret => cases en <;> simp only [exRel] at hx; exact ⟨trivial, hA⟩
  | scope b =>
    have hokb : Cok X r a.tmps.size b := by
      obtain ⟨n, h1, h2, h3⟩ := hok
      exact ⟨n, h1, by simpa [okC] using h2, fun h => by simpa [noRF] using h3 h⟩
    simp only [stepA] at h
    show Code.wpIn _ _ _ _ _ _ _
    refine wpIn_scope (wpIn_mono (hE _ _ _ _ _ _ h r n0 a w σ hokb I).wpIn ?_)
    rintro en a1 w1 ⟨hx, hA⟩
    cases en with
    | goto l => cases out <;> simp only [exRel] at hx
    | _ => exact ⟨hx, hA⟩
  | rangeFunc g ps assign body =>
    show Code.wpIn _ _ _ _ _ _ _
    cases r with
    | none => exact rangeFunc_sound hX hE h I hok
    | some l =>
      obtain ⟨n, _, _, h3⟩ := hok
      have := h3 rfl
      simp [noRF] at this
  | _ => simp only [stepA] at h; cases h

theorem exec_sound (hX : Full X P) (hD : DrawOk X P) : ∀ n, ExOk X P (exec X n)
  | 0 => by intro c e s out e' s' h; simp [exec] at h
  | n + 1 => stepA_sound hX hD (exec_sound hX hD n)

/-- a run of the abstract machine is a call of the program -/
theorem run_sound (hX : Full X P) (hD : DrawOk X P) {n : Nat} {f : FuncId} (hext : X.ext f = none) {args : List AV} {s s' : St} {v : AV} (h : run X n f args s = some (v, s')) {σ : Sg} {w : World} {us : Array Value}
    (H : HR σ s w) (F : Fresh σ s) (G : GlobOk X σ) (hv : vrels σ args us.toList) : Calls P f us w fun en w' => ∃ u σ', en = .returned u ∧ vrel σ' v u ∧ Good σ s w σ' s' w' :=
  (callF_enter hX (exec_sound hX hD n) hext h H F G hv).2

end
end Go.Am
set_option linter.unusedSimpArgs false
set_option linter.unusedVariables false
set_option linter.unusedSectionVars false
namespace Go.Am
open Go
section
variable [Stat]
variable {X : Cx}

theorem pureO_of {v : Option AV} {r : AV} (h : v = some r) (t : St) : pureO v t = some (r, t) := by subst h; rfl

/-- class p: the value hangs on temporaries alone -/
def StateFree (X : Cx) (ex : Ex) (e : Env) (o : Op) : Prop := ∀ s v s', opA X ex e o s = some (v, s') → s' = s ∧ ∀ t, opA X ex e o t = some (v, t)

theorem cls_value (f : Operand) (args : Array Operand) (ats : Array TypeId) (k : Cls) (h1 : k ≠ .q) (h2 : k ≠ .w) : cls X (.call { callee := .value f, args := args, argTypes := ats }) ≠ k := by
  intro h
  cases f <;> simp only [cls] at h <;> first
    | exact h2 h.symm
    | (split at h <;> first | exact h1 h.symm | exact h2 h.symm)

theorem free_pure {ex : Ex} {e : Env} {o : Op} (f : Option AV) (h : ∀ s, opA X ex e o s = pureO f s) : StateFree X ex e o := by
  intro s v s' hs
  rw [h] at hs
  obtain ⟨h1, rfl⟩ := pureO_some hs
  exact ⟨rfl, fun t => by rw [h]; exact pureO_of h1 t⟩

theorem cls_p {ex : Ex} {e : Env} {o : Op} (hc : cls X o = .p) : StateFree X ex e o := by
  cases o <;> simp only [cls] at hc <;> try (cases hc; done)
  case move x => exact free_pure _ fun s => rfl
  case assign x => exact free_pure _ fun s => rfl
  case pick c a b =>
    intro s v s' h
    simp only [opA] at h ⊢
    split at h
    · obtain ⟨h1, rfl⟩ := pureO_some h
      exact ⟨rfl, fun t => pureO_of h1 t⟩
    · obtain ⟨h1, rfl⟩ := pureO_some h
      exact ⟨rfl, fun t => pureO_of h1 t⟩
    · cases h
  case build t ps =>
    intro s v s' h
    simp only [opA] at h ⊢
    split at h
    · obtain ⟨h1, rfl⟩ := pureO_some h
      exact ⟨rfl, fun t => pureO_of h1 t⟩
    · cases h
  case nilCheck x =>
    intro s v s' h
    simp only [opA] at h ⊢
    split at h <;> first | (cases h; exact ⟨rfl, fun _ => rfl⟩) | cases h
  case binOp op t x y yt =>
    intro s v s' h
    simp only [opA] at h ⊢
    split at h
    · obtain ⟨h1, rfl⟩ := pureO_some h
      exact ⟨rfl, fun t => pureO_of h1 t⟩
    · cases h
  case unOp op t x =>
    intro s v s' h
    simp only [opA] at h ⊢
    split at h
    · obtain ⟨h1, rfl⟩ := pureO_some h
      exact ⟨rfl, fun t => pureO_of h1 t⟩
    · cases h
  case convert src dst x =>
    intro s v s' h
    simp only [opA] at h ⊢
    split at h
    · rename_i a ha
      unfold convA at h ⊢
      split at h
      · cases h; exact ⟨rfl, fun _ => rfl⟩
      · cases h; exact ⟨rfl, fun _ => rfl⟩
      · unfold fltO at h ⊢
        split at h
        · cases h; exact ⟨rfl, fun _ => rfl⟩
        · cases h
      · cases h; exact ⟨rfl, fun _ => rfl⟩
      · cases h; exact ⟨rfl, fun _ => rfl⟩
      · rename_i d1 e' b _ h1 h2
        rw [h1, h2] at hc
        cases e' <;> cases hc
      · rename_i e' h1 h2 _ _
        rw [h1, h2] at hc
        cases hc
      · cases h
    · cases h
  case makeInterface t x =>
    intro s v s' h
    simp only [opA] at h ⊢
    split at h
    · split at h
      · cases h
      · cases h; exact ⟨rfl, fun _ => rfl⟩
      · cases h
    · cases h
  case makeFunc f a b =>
    intro s v s' h
    simp only [opA] at h ⊢
    split at h
    · split at h
      · cases h; exact ⟨rfl, fun _ => rfl⟩
      · cases h
    · cases h
  case slice t x lo hi mx =>
    intro s v s' h
    simp only [opA] at h ⊢
    split at h
    · obtain ⟨h1, rfl⟩ := pureO_some h
      exact ⟨rfl, fun t => pureO_of h1 t⟩
    · cases h
  case fieldAddr t x f =>
    intro s v s' h
    simp only [opA] at h ⊢
    split at h
    · obtain ⟨h1, rfl⟩ := pureO_some h
      exact ⟨rfl, fun t => pureO_of h1 t⟩
    · cases h
  case field t x f =>
    intro s v s' h
    simp only [opA] at h ⊢
    split at h
    · split at h
      · obtain ⟨h1, rfl⟩ := pureO_some h
        exact ⟨rfl, fun t => pureO_of h1 t⟩
      · cases h
    · cases h
  case indexAddr t x i =>
    intro s v s' h
    simp only [opA] at h ⊢
    split at h
    · obtain ⟨h1, rfl⟩ := pureO_some h
      exact ⟨rfl, fun t => pureO_of h1 t⟩
    · cases h
  case index t x i =>
    intro s v s' h
    simp only [opA] at h ⊢
    split at h
    · obtain ⟨h1, rfl⟩ := pureO_some h
      exact ⟨rfl, fun t => pureO_of h1 t⟩
    · cases h
  case extract t i =>
    intro s v s' h
    simp only [opA] at h ⊢
    split at h
    · obtain ⟨h1, rfl⟩ := pureO_some h
      exact ⟨rfl, fun t => pureO_of h1 t⟩
    · cases h
  case call c =>
    obtain ⟨callee, args, ats⟩ := c
    cases callee with
    | value f => exact absurd hc (cls_value (X := X) f args ats .p (by simp) (by simp))
    | invoke _ _ => cases hc
    | builtin b =>
    simp only at hc
    intro s v s' h
    simp only [opA] at h ⊢
    split at h
    · rename_i vs hvs
      cases b <;> simp only at hc <;> try (cases hc; done)
      all_goals
        unfold builtinA at h ⊢
        split at h <;> first
          | (cases h; done)
          | (rename_i heq; cases heq; done)
          | skip
      all_goals
        split at h <;> first
          | (cases h; exact ⟨rfl, fun _ => rfl⟩)
          | (cases h; done)
          | skip
    · cases h

/-- class r: the memory is as it was -/
theorem cls_r {ex : Ex} {e : Env} {o : Op} (hc : cls X o = .r) {s s' : St} {v : AV} (h : opA X ex e o s = some (v, s')) : s' = s := by
  cases o <;> simp only [cls] at hc <;> try (cases hc; done)
  case convert src dst x =>
    simp only [opA] at h
    split at h
    · rename_i a ha
      cases h1 : X.und src with
      | none => unfold convA at h; rw [h1] at h; simp at h
      | some d1 =>
        cases h2 : X.und dst with
        | none => rw [h1, h2] at hc; cases d1 <;> simp at hc
        | some d2 =>
          rw [h1, h2] at hc
          unfold convA at h
          rw [h1, h2] at h
          cases d1 <;> cases d2 <;> simp at hc
          cases a <;> (try simp only at h) <;> first
            | (cases h; rfl)
            | (split at h <;> first
                | (cases h; done)
                | (cases h; rfl)
                | (split at h <;> first
                    | (cases h; done)
                    | (cases h; rfl)
                    | (split at h <;> first
                        | (cases h; done)
                        | (split at h <;> first
                            | (cases h; done)
                            | (cases h; rfl)))))
    · cases h
  case load t a =>
    simp only [opA] at h
    split at h
    · exact (pureO_some h).2
    · cases h
  case lookup t m k ok =>
    simp only [opA] at h
    split at h
    · exact (pureO_some h).2
    · cases h
  case call c =>
    obtain ⟨callee, args, ats⟩ := c
    cases callee with
    | value f => exact absurd hc (cls_value (X := X) f args ats .r (by simp) (by simp))
    | invoke _ _ => cases hc
    | builtin b =>
    simp only at hc
    simp only [opA] at h
    split at h
    · rename_i vs hvs
      cases b <;> simp only at hc <;> try (cases hc; done)
      unfold builtinA at h
      split at h <;> first
        | (rename_i heq; cases heq; done)
        | skip
      · split at h
        · split at h <;> first
            | (cases h; rfl)
            | (split at h <;> first | (cases h; rfl) | (cases h; done))
            | (cases h; done)
        · cases h
      · cases h
    · cases h

/-- class a: one block at the counter, and its contents hang on temporaries alone -/
theorem cls_a {ex : Ex} {e : Env} {o : Op} (hc : cls X o = .a) {s s' : St} {v : AV} (h : opA X ex e o s = some (v, s')) :
    ∃ b, b ≠ .gone ∧ s' = s.new b ∧ ∀ t : St, t.next = s.next → opA X ex e o t = some (v, t.new b) := by
  cases o <;> simp only [cls] at hc <;> try (cases hc; done)
  case convert src dst x =>
    simp only [opA] at h ⊢
    split at h
    · rename_i a ha
      cases h1 : X.und src with
      | none => unfold convA at h; rw [h1] at h; simp at h
      | some d1 =>
        cases h2 : X.und dst with
        | none => rw [h1, h2] at hc; cases d1 <;> simp at hc
        | some d2 =>
          rw [h1, h2] at hc
          unfold convA at h ⊢
          rw [h1, h2] at h ⊢
          cases d2 <;> first | (cases d1 <;> simp at hc <;> done) | skip
          rename_i el
          cases a <;> first | (cases d1 <;> cases h <;> done) | skip
          rename_i b
          simp only at h ⊢
          split at h
          · split at h
            · rename_i hrm
              cases h
              exact ⟨_, by simp, rfl, fun t ht => by rw [ht]; simp only [hrm, if_true]⟩
            · cases h
          · cases h
    · cases h
  case alloc t =>
    simp only [opA] at h ⊢
    split at h
    · cases h
      exact ⟨_, by simp, rfl, fun t ht => by simp only [newCells, ht]⟩
    · cases h
  case box t x =>
    simp only [opA] at h ⊢
    split at h
    · cases h
      exact ⟨_, by simp, rfl, fun t ht => by simp only [newCells, ht]⟩
    · cases h
  case buildSlice t n ps =>
    simp only [opA] at h ⊢
    split at h
    · unfold buildSliceA at h ⊢
      split at h
      · split at h
        · split at h
          · rename_i hcnd
            split at h
            · cases h
              exact ⟨_, by simp, rfl, fun t ht => by simp only [if_pos hcnd, ht]⟩
            · cases h
          · cases h
        · cases h
      · cases h
    · cases h
  case makeMap t r =>
    simp only [opA] at h ⊢
    split at h
    · cases h
      exact ⟨_, by simp, rfl, fun t ht => by simp only [ht]⟩
    · split at h
      · cases h
        exact ⟨_, by simp, rfl, fun t ht => by simp only [ht]⟩
      · cases h
  case makeSlice t l c =>
    simp only [opA] at h ⊢
    split at h
    · split at h
      · split at h
        · rename_i hcnd
          cases h
          exact ⟨_, by simp, rfl, fun t ht => by simp only [if_pos hcnd, ht]⟩
        · cases h
      · cases h
    · cases h
  case call c =>
    obtain ⟨callee, args, ats⟩ := c
    cases callee with
    | value f => exact absurd hc (cls_value (X := X) f args ats .a (by simp) (by simp))
    | invoke _ _ => cases hc
    | builtin b =>
    simp only at hc
    cases b <;> simp only at hc <;> cases hc

/-- class c: a call in a state of its own -/
theorem cls_c {ex : Ex} {e : Env} {o : Op} (hc : cls X o = .q) {s s' : St} {v : AV} (h : opA X ex e o s = some (v, s')) :
    s' = s ∧ ∃ c vs us, o = .call c ∧ evals X e c.args.toList = some vs ∧ frzArgs X s vs = some us ∧ ∀ t, frzArgs X t vs = some us → opA X ex e o t = some (v, t) := by
  cases o <;> try (simp only [cls] at hc; done)
  case call c =>
    obtain ⟨callee, args, ats⟩ := c
    cases callee with
    | invoke _ _ => simp only [cls] at hc; cases hc
    | builtin b => cases b <;> simp only [cls] at hc <;> cases hc
    | value f =>
      cases f <;> try (simp only [cls] at hc; cases hc; done)
      rename_i g
      simp only [cls] at hc
      split at hc
      · rename_i hg
        simp only [Bool.and_eq_true, Option.isNone_iff_eq_none] at hg
        simp only [opA, eval] at h ⊢
        split at h
        · rename_i f vs hf hvs
          cases hf
          simp only [callV, List.nil_append, List.append_nil, callF, hg.2, hg.1, if_true] at h ⊢
          unfold callP at h
          split at h
          · rename_i us hus
            split at h
            · rename_i v1 hq
              cases h
              refine ⟨rfl, _, vs, us, rfl, hvs, hus, fun t ht => ?_⟩
              simp only [callP, ht, hq]
            · cases h
          · cases h
        · cases h
      · cases hc
  all_goals
    exfalso
    simp only [cls] at hc
    first
      | (cases hc; done)
      | (split at hc <;> cases hc)

/-! ### Two environments that agree where the operation looks -/

theorem eval_congr {e e' : Env} {x : Operand} (h : ∀ t, x = .tmp t → Env.get e t = Env.get e' t) : eval X e x = eval X e' x := by
  cases x <;> simp only [eval]
  rw [h _ rfl]

theorem evals_congr {e e' : Env} : ∀ {l : List Operand}, (∀ t, Operand.tmp t ∈ l → Env.get e t = Env.get e' t) → evals X e l = evals X e' l
  | [], _ => rfl
  | x :: l, h => by
    simp only [evals]
    rw [eval_congr (fun t ht => h t (by rw [ht]; exact List.mem_cons_self ..)), evals_congr (fun t ht => h t (List.mem_cons_of_mem _ ht))]

theorem evalParts_congr {e e' : Env} : ∀ {l : List (Nat × Operand)}, (∀ t, Operand.tmp t ∈ l.map (·.2) → Env.get e t = Env.get e' t) → evalParts X e l = evalParts X e' l
  | [], _ => rfl
  | (i, x) :: l, h => by
    simp only [evalParts]
    rw [eval_congr (fun t ht => h t (by rw [ht]; exact List.mem_cons_self ..)), evalParts_congr (fun t ht => h t (List.mem_cons_of_mem _ ht))]

theorem evalO_congr {e e' : Env} {x : Option Operand} (h : ∀ t, x = some (.tmp t) → Env.get e t = Env.get e' t) : evalO X e x = evalO X e' x := by
  cases x with
  | none => rfl
  | some x => simp only [evalO]; rw [eval_congr (fun t ht => h t (by rw [ht]))]

theorem opA_congr {ex : Ex} {e e' : Env} {o : Op} {s : St} (h : ∀ t, Operand.tmp t ∈ o.operands.toList → Env.get e t = Env.get e' t) : opA X ex e o s = opA X ex e' o s := by
  cases o <;> simp only [opA] <;> simp only [Op.operands] at h
  case pick c a b =>
    have h1 := eval_congr (X := X) (e := e) (e' := e') (x := c) (fun t ht => h t (by simp [ht]))
    have h2 := eval_congr (X := X) (e := e) (e' := e') (x := a) (fun t ht => h t (by simp [ht]))
    have h3 := eval_congr (X := X) (e := e) (e' := e') (x := b) (fun t ht => h t (by simp [ht]))
    rw [h1, h2, h3]
  case sliceToArrayPointer t x =>
    have h1 := eval_congr (X := X) (e := e) (e' := e') (x := x) (fun t ht => h t (by simp [ht]))
    rw [h1]
  case build t ps =>
    have h1 := evalParts_congr (X := X) (e := e) (e' := e') (l := ps.toList) (fun t ht => h t (by simpa using ht))
    rw [h1]
  case buildSlice t n ps =>
    have h1 := evalParts_congr (X := X) (e := e) (e' := e') (l := ps.toList) (fun t ht => h t (by simpa using ht))
    rw [h1]
  case makeFunc f a b =>
    have h1 := evals_congr (X := X) (e := e) (e' := e') (l := a.toList) (fun t ht => h t (by simp; exact .inl (by simpa using ht)))
    have h2 := evals_congr (X := X) (e := e) (e' := e') (l := b.toList) (fun t ht => h t (by simp; exact .inr (by simpa using ht)))
    rw [h1, h2]
  case makeMap t r =>
    cases r with
    | none => rfl
    | some x =>
      have h1 := eval_congr (X := X) (e := e) (e' := e') (x := x) (fun t ht => h t (by simp [ht]))
      simp only [h1]
  case slice t x lo hi mx =>
    have h1 := eval_congr (X := X) (e := e) (e' := e') (x := x) (fun t ht => h t (by simp [ht]))
    have h2 := evalO_congr (X := X) (e := e) (e' := e') (x := lo) (fun t ht => h t (by simp [ht]))
    have h3 := evalO_congr (X := X) (e := e) (e' := e') (x := hi) (fun t ht => h t (by simp [ht]))
    have h4 := evalO_congr (X := X) (e := e) (e' := e') (x := mx) (fun t ht => h t (by simp [ht]))
    rw [h1, h2, h3, h4]
  case call c =>
    obtain ⟨callee, args, ats⟩ := c
    simp only [Call.operands] at h
    cases callee with
    | builtin b =>
      have h1 := evals_congr (X := X) (e := e) (e' := e') (l := args.toList) (fun t ht => h t (by simpa using ht))
      simp only [h1]
    | value f =>
      have h1 := evals_congr (X := X) (e := e) (e' := e') (l := args.toList) (fun t ht => h t (by simp; exact .inr (by simpa using ht)))
      have h2 := eval_congr (X := X) (e := e) (e' := e') (x := f) (fun t ht => h t (by simp [ht]))
      simp only [h1, h2]
    | invoke r m => rfl
  case next it str =>
    cases str with
    | false =>
      have h1 := eval_congr (X := X) (e := e) (e' := e') (x := it) (fun t ht => h t (by simp [ht]))
      simp only [opA, h1]
    | true =>
      have h1 := eval_congr (X := X) (e := e) (e' := e') (x := it) (fun t ht => h t (by simp [ht]))
      simp only [opA, h1]
  case move x =>
    have h0 := eval_congr (X := X) (e := e) (e' := e') (x := x) (fun t ht => h t (by simp [ht]))
    rw [h0]
  case assign x =>
    have h0 := eval_congr (X := X) (e := e) (e' := e') (x := x) (fun t ht => h t (by simp [ht]))
    rw [h0]
  case box t x =>
    have h0 := eval_congr (X := X) (e := e) (e' := e') (x := x) (fun t ht => h t (by simp [ht]))
    rw [h0]
  case load t x =>
    have h0 := eval_congr (X := X) (e := e) (e' := e') (x := x) (fun t ht => h t (by simp [ht]))
    rw [h0]
  case nilCheck x =>
    have h0 := eval_congr (X := X) (e := e) (e' := e') (x := x) (fun t ht => h t (by simp [ht]))
    rw [h0]
  case unOp op t x =>
    have h0 := eval_congr (X := X) (e := e) (e' := e') (x := x) (fun t ht => h t (by simp [ht]))
    rw [h0]
  case convert a b x =>
    have h0 := eval_congr (X := X) (e := e) (e' := e') (x := x) (fun t ht => h t (by simp [ht]))
    rw [h0]
  case makeInterface t x =>
    have h0 := eval_congr (X := X) (e := e) (e' := e') (x := x) (fun t ht => h t (by simp [ht]))
    rw [h0]
  case fieldAddr t x f =>
    have h0 := eval_congr (X := X) (e := e) (e' := e') (x := x) (fun t ht => h t (by simp [ht]))
    rw [h0]
  case field t x f =>
    have h0 := eval_congr (X := X) (e := e) (e' := e') (x := x) (fun t ht => h t (by simp [ht]))
    rw [h0]
  case range t x =>
    have h0 := eval_congr (X := X) (e := e) (e' := e') (x := x) (fun t ht => h t (by simp [ht]))
    rw [h0]
  case extract x i =>
    have h0 := eval_congr (X := X) (e := e) (e' := e') (x := x) (fun t ht => h t (by simp [ht]))
    rw [h0]
  case store t a x =>
    have h0 := eval_congr (X := X) (e := e) (e' := e') (x := a) (fun t ht => h t (by simp [ht]))
    have h1 := eval_congr (X := X) (e := e) (e' := e') (x := x) (fun t ht => h t (by simp [ht]))
    rw [h0, h1]
  case binOp op t x y yt =>
    have h0 := eval_congr (X := X) (e := e) (e' := e') (x := x) (fun t ht => h t (by simp [ht]))
    have h1 := eval_congr (X := X) (e := e) (e' := e') (x := y) (fun t ht => h t (by simp [ht]))
    rw [h0, h1]
  case makeSlice t l c =>
    have h0 := eval_congr (X := X) (e := e) (e' := e') (x := l) (fun t ht => h t (by simp [ht]))
    have h1 := eval_congr (X := X) (e := e) (e' := e') (x := c) (fun t ht => h t (by simp [ht]))
    rw [h0, h1]
  case indexAddr t x i =>
    have h0 := eval_congr (X := X) (e := e) (e' := e') (x := x) (fun t ht => h t (by simp [ht]))
    have h1 := eval_congr (X := X) (e := e) (e' := e') (x := i) (fun t ht => h t (by simp [ht]))
    rw [h0, h1]
  case index t x i =>
    have h0 := eval_congr (X := X) (e := e) (e' := e') (x := x) (fun t ht => h t (by simp [ht]))
    have h1 := eval_congr (X := X) (e := e) (e' := e') (x := i) (fun t ht => h t (by simp [ht]))
    rw [h0, h1]
  case lookup t m k ok =>
    have h0 := eval_congr (X := X) (e := e) (e' := e') (x := m) (fun t ht => h t (by simp [ht]))
    have h1 := eval_congr (X := X) (e := e) (e' := e') (x := k) (fun t ht => h t (by simp [ht]))
    rw [h0, h1]
  case typeAssert x xt a ok =>
    have h0 := eval_congr (X := X) (e := e) (e' := e') (x := x) (fun t ht => h t (by simp [ht]))
    rw [h0]
  case entry it =>
    have h0 := eval_congr (X := X) (e := e) (e' := e') (x := it) (fun t ht => h t (by simp [ht]))
    rw [h0]
  case makeChan t x =>
    have h0 := eval_congr (X := X) (e := e) (e' := e') (x := x) (fun t ht => h t (by simp [ht]))
    rw [h0]
  case mapEntry t m k =>
    have h0 := eval_congr (X := X) (e := e) (e' := e') (x := m) (fun t ht => h t (by simp [ht]))
    have h1 := eval_congr (X := X) (e := e) (e' := e') (x := k) (fun t ht => h t (by simp [ht]))
    rw [h0, h1]
  case entryStore t m i v =>
    have h0 := eval_congr (X := X) (e := e) (e' := e') (x := m) (fun t ht => h t (by simp [ht]))
    have h1 := eval_congr (X := X) (e := e) (e' := e') (x := i) (fun t ht => h t (by simp [ht]))
    have h2 := eval_congr (X := X) (e := e) (e' := e') (x := v) (fun t ht => h t (by simp [ht]))
    rw [h0, h1, h2]
  case mapUpdate t m k v =>
    have h0 := eval_congr (X := X) (e := e) (e' := e') (x := m) (fun t ht => h t (by simp [ht]))
    have h1 := eval_congr (X := X) (e := e) (e' := e') (x := k) (fun t ht => h t (by simp [ht]))
    have h2 := eval_congr (X := X) (e := e) (e' := e') (x := v) (fun t ht => h t (by simp [ht]))
    rw [h0, h1, h2]
  case insert t m k v =>
    have h0 := eval_congr (X := X) (e := e) (e' := e') (x := m) (fun t ht => h t (by simp [ht]))
    have h1 := eval_congr (X := X) (e := e) (e' := e') (x := k) (fun t ht => h t (by simp [ht]))
    have h2 := eval_congr (X := X) (e := e) (e' := e') (x := v) (fun t ht => h t (by simp [ht]))
    rw [h0, h1, h2]

end
end Go.Am
set_option linter.unusedSimpArgs false
set_option linter.unusedVariables false
set_option linter.unusedSectionVars false
namespace Go.Am
open Go
section
variable [Stat]

theorem look_ne_gone (s : St) (i : Nat) (b : Blk) (h : s.look i = some b) : b ≠ .gone := by
  unfold St.look at h
  split at h
  · cases h
  · rename_i hne
    intro e; subst e
    exact hne h

/-- a state of given contents -/
def ofLook (f : Nat → Option Blk) (n : Nat) : St := { t := .nil, base := f, next := n }

theorem ofLook_look {f : Nat → Option Blk} {n i : Nat} (h : ∀ b, f i = some b → b ≠ .gone) : (ofLook f n).look i = f i := by
  unfold St.look St.get ofLook
  simp only [Tr.get_nil]
  cases hf : f i with
  | none => rfl
  | some b =>
    have := h b hf
    cases b <;> first | rfl | exact absurd rfl this

theorem HR.sub {σ : Sg} {T R : St} {w : World} (H : HR σ T w) (h : ∀ i p b, σ i = some p → R.look i = some b → T.look i = some b) : HR σ R w :=
  ⟨H.lt, fun i p b hp hb => H.blk i p b hp (h i p b hp hb), fun i j p q b c hp hq hb hc he => H.inj i j p q b c hp hq (h i p b hp hb) (h j q c hq hc) he, fun c o hc => ⟨(H.fz c o hc).1, fun ⟨i, p, b, h1, h2, h3, h4⟩ => (H.fz c o hc).2 ⟨i, p, b, h1, h i p b h1 h2, h3, h4⟩⟩⟩

/-- What has become of the start (σ0 s0 w0) while a region runs in its drawn order. -/
structure GD (σ0 : Sg) (s0 : St) (w0 : World) (σ : Sg) (T : St) (w : World) : Prop where
  hr : HR σ T w
  ext : Ext σ0 s0 w0 σ T w
  dom : ∀ i, i < s0.next → σ i = σ0 i
  next : s0.next ≤ T.next
  fresh : Fresh σ T
  dead : ∀ i, i < s0.next → s0.look i = none → T.look i = none
  news : ∀ i p, σ i = some p → σ0 i = none → w0.heap.size ≤ p.b ∨ Owns σ0 s0 p.b

open Classical in
/-- the state behind an operation that was run on R, a part of T -/
noncomputable def mix (σ : Sg) (T R R' : St) : St :=
  ofLook (fun i => if i < R.next ∧ (σ i = none ∨ R.look i = none) then T.look i else R'.look i) R'.next

theorem mix_next (σ : Sg) (T R R' : St) : (mix σ T R R').next = R'.next := rfl

open Classical in
theorem mix_look (σ : Sg) (T R R' : St) (i : Nat) : (mix σ T R R').look i = if i < R.next ∧ (σ i = none ∨ R.look i = none) then T.look i else R'.look i := by
  unfold mix
  rw [ofLook_look]
  intro b hb
  split at hb <;> exact look_ne_gone _ _ _ hb

theorem frame {σ0 σ σ' : Sg} {s0 T R R' : St} {w0 w w' : World} (g : GD σ0 s0 w0 σ T w) (hsub : ∀ i p b, σ i = some p → R.look i = some b → T.look i = some b) (hn : R.next = T.next) (k : Good σ R w σ' R' w') :
    GD σ0 s0 w0 σ' (mix σ T R R') w' := by
  have hout : ∀ i p b, σ i = some p → T.look i = some b → R.look i = none → ¬ Owns σ R p.b := by
    rintro i p b hp hb hr ⟨j, q, c, hq, hc, _, he⟩
    have := g.hr.inj j i q p c b hq hp (hsub j q c hq hc) hb he
    subst this
    rw [hr] at hc; cases hc
  have hown : ∀ c, Owns σ R c → Owns σ T c := fun c ⟨j, q, b, hq, hb, ho, he⟩ => ⟨j, q, b, hq, hsub j q b hq hb, ho, he⟩
  have hfr : ∀ i, σ i = none ∨ i < R.next := fun i => by
    by_cases h : i < R.next
    · exact .inr h
    · exact .inl (g.fresh i (by omega))
  -- the blocks of the mixed state
  have cases' : ∀ i p b, σ' i = some p → (mix σ T R R').look i = some b → (σ i = some p ∧ T.look i = some b ∧ R.look i = none) ∨ (R'.look i = some b ∧ (σ i = none ∨ ∃ c, R.look i = some c)) := by
    intro i p b hp hb
    rw [mix_look] at hb
    split at hb
    · rename_i hc
      rcases hc.2 with h | h
      · have := k.dom i (.inl hc.1)
        rw [h] at this; rw [this] at hp; cases hp
      · have := k.dom i (.inl hc.1)
        rw [this] at hp
        exact .inl ⟨hp, hb, h⟩
    · rename_i hc
      refine .inr ⟨hb, ?_⟩
      rcases hfr i with h | h
      · exact .inl h
      · cases hr : R.look i with
        | none => exact absurd ⟨h, .inr hr⟩ hc
        | some c => exact .inr ⟨c, rfl⟩
  have le : ∀ i p, σ i = some p → σ' i = some p := k.ext.le.p
  have old : ∀ i p q, σ i = some p → σ' i = some q → p = q := fun i p q h1 h2 => by rw [le i p h1] at h2; exact Option.some.inj h2
  refine ⟨⟨k.hr.lt, ?_, ?_, ?_⟩, ?_, ?_, ?_, ?_, ?_, ?_⟩
  · -- blk
    intro i p b hp hb
    rcases cases' i p b hp hb with ⟨h1, h2, h3⟩ | ⟨h1, _⟩
    · obtain ⟨o, ho, hbr⟩ := g.hr.blk i p b h1 h2
      refine ⟨o, ?_, hbr.mono k.ext.le⟩
      rw [k.ext.keep p.b (g.hr.lt i p h1) (hout i p b h1 h2 h3)]
      exact ho
    · exact k.hr.blk i p b hp h1
  · -- inj
    intro i j p q b c hp hq hb hc he
    have key : ∀ i j p q b c, σ i = some p → T.look i = some b → R.look i = none → σ' j = some q → (σ j = none ∨ ∃ c, R.look j = some c) → R'.look j = some c → p.b = q.b → False := by
      intro i j p q b c h1 h2 h3 h4 h5 h6 he
      cases hj : σ j with
      | some q' =>
        have := old j q' q hj h4; subst this
        rcases h5 with h5 | ⟨c0, h5⟩
        · rw [h5] at hj; cases hj
        · have := g.hr.inj i j p q' b c0 h1 hj h2 (hsub j q' c0 hj h5) he
          subst this
          rw [h3] at h5; cases h5
      | none =>
        rcases k.news j q h4 hj with h7 | h7
        · have := g.hr.lt i p h1; omega
        · rw [← he] at h7
          exact hout i p b h1 h2 h3 h7
    rcases cases' i p b hp hb with ⟨h1, h2, h3⟩ | ⟨h1, h2⟩ <;> rcases cases' j q c hq hc with ⟨k1, k2, k3⟩ | ⟨k1, k2⟩
    · exact g.hr.inj i j p q b c h1 k1 h2 k2 he
    · exact (key i j p q b c h1 h2 h3 hq k2 k1 he).elim
    · exact (key j i q p c b k1 k2 k3 hp h2 h1 he.symm).elim
    · exact k.hr.inj i j p q b c hp hq h1 k1 he
  · -- what nobody writes
    intro c o hc
    refine ⟨(k.hr.fz c o hc).1, ?_⟩
    rintro ⟨i, p, b, hp, hb, ho, rfl⟩
    rcases cases' i p b hp hb with ⟨h1, h2, _⟩ | ⟨h1, _⟩
    · rcases k.ext.nfz _ o hc with h3 | h3
      · exact (g.hr.fz _ o h3).2 ⟨i, p, b, h1, h2, ho, rfl⟩
      · have := g.hr.lt i p h1; omega
    · exact (k.hr.fz _ o hc).2 ⟨i, p, b, hp, h1, ho, rfl⟩
  · -- ext
    refine g.ext.trans ⟨k.ext.le, k.ext.nfz, k.ext.size, fun c hc hno => k.ext.keep c hc (fun h => hno (hown c h)), ?_, k.ext.os, k.ext.tape, k.ext.output, k.ext.drawn⟩
    rintro c hc ⟨i, p, b, hp, hb, ho, he⟩
    rcases cases' i p b hp hb with ⟨h1, h2, _⟩ | ⟨h1, _⟩
    · exact ⟨i, p, b, h1, h2, ho, he⟩
    · exact hown c (k.ext.owns c hc ⟨i, p, b, hp, h1, ho, he⟩)
  · intro i hi
    rw [k.dom i (.inl (by have := g.next; omega)), g.dom i hi]
  · rw [mix_next]; have := g.next; have := k.next; omega
  · intro i hi
    rw [mix_next] at hi
    have h1 := k.next
    rw [k.dom i (.inr hi)]
    exact g.fresh i (by omega)
  · intro i hi hl
    have hT := g.dead i hi hl
    rw [mix_look]
    split
    · exact hT
    · rename_i hc
      have hlt : i < R.next := by have := g.next; omega
      cases hs : σ i with
      | none => exact absurd ⟨hlt, .inl hs⟩ hc
      | some p =>
        cases hr : R.look i with
        | none => exact absurd ⟨hlt, .inr hr⟩ hc
        | some b => rw [hsub i p b hs hr] at hT; cases hT
  · intro i p hp hn0
    cases hs : σ i with
    | none =>
      rcases k.news i p hp hs with h | h
      · exact .inl (Nat.le_trans g.ext.size h)
      · by_cases hb : p.b < w0.heap.size
        · exact .inr (g.ext.owns _ hb (hown _ h))
        · exact .inl (by omega)
    | some q =>
      have := old i q p hs hp; subst this
      exact g.news i q hs hn0

/-- a block at an id that was kept -/
theorem GD.addA {σ0 σ σ' : Sg} {s0 T : St} {w0 w w' : World} (g : GD σ0 s0 w0 σ T w) {id : Nat} {b : Blk} (hb : b ≠ .gone) (h1 : s0.next ≤ id) (h2 : id < T.next) (k : Good σ { T with next := id } w σ' (St.new { T with next := id } b) w') :
    GD σ0 s0 w0 σ' (ofLook (fun i => if i = id then some b else T.look i) T.next) w' := by
  have hl : ∀ i, (St.new { T with next := id } b).look i = (ofLook (fun i => if i = id then some b else T.look i) T.next).look i := by
    intro i
    rw [St.look_new _ _ _ hb, ofLook_look]
    · by_cases h : i = id
      · subst h; simp
      · rw [if_neg h, if_neg (fun e => h e.symm)]; rfl
    · intro c hc
      split at hc
      · cases hc; exact hb
      · exact look_ne_gone _ _ _ hc
  have hT : ∀ i, St.look { T with next := id } i = T.look i := fun i => rfl
  have hO : ∀ c, Owns σ { T with next := id } c ↔ Owns σ T c := fun c => Iff.rfl
  have hk := k.hr.congr hl
  have hoe : ∀ c, Owns σ' (ofLook (fun i => if i = id then some b else T.look i) T.next) c → Owns σ' (St.new { T with next := id } b) c := fun c ⟨i, p, d, e1, e2, e3, e4⟩ => ⟨i, p, d, e1, by rw [hl]; exact e2, e3, e4⟩
  have kn : (St.new { T with next := id } b).next = id + 1 := rfl
  refine ⟨hk, g.ext.trans ⟨k.ext.le, k.ext.nfz, k.ext.size, fun c hc hno => k.ext.keep c hc hno, fun c hc ho => k.ext.owns c hc (hoe c ho), k.ext.os, k.ext.tape, k.ext.output, k.ext.drawn⟩, ?_, g.next, ?_, ?_, ?_⟩
  · intro i hi
    rw [k.dom i (.inl (show i < id by omega)), g.dom i hi]
  · intro i hi
    have hi : T.next ≤ i := hi
    rw [k.dom i (.inr (by rw [kn]; omega))]
    exact g.fresh i hi
  · intro i hi hl0
    rw [← hl, St.look_new _ _ _ hb, if_neg (by show ¬ id = i; omega)]
    exact g.dead i hi hl0
  · intro i p hp hn0
    cases hs : σ i with
    | none =>
      rcases k.news i p hp hs with h | h
      · exact .inl (Nat.le_trans g.ext.size h)
      · by_cases hb : p.b < w0.heap.size
        · exact .inr (g.ext.owns _ hb h)
        · exact .inl (by omega)
    | some q =>
      have := k.ext.le.p i q hs
      rw [hp] at this; cases this
      exact g.news i _ hs hn0

theorem GD.good {σ0 σ : Sg} {s0 T S : St} {w0 w : World} (g : GD σ0 s0 w0 σ T w) (h : ∀ i p, σ i = some p → T.look i = S.look i) (hd : ∀ i, i < s0.next → s0.look i = none → S.look i = none) (hn : S.next = T.next) (hb : S.base = s0.base) (hf : Fresh σ0 s0) : Good σ0 s0 w0 σ S w where
  hr := g.hr.sub fun i p b hp hb => by rw [h i p hp]; exact hb
  ext := ⟨g.ext.le, g.ext.nfz, g.ext.size, g.ext.keep, fun c hc ⟨i, p, b, h1, h2, h3, h4⟩ => g.ext.owns c hc ⟨i, p, b, h1, by rw [h i p h1]; exact h2, h3, h4⟩, g.ext.os, g.ext.tape, g.ext.output, g.ext.drawn⟩
  dom := fun i hi => by
    rcases hi with hi | hi
    · exact g.dom i hi
    · rw [g.fresh i (by omega), hf i (by have := g.next; omega)]
  next := by rw [hn]; exact g.next
  dead := hd
  news := g.news
  glob := hb

end
end Go.Am
set_option linter.unusedSimpArgs false
set_option linter.unusedVariables false
set_option linter.unusedSectionVars false
namespace Go.Am
open Go
/-! ### What comes ahead of what -/

def edgeFold (c : Nat → Nat) (es : List Edge) (s0 : Nat) : Nat := es.foldl (fun s e => if Region.binds .any e then s ||| 2 ^ e.on ||| c e.on else s) s0

theorem edgeFold_bit (c : Nat → Nat) : ∀ (es : List Edge) (s0 i : Nat), (edgeFold c es s0).testBit i = true → s0.testBit i = true ∨ ∃ e ∈ es, Region.binds .any e = true ∧ (i = e.on ∨ (c e.on).testBit i = true)
  | [], s0, i, h => .inl h
  | e :: es, s0, i, h => by
    unfold edgeFold at h
    rw [List.foldl_cons] at h
    rcases edgeFold_bit c es _ i h with h1 | ⟨e', hm, hb, hr⟩
    · by_cases hb : Region.binds .any e = true
      · rw [if_pos hb] at h1
        simp only [Nat.testBit_or, Bool.or_eq_true] at h1
        rcases h1 with (h1 | h1) | h1
        · exact .inl h1
        · rw [Nat.testBit_two_pow] at h1
          exact .inr ⟨e, List.mem_cons_self .., hb, .inl (by simpa using h1 : e.on = i).symm⟩
        · exact .inr ⟨e, List.mem_cons_self .., hb, .inr h1⟩
      · rw [if_neg hb] at h1
        exact .inl h1
    · exact .inr ⟨e', List.mem_cons_of_mem _ hm, hb, hr⟩

def befStep (acc : Array Nat) (o : Oper) : Array Nat := acc.push (edgeFold (fun k => acc.getD k 0) o.after.toList 0)
def befL (l : List Oper) : Array Nat := l.foldl befStep #[]

theorem before_eq (ops : Array Oper) : Region.before ops = befL ops.toList := by
  unfold Region.before befL
  rw [← Array.foldl_toList]
  congr 1
  funext acc o
  unfold befStep edgeFold
  rw [← Array.foldl_toList]

theorem befL_snoc (l : List Oper) (o : Oper) : befL (l ++ [o]) = befStep (befL l) o := by
  unfold befL; rw [List.foldl_append]; rfl

/-- lists from the back -/
theorem revInd {α : Type} {p : List α → Prop} (h0 : p []) (h1 : ∀ l x, p l → p (l ++ [x])) (l : List α) : p l := by
  have : ∀ r : List α, p r.reverse := by
    intro r
    induction r with
    | nil => exact h0
    | cons x r ih => rw [List.reverse_cons]; exact h1 _ _ ih
  have := this l.reverse
  rwa [List.reverse_reverse] at this

theorem befL_size (l : List Oper) : (befL l).size = l.length := by
  induction l using revInd with
  | h0 => rfl
  | h1 l x ih => rw [befL_snoc]; simp [befStep, ih]

theorem befL_bit (l : List Oper) : ∀ (j i : Nat), ((befL l).getD j 0).testBit i = true → ∃ o, l[j]? = some o ∧ ∃ e ∈ o.after.toList, Region.binds .any e = true ∧ (i = e.on ∨ (e.on < j ∧ ((befL l).getD e.on 0).testBit i = true)) := by
  induction l using revInd with
  | h0 => intro j i h; simp [befL] at h
  | h1 l x ih =>
    intro j i h
    have hsz := befL_size l
    have hget : ∀ k, k < l.length → (befL (l ++ [x])).getD k 0 = (befL l).getD k 0 := by
      intro k hk
      rw [befL_snoc]
      unfold befStep
      simp only [Array.getD_eq_getD_getElem?]
      rw [Array.getElem?_push, if_neg (by omega)]
    rcases Nat.lt_trichotomy j l.length with hj | hj | hj
    · rw [hget j hj] at h
      obtain ⟨o, h1, e, h2, h3, h4⟩ := ih j i h
      refine ⟨o, by rw [List.getElem?_append_left hj]; exact h1, e, h2, h3, ?_⟩
      rcases h4 with h4 | ⟨h4, h5⟩
      · exact .inl h4
      · exact .inr ⟨h4, by rw [hget _ (by omega)]; exact h5⟩
    · subst hj
      have hv : (befL (l ++ [x])).getD l.length 0 = edgeFold (fun k => (befL l).getD k 0) x.after.toList 0 := by
        rw [befL_snoc]
        unfold befStep
        simp only [Array.getD_eq_getD_getElem?]
        rw [Array.getElem?_push, if_pos hsz.symm]
        rfl
      rw [hv] at h
      rcases edgeFold_bit _ _ _ _ h with h1 | ⟨e, h1, h2, h3⟩
      · simp at h1
      · refine ⟨x, by simp, e, h1, h2, ?_⟩
        rcases h3 with h3 | h3
        · exact .inl h3
        · have hlt : e.on < l.length := by
            rw [← hsz]
            refine Nat.lt_of_not_le fun hge => ?_
            simp only [Array.getD_eq_getD_getElem?] at h3
            rw [Array.getElem?_eq_none hge] at h3
            simp at h3
          exact .inr ⟨hlt, by rw [hget _ hlt]; exact h3⟩
    · have : (befL (l ++ [x])).getD j 0 = 0 := by
        simp only [Array.getD_eq_getD_getElem?]
        rw [Array.getElem?_eq_none (by rw [befL_size]; simp; omega)]
        rfl
      rw [this] at h; simp at h

theorem bef_spec {ops : Array Oper} {i j : Nat} (h : bef ops i j = true) : ∃ o, ops[j]? = some o ∧ ∃ e ∈ o.after.toList, Region.binds .any e = true ∧ (i = e.on ∨ (e.on < j ∧ bef ops i e.on = true)) := by
  unfold bef at h ⊢
  rw [before_eq] at h ⊢
  obtain ⟨o, h1, h2⟩ := befL_bit _ _ _ h
  exact ⟨o, by simpa using h1, h2⟩

/-- what is listed is closed -/
def Closed (ops : Array Oper) (D : Nat → Bool) : Prop := ∀ j o, D j = true → ops[j]? = some o → ∀ e ∈ o.after.toList, Region.binds .any e = true → D e.on = true

theorem bef_closed {ops : Array Oper} {D : Nat → Bool} (hD : Closed ops D) : ∀ (j i : Nat), (D j = true ∨ ∀ o, ops[j]? = some o → ∀ e ∈ o.after.toList, Region.binds .any e = true → D e.on = true) → bef ops i j = true → D i = true := by
  intro j
  induction j using Nat.strongRecOn with
  | _ j ih =>
    intro i hj h
    obtain ⟨o, ho, e, he, hb, hr⟩ := bef_spec h
    have hde : D e.on = true := by
      rcases hj with hj | hj
      · exact hD j o hj ho e he hb
      · exact hj o ho e he hb
    rcases hr with rfl | ⟨h1, h2⟩
    · exact hde
    · exact ih _ h1 i (.inl hde) h2

/-! ### How many are left -/

def left (D : Nat → Bool) : Nat → Nat
  | 0 => 0
  | n + 1 => left D n + (if D n then 0 else 1)

theorem left_zero {D : Nat → Bool} : ∀ {n : Nat}, left D n = 0 → ∀ i, i < n → D i = true
  | 0, _, i, hi => by omega
  | n + 1, h, i, hi => by
    simp only [left] at h
    by_cases e : i = n
    · subst e
      by_cases hd : D i = true
      · exact hd
      · rw [if_neg hd] at h; omega
    · exact left_zero (n := n) (by omega) i (by omega)

theorem left_same {D D' : Nat → Bool} : ∀ {n : Nat}, (∀ i, i < n → D' i = D i) → left D' n = left D n
  | 0, _ => rfl
  | n + 1, h => by simp only [left]; rw [left_same fun i hi => h i (by omega), h n (by omega)]

theorem left_set {D D' : Nat → Bool} {j : Nat} (hj : D j = false) (hj' : D' j = true) (h : ∀ i, i ≠ j → D' i = D i) : ∀ {n : Nat}, j < n → left D' n + 1 = left D n
  | 0, hn => by omega
  | n + 1, hn => by
    simp only [left]
    by_cases e : j = n
    · subst e
      rw [left_same fun i hi => h i (by omega), hj, hj']
      simp
    · have := left_set hj hj' h (n := n) (by omega)
      rw [h n (fun e' => e e'.symm)]
      omega

mutual
theorem same_val : ∀ {a b : AV}, same a b = true → a = b
  | a, b, h => by
    cases a <;> cases b <;> simp only [same, Bool.and_eq_true, beq_iff_eq, decide_eq_true_eq, Bool.false_eq_true] at h <;> try (cases h; done)
    all_goals first
      | rfl
      | (subst h; rfl)
      | (obtain ⟨rfl, rfl⟩ := h; rfl)
      | (obtain ⟨⟨⟨⟨rfl, rfl⟩, rfl⟩, rfl⟩, rfl⟩ := h; rfl)
      | (obtain ⟨⟨rfl, h1⟩, h2⟩ := h; rw [sames_val h1, sames_val h2])
      | (obtain ⟨rfl, h1⟩ := h; rw [same_val h1])
      | (obtain ⟨rfl, h1⟩ := h; rw [sames_val h1])
      | (obtain ⟨h1, h2⟩ := h; rw [sames_val h1, sames_val h2])
      | rw [sames_val h]
theorem sames_val : ∀ {a b : List AV}, sames a b = true → a = b
  | [], [], _ => rfl
  | [], _ :: _, h => by simp [sames] at h
  | _ :: _, [], h => by simp [sames] at h
  | a :: x, b :: y, h => by
    simp only [sames, Bool.and_eq_true] at h
    rw [same_val h.1, sames_val h.2]
end

end Go.Am
set_option linter.unusedSimpArgs false
set_option linter.unusedVariables false
set_option linter.unusedSectionVars false
namespace Go.Am
open Go
section
variable [Stat]
variable {X : Cx} {ex : Ex} {ops : Array Oper} {base : Nat}

theorem stepD_cases {i : Nat} {o : Oper} {e e' : Env} {s s' : St} (h : stepD X ex ops base i o e s = some (e', s')) :
    (wantedA ops e o = false ∧ e' = setDst e o.dst undef ∧ s' = s) ∨
    (wantedA ops e o = true ∧ ∃ v, e' = setDst e o.dst v ∧ (((cls X o.op).isA = true ∧ ∃ s1, opA X ex e o.op { s with next := base + i } = some (v, s1) ∧ s' = { s1 with next := s.next }) ∨
      ((cls X o.op).isA = false ∧ opA X ex e o.op s = some (v, s')))) := by
  unfold stepD at h
  split at h
  · rename_i hw
    refine .inr ⟨hw, ?_⟩
    split at h
    · rename_i hc
      split at h
      · rename_i v s1 h1
        cases h
        exact ⟨v, rfl, .inl ⟨by rw [hc]; rfl, s1, h1, rfl⟩⟩
      · cases h
    · rename_i hc
      split at h
      · rename_i v s1 h1
        cases h
        refine ⟨v, rfl, .inr ⟨?_, h1⟩⟩
        cases hk : cls X o.op <;> first | rfl | exact absurd hk hc
      · cases h
  · rename_i hw
    cases h
    exact .inl ⟨by simpa using hw, rfl, rfl⟩

def kA (X : Cx) (ops : Array Oper) (i : Nat) : Prop := ∃ o, ops[i]? = some o ∧ cls X o.op = .a
def kW (X : Cx) (ops : Array Oper) (i : Nat) : Prop := ∃ o, ops[i]? = some o ∧ cls X o.op = .w ∧ late X ops i = false
/-- a late store -/
def kS (X : Cx) (ops : Array Oper) (i : Nat) : Prop := late X ops i = true
/-- the block that it writes -/
def lb (X : Cx) (ops : Array Oper) (E : Nat → Env) (i : Nat) : Option Nat := match ops[i]? with | some o => lateBlk X (E i) o.op | none => none

theorem kS_spec {X : Cx} {ops : Array Oper} {i : Nat} (h : kS X ops i) : ∃ o, ops[i]? = some o ∧ isStore o.op = true ∧ o.guard = none ∧ cls X o.op = .w ∧ ∀ k ok, k ≠ i → ops[k]? = some ok → bef ops k i = true ∨ late X ops k = true ∨ cls X ok.op = .p ∨ cls X ok.op = .a := by
  unfold kS late at h
  simp only [Bool.and_eq_true] at h
  obtain ⟨h1, h2⟩ := h
  split at h2
  · rename_i o ho
    have h3 := h1
    unfold lateReg at h3
    simp only [Bool.and_eq_true, List.all_eq_true] at h3
    have hs : ∀ (l : List Oper) (j k : Nat) (o' : Oper), l[k]? = some o' → isStore o'.op = true → j + k ∈ sIdx j l := by
      intro l
      induction l with
      | nil => intro j k o' hk; simp at hk
      | cons x l ih =>
        intro j k o' hk hst
        unfold sIdx
        cases k with
        | zero => simp at hk; subst hk; simp [hst]
        | succ k =>
          have := ih (j + 1) k o' (by simpa using hk) hst
          rw [show j + (k + 1) = j + 1 + k by omega]
          split
          · exact List.mem_cons_of_mem _ this
          · exact this
    have h4 := h3.2 i (by simpa using hs ops.toList 0 i o (by simpa using ho) h2)
    unfold lateAt at h4
    rw [ho] at h4
    simp only [Bool.and_eq_true, List.all_eq_true, Bool.or_eq_true, beq_iff_eq, List.mem_range, Option.isNone_iff_eq_none] at h4
    obtain ⟨⟨_, h5⟩, h6⟩ := h4
    refine ⟨o, ho, h2, h5, ?_, fun k ok hk hok => ?_⟩
    · cases hop : o.op <;> rw [hop] at h2 <;> simp only [isStore] at h2 <;> first | rfl | cases h2
    · have := h6 k (Array.getElem?_eq_some_iff.1 hok).1
      rw [hok] at this
      rcases this with (h7 | h7) | h7
      · exact absurd h7 hk
      · exact .inl h7
      · rcases Bool.or_eq_true_iff.1 h7 with h8 | h8
        · refine .inr (.inl ?_)
          unfold late
          rw [h1, hok]; simpa using h8
        · cases hc : cls X ok.op <;> rw [hc] at h8 <;> simp at h8 <;> simp
  · cases h2

theorem kW_notS {X : Cx} {ops : Array Oper} {i : Nat} (h : kW X ops i) : ¬ kS X ops i := fun k => by
  obtain ⟨_, _, _, h3⟩ := h
  rw [show late X ops i = true from k] at h3; cases h3

/-- a late store, on whatever holds its block -/
theorem store_late {X : Cx} {ex : Ex} {e : Env} {o : Op} (hs : isStore o = true) {b : Nat} (hb : lateBlk X e o = some b) {s s' : St} {v : AV} (h : opA X ex e o s = some (v, s')) :
    ∃ k k', s.look b = some k ∧ k' ≠ .gone ∧ s' = s.put b k' ∧ ∀ t : St, t.get b = s.get b → opA X ex e o t = some (v, t.put b k') := by
  cases o <;> simp only [isStore] at hs <;> try (cases hs; done)
  rename_i t a x
  simp only [lateBlk] at hb
  split at hb
  · rename_i b' o' ha
    cases hb
    simp only [opA, ha] at h ⊢
    split at h
    · rename_i a1 v1 h1 hv
      cases h1
      obtain ⟨h2, rfl⟩ := unitO_some h
      unfold storeA at h2
      simp only at h2
      split at h2
      · rename_i n hn
        split at h2
        · rename_i hlen
          subst hlen
          unfold writeCells at h2
          split at h2
          · rename_i c e flo fhi hg
            split at h2
            · rename_i hc
              split at h2
              · rename_i c' hl
                cases h2
                refine ⟨_, .cells c' e false flo fhi, St.look_some hg (by simp), by simp, rfl, fun t ht => ?_⟩
                simp only [storeA, hn, if_true, writeCells, ht, hg, hc, hl, unitO]
              · cases h2
            · cases h2
          · cases h2
        · cases h2
      · cases h2
    · cases h
  · cases hb

theorem isA_iff {c : Cls} : c.isA = true ↔ c = .a := by cases c <;> simp [Cls.isA]
theorem isW_iff {c : Cls} : c.isW = true ↔ c = .w := by cases c <;> simp [Cls.isW]
theorem stepD_state {i : Nat} {o : Oper} {e e' : Env} {s s' : St} (h : stepD X ex ops base i o e s = some (e', s')) (hw : cls X o.op ≠ .w) :
    s'.next = s.next ∧ s'.base = s.base ∧ ∀ id, (cls X o.op = .a → id ≠ base + i) → s'.look id = s.look id := by
  rcases stepD_cases h with ⟨_, _, rfl⟩ | ⟨_, v, _, ⟨hc, s1, h1, rfl⟩ | ⟨hc, h1⟩⟩
  · exact ⟨rfl, rfl, fun _ _ => rfl⟩
  · have hc := isA_iff.1 hc
    obtain ⟨b, hb, rfl, _⟩ := cls_a hc h1
    refine ⟨rfl, rfl, fun id hid => ?_⟩
    have hne := hid hc
    show (St.new { s with next := base + i } b).look id = _
    rw [St.look_new _ _ _ hb, if_neg (fun e => hne e.symm)]
    rfl
  · cases hk : cls X o.op with
    | a => rw [hk] at hc; cases hc
    | w => exact absurd hk hw
    | p => obtain ⟨rfl, _⟩ := cls_p hk _ _ _ h1; exact ⟨rfl, rfl, fun _ _ => rfl⟩
    | r => obtain rfl := cls_r hk h1; exact ⟨rfl, rfl, fun _ _ => rfl⟩
    | q => obtain ⟨rfl, _⟩ := cls_c hk h1; exact ⟨rfl, rfl, fun _ _ => rfl⟩

theorem setDst_ne {e : Env} {d : Option Tmp} {v : AV} {t : Tmp} (h : d ≠ some t) : Env.get (setDst e d v) t = Env.get e t := by
  cases d with
  | none => rfl
  | some d =>
    show Env.get (Tr.set e d v) t = _
    rw [Env.get_set, if_neg (fun e => h (by rw [e]))]

theorem setDst_self {e : Env} {t : Tmp} {v : AV} : Env.get (setDst e (some t) v) t = v := by
  show Env.get (Tr.set e t v) t = _
  rw [Env.get_set, if_pos rfl]

/-- the run in the written order -/
structure Tr0 (X : Cx) (ex : Ex) (ops : Array Oper) (base : Nat) (E : Nat → Env) (S : Nat → St) : Prop where
  step : ∀ i o, ops[i]? = some o → stepD X ex ops base i o (E i) (S i) = some (E (i + 1), S (i + 1))

variable {E : Nat → Env} {S : Nat → St}

theorem Tr0.env_step (h : Tr0 X ex ops base E S) {i : Nat} {o : Oper} (ho : ops[i]? = some o) : ∃ v, E (i + 1) = setDst (E i) o.dst v := by
  rcases stepD_cases (h.step i o ho) with ⟨_, h1, _⟩ | ⟨_, v, h1, _⟩
  · exact ⟨_, h1⟩
  · exact ⟨_, h1⟩

theorem Tr0.env_keep (h : Tr0 X ex ops base E S) (t : Tmp) (a : Nat) : ∀ d, (∀ i o, a ≤ i → i < a + d → ops[i]? = some o → o.dst ≠ some t) → a + d ≤ ops.size → Env.get (E (a + d)) t = Env.get (E a) t
  | 0, _, _ => rfl
  | d + 1, hn, hs => by
    have hi : a + d < ops.size := by omega
    obtain ⟨v, hv⟩ := h.env_step (Array.getElem?_eq_getElem hi)
    rw [show a + (d + 1) = a + d + 1 from rfl, hv, setDst_ne (hn _ _ (by omega) (by omega) (Array.getElem?_eq_getElem hi))]
    exact h.env_keep t a d (fun i o h1 h2 h3 => hn i o h1 (by omega) h3) (by omega)

/-- the late stores go to blocks of their own -/
structure Late (X : Cx) (ops : Array Oper) (base : Nat) (E : Nat → Env) : Prop where
  some : ∀ i, kS X ops i → ∃ b, lb X ops E i = some b ∧ (b < base ∨ base + ops.size ≤ b)
  ne : ∀ i j, kS X ops i → kS X ops j → i ≠ j → lb X ops E i ≠ lb X ops E j

theorem Tr0.late_step (h : Tr0 X ex ops base E S) {i : Nat} {o : Oper} (ho : ops[i]? = some o) (hk : kS X ops i) {b : Nat} (hb : lb X ops E i = some b) :
    ∃ k k' v, (S i).look b = some k ∧ k' ≠ .gone ∧ S (i + 1) = (S i).put b k' ∧ E (i + 1) = setDst (E i) o.dst v ∧ ∀ t : St, t.get b = (S i).get b → opA X ex (E i) o.op t = some (v, t.put b k') := by
  obtain ⟨o', ho', hs, hg, hc, _⟩ := kS_spec hk
  rw [ho] at ho'; cases ho'
  have hb' : lateBlk X (E i) o.op = some b := by unfold lb at hb; rw [ho] at hb; exact hb
  rcases stepD_cases (h.step i o ho) with ⟨h1, _⟩ | ⟨_, v, h2, ⟨hc', _⟩ | ⟨_, h3⟩⟩
  · simp [wantedA, hg] at h1
  · rw [hc] at hc'; cases hc'
  · obtain ⟨k, k', h4, h5, h6, h7⟩ := store_late hs hb' h3
    exact ⟨k, k', v, h4, h5, h6, h2, h7⟩

theorem Tr0.between (h : Tr0 X ex ops base E S) (hL : Late X ops base E) (m : Nat) : ∀ d, m + d ≤ ops.size → (∀ i, m ≤ i → i < m + d → ¬ kW X ops i) →
    (S (m + d)).next = (S m).next ∧ (S (m + d)).base = (S m).base ∧
      (∀ id, (∀ i, m ≤ i → i < m + d → kA X ops i → id ≠ base + i) → (∀ i, m ≤ i → i < m + d → kS X ops i → lb X ops E i ≠ some id) → (S (m + d)).look id = (S m).look id) ∧
      (∀ i, m ≤ i → i < m + d → kA X ops i → (S (m + d)).look (base + i) = (S (i + 1)).look (base + i)) ∧
      ∀ i b, m ≤ i → i < m + d → kS X ops i → lb X ops E i = some b → (S (m + d)).look b = (S (i + 1)).look b
  | 0, _, _ => ⟨rfl, rfl, fun _ _ _ => rfl, fun i h1 h2 => by omega, fun i b h1 h2 => by omega⟩
  | d + 1, hs, hw => by
    have hi : m + d < ops.size := by omega
    have ho := Array.getElem?_eq_getElem hi
    obtain ⟨k1, k2, k3, k4, k5⟩ := h.between hL m d (by omega) (fun i a b => hw i a (by omega))
    rw [show m + (d + 1) = m + d + 1 from rfl]
    by_cases hk : kS X ops (m + d)
    · obtain ⟨b, hb, hrange⟩ := hL.some _ hk
      obtain ⟨k, k', v, g1, g2, g3, _, _⟩ := h.late_step ho hk hb
      have hlook : ∀ id, id ≠ b → (S (m + d + 1)).look id = (S (m + d)).look id := fun id hne => by
        rw [g3, St.look_put, if_neg (fun e => hne e.symm)]
      refine ⟨by rw [g3, ← k1]; rfl, by rw [g3, ← k2]; rfl, fun id h1 h2 => ?_, fun i a c ha => ?_, fun i b' a c hs' hb' => ?_⟩
      · rw [hlook id (fun e => h2 (m + d) (by omega) (by omega) hk (by rw [hb, e]))]
        exact k3 id (fun i a c => h1 i a (by omega)) (fun i a c => h2 i a (by omega))
      · by_cases e : i = m + d
        · subst e; rfl
        · rw [hlook _ (by omega)]
          exact k4 i a (by omega) ha
      · by_cases e : i = m + d
        · subst e; rfl
        · rw [hlook _ (fun e' => hL.ne i (m + d) hs' hk e (by rw [hb', hb, e']))]
          exact k5 i b' a (by omega) hs' hb'
    · obtain ⟨g1, g2, g3⟩ := stepD_state (h.step _ _ ho) (fun hc => hw (m + d) (by omega) (by omega) ⟨_, ho, hc, by
        cases hl : late X ops (m + d) with
        | false => rfl
        | true => exact absurd hl hk⟩)
      refine ⟨by rw [g1, k1], by rw [g2, k2], fun id h1 h2 => ?_, fun i a c ha => ?_, fun i b' a c hs' hb' => ?_⟩
      · rw [g3 id (fun hc => h1 _ (by omega) (by omega) ⟨_, ho, hc⟩)]
        exact k3 id (fun i a c => h1 i a (by omega)) (fun i a c => h2 i a (by omega))
      · by_cases e : i = m + d
        · subst e; rfl
        · rw [g3 _ (fun _ => by omega)]
          exact k4 i a (by omega) ha
      · have hne : i ≠ m + d := fun e => hk (e ▸ hs')
        obtain ⟨b2, hb2, hrange⟩ := hL.some _ hs'
        rw [hb'] at hb2; cases hb2
        rw [g3 _ (fun _ => by omega)]
        exact k5 i b' a (by omega) hs' hb'

/-! ### What is asked of the region -/

theorem apartL_spec {x y : Oper} (h : apartL ops x y = true) :
    (∀ d, x.dst = some d → d ∉ lookL ops y) ∧ (∀ d, x.dst = some d → y.dst ≠ some d) ∧ (∀ d, y.dst = some d → d ∉ lookL ops x) := by
  refine ⟨fun d hd => ?_, fun d hd => ?_, fun d hd => ?_⟩ <;> simp [apartL, hd] at h
  · exact h.1.1
  · exact h.1.2
  · exact h.2

structure Ok (X : Cx) (ops : Array Oper) : Prop where
  edge : ∀ (j : Nat) o, ops[j]? = some o → ∀ e ∈ o.after.toList, Region.binds .any e = true → e.on < j
  pair : ∀ (i j : Nat) oi oj, i < j → ops[i]? = some oi → ops[j]? = some oj → bef ops i j = true ∨
    (apartL ops oi oj = true ∧ ¬ (kA X ops i ∧ kW X ops j) ∧ ¬ (kW X ops i ∧ kW X ops j) ∧ ¬ (kS X ops i ∧ kW X ops j) ∧ ¬ (kW X ops i ∧ kS X ops j))

theorem okD_ok (h : okD X ops = true) : Ok X ops := by
  unfold okD at h
  rw [List.all_eq_true] at h
  refine ⟨fun j o ho e he hb => ?_, fun i j oi oj hij hi hj => ?_⟩
  · have hlt := (Array.getElem?_eq_some_iff.1 ho).1
    have := h j (List.mem_range.2 hlt)
    rw [ho] at this
    simp only [Bool.and_eq_true, List.all_eq_true] at this
    have := this.1.1 e he
    rw [hb] at this
    simpa using this
  · have hlt := (Array.getElem?_eq_some_iff.1 hj).1
    have := h j (List.mem_range.2 hlt)
    rw [hj] at this
    simp only [Bool.and_eq_true, List.all_eq_true] at this
    have := this.2 i (List.mem_range.2 hij)
    rw [hi] at this
    simp only [pairOk, Bool.or_eq_true, Bool.and_eq_true] at this
    rcases this with h1 | ⟨h1, h2⟩
    · exact .inl h1
    · have cw : ∀ {k ok}, ops[k]? = some ok → kW X ops k → cls X ok.op = .w ∧ late X ops k = false := fun ho ⟨o', ho', hc, hl⟩ => by rw [ho] at ho'; cases ho'; exact ⟨hc, hl⟩
      have cs : ∀ {k ok}, ops[k]? = some ok → kS X ops k → cls X ok.op = .w ∧ late X ops k = true := fun ho hk => by
        obtain ⟨o', ho', _, _, hc, _⟩ := kS_spec hk
        rw [ho] at ho'; cases ho'; exact ⟨hc, hk⟩
      have ca : ∀ {k ok}, ops[k]? = some ok → kA X ops k → cls X ok.op = .a := fun ho ⟨o', ho', hc⟩ => by rw [ho] at ho'; cases ho'; exact hc
      refine .inr ⟨h1, fun ⟨a, b⟩ => ?_, fun ⟨a, b⟩ => ?_, fun ⟨a, b⟩ => ?_, fun ⟨a, b⟩ => ?_⟩
      · rw [ca hi a, (cw hj b).1] at h2
        simp only [(cw hj b).2] at h2; cases h2
      · rw [(cw hi a).1, (cw hj b).1] at h2
        simp only [(cw hi a).2] at h2; cases h2
      · rw [(cs hi a).1, (cw hj b).1] at h2
        simp only [(cw hj b).2, Bool.and_false] at h2; cases h2
      · rw [(cw hi a).1, (cs hj b).1] at h2
        simp only [(cw hi a).2, Bool.false_and] at h2; cases h2

theorem Ok.bef_lt (h : Ok X ops) : ∀ (j i : Nat), bef ops i j = true → i < j := by
  intro j
  induction j using Nat.strongRecOn with
  | _ j ih =>
    intro i hb
    obtain ⟨o, ho, e, he, hbd, hr⟩ := bef_spec hb
    have := h.edge j o ho e he hbd
    rcases hr with rfl | ⟨h1, h2⟩
    · exact this
    · exact Nat.lt_trans (ih _ h1 i h2) h1

/-! ### Where the drawn order stands -/

/-- the memory -/
structure HI (X : Cx) (ops : Array Oper) (E : Nat → Env) (S : Nat → St) (σ0 : Sg) (s0 : St) (w0 : World) (D : Nat → Bool) (m : Nat) (σ : Sg) (T : St) (w : World) : Prop where
  gd : GD σ0 s0 w0 σ T w
  mN : m ≤ ops.size
  cutw : ∀ i, kW X ops i → (D i = true ↔ i < m)
  mw : m = 0 ∨ ∃ j, m = j + 1 ∧ kW X ops j
  t1 : ∀ id, σ id ≠ none → (∀ i, m ≤ i → D i = true → kA X ops i → id ≠ s0.next + i) → (∀ i, D i = true → kS X ops i → lb X ops E i ≠ some id) → T.look id = (S m).look id
  t2 : ∀ i, m ≤ i → D i = true → kA X ops i → σ (s0.next + i) ≠ none → T.look (s0.next + i) = (S (i + 1)).look (s0.next + i)
  t3 : T.next = (S m).next
  t4 : ∀ i b, D i = true → kS X ops i → lb X ops E i = some b → σ b ≠ none → T.look b = (S (i + 1)).look b
  u : ∀ i, kA X ops i → D i = false → σ (s0.next + i) = none
  sdead : ∀ i, i < s0.next → s0.look i = none → (S m).look i = none
  sbase : (S m).base = s0.base
  snext : s0.next + ops.size ≤ (S m).next

/-- before an operation that is ready -/
structure Rdy (ops : Array Oper) (D : Nat → Bool) (j : Nat) (o : Oper) : Prop where
  closed : Closed ops D
  op : ops[j]? = some o
  no : D j = false
  deps : ∀ e ∈ o.after.toList, Region.binds .any e = true → D e.on = true

theorem Rdy.bef {D : Nat → Bool} {j : Nat} {o : Oper} (h : Rdy ops D j o) {i : Nat} (hb : bef ops i j = true) : D i = true :=
  bef_closed h.closed j i (.inr fun o' ho' => by rw [h.op] at ho'; cases ho'; exact h.deps) hb

theorem Rdy.notBef {D : Nat → Bool} {j : Nat} {o : Oper} (h : Rdy ops D j o) {i : Nat} (hi : D i = true) : Am.bef ops j i = false := by
  cases hb : Am.bef ops j i with
  | false => rfl
  | true =>
    have := bef_closed h.closed i j (.inl hi) hb
    rw [h.no] at this; cases this

variable {σ0 : Sg} {s0 : St} {w0 : World} {D D' : Nat → Bool} {m : Nat} {σ σ' : Sg} {T : St} {w w' : World}

def Adds (D D' : Nat → Bool) (j : Nat) : Prop := D' j = true ∧ ∀ i, i ≠ j → D' i = D i

theorem Adds.of {D D' : Nat → Bool} {j : Nat} (h : Adds D D' j) {i : Nat} (hi : D' i = true) : i = j ∨ D i = true := by
  by_cases e : i = j
  · exact .inl e
  · rw [h.2 i e] at hi; exact .inr hi

theorem Adds.false {D D' : Nat → Bool} {j : Nat} (h : Adds D D' j) {i : Nat} (hi : D' i = false) : D i = false := by
  by_cases e : i = j
  · subst e; rw [h.1] at hi; cases hi
  · rw [h.2 i e] at hi; exact hi

/-- nothing late is done while something is left that reads or writes otherwise -/
theorem Rdy.noLate {D : Nat → Bool} {j : Nat} {o : Oper} (hr : Rdy ops D j o) (hp : cls X o.op ≠ .p) (ha : cls X o.op ≠ .a) (hl : late X ops j = false) : ∀ i, D i = true → ¬ kS X ops i := by
  intro i hi hk
  obtain ⟨oi, hoi, _, _, _, h⟩ := kS_spec hk
  have hne : j ≠ i := fun e => by
    rw [e] at hl
    rw [show late X ops i = true from hk] at hl; cases hl
  rcases h j o hne hr.op with hb | hb | hb | hb
  · rw [hr.notBef hi] at hb; cases hb
  · rw [hl] at hb; cases hb
  · exact hp hb
  · exact ha hb

/-- an operation that leaves the memory as it is -/
theorem HI.keep (h : HI X ops E S σ0 s0 w0 D m σ T w) {j : Nat} {o : Oper} (hr : Rdy ops D j o) (hD : Adds D D' j) (hk : ¬ kW X ops j) (hks : ¬ kS X ops j) {R : St} (hsub : ∀ i p b, σ i = some p → R.look i = some b → T.look i = some b) (hn : R.next = T.next)
    (k : Good σ R w σ' R w') (ha : kA X ops j → σ' = σ) : HI X ops E S σ0 s0 w0 D' m σ' (mix σ T R R) w' := by
  have hid : ∀ id, σ' id ≠ none → σ id = σ' id ∧ (mix σ T R R).look id = T.look id := by
    intro id hne
    have hlt : id < R.next := by
      refine Nat.lt_of_not_le fun hge => hne ?_
      rw [k.dom id (.inr hge)]
      exact h.gd.fresh id (by rw [← hn]; exact hge)
    have he := k.dom id (.inl hlt)
    refine ⟨he.symm, ?_⟩
    rw [mix_look]
    split
    · rfl
    · rename_i hc
      cases hs : σ id with
      | none => exact absurd ⟨hlt, .inl hs⟩ hc
      | some p =>
        cases hl : R.look id with
        | none => exact absurd ⟨hlt, .inr hl⟩ hc
        | some b => exact (hsub id p b hs hl).symm
  have hjw : ∀ i, kW X ops i → i ≠ j := fun i hi e => hk (e ▸ hi)
  have hup : ∀ i, D i = true → D' i = true := fun i hi => by
    by_cases e : i = j
    · subst e; exact hD.1
    · rw [hD.2 i e]; exact hi
  refine ⟨frame h.gd hsub hn k, h.mN, fun i hi => ?_, h.mw, fun id hne hall hall2 => ?_, fun i h1 h2 h3 h4 => ?_, by rw [mix_next, hn]; exact h.t3, fun i b h1 h2 h3 h4 => ?_, fun i h1 h2 => ?_, h.sdead, h.sbase, h.snext⟩
  · rw [hD.2 i (hjw i hi)]; exact h.cutw i hi
  · obtain ⟨e1, e2⟩ := hid id hne
    rw [e2]
    exact h.t1 id (by rw [e1]; exact hne) (fun i h1 h2 h3 => hall i h1 (hup i h2) h3) (fun i h1 h2 => hall2 i (hup i h1) h2)
  · obtain ⟨e1, e2⟩ := hid _ h4
    rw [e2]
    rcases hD.of h2 with e | hd
    · subst e
      have := h.u i h3 hr.no
      rw [ha h3, this] at h4
      exact absurd rfl h4
    · exact h.t2 i h1 hd h3 (by rw [e1]; exact h4)
  · obtain ⟨e1, e2⟩ := hid _ h4
    rw [e2]
    rcases hD.of h1 with e | hd
    · exact absurd (e ▸ h2) hks
    · exact h.t4 i b hd h2 h3 (by rw [e1]; exact h4)
  · have := h.u i h1 (hD.false h2)
    have hlt : s0.next + i < R.next := by
      obtain ⟨o', ho', _⟩ := h1
      have := (Array.getElem?_eq_some_iff.1 ho').1
      have := h.snext
      rw [hn, h.t3]; omega
    rw [k.dom _ (.inl hlt)]; exact this

/-- the memory ahead of an operation of class w, in the written order, against what there is -/
theorem HI.sub_w (h : HI X ops E S σ0 s0 w0 D m σ T w) (ht : Tr0 X ex ops s0.next E S) (hL : Late X ops s0.next E) (hok : Ok X ops) (hnone : ∀ i, m ≤ i → kA X ops i → (S m).look (s0.next + i) = none) {j : Nat} {o : Oper} (hr : Rdy ops D j o) (hk : kW X ops j) :
    m ≤ j ∧ (S j).next = T.next ∧ (S j).base = s0.base ∧ (∀ i, i < s0.next → s0.look i = none → (S j).look i = none) ∧ (∀ i p b, σ i = some p → (S j).look i = some b → T.look i = some b) ∧
      (∀ i, j < i → kA X ops i → (S j).look (s0.next + i) = none) ∧ (∀ id, σ id ≠ none → (S j).look id = none → (∀ i, j < i → D i = true → kA X ops i → id ≠ s0.next + i) → T.look id = none) := by
  have hjlt : j < ops.size := (Array.getElem?_eq_some_iff.1 hr.op).1
  have hkj : cls X o.op = .w ∧ late X ops j = false := by obtain ⟨o', ho', h1, h2⟩ := hk; rw [hr.op] at ho'; cases ho'; exact ⟨h1, h2⟩
  have hnl : ∀ i, D i = true → ¬ kS X ops i := hr.noLate (by rw [hkj.1]; simp) (by rw [hkj.1]; simp) hkj.2
  have hmj : m ≤ j := by
    refine Nat.le_of_not_lt fun hlt => ?_
    have := (h.cutw j hk).2 hlt
    rw [hr.no] at this; cases this
  have hnw : ∀ i, m ≤ i → i < j → ¬ kW X ops i := by
    intro i h1 h2 hki
    obtain ⟨oi, hoi, _⟩ := id hki
    have hb : bef ops i j = true := by
      rcases hok.pair i j oi o h2 hoi hr.op with hb | ⟨_, _, hne, _⟩
      · exact hb
      · exact absurd ⟨hki, hk⟩ hne
    have := (h.cutw i hki).1 (hr.bef hb)
    omega
  have hns : ∀ i, i < j → ¬ kS X ops i := by
    intro i hij hs
    obtain ⟨oi, hoi, _⟩ := kS_spec hs
    rcases hok.pair i j oi o hij hoi hr.op with hb | ⟨_, _, _, hne, _⟩
    · exact hnl i (hr.bef hb) hs
    · exact hne ⟨hs, hk⟩
  have haD : ∀ i, i < j → kA X ops i → D i = true := by
    intro i h2 hki
    obtain ⟨oi, hoi, _⟩ := id hki
    rcases hok.pair i j oi o h2 hoi hr.op with hb | ⟨_, hne, _⟩
    · exact hr.bef hb
    · exact absurd ⟨hki, hk⟩ hne
  obtain ⟨d, rfl⟩ : ∃ d, j = m + d := ⟨j - m, by omega⟩
  obtain ⟨b1, b2, b3, b4, _⟩ := ht.between hL m d (by omega) hnw
  have b3 : ∀ id, (∀ i, m ≤ i → i < m + d → kA X ops i → id ≠ s0.next + i) → (S (m + d)).look id = (S m).look id := fun id h1 => b3 id h1 fun i _ h3 h4 => absurd h4 (hns i h3)
  have ht1 : ∀ id, σ id ≠ none → (∀ i, m ≤ i → D i = true → kA X ops i → id ≠ s0.next + i) → T.look id = (S m).look id := fun id h1 h2 => h.t1 id h1 h2 fun i h3 h4 => absurd h4 (hnl i h3)
  -- what stands at an id
  have at_ : ∀ id, (∃ i, m ≤ i ∧ i < m + d ∧ kA X ops i ∧ id = s0.next + i) ∨ (S (m + d)).look id = (S m).look id := by
    intro id
    by_cases hx : ∃ i, m ≤ i ∧ i < m + d ∧ kA X ops i ∧ id = s0.next + i
    · exact .inl hx
    · exact .inr (b3 id fun i h1 h2 h3 e => hx ⟨i, h1, h2, h3, e⟩)
  have hlate : ∀ i, m + d < i → kA X ops i → (S (m + d)).look (s0.next + i) = none := by
    intro i hi ha
    rw [b3 _ (fun i' h1 h2 h3 e => by omega)]
    exact hnone i (by omega) ha
  refine ⟨hmj, by rw [b1, h.t3], by rw [b2, h.sbase], fun i hi hl => ?_, fun id p b hp hb => ?_, hlate, fun id hne hl hall => ?_⟩
  · rw [b3 i fun i' _ _ _ e => by omega]
    exact h.sdead i hi hl
  · rcases at_ id with ⟨i, h1, h2, h3, rfl⟩ | he
    · rw [h.t2 i h1 (haD i h2 h3) h3 (by rw [hp]; simp), ← b4 i h1 h2 h3]; exact hb
    · rw [ht1 id (by rw [hp]; simp) ?_, ← he]
      · exact hb
      · rintro i h1 h2 h3 rfl
        have := hnone i h1 h3
        rw [← he, hb] at this; cases this
  · rcases at_ id with ⟨i, h1, h2, h3, rfl⟩ | he
    · rw [h.t2 i h1 (haD i h2 h3) h3 hne, ← b4 i h1 h2 h3]; exact hl
    · by_cases hx : ∃ i, m ≤ i ∧ D i = true ∧ kA X ops i ∧ id = s0.next + i
      · obtain ⟨i, h1, h2, h3, rfl⟩ := hx
        rcases Nat.lt_trichotomy i (m + d) with hlt | heq | hgt
        · rw [h.t2 i h1 h2 h3 hne, ← b4 i h1 hlt h3]; exact hl
        · subst heq; rw [hr.no] at h2; cases h2
        · exact absurd rfl (hall i hgt h2 h3)
      · rw [ht1 id hne fun i h1 h2 h3 e => hx ⟨i, h1, h2, h3, e⟩, ← he]; exact hl

/-- an operation of class w -/
theorem HI.wr (h : HI X ops E S σ0 s0 w0 D m σ T w) (ht : Tr0 X ex ops s0.next E S) (hL : Late X ops s0.next E) (hok : Ok X ops) (hnone : ∀ i, m ≤ i → kA X ops i → (S m).look (s0.next + i) = none) {j : Nat} {o : Oper} (hr : Rdy ops D j o) (hD : Adds D D' j) (hk : kW X ops j)
    (k : Good σ (S j) w σ' (S (j + 1)) w') : HI X ops E S σ0 s0 w0 D' (j + 1) σ' (mix σ T (S j) (S (j + 1))) w' := by
  obtain ⟨a1, a2, a3, a4, a5, a6, a7⟩ := h.sub_w ht hL hok hnone hr hk
  have hjlt : j < ops.size := (Array.getElem?_eq_some_iff.1 hr.op).1
  have hkj : cls X o.op = .w ∧ late X ops j = false := by obtain ⟨o', ho', h1, h2⟩ := hk; rw [hr.op] at ho'; cases ho'; exact ⟨h1, h2⟩
  have hnl : ∀ i, D i = true → ¬ kS X ops i := hr.noLate (by rw [hkj.1]; simp) (by rw [hkj.1]; simp) hkj.2
  have hnx : s0.next + ops.size ≤ (S j).next := by rw [a2, h.t3]; exact h.snext
  have hfresh : ∀ id, σ' id ≠ none → id < (S j).next → σ id = σ' id := fun id _ hlt => (k.dom id (.inl hlt)).symm
  refine ⟨frame h.gd a5 a2 k, hjlt, fun i hi => ?_, .inr ⟨j, rfl, hk⟩, fun id hne hall _ => ?_, fun i h1 h2 h3 h4 => ?_, rfl, fun i b h1 h2 _ _ => ?_, fun i h1 h2 => ?_, fun i hi hl => ?_, by rw [k.glob, a3], ?_⟩
  · have hki := hi
    obtain ⟨oi, hoi, _⟩ := hi
    rcases Nat.lt_trichotomy i j with hlt | heq | hgt
    · rw [hD.2 i (by omega)]
      have : D i = true := by
        rcases hok.pair i j oi o hlt hoi hr.op with hb | ⟨_, _, hne, _⟩
        · exact hr.bef hb
        · exact absurd ⟨hki, hk⟩ hne
      simp [this]; omega
    · subst heq; simp [hD.1]
    · rw [hD.2 i (by omega)]
      have : D i = false := by
        cases hd : D i with
        | false => rfl
        | true =>
          have hb := hr.notBef hd
          rcases hok.pair j i o oi hgt hr.op hoi with hb' | ⟨_, _, hne, _⟩
          · rw [hb] at hb'; cases hb'
          · exact absurd ⟨hk, hki⟩ hne
      simp [this]; omega
  · rw [mix_look]
    split
    · rename_i hc
      have he := hfresh id hne hc.1
      rcases hc.2 with hs | hl
      · rw [he] at hs; exact absurd hs hne
      · rw [k.dead id hc.1 hl]
        refine a7 id (by rw [he]; exact hne) hl fun i hi hd ha e => hall i hi ?_ ha e
        rw [hD.2 i (by omega)]; exact hd
    · rfl
  · have hilt : i < ops.size := by obtain ⟨o', ho', _⟩ := h3; exact (Array.getElem?_eq_some_iff.1 ho').1
    have hd : D i = true := by rw [hD.2 i (by omega)] at h2; exact h2
    have he := hfresh _ h4 (by omega)
    rw [mix_look, if_pos ⟨by omega, .inr (a6 i (by omega) h3)⟩]
    exact h.t2 i (by omega) hd h3 (by rw [he]; exact h4)
  · rcases hD.of h1 with e | hd
    · exact absurd (e ▸ h2) (kW_notS hk)
    · exact absurd h2 (hnl i hd)
  · have hilt : i < ops.size := by obtain ⟨o', ho', _⟩ := h1; exact (Array.getElem?_eq_some_iff.1 ho').1
    rw [k.dom _ (.inl (by omega))]
    exact h.u i h1 (hD.false h2)
  · exact k.dead i (by omega) (a4 i hi hl)
  · have := k.next; omega

/-- an operation that makes a block -/
theorem HI.al (h : HI X ops E S σ0 s0 w0 D m σ T w) (hL : Late X ops s0.next E) (hok : Ok X ops) {j : Nat} {o : Oper} (hr : Rdy ops D j o) (hD : Adds D D' j) (hk : cls X o.op = .a) {b : Blk} (hb : b ≠ .gone) (hS : (S (j + 1)).look (s0.next + j) = some b)
    (k : Good σ { T with next := s0.next + j } w σ' (St.new { T with next := s0.next + j } b) w') :
    HI X ops E S σ0 s0 w0 D' m σ' (ofLook (fun i => if i = s0.next + j then some b else T.look i) T.next) w' := by
  have hjlt : j < ops.size := (Array.getElem?_eq_some_iff.1 hr.op).1
  have hnx := h.snext
  have hka : kA X ops j := ⟨o, hr.op, hk⟩
  have hlook : ∀ id, (ofLook (fun i => if i = s0.next + j then some b else T.look i) T.next).look id = if id = s0.next + j then some b else T.look id := by
    intro id
    rw [ofLook_look]
    intro c' hc
    split at hc
    · cases hc; exact hb
    · exact look_ne_gone _ _ _ hc
  have hdom : ∀ id, id ≠ s0.next + j → σ' id = σ id := fun id hne => by
    refine k.dom id ?_
    rcases Nat.lt_trichotomy id (s0.next + j) with hlt | heq | hgt
    · exact .inl hlt
    · exact absurd heq hne
    · exact .inr (show s0.next + j + 1 ≤ id by omega)
  have hjw : ∀ i, kW X ops i → i ≠ j := fun i ⟨o', ho', hc, _⟩ e => by
    subst e; rw [hr.op] at ho'; cases ho'; rw [hk] at hc; cases hc
  have hjs : ¬ kS X ops j := fun hs => by
    obtain ⟨o', ho', _, _, hc, _⟩ := kS_spec hs
    rw [hr.op] at ho'; cases ho'; rw [hk] at hc; cases hc
  have hup : ∀ i, D i = true → D' i = true := fun i hi => by
    by_cases e : i = j
    · subst e; exact hD.1
    · rw [hD.2 i e]; exact hi
  have hmj : m ≤ j := by
    rcases h.mw with e | ⟨l, rfl, hl⟩
    · omega
    · refine Nat.le_of_not_lt fun hlt => ?_
      have hDl : D l = true := (h.cutw l hl).2 (by omega)
      have hjl : j ≠ l := fun e => hjw l hl e.symm
      have hb := hr.notBef hDl
      obtain ⟨ol, hol, _⟩ := id hl
      rcases hok.pair j l o ol (by omega) hr.op hol with hb' | ⟨_, hne, _⟩
      · rw [hb] at hb'; cases hb'
      · exact hne ⟨hka, hl⟩
  refine ⟨h.gd.addA hb (by omega) (by rw [h.t3]; omega) k, h.mN, fun i hi => ?_, h.mw, fun id hne hall hall2 => ?_, fun i h1 h2 h3 h4 => ?_, h.t3, fun i b' h1 h2 h3 h4 => ?_, fun i h1 h2 => ?_, h.sdead, h.sbase, h.snext⟩
  · rw [hD.2 i (hjw i hi)]; exact h.cutw i hi
  · have hidj : id ≠ s0.next + j := hall j hmj hD.1 hka
    rw [hlook, if_neg hidj]
    exact h.t1 id (by rw [← hdom id hidj]; exact hne) (fun i h1 h2 h3 => hall i h1 (hup i h2) h3) (fun i h1 h2 => hall2 i (hup i h1) h2)
  · by_cases e : i = j
    · subst e; rw [hlook, if_pos rfl, hS]
    · rw [hlook, if_neg (by omega)]
      refine h.t2 i h1 ?_ h3 (by rw [← hdom _ (by omega)]; exact h4)
      rw [hD.2 i e] at h2; exact h2
  · have hij : i ≠ j := fun e => hjs (e ▸ h2)
    obtain ⟨b2, e2, hrange⟩ := hL.some i h2
    rw [h3] at e2; cases e2
    rw [hlook, if_neg (by omega)]
    exact h.t4 i b' (by rw [hD.2 i hij] at h1; exact h1) h2 h3 (by rw [← hdom _ (by omega)]; exact h4)
  · have : i ≠ j := by rintro rfl; rw [hD.1] at h2; cases h2
    rw [hdom _ (by omega)]
    exact h.u i h1 (hD.false h2)

/-- what a late store finds -/
theorem HI.find_late (h : HI X ops E S σ0 s0 w0 D m σ T w) (ht : Tr0 X ex ops s0.next E S) (hL : Late X ops s0.next E) (hok : Ok X ops) {j : Nat} {o : Oper} (hr : Rdy ops D j o) (hk : kS X ops j) {b : Nat} (hb : lb X ops E j = some b) (hσ : σ b ≠ none) : T.look b = (S j).look b := by
  have hjlt : j < ops.size := (Array.getElem?_eq_some_iff.1 hr.op).1
  obtain ⟨b2, e2, hrange⟩ := hL.some j hk
  rw [hb] at e2; cases e2
  obtain ⟨oj, hoj, _, _, _, hall⟩ := kS_spec hk
  have hwD : ∀ i, kW X ops i → i < m := by
    intro i hi
    refine (h.cutw i hi).1 ?_
    obtain ⟨oi, hoi, hc, hl⟩ := id hi
    have hne : i ≠ j := fun e => kW_notS hi (e ▸ hk)
    rcases hall i oi hne hoi with hb' | hb' | hb' | hb'
    · exact hr.bef hb'
    · rw [hl] at hb'; cases hb'
    · rw [hc] at hb'; cases hb'
    · rw [hc] at hb'; cases hb'
  have hmj : m ≤ j := by
    rcases h.mw with e | ⟨l, rfl, hl⟩
    · omega
    · refine Nat.le_of_not_lt fun hlt => ?_
      have hne : l ≠ j := fun e => kW_notS hl (e ▸ hk)
      obtain ⟨ol, hol, hc, hll⟩ := id hl
      rcases hall l ol hne hol with hb' | hb' | hb' | hb'
      · have := hok.bef_lt j l hb'
        omega
      · rw [hll] at hb'; cases hb'
      · rw [hc] at hb'; cases hb'
      · rw [hc] at hb'; cases hb'
  rw [h.t1 b hσ (fun i _ _ hka e => by
      obtain ⟨o', ho', _⟩ := hka
      have := (Array.getElem?_eq_some_iff.1 ho').1
      omega) (fun i hi hs e => by
      by_cases hij : i = j
      · subst hij; rw [hr.no] at hi; cases hi
      · exact hL.ne i j hs hk hij (by rw [e, hb]))]
  obtain ⟨d, hd⟩ : ∃ d, j = m + d := ⟨j - m, by omega⟩
  obtain ⟨_, _, b3, _, _⟩ := ht.between hL m d (by omega) (fun i h1 _ hw => by have := hwD i hw; omega)
  rw [hd]
  refine (b3 b (fun i _ h2 hka e => ?_) (fun i _ h2 hs e => ?_)).symm
  · obtain ⟨o', ho', _⟩ := hka
    have := (Array.getElem?_eq_some_iff.1 ho').1
    omega
  · exact hL.ne i j hs hk (by omega) (by rw [e, hb])

/-- a late store -/
theorem HI.st (h : HI X ops E S σ0 s0 w0 D m σ T w) (hL : Late X ops s0.next E) {j : Nat} {o : Oper} (hr : Rdy ops D j o) (hD : Adds D D' j) (hk : kS X ops j) {b : Nat} (hb : lb X ops E j = some b) (hσ : σ b ≠ none) {k0 k' : Blk} (hT : T.look b = some k0) (hk' : k' ≠ .gone) (hS : (S (j + 1)).look b = some k')
    (k : Good σ T w σ' (T.put b k') w') : HI X ops E S σ0 s0 w0 D' m σ' (mix σ T T (T.put b k')) w' := by
  have hdom : ∀ id, σ' id = σ id := fun id => k.dom id (by
    show id < T.next ∨ T.next ≤ id
    omega)
  have hlook : ∀ id, σ id ≠ none → (mix σ T T (T.put b k')).look id = if b = id then some k' else T.look id := by
    intro id hne
    have hlt : id < T.next := Nat.lt_of_not_le fun hge => hne (h.gd.fresh id hge)
    rw [mix_look]
    by_cases e : b = id
    · subst e
      rw [if_neg (fun hc => by
        rcases hc.2 with h1 | h1
        · exact hne h1
        · rw [hT] at h1; cases h1), St.look_put, if_pos rfl, if_pos rfl]
      cases k' <;> first | rfl | exact absurd rfl hk'
    · rw [if_neg e]
      split
      · rfl
      · rw [St.look_put, if_neg e]
  have hjw : ∀ i, kW X ops i → i ≠ j := fun i hi e => kW_notS hi (e ▸ hk)
  have hja : ∀ i, kA X ops i → i ≠ j := fun i ⟨o', ho', hc⟩ e => by
    subst e
    obtain ⟨o2, ho2, _, _, hc2, _⟩ := kS_spec hk
    rw [ho'] at ho2; cases ho2; rw [hc] at hc2; cases hc2
  have hup : ∀ i, D i = true → D' i = true := fun i hi => by
    by_cases e : i = j
    · subst e; exact hD.1
    · rw [hD.2 i e]; exact hi
  obtain ⟨b2, e2, hrange⟩ := hL.some j hk
  rw [hb] at e2; cases e2
  refine ⟨frame h.gd (fun _ _ _ _ hb => hb) rfl k, h.mN, fun i hi => ?_, h.mw, fun id hne hall hall2 => ?_, fun i h1 h2 h3 h4 => ?_, h.t3, fun i b' h1 h2 h3 h4 => ?_, fun i h1 h2 => ?_, h.sdead, h.sbase, h.snext⟩
  · rw [hD.2 i (hjw i hi)]; exact h.cutw i hi
  · have hne' : σ id ≠ none := by rw [← hdom id]; exact hne
    rw [hlook id hne', if_neg (fun e => hall2 j hD.1 hk (by rw [hb, e]))]
    exact h.t1 id hne' (fun i h1 h2 h3 => hall i h1 (hup i h2) h3) (fun i h1 h2 => hall2 i (hup i h1) h2)
  · have h4' : σ (s0.next + i) ≠ none := by rw [← hdom]; exact h4
    have hilt : i < ops.size := by obtain ⟨o', ho', _⟩ := h3; exact (Array.getElem?_eq_some_iff.1 ho').1
    rw [hlook _ h4', if_neg (by omega)]
    exact h.t2 i h1 (by rw [hD.2 i (hja i h3)] at h2; exact h2) h3 h4'
  · have h4' : σ b' ≠ none := by rw [← hdom]; exact h4
    rw [hlook _ h4']
    by_cases e : i = j
    · subst e
      rw [hb] at h3; cases h3
      rw [if_pos rfl, hS]
    · rw [if_neg (fun e' => hL.ne i j h2 hk e (by rw [h3, hb, e']))]
      exact h.t4 i b' (by rw [hD.2 i e] at h1; exact h1) h2 h3 h4'
  · rw [hdom]; exact h.u i h1 (hD.false h2)

end
end Go.Am
