/- A part of the proof of a statement of this seat: the machine on which the program is read, and what it computes; for every input. -/
import Derived.Test.YtikiipfbkfgmbaaGreatDoorS05
set_option linter.all false
namespace Go.Am
open Go
variable [MaxLen]
set_option maxRecDepth 100000
set_option maxHeartbeats 8000000

/-! # Copies; rows in the heap -/
theorem k215' (args : List AV) (s : St) : callK U (calV U 215 args) 215 args s = cal U 215 args s := (callK_eq U 215 args s).symm
theorem grab_seg : ∀ (k f : Nat) (l : List AV), f + k ≤ l.length → grab k f l = some ((l.drop f).take k)
  | 0, f, l, _ => by rw [grab_zero]; simp
  | k + 1, f, [], h => by simp at h
  | k + 1, 0, x :: l, h => by
    rw [grab_head, grab_seg k 0 l (by simp at h ⊢; omega)]
    rfl
  | k + 1, f + 1, x :: l, h => by
    rw [grab_tail, grab_seg (k + 1) f l (by simp at h ⊢; omega)]
    rfl
theorem nats_drop (L : List Nat) (f k : Nat) : ((nats L).drop f).take k = nats ((L.drop f).take k) := by
  unfold nats nIs ints
  simp only [List.map_drop, List.map_take]
theorem appD_slk {t : TypeId} {n m : Nat} {new : List AV} {b len k : Nat} {s : St} {cs : List AV} {lo hi : Nat} (hg : s.get b = some (.cells cs t false lo hi)) (hl : cs.length = len * n) (hk : ¬ len + m ≤ k) :
    appD t n m new (.sl b 0 len (some k) n) s = some (.sl s.next 0 (len + m) none n, s.new (.cells (cs ++ new) t false 0 0)) := by
  simp only [appD, St.cells, hg]
  rw [← hl, grab_all]
  simp only
  rw [if_neg hk]
theorem eqn40 (b o l z : Nat) (c : Option Nat) : binA U .eql 40 true (.sl b o l c z) .nils = some (.bool false) := by
  have h : U.und 40 = some (.slice 3) := by kernel_rfl
  simp only [binA, eqTop, eqT, h]
theorem c215 {s : St} {b f k : Nat} {cap : Option Nat} {L : List Nat} (hg : s.get b = some (.cells (nats L) 3 false 0 0)) (hb : b < s.next) (hf : f + k ≤ L.length) (hk : 0 < k) (hL : L.length ≤ 2 ^ 20) :
    cal U 215 [.sl b f k cap 1] s = some (.sl (s.next + 1) 0 k none 1, (s.new (.cells [] 3 false 0 0)).new (.cells (nats ((L.drop f).take k)) 3 false 0 0)) := by
  refine kept_go k215 (by kernel_rfl) ?_
  have hgr : grab k f (nats L) = some (nats ((L.drop f).take k)) := by rw [grab_seg _ _ _ (by rw [nats_len]; omega), nats_drop]
  have hsr : ∀ S : St, S.get b = some (.cells (nats L) 3 false 0 0) → sourceA 1 (.sl b f k cap 1) S = some (k, nats ((L.drop f).take k)) := fun S h => by
    rw [source_sl, Nat.mul_one, h]
    simp only [srcK, cellsOf, hgr, srcG]
  have hl : (nats ((L.drop f).take k)).length = k * 1 := by rw [nats_len]; simp; omega
  have hap : ∀ S : St, S.get s.next = some (.cells [] 3 false 0 0) → appK 3 1 8 (.sl s.next 0 0 (some 0) 1) (some (k, nats ((L.drop f).take k))) S = some (.sl S.next 0 (0 + k) none 1, S.new (.cells ([] ++ nats ((L.drop f).take k)) 3 false 0 0)) := fun S h => by
    rw [appK_some hl (by simp only [lenA_sl]; omega) (by simp only [lenA_sl]; omega) (by omega), appD_slk h rfl (by omega)]
  have z : (s.next = b) = False := by simp; omega
  simp (config := { maxSteps := 2000000 }) +contextual only [go_sem, ↓reduceIte, r215, eqn40, hg, hsr, hap, z, Nat.zero_add, List.nil_append]
/-- a row of numbers; its block may be longer than it -/
def SlJ (s : St) (N : Nat) (L : List Nat) (v : AV) : Prop := (v = .nils ∧ L = []) ∨ ∃ b R, v = .sl b 0 L.length none 1 ∧ s.get b = some (.cells (nats (L ++ R)) 3 false 0 0) ∧ N ≤ b ∧ b < s.next
theorem SlJ.keep {s s' : St} {N : Nat} {L : List Nat} {v : AV} (h : SlJ s N L v) (hn : s.next ≤ s'.next) (hg : ∀ j, j < s.next → N ≤ j → isB v j → s'.get j = s.get j) : SlJ s' N L v := by
  rcases h with h | ⟨b, R, h1, h2, h3, h4⟩
  · exact .inl h
  · exact .inr ⟨b, R, h1, by rw [hg b h4 h3 ⟨_, h1⟩]; exact h2, h3, by omega⟩
theorem SlJ.lt {s : St} {N : Nat} {L : List Nat} {v : AV} (h : SlJ s N L v) {j : Nat} (hj : isB v j) : N ≤ j ∧ j < s.next := by
  rcases h with ⟨h, _⟩ | ⟨b, R, h1, h2, h3, h4⟩
  · rw [h] at hj; exact absurd hj (isB_nils j)
  · rw [h1, isB_sl] at hj; subst hj; exact ⟨h3, h4⟩
theorem SlJ.lenA {s : St} {N : Nat} {L : List Nat} {v : AV} (h : SlJ s N L v) : Go.Am.lenA v = L.length := by
  rcases h with ⟨rfl, rfl⟩ | ⟨b, R, rfl, h2, h3, h4⟩ <;> rfl
theorem SlJ.lenL {s : St} {N : Nat} {L : List Nat} {v : AV} (h : SlJ s N L v) : lenRL v = some (.int .i64 L.length) := by
  rcases h with ⟨rfl, rfl⟩ | ⟨b, R, rfl, h2, h3, h4⟩ <;> rfl
theorem SlJ.app {s : St} {N : Nat} {L : List Nat} {v : AV} (h : SlJ s N L v) (hN : N ≤ s.next) (k : Nat) :
    ∃ s1, appD 3 1 1 [.int .i64 (k : Int)] v s = some (.sl s.next 0 (L.length + 1) none 1, s1) ∧ s1.next = s.next + 1 ∧ SlJ s1 N (L ++ [k]) (.sl s.next 0 (L.length + 1) none 1) ∧ (∀ j, j < s.next → ¬ isB v j → s1.get j = s.get j) ∧ (Fr s → Fr s1) := by
  rcases h with ⟨rfl, rfl⟩ | ⟨b, R, rfl, h2, h3, h4⟩
  · refine ⟨_, appD_nils _ _ _ _ _, rfl, .inr ⟨s.next, [], rfl, ?_, hN, by rw [next_new]; omega⟩, fun j hj _ => by rw [get_new, if_neg (by omega)], fun hf => hf.new _⟩
    rw [get_new, if_pos rfl]; rfl
  · have e : (nats (L ++ R)).take (L.length * 1) = nats L := by
      unfold nats nIs ints
      rw [List.map_append, List.map_append, Nat.mul_one, List.take_left' (by simp)]
    refine ⟨(s.put b .gone).new (.cells (nats (L ++ [k])) 3 false 0 0), ?_, rfl, .inr ⟨s.next, [], by simp, ?_, hN, by rw [next_new, next_put]; omega⟩, fun j hj hb => ?_, fun hf => (hf.put h4 _).new _⟩
    · rw [appD_sl, h2]
      have hgr : grab (L.length * 1) 0 (nats (L ++ R)) = some (nats L) := by
        rw [grab_seg _ _ _ (by rw [nats_len]; simp), List.drop_zero, e]
      simp only [appS, hgr]
      rw [if_pos ⟨trivial, by omega, trivial, rfl⟩, nats_app]
    · rw [get_new, next_put, if_pos rfl, List.append_nil]
    · rw [isB_sl] at hb
      rw [get_new, next_put, if_neg (by omega), get_put, if_neg hb]
theorem SlJ.get {s : St} {N : Nat} {L : List Nat} {v : AV} (h : SlJ s N L v) {i : Nat} (hi : i < L.length) :
    ∃ b R, v = .sl b 0 L.length none 1 ∧ s.get b = some (.cells (nats (L ++ R)) 3 false 0 0) ∧ (nats (L ++ R))[i]? = some (.int .i64 (L[i] : Nat)) := by
  rcases h with ⟨rfl, rfl⟩ | ⟨b, R, rfl, h2, h3, h4⟩
  · simp at hi
  · refine ⟨b, R, rfl, h2, ?_⟩
    rw [nats_get (by simp; omega), gt_left hi, gt_get hi]
end Go.Am

set_option linter.all false
namespace Go.Am
open Go
variable [MaxLen]
set_option maxRecDepth 100000
set_option maxHeartbeats 8000000

/-! # Marks of all states before a set -/
/-- a row that stays -/
def RowB (s : St) (L : List Nat) (v : AV) : Prop := (v = .nils ∧ L = []) ∨ ∃ b, v = .sl b 0 L.length none 1 ∧ s.get b = some (.cells (nats L) 3 false 0 0) ∧ b < s.next
theorem RowB.keep {s s' : St} {L : List Nat} {v : AV} (h : RowB s L v) (hn : s.next ≤ s'.next) (hg : ∀ j, j < s.next → isB v j → s'.get j = s.get j) : RowB s' L v := by
  rcases h with h | ⟨b, h1, h2, h4⟩
  · exact .inl h
  · exact .inr ⟨b, h1, by rw [hg b h4 ⟨_, h1⟩]; exact h2, by omega⟩
theorem RowB.lenL {s : St} {L : List Nat} {v : AV} (h : RowB s L v) : lenRL v = some (.int .i64 L.length) := by
  rcases h with ⟨rfl, rfl⟩ | ⟨b, rfl, h2, h4⟩ <;> rfl
/-- a block apart from the partition's -/
def NotP (pb bl bp bs bb be bm j : Nat) : Prop := j ≠ pb ∧ j ≠ bl ∧ j ≠ bp ∧ j ≠ bs ∧ j ≠ bb ∧ j ≠ be ∧ j ≠ bm
theorem PtI.ltA {s : St} {pb n bl bp bs bb be bm : Nat} {p : Pt} (h : PtI s pb n bl bp bs bb be bm p) : pb < s.next ∧ bl < s.next ∧ bp < s.next ∧ bs < s.next ∧ bb < s.next ∧ be < s.next ∧ bm < s.next :=
  ⟨h.lt _ (by simp), h.lt _ (by simp), h.lt _ (by simp), h.lt _ (by simp), h.lt _ (by simp), h.lt _ (by simp), h.lt _ (by simp)⟩
theorem l172c {β : Type} {fin : Fl → β} {ks : List K} {Post : β → Prop} {pb n bl bp bs bb be bm N : Nat} {p : Pt} {T us : List Nat} {tv vB : AV} {e : Env} {s : St} (hn : n ≤ 2 ^ 19) (h : PtI s pb n bl bp bs bb be bm p) (hw : p.Wf n) (hU : ∀ u ∈ us, u < n) (hul : us.length ≤ 2 ^ 20) (hTl : T.length + us.length ≤ 2 ^ 30)
    (g3 : Env.get e 3 = .ptr pb 0) (g13 : Env.get e 13 = tv) (g135 : Env.get e 135 = vB) (g136 : Env.get e 136 = .int .i64 us.length) (g137 : Env.get e 137 = .int .i64 (0 : Nat))
    (hT : SlJ s N T tv) (hTf : ∀ j, isB tv j → NotP pb bl bp bs bb be bm j) (hN : N ≤ s.next) (hB : RowB s us vB) (hBf : ∀ j, isB vB j → NotP pb bl bp bs bb be bm j ∧ ¬ isB tv j) (fr : Fr s)
    (hk : ∀ e' s' tv', (∀ t : Nat, t < 13 ∨ 17 < t ∧ t < 137 → Env.get e' t = Env.get e t) → Env.get e' 13 = tv' → PtI s' pb n bl bp bs bb be bm (markAll us p T).1 → SlJ s' N (markAll us p T).2 tv' → (∀ j, isB tv' j → isB tv j ∨ s.next ≤ j) →
      (∀ j, j < s.next → j ≠ bl → j ≠ bp → j ≠ bm → ¬ isB tv j → s'.get j = s.get j) → s.next ≤ s'.next → Fr s' → Post (goN U fin ks e' s')) :
    Post (goL U fin (.bk 12 :: ks) r172_l3 e s) := by
  refine loop_ex (σ := Nat) (fun i => us.length - i) (fun i e' s' => i ≤ us.length ∧ (∀ t : Nat, t < 13 ∨ 17 < t ∧ t < 137 → Env.get e' t = Env.get e t) ∧ Env.get e' 137 = .int .i64 (i : Nat) ∧ s.next ≤ s'.next ∧ Fr s' ∧
      ∃ p' T' tv', Env.get e' 13 = tv' ∧ PtI s' pb n bl bp bs bb be bm p' ∧ p'.Wf n ∧ markAll (us.drop i) p' T' = markAll us p T ∧ T'.length ≤ T.length + i ∧ SlJ s' N T' tv' ∧ (∀ j, isB tv' j → isB tv j ∨ s.next ≤ j) ∧ (∀ j, j < s.next → j ≠ bl → j ≠ bp → j ≠ bm → ¬ isB tv j → s'.get j = s.get j)) 0 ?_
    ⟨Nat.zero_le _, fun _ _ => rfl, g137, Nat.le_refl _, fr, p, T, tv, g13, h, hw, rfl, by omega, hT, fun j => .inl, fun _ _ _ _ _ _ => rfl⟩
  rintro Lp i e' s' ⟨hi, hold, q137, hnx, fr', p', T', tv', q13, P, hw', hmk, hlen, hT', hsub, hs⟩ IH
  have q3 := (hold 3 (by omega)).trans g3
  have q135 := (hold 135 (by omega)).trans g135
  have q136 := (hold 136 (by omega)).trans g136
  by_cases hd : i < us.length
  · have hwr := wrap_succ hd (by omega)
    have lts := h.ltA
    have B2 := hB.keep hnx fun j h1 h2 => by obtain ⟨h3, h4⟩ := hBf j h2; unfold NotP at h3; exact hs j h1 (by omega) (by omega) (by omega) h4
    obtain ⟨b, rfl, hg, hb⟩ : ∃ b, vB = .sl b 0 us.length none 1 ∧ s'.get b = some (.cells (nats us) 3 false 0 0) ∧ b < s'.next := by
      rcases B2 with ⟨_, h⟩ | h
      · rw [h] at hd; simp at hd
      · exact h
    have o1 := nats_get (l := us) (i := i) hd
    have hu := hU _ (List.getElem_mem hd)
    rw [gt_get hd] at o1
    rw [List.drop_eq_getElem_cons hd, markAll] at hmk
    generalize us[i] = u at *
    obtain ⟨s2, c1, P2, c2, c3, c4⟩ := c216 P hw' (by omega) fr' hu
    obtain ⟨m1, m2, m3, m4, m5, m6, m7⟩ := markd_spec hw' hu
    have T2 := hT'.keep c2 fun j h1 h2 h3 => by
      have : NotP pb bl bp bs bb be bm j := by
        rcases hsub j h3 with h4 | h4
        · exact hTf j h4
        · unfold NotP; omega
      unfold NotP at this
      exact c4 j h1 (by omega) (by omega) (by omega)
    have fs : ∀ j, j < s.next → j ≠ bl → j ≠ bp → j ≠ bm → ¬ isB tv j → s2.get j = s.get j := fun j h1 h2 h3 h4 h5 => by rw [c4 j (by omega) h2 h3 h4, hs j h1 h2 h3 h4 h5]
    cases hb2 : (p'.markd u).2 with
    | false =>
      rw [hb2] at c1 hmk
      rw [cond_false] at hmk
      simp (config := { maxSteps := 2000000 }) +contextual only [go_sem, ↓reduceIte, r172_l3, q3, q135, q136, q137, nat_lt_dec, hd, hg, o1, k216', c1, hwr, Nat.mul_one]
      refine IH (i + 1) _ _ (by omega) ⟨by omega, fun t ht => ?_, ?_, by omega, c3, _, T', tv', ?_, P2, m1, hmk, by omega, T2, hsub, fs⟩
      · have hne : ∀ k : Nat, 137 ≤ k → (k = t) = False := fun k hk => by simp; omega
        have hne17 : (17 = t) = False := by simp; omega
        simp +contextual only [go_sem, ↓reduceIte, hne, hne17]
        exact hold t ht
      · simp +contextual only [go_sem, ↓reduceIte]
      · simp +contextual only [go_sem, ↓reduceIte, q13]
    | true =>
      rw [hb2] at c1 hmk
      rw [cond_true] at hmk
      have hst : gt p'.set u = gt (p'.markd u).1.set u := by rw [m2]
      have lsu := m1.ls
      have o2 := nats_get (l := (p'.markd u).1.set) (i := u) (by omega)
      have hlA := T2.lenA
      have hb5 : (T'.length + 1) * 8 ≤ 1099511627776 := by omega
      have hb6 : T'.length + 1 ≤ 1099511627776 := by omega
      simp (config := { maxSteps := 2000000 }) +contextual only [go_sem, ↓reduceIte, r172_l3, q3, q13, q135, q136, q137, nat_lt_dec, hd, hg, o1, k216', c1, hwr, Nat.mul_one, Nat.one_mul, P2.g, P2.gs, o2, hu, lsu, appK_some, Nat.reducePow, hlA, hb5, hb6]
      have T3 : SlJ (s2.new (.cells [.int .i64 ((gt (p'.markd u).1.set u : Nat) : Int)] 3 false 0 0)) N T' tv' := T2.keep (by rw [next_new]; omega) fun j h1 _ _ => by rw [get_new, if_neg (by omega)]
      obtain ⟨s4, d1, d2, d3, d4, d5⟩ := T3.app (by rw [next_new]; omega) (gt (p'.markd u).1.set u)
      rw [next_new] at d1 d2 d3 d4
      rw [d1]
      simp (config := { maxSteps := 2000000 }) +contextual only [go_sem, ↓reduceIte, q137, hwr]
      rw [← hst] at d3
      have k4 : ∀ j, j < s2.next → ¬ isB tv' j → s4.get j = s2.get j := fun j h1 h2 => by rw [d4 j (by omega) h2, get_new, if_neg (by omega)]
      have hP : ∀ j, isB tv' j → NotP pb bl bp bs bb be bm j := fun j hj => by
        rcases hsub j hj with h4 | h4
        · exact hTf j h4
        · unfold NotP; omega
      refine IH (i + 1) _ _ (by omega) ⟨by omega, fun t ht => ?_, ?_, by omega, d5 (c3.new _), _, T' ++ [gt p'.set u], .sl (s2.next + 1) 0 (T'.length + 1) none 1, ?_, P2.mono (by omega) fun j hj => k4 j (P2.lt j hj) fun hb => ?_, m1, hmk, by simp; omega, d3, fun j hj => ?_, fun j h1 h2 h3 h4 h5 => ?_⟩
      · have hne : ∀ k : Nat, 137 ≤ k → (k = t) = False := fun k hk => by simp; omega
        have hne17 : (17 = t) = False := by simp; omega
        have hne13 : (13 = t) = False := by simp; omega
        simp +contextual only [go_sem, ↓reduceIte, hne, hne17, hne13]
        exact hold t ht
      · simp +contextual only [go_sem, ↓reduceIte]
      · simp +contextual only [go_sem, ↓reduceIte]
      · have := hP j hb
        unfold NotP at this
        simp only [List.mem_cons, List.not_mem_nil, or_false] at hj
        omega
      · rw [isB_sl] at hj; omega
      · by_cases hb : isB tv' j
        · rcases hsub j hb with h6 | h6
          · exact absurd h6 h5
          · omega
        · rw [k4 j (by omega) hb, fs j h1 h2 h3 h4 h5]
  · have : i = us.length := by omega
    subst this
    rw [List.drop_length, markAll] at hmk
    rw [← hmk] at hk
    simp (config := { maxSteps := 2000000 }) +contextual only [go_sem, ↓reduceIte, r172_l3, q136, q137, nat_lt_dec, Nat.lt_irrefl]
    refine hk _ _ tv' (fun t ht => ?_) ?_ P hT' hsub hs hnx fr'
    · have hne : ∀ k : Nat, 137 ≤ k → (k = t) = False := fun k hk => by simp; omega
      have hne17 : (17 = t) = False := by simp; omega
      simp +contextual only [go_sem, ↓reduceIte, hne, hne17]
      exact hold t ht
    · simp +contextual only [go_sem, ↓reduceIte, q13]
end Go.Am

set_option linter.all false
namespace Go.Am
open Go
variable [MaxLen]
set_option maxRecDepth 100000
set_option maxHeartbeats 8000000

/-! # The states before each state -/
structure BefI (s : St) (B m n : Nat) (bf : Nat → Nat → List Nat) (lo hi : Nat) (bx : Nat → Nat) (vs : Nat → Nat → AV) : Prop where
  g : s.get B = some (.cells ((List.range m).map fun x => .sl (bx x) 0 n (some n) 1) 66 false 0 0)
  row : ∀ x, x < m → s.get (bx x) = some (.cells ((List.range n).map (vs x)) 40 false 0 0)
  bl : ∀ x, x < m → ∀ c, c < n → RowB s (bf x c) (vs x c)
  hB : lo ≤ B ∧ B < hi
  hx : ∀ x, x < m → lo ≤ bx x ∧ bx x < hi
  hv : ∀ x, x < m → ∀ c, c < n → ∀ j, isB (vs x c) j → lo ≤ j ∧ j < hi
  le : hi ≤ s.next
theorem BefI.keep {s s' : St} {B m n : Nat} {bf : Nat → Nat → List Nat} {lo hi : Nat} {bx : Nat → Nat} {vs : Nat → Nat → AV} (h : BefI s B m n bf lo hi bx vs) (hn : s.next ≤ s'.next) (hg : ∀ j, lo ≤ j → j < hi → s'.get j = s.get j) : BefI s' B m n bf lo hi bx vs :=
  ⟨(hg _ h.hB.1 h.hB.2).trans h.g, fun x hx => (hg _ (h.hx x hx).1 (h.hx x hx).2).trans (h.row x hx), fun x hx c hc => (h.bl x hx c hc).keep hn fun j _ hj => hg j (h.hv x hx c hc j hj).1 (h.hv x hx c hc j hj).2, h.hB, h.hx, h.hv, by have := h.le; omega⟩
def Ou (lo hi j : Nat) : Prop := j < lo ∨ hi ≤ j
theorem range_get (f : Nat → AV) {n i : Nat} (h : i < n) : ((List.range n).map f)[i]? = some (f i) := by
  rw [List.getElem?_map, List.getElem?_range h]; rfl
theorem markAll_wf {n : Nat} : ∀ (us : List Nat) (p : Pt) (T : List Nat), p.Wf n → (∀ u ∈ us, u < n) → (markAll us p T).1.Wf n
  | [], p, T, h, _ => h
  | u :: l, p, T, h, hu => by
    rw [markAll]
    exact markAll_wf l _ _ (markd_spec h (hu u (List.mem_cons_self ..))).1 fun x hx => hu x (List.mem_cons_of_mem _ hx)
theorem markAll_len : ∀ (us : List Nat) (p : Pt) (T : List Nat), (markAll us p T).2.length ≤ T.length + us.length
  | [], p, T => by simp [markAll]
  | u :: l, p, T => by
    rw [markAll]
    have := markAll_len l (p.markd u).1 (bif (p.markd u).2 then T ++ [gt p.set u] else T)
    have h2 : (bif (p.markd u).2 then T ++ [gt p.set u] else T).length ≤ T.length + 1 := by cases (p.markd u).2 <;> simp
    rw [List.length_cons]
    omega
theorem l172d {β : Type} {fin : Fl → β} {ks : List K} {Post : β → Prop} {pb n m bl bp bs bb be bm N B lo hi x : Nat} {bf : Nat → Nat → List Nat} {bx : Nat → Nat} {vs : Nat → Nat → AV} {p : Pt} {T ms : List Nat} {tv mv : AV} {e : Env} {s : St} (hn : n ≤ 2 ^ 9) (hm : m ≤ 2 ^ 9) (hx : x < m) (h : PtI s pb n bl bp bs bb be bm p) (hw : p.Wf n) (hM : ∀ u ∈ ms, u < n) (hml : ms.length ≤ 2 ^ 9) (hTl : T.length + ms.length * n ≤ 2 ^ 29)
    (hbf : ∀ c, c < n → (bf x c).length ≤ n ∧ ∀ u ∈ bf x c, u < n)
    (g3 : Env.get e 3 = .ptr pb 0) (g4 : Env.get e 4 = .sl B 0 m (some m) 1) (g12 : Env.get e 12 = .int .i64 (x : Int)) (g13 : Env.get e 13 = tv) (g123 : Env.get e 123 = mv) (g124 : Env.get e 124 = .int .i64 ms.length) (g125 : Env.get e 125 = .int .i64 (0 : Nat))
    (hT : SlJ s N T tv) (hTf : ∀ j, isB tv j → NotP pb bl bp bs bb be bm j ∧ Ou lo hi j) (hN : N ≤ s.next) (hMr : RowB s ms mv) (hMf : ∀ j, isB mv j → NotP pb bl bp bs bb be bm j ∧ ¬ isB tv j)
    (hB : BefI s B m n bf lo hi bx vs) (hPo : ∀ j, Ou lo hi j ∨ NotP pb bl bp bs bb be bm j) (fr : Fr s)
    (hk : ∀ e' s' tv', (∀ t : Nat, t < 13 ∨ 17 < t ∧ t < 125 → Env.get e' t = Env.get e t) → Env.get e' 13 = tv' → PtI s' pb n bl bp bs bb be bm (markAll (ms.flatMap (bf x)) p T).1 → SlJ s' N (markAll (ms.flatMap (bf x)) p T).2 tv' → (∀ j, isB tv' j → isB tv j ∨ s.next ≤ j) →
      (∀ j, j < s.next → j ≠ bl → j ≠ bp → j ≠ bm → ¬ isB tv j → s'.get j = s.get j) → s.next ≤ s'.next → Fr s' → Post (goN U fin ks e' s')) :
    Post (goL U fin (.bk 10 :: ks) r172_l4 e s) := by
  refine loop_ex (σ := Nat) (fun i => ms.length - i) (fun i e' s' => i ≤ ms.length ∧ (∀ t : Nat, t < 13 ∨ 17 < t ∧ t < 125 → Env.get e' t = Env.get e t) ∧ Env.get e' 125 = .int .i64 (i : Nat) ∧ s.next ≤ s'.next ∧ Fr s' ∧
      ∃ p' T' tv', Env.get e' 13 = tv' ∧ PtI s' pb n bl bp bs bb be bm p' ∧ p'.Wf n ∧ markAll ((ms.drop i).flatMap (bf x)) p' T' = markAll (ms.flatMap (bf x)) p T ∧ T'.length ≤ T.length + i * n ∧ SlJ s' N T' tv' ∧ (∀ j, isB tv' j → isB tv j ∨ s.next ≤ j) ∧ (∀ j, j < s.next → j ≠ bl → j ≠ bp → j ≠ bm → ¬ isB tv j → s'.get j = s.get j)) 0 ?_
    ⟨Nat.zero_le _, fun _ _ => rfl, g125, Nat.le_refl _, fr, p, T, tv, g13, h, hw, rfl, by simp, hT, fun j => .inl, fun _ _ _ _ _ _ => rfl⟩
  rintro Lp i e' s' ⟨hil, hold, q125, hnx, fr', p', T', tv', q13, P, hw', hmk, hlen, hT', hsub, hs⟩ IH
  have q3 := (hold 3 (by omega)).trans g3
  have q4 := (hold 4 (by omega)).trans g4
  have q12 := (hold 12 (by omega)).trans g12
  have q123 := (hold 123 (by omega)).trans g123
  have q124 := (hold 124 (by omega)).trans g124
  have lts := h.ltA
  by_cases hd : i < ms.length
  · have hwr := wrap_succ hd (by omega)
    have hle := hB.le
    have B2 := hB.keep hnx fun j h1 h2 => by
      have h3 : NotP pb bl bp bs bb be bm j := by rcases hPo j with h | h; unfold Ou at h; omega; exact h
      unfold NotP at h3
      exact hs j (by omega) (by omega) (by omega) (by omega) fun hb => by have := (hTf j hb).2; unfold Ou at this; omega
    have M2 := hMr.keep hnx fun j h1 h2 => by obtain ⟨h3, h4⟩ := hMf j h2; unfold NotP at h3; exact hs j h1 (by omega) (by omega) (by omega) h4
    obtain ⟨b, rfl, hg, hb⟩ : ∃ b, mv = .sl b 0 ms.length none 1 ∧ s'.get b = some (.cells (nats ms) 3 false 0 0) ∧ b < s'.next := by
      rcases M2 with ⟨_, h⟩ | h
      · rw [h] at hd; simp at hd
      · exact h
    have o1 := nats_get (l := ms) (i := i) hd
    have hu := hM _ (List.getElem_mem hd)
    rw [gt_get hd] at o1
    rw [List.drop_eq_getElem_cons hd, List.flatMap_cons, markAll_app] at hmk
    generalize ms[i] = c at *
    obtain ⟨f1, f2⟩ := hbf c hu
    have o2 := range_get (fun x => (AV.sl (bx x) 0 n (some n) 1)) hx
    have o3 := range_get (vs x) hu
    have hv1 := B2.row x hx
    have hv2 := B2.bl x hx c hu
    have hv3 := hv2.lenL
    have hin : i * n + n ≤ ms.length * n := by
      have : (i + 1) * n ≤ ms.length * n := Nat.mul_le_mul_right n hd
      rw [Nat.succ_mul] at this; exact this
    have hB2 := B2.g
    have hTP : ∀ j, isB tv' j → NotP pb bl bp bs bb be bm j ∧ (Ou lo hi j) := fun j hj => by
      rcases hsub j hj with h4 | h4
      · exact hTf j h4
      · refine ⟨by unfold NotP; omega, by unfold Ou; omega⟩
    simp (config := { maxSteps := 2000000 }) +contextual only [go_sem, ↓reduceIte, r172_l4, q3, q4, q12, q123, q124, q125, nat_lt_dec, hd, hg, o1, o2, o3, hx, hu, hB2, hv1, hv3, Nat.mul_one]
    refine l172c (N := N) (p := p') (T := T') (tv := tv') (us := bf x c) (by omega) P hw' f2 (by omega) (by omega) ?_ ?_ ?_ ?_ ?_ hT' (fun j hj => (hTP j hj).1) (by omega) hv2 (fun j hj => ?_) fr' ?_
    case refine_7 =>
      intro e2 s2 tv2 h2a h2b P3 T3 hs3 fs3 hn3 fr3
      have p125 : Env.get e2 125 = .int .i64 (i : Nat) := by rw [h2a 125 (by omega)]; simp +contextual only [go_sem, ↓reduceIte, q125]
      simp (config := { maxSteps := 2000000 }) +contextual only [go_sem, ↓reduceIte, p125, hwr]
      refine IH (i + 1) _ _ (by omega) ⟨by omega, fun t ht => ?_, ?_, by omega, fr3, _, _, tv2, ?_, P3, markAll_wf _ _ _ hw' f2, hmk, ?_, T3, fun j hj => ?_, fun j h1 h2 h3 h4 h5 => ?_⟩
      · have hne : ∀ k : Nat, 125 ≤ k → (k = t) = False := fun k hk => by simp; omega
        have hne15 : (15 = t) = False := by simp; omega
        simp +contextual only [go_sem, ↓reduceIte, hne, hne15]
        rw [h2a t (by omega)]
        simp +contextual only [go_sem, ↓reduceIte, hne, hne15]
        exact hold t ht
      · simp +contextual only [go_sem, ↓reduceIte]
      · simp +contextual only [go_sem, ↓reduceIte, h2b]
      · have := markAll_len (bf x c) p' T'
        rw [Nat.succ_mul]; omega
      · rcases hs3 j hj with h6 | h6
        · exact hsub j h6
        · right; omega
      · by_cases hb : isB tv' j
        · rcases hsub j hb with h6 | h6
          · exact absurd h6 h5
          · omega
        · rw [fs3 j (by omega) h2 h3 h4 hb, hs j h1 h2 h3 h4 h5]
    case refine_6 =>
      have h1 := B2.hv x hx c hu j hj
      refine ⟨?_, fun hb => ?_⟩
      · rcases hPo j with h | h
        · unfold Ou at h; omega
        · exact h
      · have := (hTP j hb).2
        unfold Ou at this; omega
    all_goals simp +contextual only [go_sem, ↓reduceIte, q3, q13]
    all_goals rfl
  · have : i = ms.length := by omega
    subst this
    rw [List.drop_length, List.flatMap_nil, markAll] at hmk
    rw [← hmk] at hk
    simp (config := { maxSteps := 2000000 }) +contextual only [go_sem, ↓reduceIte, r172_l4, q124, q125, nat_lt_dec, Nat.lt_irrefl]
    refine hk _ _ tv' (fun t ht => ?_) ?_ P hT' hsub hs hnx fr'
    · have hne : ∀ k : Nat, 125 ≤ k → (k = t) = False := fun k hk => by simp; omega
      have hne17 : (17 = t) = False := by simp; omega
      simp +contextual only [go_sem, ↓reduceIte, hne, hne17]
      exact hold t ht
    · simp +contextual only [go_sem, ↓reduceIte, q13]
end Go.Am

set_option linter.all false
namespace Go.Am
open Go
variable [MaxLen]
set_option maxRecDepth 100000
set_option maxHeartbeats 8000000

/-! # Cuts of all sets that have a mark -/
theorem l172e {β : Type} {fin : Fl → β} {ks : List K} {Post : β → Prop} {pb n bl bp bs bb be bm N : Nat} {p : Pt} {T W : List Nat} {tv wv : AV} {e : Env} {s : St} (hn : n ≤ 2 ^ 9) (h : PtI s pb n bl bp bs bb be bm p) (hw : p.Wf n) (hnd : T.Nodup) (hTp : ∀ k ∈ T, k < p.bg.length ∧ 0 < gt p.mr k) (hTl : T.length ≤ 2 ^ 29) (hWl : W.length + T.length ≤ 2 ^ 30)
    (g3 : Env.get e 3 = .ptr pb 0) (g8 : Env.get e 8 = wv) (g156 : Env.get e 156 = tv) (g157 : Env.get e 157 = .int .i64 T.length) (g158 : Env.get e 158 = .int .i64 (0 : Nat))
    (hT : SlJ s N T tv) (hW : SlJ s N W wv) (hN : N ≤ s.next) (hTf : ∀ j, isB tv j → NotP pb bl bp bs bb be bm j ∧ ¬ isB wv j) (hWf : ∀ j, isB wv j → NotP pb bl bp bs bb be bm j) (fr : Fr s)
    (hk : ∀ e' s' wv' bb' be' bm', (∀ t : Nat, t < 8 ∨ 8 < t ∧ t < 19 ∨ 20 < t ∧ t < 156 → Env.get e' t = Env.get e t) → Env.get e' 8 = wv' → PtI s' pb n bl bp bs bb' be' bm' (cutAll T p W).1 → SlJ s' N (cutAll T p W).2 wv' → (∀ j, isB wv' j → isB wv j ∨ s.next ≤ j) → (∀ j, isB wv' j → NotP pb bl bp bs bb' be' bm' j) →
      (bb' = bb ∨ s.next ≤ bb') → (be' = be ∨ s.next ≤ be') → (bm' = bm ∨ s.next ≤ bm') →
      (∀ j, j < s.next → j ≠ pb → j ≠ bs → j ≠ bb → j ≠ be → j ≠ bm → ¬ isB wv j → s'.get j = s.get j) → s.next ≤ s'.next → Fr s' → Post (goN U fin ks e' s')) :
    Post (goL U fin (.bk 14 :: ks) r172_l5 e s) := by
  refine loop_ex (σ := Nat) (fun i => T.length - i) (fun i e' s' => i ≤ T.length ∧ (∀ t : Nat, t < 8 ∨ 8 < t ∧ t < 19 ∨ 20 < t ∧ t < 158 → Env.get e' t = Env.get e t) ∧ Env.get e' 158 = .int .i64 (i : Nat) ∧ s.next ≤ s'.next ∧ Fr s' ∧
      ∃ p' W' wv' bb' be' bm', Env.get e' 8 = wv' ∧ PtI s' pb n bl bp bs bb' be' bm' p' ∧ p'.Wf n ∧ (∀ k ∈ T.drop i, k < p'.bg.length ∧ 0 < gt p'.mr k) ∧ cutAll (T.drop i) p' W' = cutAll T p W ∧ W'.length ≤ W.length + i ∧ SlJ s' N W' wv' ∧ (∀ j, isB wv' j → isB wv j ∨ s.next ≤ j) ∧ (∀ j, isB wv' j → NotP pb bl bp bs bb' be' bm' j) ∧
        (bb' = bb ∨ s.next ≤ bb') ∧ (be' = be ∨ s.next ≤ be') ∧ (bm' = bm ∨ s.next ≤ bm') ∧ (∀ j, j < s.next → j ≠ pb → j ≠ bs → j ≠ bb → j ≠ be → j ≠ bm → ¬ isB wv j → s'.get j = s.get j)) 0 ?_
    ⟨Nat.zero_le _, fun _ _ => rfl, g158, Nat.le_refl _, fr, p, W, wv, bb, be, bm, g8, h, hw, hTp, rfl, by omega, hW, fun j => .inl, hWf, .inl rfl, .inl rfl, .inl rfl, fun _ _ _ _ _ _ _ _ => rfl⟩
  rintro Lp i e' s' ⟨hil, hold, q158, hnx, fr', p', W', wv', bb', be', bm', q8, P, hw', hTp', hcut, hlen, hW', hsub, hfar, hbb, hbe, hbm, hs⟩ IH
  have q3 := (hold 3 (by omega)).trans g3
  have q156 := (hold 156 (by omega)).trans g156
  have q157 := (hold 157 (by omega)).trans g157
  have lts := h.ltA
  by_cases hd : i < T.length
  · have hwr := wrap_succ hd (by omega)
    have T2 := hT.keep hnx fun j h1 h2 h3 => by
      obtain ⟨h4, h5⟩ := hTf j h3
      unfold NotP at h4
      exact hs j h1 (by omega) (by omega) (by omega) (by omega) (by omega) h5
    obtain ⟨b, R, rfl, hg, o1⟩ := T2.get hd
    have hki := hTp' T[i] (by rw [List.drop_eq_getElem_cons hd]; exact List.mem_cons_self ..)
    rw [List.drop_eq_getElem_cons hd, cutAll] at hcut
    have hrest : ∀ k ∈ T.drop (i + 1), (k < p'.bg.length ∧ 0 < gt p'.mr k) ∧ k ≠ T[i] := fun k hk => by
      refine ⟨hTp' k (by rw [List.drop_eq_getElem_cons hd]; exact List.mem_cons_of_mem _ hk), ?_⟩
      have hdn : (T.drop i).Nodup := hnd.sublist (List.drop_sublist i T)
      rw [List.drop_eq_getElem_cons hd, List.nodup_cons] at hdn
      rintro rfl
      exact hdn.1 hk
    generalize T[i] = k at *
    obtain ⟨hk1, hk2⟩ := hki
    have hc := cut_spec hw' hk1 hk2
    obtain ⟨s2, cb, ce, cm, c1, P2, c2, c3, c4, c5, c6, c7⟩ := c217 P hw' (by omega) fr' hk1 hk2
    have lts' := P.ltA
    have hdrop : ∀ x ∈ T.drop (i + 1), x < (p'.cut k).1.bg.length ∧ 0 < gt (p'.cut k).1.mr x := fun x hx => by
      obtain ⟨⟨h1, h2⟩, h3⟩ := hrest x hx
      have hlen := hc.len
      rw [hc.mr x h1 h3]
      exact ⟨by omega, h2⟩
    have W2 := hW'.keep c2 fun j h1 h2 h3 => by
      have h4 := hfar j h3
      unfold NotP at h4
      exact c7 j h1 (by omega) (by omega) (by omega) (by omega) (by omega)
    have hfew := hw'.few
    have fs : ∀ j, j < s.next → j ≠ pb → j ≠ bs → j ≠ bb → j ≠ be → j ≠ bm → ¬ isB wv j → s2.get j = s.get j := fun j h1 h2 h3 h4 h5 h6 h7 => by
      rw [c7 j (by omega) h2 h3 (by omega) (by omega) (by omega), hs j h1 h2 h3 h4 h5 h6 h7]
    cases hb2 : (p'.cut k).2 with
    | false =>
      rw [hb2] at c1 hcut
      rw [cond_false] at hcut c1
      simp (config := { maxSteps := 2000000 }) +contextual only [go_sem, ↓reduceIte, r172_l5, q3, q8, q156, q157, q158, nat_lt_dec, hd, hg, o1, k217', c1, hwr, Nat.mul_one]
      refine IH (i + 1) _ _ (by omega) ⟨by omega, fun t ht => ?_, ?_, by omega, c3, _, W', wv', cb, ce, cm, ?_, P2, hc.wf, hdrop, hcut, by omega, W2, hsub, fun j hj => ?_, by omega, by omega, by omega, fs⟩
      · have hne : ∀ k : Nat, 158 ≤ k → (k = t) = False := fun k hk => by simp; omega
        have hne19 : (19 = t) = False := by simp; omega
        have hne20 : (20 = t) = False := by simp; omega
        simp +contextual only [go_sem, ↓reduceIte, hne, hne19, hne20]
        exact hold t ht
      · simp +contextual only [go_sem, ↓reduceIte]
      · simp +contextual only [go_sem, ↓reduceIte, q8]
      · have h4 := hfar j hj
        have h5 := hW'.lt hj
        unfold NotP at h4 ⊢
        omega
    | true =>
      rw [hb2] at c1 hcut
      rw [cond_true] at hcut c1
      have hlA := W2.lenA
      have hge : decide ((p'.bg.length : Int) ≥ 0) = true := by simp
      have hb5 : (W'.length + 1) * 8 ≤ 1099511627776 := by omega
      have hb6 : W'.length + 1 ≤ 1099511627776 := by omega
      simp (config := { maxSteps := 2000000 }) +contextual only [go_sem, ↓reduceIte, r172_l5, q3, q8, q156, q157, q158, nat_lt_dec, hd, hg, o1, k217', c1, hwr, Nat.mul_one, Nat.one_mul, hge, appK_some, Nat.reducePow, hlA, hb5, hb6]
      have T3 : SlJ (s2.new (.cells [.int .i64 (p'.bg.length : Int)] 3 false 0 0)) N W' wv' := W2.keep (by rw [next_new]; omega) fun j h1 _ _ => by rw [get_new, if_neg (by omega)]
      obtain ⟨s4, d1, d2, d3, d4, d5⟩ := T3.app (by rw [next_new]; omega) p'.bg.length
      rw [next_new] at d1 d2 d3 d4
      rw [d1]
      simp (config := { maxSteps := 2000000 }) +contextual only [go_sem, ↓reduceIte, q158, hwr]
      have k4 : ∀ j, j < s2.next → ¬ isB wv' j → s4.get j = s2.get j := fun j h1 h2 => by rw [d4 j (by omega) h2, get_new, if_neg (by omega)]
      have lts2 := P2.ltA
      refine IH (i + 1) _ _ (by omega) ⟨by omega, fun t ht => ?_, ?_, by omega, d5 (c3.new _), _, W' ++ [p'.bg.length], .sl (s2.next + 1) 0 (W'.length + 1) none 1, cb, ce, cm, ?_, P2.mono (by omega) fun j hj => k4 j (P2.lt j hj) fun hb => ?_, hc.wf, hdrop, hcut, by simp; omega, d3, fun j hj => ?_, fun j hj => ?_, by omega, by omega, by omega, fun j h1 h2 h3 h4 h5 h6 h7 => ?_⟩
      · have hne : ∀ k : Nat, 158 ≤ k → (k = t) = False := fun k hk => by simp; omega
        have hne19 : (19 = t) = False := by simp; omega
        have hne20 : (20 = t) = False := by simp; omega
        have hne8 : (8 = t) = False := by simp; omega
        simp +contextual only [go_sem, ↓reduceIte, hne, hne19, hne20, hne8]
        exact hold t ht
      · simp +contextual only [go_sem, ↓reduceIte]
      · simp +contextual only [go_sem, ↓reduceIte]
      · have h4 := hfar j hb
        have h5 := hW'.lt hb
        unfold NotP at h4
        simp only [List.mem_cons, List.not_mem_nil, or_false] at hj
        omega
      · rw [isB_sl] at hj; omega
      · rw [isB_sl] at hj
        unfold NotP
        omega
      · by_cases hb : isB wv' j
        · rcases hsub j hb with h8 | h8
          · exact absurd h8 h7
          · omega
        · rw [k4 j (by omega) hb, fs j h1 h2 h3 h4 h5 h6 h7]
  · have : i = T.length := by omega
    subst this
    rw [List.drop_length, cutAll] at hcut
    rw [← hcut] at hk
    simp (config := { maxSteps := 2000000 }) +contextual only [go_sem, ↓reduceIte, r172_l5, q157, q158, nat_lt_dec, Nat.lt_irrefl]
    refine hk _ _ wv' bb' be' bm' (fun t ht => ?_) ?_ P hW' hsub hfar hbb hbe hbm hs hnx fr'
    · have hne : ∀ k : Nat, 158 ≤ k → (k = t) = False := fun k hk => by simp; omega
      simp +contextual only [go_sem, ↓reduceIte, hne]
      exact hold t (by omega)
    · simp +contextual only [go_sem, ↓reduceIte, q8]
end Go.Am

set_option linter.all false
namespace Go.Am
open Go
variable [MaxLen]
set_option maxRecDepth 100000
set_option maxHeartbeats 8000000

/-! # All symbols for one set -/
theorem flatB_len {f : Nat → List Nat} {n : Nat} : ∀ {ms : List Nat}, (∀ u ∈ ms, u < n) → (∀ c, c < n → (f c).length ≤ n) → (ms.flatMap f).length ≤ ms.length * n
  | [], _, _ => by simp
  | c :: l, h1, h2 => by
    have ih := flatB_len (f := f) (ms := l) (fun u hu => h1 u (List.mem_cons_of_mem _ hu)) h2
    have := h2 c (h1 c (List.mem_cons_self ..))
    rw [List.flatMap_cons, List.length_append, List.length_cons, Nat.succ_mul]
    omega
theorem l172f {β : Type} {fin : Fl → β} {ks : List K} {Post : β → Prop} {pb n m bl bp bs bb be bm N B lo hi : Nat} {bf : Nat → Nat → List Nat} {nx : Nat → Nat → Nat} {bx : Nat → Nat} {vs : Nat → Nat → AV} {p : Pt} {W ms : List Nat} {wv mv : AV} {e : Env} {s : St} (hn : n ≤ 2 ^ 8) (hm : m ≤ 2 ^ 8) (h : PtI s pb n bl bp bs bb be bm p) (hw : p.Wf n) (hz : p.Zero) (hM : ∀ u ∈ ms, u < n) (hml : ms.length ≤ 2 ^ 8) (hWl : W.length ≤ 2 ^ 20)
    (hb : ∀ y, y < m → ∀ c, c < n → ∀ u, u ∈ bf y c ↔ u < n ∧ nx u y = c) (hbl : ∀ y, y < m → ∀ c, c < n → (bf y c).length ≤ n)
    (g3 : Env.get e 3 = .ptr pb 0) (g4 : Env.get e 4 = .sl B 0 m (some m) 1) (g8 : Env.get e 8 = wv) (g11 : Env.get e 11 = mv) (g119 : Env.get e 119 = .int .i64 (m : Int)) (g120 : Env.get e 120 = .int .i64 (0 : Nat))
    (hW : SlJ s N W wv) (hWf : ∀ j, isB wv j → NotP pb bl bp bs bb be bm j ∧ Ou lo hi j) (hN : N ≤ s.next) (hMr : RowB s ms mv) (hMf : ∀ j, isB mv j → NotP pb bl bp bs bb be bm j ∧ ¬ isB wv j)
    (hB : BefI s B m n bf lo hi bx vs) (hPo : ∀ j, Ou lo hi j ∨ NotP pb bl bp bs bb be bm j) (fr : Fr s)
    (hk : ∀ e' s' wv' bb' be' bm', (∀ t : Nat, t < 8 ∨ 8 < t ∧ t < 12 → Env.get e' t = Env.get e t) → Env.get e' 8 = wv' → PtI s' pb n bl bp bs bb' be' bm' (popP bf ms m 0 p W).1 → SlJ s' N (popP bf ms m 0 p W).2 wv' → (∀ j, isB wv' j → isB wv j ∨ s.next ≤ j) → (∀ j, isB wv' j → NotP pb bl bp bs bb' be' bm' j) →
      (bb' = bb ∨ s.next ≤ bb') → (be' = be ∨ s.next ≤ be') → (bm' = bm ∨ s.next ≤ bm') →
      (∀ j, j < s.next → NotP pb bl bp bs bb be bm j → ¬ isB wv j → s'.get j = s.get j) → s.next ≤ s'.next → Fr s' → Post (goN U fin ks e' s')) :
    Post (goL U fin (.bk 8 :: ks) r172_l6 e s) := by
  have hfew0 := hw.few
  refine loop_ex (σ := Nat) (fun x => m - x) (fun x e' s' => x ≤ m ∧ (∀ t : Nat, t < 8 ∨ 8 < t ∧ t < 12 ∨ 20 < t ∧ t < 120 → Env.get e' t = Env.get e t) ∧ Env.get e' 120 = .int .i64 (x : Nat) ∧ s.next ≤ s'.next ∧ Fr s' ∧
      ∃ p' W' wv' bb' be' bm', Env.get e' 8 = wv' ∧ PtI s' pb n bl bp bs bb' be' bm' p' ∧ p'.Wf n ∧ p'.Zero ∧ popP bf ms (m - x) x p' W' = popP bf ms m 0 p W ∧ W'.length + p.bg.length = W.length + p'.bg.length ∧ SlJ s' N W' wv' ∧ (∀ j, isB wv' j → isB wv j ∨ s.next ≤ j) ∧ (∀ j, isB wv' j → NotP pb bl bp bs bb' be' bm' j) ∧
        (bb' = bb ∨ s.next ≤ bb') ∧ (be' = be ∨ s.next ≤ be') ∧ (bm' = bm ∨ s.next ≤ bm') ∧ (∀ j, j < s.next → NotP pb bl bp bs bb be bm j → ¬ isB wv j → s'.get j = s.get j)) 0 ?_
    ⟨Nat.zero_le _, fun _ _ => rfl, g120, Nat.le_refl _, fr, p, W, wv, bb, be, bm, g8, h, hw, hz, rfl, rfl, hW, fun j => .inl, fun j hj => (hWf j hj).1, .inl rfl, .inl rfl, .inl rfl, fun _ _ _ _ => rfl⟩
  rintro Lp x e' s' ⟨hxl, hold, q120, hnx, fr', p', W', wv', bb', be', bm', q8, P, hw', hz', hpop, hlen, hW', hsub, hfar, hbb, hbe, hbm, hs⟩ IH
  have q3 := (hold 3 (by omega)).trans g3
  have q4 := (hold 4 (by omega)).trans g4
  have q11 := (hold 11 (by omega)).trans g11
  have q119 := (hold 119 (by omega)).trans g119
  have lts := h.ltA
  have hle := hB.le
  have hfew := hw'.few
  by_cases hd : x < m
  · have hwr := wrap_succ hd (by omega)
    have B2 := hB.keep hnx fun j h1 h2 => by
      have h3 : NotP pb bl bp bs bb be bm j := by rcases hPo j with h | h; unfold Ou at h; omega; exact h
      exact hs j (by omega) h3 fun hb => by have := (hWf j hb).2; unfold Ou at this; omega
    have M2 := hMr.keep hnx fun j h1 h2 => by obtain ⟨h3, h4⟩ := hMf j h2; exact hs j h1 h3 h4
    have hMlt : ∀ j, isB mv j → j < s.next := fun j hj => by
      rcases hMr with ⟨rfl, _⟩ | ⟨b, rfl, _, hb⟩
      · exact absurd hj (isB_nils j)
      · rw [isB_sl] at hj; omega
    have hMf2 : ∀ j, isB mv j → NotP pb bl bp bs bb' be' bm' j ∧ ¬ isB wv' j := fun j hj => by
      obtain ⟨h3, h4⟩ := hMf j hj
      have h5 := hMlt j hj
      refine ⟨by unfold NotP at h3 ⊢; omega, fun h6 => ?_⟩
      rcases hsub j h6 with h7 | h7
      · exact h4 h7
      · omega
    have hPo2 : ∀ j, Ou lo hi j ∨ NotP pb bl bp bs bb' be' bm' j := fun j => by
      rcases hPo j with h3 | h3
      · exact .inl h3
      · unfold NotP at h3 ⊢; unfold Ou; omega
    have hWf2 : ∀ j, isB wv' j → Ou lo hi j := fun j hj => by
      rcases hsub j hj with h3 | h3
      · exact (hWf j h3).2
      · unfold Ou; omega
    have hsp := sym_spec hw' hz' W' (nx := fun u => nx u x) hM (hb x hd)
    have hus : ∀ u ∈ ms.flatMap (bf x), u < n := fun u hu => by
      rw [List.mem_flatMap] at hu
      obtain ⟨c, h1, h2⟩ := hu
      exact ((hb x hd c (hM c h1) u).1 h2).1
    have ht0 : Tch p' [] := ⟨by simp, fun k hk => by simp [hz' k hk], fun k hk => by simp at hk⟩
    have hma := markAll_spec (ms.flatMap (bf x)) hw' ht0 hus
    have hmlen := markAll_len (ms.flatMap (bf x)) p' []
    have hfl := flatB_len hM (fun c hc => hbl x hd c hc)
    rw [List.length_nil, Nat.zero_add] at hmlen
    have hmn : ms.length * n ≤ 2 ^ 8 * 2 ^ 8 := Nat.mul_le_mul hml hn
    rw [show m - x = (m - (x + 1)) + 1 by omega, popP] at hpop
    unfold symP at hpop hsp
    simp (config := { maxSteps := 2000000 }) +contextual only [go_sem, ↓reduceIte, r172_l6, q11, q119, q120, nat_lt_dec, hd, M2.lenL]
    refine l172d (N := N) (p := p') (T := []) (tv := .nils) (ms := ms) (mv := mv) (B := B) (m := m) (lo := lo) (hi := hi) (x := x) (bf := bf) (bx := bx) (vs := vs) (by omega) (by omega) hd P hw' hM (by omega) (by simp; omega) (fun c hc => ⟨hbl x hd c hc, fun u hu => ((hb x hd c hc u).1 hu).1⟩) ?_ ?_ ?_ ?_ ?_ ?_ ?_ (.inl ⟨rfl, rfl⟩) (fun j hj => absurd hj (isB_nils j)) (by omega) M2 (fun j hj => ⟨(hMf2 j hj).1, isB_nils j⟩) B2 hPo2 fr' ?_
    case refine_8 =>
      intro e2 s2 tv2 h2a h2b P2 T2 ht2 fs2 hn2 fr2
      have p8 : Env.get e2 8 = wv' := by rw [h2a 8 (by omega)]; simp +contextual only [go_sem, ↓reduceIte, q8]
      have p3 : Env.get e2 3 = .ptr pb 0 := by rw [h2a 3 (by omega)]; simp +contextual only [go_sem, ↓reduceIte, q3]
      have lts' := P.ltA
      have W2 := hW'.keep hn2 fun j h1 h2 h3 => by
        have h4 := hfar j h3
        unfold NotP at h4
        exact fs2 j h1 (by omega) (by omega) (by omega) (isB_nils j)
      simp (config := { maxSteps := 2000000 }) +contextual only [go_sem, ↓reduceIte, h2b, T2.lenL]
      refine l172e (N := N) (p := (markAll (ms.flatMap (bf x)) p' []).1) (T := (markAll (ms.flatMap (bf x)) p' []).2) (tv := tv2) (W := W') (wv := wv') (by omega) P2 hma.wf hma.tch.nd (fun k hk => ⟨hma.tch.lt k hk, (hma.tch.mem k (hma.tch.lt k hk)).1 hk⟩) (by omega) (by omega) ?_ ?_ ?_ ?_ ?_ T2 W2 (by omega) (fun j hj => ?_) hfar fr2 ?_
      case refine_7 =>
        intro e3 s3 wv3 cb ce cm h3a h3b P3 W3 hs3 hf3 hcb hce hcm fs3 hn3 fr3
        have p120 : Env.get e3 120 = .int .i64 (x : Nat) := by
          rw [h3a 120 (by omega)]
          simp +contextual only [go_sem, ↓reduceIte]
          rw [h2a 120 (by omega)]
          simp +contextual only [go_sem, ↓reduceIte, q120]
        simp (config := { maxSteps := 2000000 }) +contextual only [go_sem, ↓reduceIte, p120, hwr]
        have hwl := hsp.wlen
        refine IH (x + 1) _ _ (by omega) ⟨by omega, fun t ht => ?_, ?_, by omega, fr3, _, _, wv3, cb, ce, cm, ?_, P3, hsp.wf, hsp.zero, hpop, by omega, W3, fun j hj => ?_, hf3, by omega, by omega, by omega, fun j h1 h2 h3 => ?_⟩
        · have hne : ∀ k : Nat, 120 ≤ k → (k = t) = False := fun k hk => by simp; omega
          have hne12 : (12 = t) = False := by simp; omega
          have hne13 : (13 = t) = False := by simp; omega
          simp +contextual only [go_sem, ↓reduceIte, hne]
          rw [h3a t (by omega)]
          simp +contextual only [go_sem, ↓reduceIte, hne]
          rw [h2a t (by omega)]
          simp +contextual only [go_sem, ↓reduceIte, hne, hne12, hne13]
          exact hold t ht
        · simp +contextual only [go_sem, ↓reduceIte]
        · simp +contextual only [go_sem, ↓reduceIte, h3b]
        · rcases hs3 j hj with h6 | h6
          · exact hsub j h6
          · right; omega
        · by_cases hb : isB wv' j
          · rcases hsub j hb with h6 | h6
            · exact absurd h6 h3
            · omega
          · unfold NotP at h2
            rw [fs3 j (by omega) (by omega) (by omega) (by omega) (by omega) (by omega) hb, fs2 j (by omega) (by omega) (by omega) (by omega) (isB_nils j), hs j h1 h2 h3]
      case refine_6 =>
        rcases ht2 j hj with h6 | h6
        · exact absurd h6 (isB_nils j)
        · refine ⟨by unfold NotP; omega, fun hb => ?_⟩
          have := hW'.lt hb
          omega
      all_goals simp +contextual only [go_sem, ↓reduceIte, p3, p8, h2b]
      all_goals rfl
    all_goals simp +contextual only [go_sem, ↓reduceIte, q3, q4, q11]
    all_goals rfl
  · have : x = m := by omega
    subst this
    rw [Nat.sub_self, popP] at hpop
    rw [← hpop] at hk
    simp (config := { maxSteps := 2000000 }) +contextual only [go_sem, ↓reduceIte, r172_l6, q119, q120, nat_lt_dec, Nat.lt_irrefl]
    refine hk _ _ wv' bb' be' bm' (fun t ht => ?_) ?_ P hW' hsub hfar hbb hbe hbm hs hnx fr'
    · have hne : ∀ k : Nat, 120 ≤ k → (k = t) = False := fun k hk => by simp; omega
      simp +contextual only [go_sem, ↓reduceIte, hne]
      exact hold t (by omega)
    · simp +contextual only [go_sem, ↓reduceIte, q8]
end Go.Am

set_option linter.all false
namespace Go.Am
open Go
variable [MaxLen]
set_option maxRecDepth 100000
set_option maxHeartbeats 8000000

/-! # The work list -/
theorem sllD {b n k : Nat} (h : k ≤ n) : slRL 1 (.sl b 0 n none 1) none (some (.int .i64 (k : Int))) = some (.sl b 0 k none 1) := by
  have e1 : boundA (some (.int .i64 (k : Int))) n n = some k := by simp [boundA]; omega
  have e2 : boundA none 0 k = some 0 := by simp [boundA]
  simp only [slRL, Option.getD_none, e1, e2, Nat.mul_one, Nat.zero_add, if_true, Option.map_none, Nat.sub_zero]
theorem hopP_nil (bef : Nat → Nat → List Nat) (m f : Nat) (p : Pt) : hopP bef m f p [] = p := by
  cases f <;> rfl
theorem befA_len (A : Fa) (x c : Nat) : (befA A x c).length ≤ A.n := by
  unfold befA
  have := List.length_filter_le (fun u => A.nx u x == c) (List.range A.n)
  rw [List.length_range] at this
  exact this
theorem l172g {β : Type} {fin : Fl → β} {ks : List K} {Post : β → Prop} {A : Fa} (hA : A.ok) {pb bl bp bs bb be bm N B lo hi F : Nat} {bx : Nat → Nat} {vs : Nat → Nat → AV} {p : Pt} {W : List Nat} {wv : AV} {e : Env} {s : St} (hn : A.n ≤ 2 ^ 8) (hm : A.m ≤ 2 ^ 8) (h : PtI s pb A.n bl bp bs bb be bm p) (hH : Hop A p W) (hF : F ≤ 2 ^ 12) (hme : 2 * (A.n - p.bg.length) + W.length ≤ F)
    (g3 : Env.get e 3 = .ptr pb 0) (g4 : Env.get e 4 = .sl B 0 A.m (some A.m) 1) (g8 : Env.get e 8 = wv)
    (hW : SlJ s N W wv) (hWf : ∀ j, isB wv j → NotP pb bl bp bs bb be bm j ∧ Ou lo hi j) (hN : N ≤ s.next)
    (hB : BefI s B A.m A.n (befA A) lo hi bx vs) (hPo : ∀ j, Ou lo hi j ∨ NotP pb bl bp bs bb be bm j) (fr : Fr s)
    (hk : ∀ e' s' bb' be' bm', Env.get e' 3 = .ptr pb 0 → PtI s' pb A.n bl bp bs bb' be' bm' (hopP (befA A) A.m F p W) → Post (goN U fin ks e' s')) :
    Post (goL U fin (.bk 6 :: ks) r172_l7 e s) := by
  have lts := h.ltA
  have hle := hB.le
  refine loop_ex (σ := Nat) (fun f => f) (fun f e' s' => f ≤ F ∧ Env.get e' 3 = .ptr pb 0 ∧ Env.get e' 4 = .sl B 0 A.m (some A.m) 1 ∧ s.next ≤ s'.next ∧ Fr s' ∧
      ∃ p' W' wv' bb' be' bm', Env.get e' 8 = wv' ∧ PtI s' pb A.n bl bp bs bb' be' bm' p' ∧ Hop A p' W' ∧ 2 * (A.n - p'.bg.length) + W'.length ≤ f ∧ hopP (befA A) A.m f p' W' = hopP (befA A) A.m F p W ∧ SlJ s' N W' wv' ∧ (∀ j, isB wv' j → NotP pb bl bp bs bb' be' bm' j ∧ Ou lo hi j) ∧ BefI s' B A.m A.n (befA A) lo hi bx vs ∧ (∀ j, Ou lo hi j ∨ NotP pb bl bp bs bb' be' bm' j)) F ?_
    ⟨Nat.le_refl _, g3, g4, Nat.le_refl _, fr, p, W, wv, bb, be, bm, g8, h, hH, hme, rfl, hW, hWf, hB, hPo⟩
  rintro Lp f e' s' ⟨hf, q3, q4, hnx, fr', p', W', wv', bb', be', bm', q8, P, hH', hme', hhop, hW', hfar, B', hPo'⟩ IH
  have hll := hW'.lenL
  rcases List.eq_nil_or_concat W' with rfl | ⟨W0, k, rfl⟩
  · rw [hopP_nil] at hhop
    simp (config := { maxSteps := 2000000 }) +contextual only [go_sem, ↓reduceIte, r172_l7, q8, hll]
    refine hk _ _ bb' be' bm' ?_ (by rw [← hhop]; exact P)
    simp +contextual only [go_sem, ↓reduceIte, q3]
  · rw [List.concat_eq_append] at *
    obtain ⟨f, rfl⟩ : ∃ g, f = g + 1 := ⟨f - 1, by simp at hme'; omega⟩
    have hlast : (W0 ++ [k]).getLast? = some k := by simp
    obtain ⟨H2, hm2⟩ := hop_step hA (fun y _ c _ u => befA_mem A y c u) hH' hlast
    rw [hopP, hlast] at hhop
    simp only [List.dropLast_concat] at hhop H2 hm2
    have hkW := hH'.work k (by simp)
    obtain ⟨k1, k2, k3⟩ := hH'.wf.sp k hkW
    have hfew := hH'.wf.few
    have hle0 := hH'.wf.le; have hll0 := hH'.wf.ll
    have hwl : W0.length + 1 ≤ F := by simp at hme'; omega
    have hlen : (W0 ++ [k]).length = W0.length + 1 := by simp
    rw [hlen] at hll
    obtain ⟨b, R, rfl, hg, hbn⟩ : ∃ b R, wv' = .sl b 0 (W0.length + 1) none 1 ∧ s'.get b = some (.cells (nats (W0 ++ [k] ++ R)) 3 false 0 0) ∧ N ≤ b ∧ b < s'.next := by
      rcases hW' with ⟨_, h⟩ | ⟨b, R, h1, h2, h3, h4⟩
      · simp at h
      · exact ⟨b, R, by rw [h1, hlen], h2, h3, h4⟩
    have o1 : (nats (W0 ++ [k] ++ R))[W0.length]? = some (.int .i64 (k : Nat)) := by
      rw [nats_get (by simp), gt_left (by simp), gt_right (Nat.le_refl _), Nat.sub_self]; rfl
    have w1 : IntKind.i64.wrap (((W0.length + 1 : Nat) : Int) - 1) = (W0.length : Int) := by rw [wrap_i64] <;> omega
    have hgt : decide (((W0.length + 1 : Nat) : Int) > 0) = true := by simp
    have sl1 := sllD (b := b) (n := W0.length + 1) (k := W0.length) (by omega)
    have o2 := nats_get (l := p'.bg) (i := k) hkW
    have o3 := nats_get (l := p'.en) (i := k) (by omega)
    have ke : k < p'.en.length := by omega
    have sl2 := sllN (b := bl) (n := p'.list.length) (f := gt p'.bg k) (t := gt p'.en k) (.inl rfl) (by omega) (by omega)
    have lts' := P.ltA
    obtain ⟨t1, t2, t3, t4, t5, t6, t7⟩ := lts'
    have c1 := c215 (s := s'.upto (s'.next + 21)) (b := bl) (f := gt p'.bg k) (k := gt p'.en k - gt p'.bg k) (cap := none) (L := p'.list) (by rw [upto_get]; exact P.gl) (by rw [upto_next]; omega) (by omega) (by omega) (by omega)
    have hN1 : ∀ j q, j < s'.next → (s'.next + q = j) = False := fun j q hj => by simp; omega
    have lb := hbn.2
    have q1 : W0.length < W0.length + 1 := by omega
    simp (config := { maxSteps := 2000000 }) +contextual only [go_sem, ↓reduceIte, r172_l7, q3, q4, q8, hll, hg, o1, w1, hgt, sl1, o2, o3, hkW, ke, sl2, P.g, P.gb, P.ge, Nat.mul_one, k215', c1, Option.map_none, q1]
    have hg2 : ∀ j x y, j < s'.next → ((((s'.upto (s'.next + 21)).new x).new y).get j = s'.get j) := fun j x y hj => by
      rw [get_new, next_new, upto_next, if_neg (by omega), get_new, upto_next, if_neg (by omega), upto_get]
    have hpl : (piece p'.list (gt p'.bg k) (gt p'.en k)).length = gt p'.en k - gt p'.bg k := piece_len (by omega)
    have hms : ∀ u ∈ piece p'.list (gt p'.bg k) (gt p'.en k), u < A.n := fun u hu => by
      obtain ⟨i, h1, h2, rfl⟩ := (piece_mem (by omega)).1 hu
      exact (hH'.wf.li i (by omega)).1
    refine l172f (N := N) (n := A.n) (m := A.m) (nx := A.nx) (B := B) (lo := lo) (hi := hi) (bx := bx) (vs := vs) (bf := befA A) (p := p') (W := W0) (wv := .sl b 0 W0.length none 1) (ms := piece p'.list (gt p'.bg k) (gt p'.en k)) (mv := .sl (s'.next + 22) 0 (gt p'.en k - gt p'.bg k) none 1) hn hm (P.mono (by simp only [next_new, upto_next]; omega) fun j hj => hg2 j _ _ (P.lt j hj)) hH'.wf hH'.zero hms (by omega) (by omega) (fun y _ c _ u => befA_mem A y c u) (fun y _ c _ => befA_len A y c) ?_ ?_ ?_ ?_ ?_ ?_ (.inr ⟨b, [k] ++ R, rfl, ?_, hbn.1, ?_⟩) (fun j hj => ?_) ?_ (.inr ⟨s'.next + 22, ?_, ?_, ?_⟩) (fun j hj => ?_) (B'.keep (by simp only [next_new, upto_next]; omega) fun j h1 h2 => hg2 j _ _ (by omega)) hPo' ?_ ?_
    case refine_16 =>
      intro e2 s2 wv2 cb ce cm h2a h2b P2 W2 hs2 hf2 hcb hce hcm fs2 hn2 fr2
      simp only [next_new, upto_next] at hn2 fs2 hs2 hcb hce hcm
      simp (config := { maxSteps := 2000000 }) +contextual only [go_sem, ↓reduceIte]
      refine IH f _ _ (by omega) ⟨by omega, ?_, ?_, by omega, fr2, _, _, wv2, cb, ce, cm, h2b, P2, H2, by simp at hme'; omega, hhop, W2, fun j hj => ⟨hf2 j hj, ?_⟩, ?_, fun j => ?_⟩
      · rw [h2a 3 (by omega)]; simp +contextual only [go_sem, ↓reduceIte, q3]
      · rw [h2a 4 (by omega)]; simp +contextual only [go_sem, ↓reduceIte, q4]
      · rcases hs2 j hj with h6 | h6
        · rw [isB_sl] at h6
          exact (hfar j ((isB_sl _ _ _).2 h6)).2
        · unfold Ou; omega
      · refine B'.keep (by omega) fun j h1 h2 => ?_
        have h3 : NotP pb bl bp bs bb' be' bm' j := by rcases hPo' j with h | h; unfold Ou at h; omega; exact h
        rw [fs2 j (by omega) h3 (fun hb => by
          rw [isB_sl] at hb
          have := (hfar j ((isB_sl _ _ _).2 hb)).2
          unfold Ou at this; omega), hg2 j _ _ (by omega)]
      · rcases hPo' j with h3 | h3
        · exact .inl h3
        · unfold NotP at h3 ⊢; unfold Ou; omega
    case refine_15 => exact ((fr'.upto (by omega)).new _).new _
    case refine_14 =>
      rw [isB_sl] at hj
      subst hj
      rw [isB_sl]
      refine ⟨by unfold NotP; omega, by omega⟩
    case refine_13 => simp only [next_new, upto_next]; omega
    case refine_12 => rw [get_new, next_new, upto_next, if_pos rfl]; rfl
    case refine_11 => rw [hpl]
    case refine_10 => simp only [next_new, upto_next]; omega
    case refine_9 =>
      rw [isB_sl] at hj
      exact hfar j ((isB_sl _ _ _).2 hj)
    case refine_8 => simp only [next_new, upto_next]; omega
    case refine_7 => rw [hg2 _ _ _ hbn.2, hg, List.append_assoc]
    all_goals simp +contextual only [go_sem, ↓reduceIte, q3, q4]
    all_goals rfl
end Go.Am

set_option linter.all false
namespace Go.Am
open Go
variable [MaxLen]
set_option maxRecDepth 100000
set_option maxHeartbeats 8000000

/-! # The rows of the states before each state -/
def befU (A : Fa) (x c i : Nat) : List Nat := (List.range i).filter fun u => A.nx u x == c
theorem befU_succ (A : Fa) (x c i : Nat) : befU A x c (i + 1) = if A.nx i x = c then befU A x c i ++ [i] else befU A x c i := by
  unfold befU
  rw [List.range_succ, List.filter_append]
  by_cases e : A.nx i x = c <;> simp [e]
theorem befU_len (A : Fa) (x c i : Nat) : (befU A x c i).length ≤ i := by
  unfold befU
  have := List.length_filter_le (fun u => A.nx u x == c) (List.range i)
  rw [List.length_range] at this
  exact this
def updF (f : Nat → AV) (c : Nat) (v : AV) (k : Nat) : AV := if k = c then v else f k
theorem lay_upd {f : Nat → AV} {n c : Nat} (h : c < n) (v : AV) : lay c [v] ((List.range n).map f) = some ((List.range n).map (updF f c v)) := by
  rw [lay_set _ _ _ (by simpa using h)]
  congr 1
  apply List.ext_getElem?
  intro k
  rw [List.getElem?_set]
  simp only [List.getElem?_map, List.length_map, List.length_range, updF]
  by_cases e : c = k
  · subst e
    rw [if_pos rfl, if_pos h, List.getElem?_range h]
    simp [updF]
  · rw [if_neg e]
    by_cases hk : k < n
    · rw [List.getElem?_range hk]
      simp [updF, Ne.symm e]
    · rw [List.getElem?_eq_none (by simp; omega)]
      rfl
theorem l172a {β : Type} {fin : Fl → β} {ks : List K} {Post : β → Prop} {a : Auto} (ha : a.ok) {x B bX m : Nat} {Bc : List AV} {e : Env} {s : St} (hx : x < 2 ^ a.lines.toNat)
    (g4 : Env.get e 4 = .sl B 0 m (some m) 1) (g5 : Env.get e 5 = .int .i64 (x : Int)) (g40 : Env.get e 40 = encS a.nNl (a.next.map encRow)) (g41 : Env.get e 41 = .int .i64 a.next.length) (g42 : Env.get e 42 = .int .i64 (0 : Nat))
    (hxm : x < m) (gB : s.get B = some (.cells Bc 66 false 0 0)) (hBx : Bc[x]? = some (.sl bX 0 a.next.length (some a.next.length) 1)) (gX : s.get bX = some (.cells ((List.range a.next.length).map fun _ => .nils) 40 false 0 0)) (hne : B ≠ bX) (hB : B < s.next) (hX : bX < s.next) (fr : Fr s)
    (hk : ∀ e' s' vs, (∀ t : Nat, t < 6 ∨ 7 < t ∧ t < 40 → Env.get e' t = Env.get e t) → s'.get bX = some (.cells ((List.range a.next.length).map vs) 40 false 0 0) → (∀ c, c < a.next.length → SlI s' s.next (befU a.fa x c a.next.length) (vs c)) →
      (∀ j, j < s.next → j ≠ bX → s'.get j = s.get j) → s.next ≤ s'.next → Fr s' → Post (goN U fin ks e' s')) :
    Post (goL U fin (.bk 2 :: ks) r172_l0 e s) := by
  have hfew := ha.few
  refine loop_ex (σ := Nat) (fun i => a.next.length - i) (fun i e' s' => i ≤ a.next.length ∧ (∀ t : Nat, t < 6 ∨ 7 < t ∧ t < 42 → Env.get e' t = Env.get e t) ∧ Env.get e' 42 = .int .i64 (i : Nat) ∧ (∀ j, j < s.next → j ≠ bX → s'.get j = s.get j) ∧ s.next ≤ s'.next ∧ Fr s' ∧
      ∃ vs : Nat → AV, s'.get bX = some (.cells ((List.range a.next.length).map vs) 40 false 0 0) ∧ (∀ c, c < a.next.length → SlI s' s.next (befU a.fa x c i) (vs c)) ∧ ∀ c c' j, c ≠ c' → c < a.next.length → c' < a.next.length → isB (vs c) j → ¬ isB (vs c') j) 0 ?_
    ⟨Nat.zero_le _, fun _ _ => rfl, g42, fun _ _ _ => rfl, Nat.le_refl _, fr, fun _ => .nils, gX, fun c _ => .inl ⟨rfl, rfl⟩, fun c c' j _ _ _ h => absurd h (isB_nils j)⟩
  rintro Lp i e' s' ⟨hil, hold, q42, hs, hnx, fr', vs, qX, hvs, hdis⟩ IH
  have q4 := (hold 4 (by omega)).trans g4
  have q5 := (hold 5 (by omega)).trans g5
  have q40 := (hold 40 (by omega)).trans g40
  have q41 := (hold 41 (by omega)).trans g41
  by_cases hd : i < a.next.length
  · have hwr := wrap_succ hd (by omega)
    have hrow := ixa_rowI (nl := a.nNl) hd
    have hnx2 := ha.nxAt hd hx
    have hc : a.fa.nx i x < a.next.length := ha.faok.lt i x hd hx
    have gB' := (hs B hB hne).trans gB
    have o1 := range_get vs hc
    have hvc := hvs _ hc
    have hbl := befU_len a.fa x (a.fa.nx i x) i
    have hbs : befU a.fa x (a.fa.nx i x) (i + 1) = befU a.fa x (a.fa.nx i x) i ++ [i] := by rw [befU_succ, if_pos rfl]
    have hbo : ∀ c, c ≠ a.fa.nx i x → befU a.fa x c (i + 1) = befU a.fa x c i := fun c h => by rw [befU_succ, if_neg (fun e => h e.symm)]
    generalize a.fa.nx i x = c at *
    have hlay := fun v => lay_upd (f := vs) hc v
    have hX' : bX < s'.next := by omega
    have hBn : B < s'.next := by omega
    have hfk := fr'.at
    have hN1 : ∀ j q, j < s'.next → (j = s'.next + q) = False := fun j q hj => by simp; omega
    have hN2 : ∀ j q, j < s'.next → (s'.next + q = j) = False := fun j q hj => by simp; omega
    have z1 : (bX = B) = False := eq_false hne.symm
    have z2 : (B = bX) = False := eq_false hne
    have key : ∀ (E : Env) (S : St), (∀ t : Nat, t < 6 ∨ 7 < t ∧ t < 42 → Env.get E t = Env.get e' t) → Env.get E 42 = .int .i64 ((i + 1 : Nat) : Int) →
        S.get bX = some (.cells ((List.range a.next.length).map (updF vs c (.sl (s'.next + 23) 0 ((befU a.fa x c i).length + 1) none 1))) 40 false 0 0) → S.get (s'.next + 23) = some (.cells (nats (befU a.fa x c i ++ [i])) 3 false 0 0) →
        (∀ j, j < s'.next → j ≠ bX → ¬ isB (vs c) j → S.get j = s'.get j) → s'.next + 23 < S.next → Fr S → Post (goL U fin (.bk 2 :: ks) Lp E S) := by
      intro E S k1 k2 k3 k4 k5 k6 k7
      refine IH (i + 1) _ _ (by omega) ⟨by omega, fun t ht => (k1 t ht).trans (hold t ht), k2, fun j h1 h2 => (k5 j (by omega) h2 fun h => by have := hvc.lt h; omega).trans (hs j h1 h2), by omega, k7, _, k3, fun d hd2 => ?_, fun d d' j h1 h2 h3 h4 => ?_⟩
      · unfold updF
        by_cases hdc : d = c
        · subst hdc
          rw [if_pos rfl, hbs]
          exact .inr ⟨s'.next + 23, by simp, k4, by omega, k6⟩
        · rw [if_neg hdc, hbo d hdc]
          exact (hvs d hd2).keep (by omega) fun j h1 h2 h3 => k5 j h1 (by omega) fun h4 => hdis d c j hdc hd2 hc h3 h4
      · unfold updF at h4 ⊢
        by_cases hdc : d = c
        · have hdc' : d' ≠ c := by omega
          rw [if_pos hdc, isB_sl] at h4
          rw [if_neg hdc']
          intro h5
          have := (hvs d' h3).lt h5
          omega
        · rw [if_neg hdc] at h4
          by_cases hdc' : d' = c
          · rw [if_pos hdc', isB_sl]
            have := (hvs d h2).lt h4
            omega
          · rw [if_neg hdc']
            exact hdis d d' j h1 h2 h3 h4
    have hb1 : ((befU a.fa x c i).length + 1) * 8 ≤ 1099511627776 := by omega
    have hb2 : (befU a.fa x c i).length + 1 ≤ 1099511627776 := by omega
    have hb5 : (0 + 1) * 8 ≤ 1099511627776 := by omega
    have hnt : ∀ t : Nat, t < 6 ∨ 7 < t ∧ t < 42 → (6 = t) = False ∧ (7 = t) = False ∧ ∀ k : Nat, 42 ≤ k → (k = t) = False := fun t ht => ⟨by simp; omega, by simp; omega, fun k hk => by simp; omega⟩
    rcases hvc with ⟨hv, hL⟩ | ⟨b, hv, hg, e1, e2⟩
    · rw [hv] at o1 key
      rw [hL] at key
      simp (config := { maxSteps := 2000000 }) +contextual only [go_sem, ↓reduceIte, r172_l0, q4, q5, q40, q41, q42, nat_lt_dec, hd, hwr, hrow, hnx2, go_drcU d172_0, gB', hBx, qX, o1, hxm, hc, appD_nils, appK_some, Nat.mul_one, Nat.one_mul, Nat.reducePow, Nat.zero_add, Nat.add_assoc, hfk, hX', hBn, hN1, hN2, z1, z2, hb5, hlay]
      refine key _ _ (fun t ht => ?_) ?_ ?_ ?_ (fun j h1 h2 h3 => ?_) ?_ ?_
      · obtain ⟨n6, n7, n42⟩ := hnt t ht
        simp +contextual only [go_sem, ↓reduceIte, n6, n7, n42]
      · simp +contextual only [go_sem, ↓reduceIte]
      · simp +contextual only [go_sem, ↓reduceIte]
        try rfl
      · simp +contextual [go_sem, ↓reduceIte, hN1, hN2, hX', Nat.add_assoc]
        try rfl
      · have e0 : ∀ q, (s'.next + q = j) = False := fun q => by simp; omega
        simp +contextual only [get_put, get_new, next_put, next_new, upto_next, upto_get, Nat.add_assoc, Nat.reduceAdd, e0, eq_false h2.symm, if_false]
      · simp only [next_put, next_new, upto_next]; omega
      · repeat first | exact fr' | apply Fr.new | apply Fr.put | apply Fr.upto
        all_goals try simp only [next_put, next_new, upto_next]
        all_goals omega
    · rw [hv] at o1 key
      have a1 := fun (S : St) (h : S.get b = some (.cells (nats (befU a.fa x c i)) 3 false 0 0)) => appX' rfl h i
      have z3 : (bX = b) = False := by simp; omega
      have z4 : (b = bX) = False := by simp; omega
      have z5 : (b = B) = False := by simp; omega
      have z6 : (B = b) = False := by simp; omega
      simp (config := { maxSteps := 2000000 }) +contextual only [go_sem, ↓reduceIte, r172_l0, q4, q5, q40, q41, q42, nat_lt_dec, hd, hwr, hrow, hnx2, go_drcU d172_0, gB', hBx, qX, o1, hxm, hc, hg, a1, appK_some, Nat.mul_one, Nat.one_mul, Nat.reducePow, Nat.zero_add, Nat.add_assoc, hfk, hX', hBn, hN1, hN2, z1, z2, z3, z4, z5, z6, e2, hb1, hb2, hlay]
      refine key _ _ (fun t ht => ?_) ?_ ?_ ?_ (fun j h1 h2 h3 => ?_) ?_ ?_
      · obtain ⟨n6, n7, n42⟩ := hnt t ht
        simp +contextual only [go_sem, ↓reduceIte, n6, n7, n42]
      · simp +contextual only [go_sem, ↓reduceIte]
      · simp +contextual only [go_sem, ↓reduceIte]
      · simp +contextual [go_sem, ↓reduceIte, hN1, hN2, hX', e2, Nat.add_assoc]
      · have e0 : ∀ q, (s'.next + q = j) = False := fun q => by simp; omega
        rw [isB_sl] at h3
        simp +contextual only [get_put, get_new, next_put, next_new, upto_next, upto_get, Nat.add_assoc, Nat.reduceAdd, e0, eq_false h2.symm, eq_false h3, if_false]
      · simp only [next_put, next_new, upto_next]; omega
      · repeat first | exact fr' | apply Fr.new | apply Fr.put | apply Fr.upto
        all_goals try simp only [next_put, next_new, upto_next]
        all_goals omega
  · have : i = a.next.length := by omega
    subst this
    simp (config := { maxSteps := 2000000 }) +contextual only [go_sem, ↓reduceIte, r172_l0, q41, q42, nat_lt_dec, Nat.lt_irrefl]
    refine hk _ _ vs (fun t ht => ?_) qX hvs hs hnx fr'
    have hne : ∀ k : Nat, 42 ≤ k → (k = t) = False := fun k hk => by simp; omega
    simp +contextual only [go_sem, ↓reduceIte, hne]
    exact hold t (by omega)
end Go.Am

set_option linter.all false
namespace Go.Am
open Go
variable [MaxLen]
set_option maxRecDepth 100000
set_option maxHeartbeats 8000000

/-! # The rows for all symbols; the first work list -/
theorem opA_mks66 {ex : Ex} {a : Nat} {e : Env} {s : St} {n : Nat} (h : Env.get e a = .int .i64 (n : Int)) (hn : n ≤ 2 ^ 20) :
    opA U ex e (.makeSlice 66 (.tmp a) (.tmp a)) s = some (.sl s.next 0 n (some n) 1, s.new (.cells ((List.range n).map fun _ => .nils) 40 false 0 0)) := by
  have h40 : U.und 66 = some (.slice 40) := by kernel_rfl
  have hz : zero U 40 = some .nils := by kernel_rfl
  have hi : (U.inf 40).map (fun i => (i.bytes, i.size)) = some (24, 1) := by kernel_rfl
  have e1 : ((List.range n).map fun _ => AV.nils) = List.replicate n .nils := by simp [List.map_const']
  cases hj : U.inf 40 with
  | none => rw [hj] at hi; cases hi
  | some j =>
    rw [hj] at hi
    simp only [Option.map_some, Option.some.injEq, Prod.mk.injEq] at hi
    obtain ⟨h1, h2⟩ := hi
    rw [e1, ← repeatL_one]
    simp only [opA, eval, h, h40, hj, hz]
    rw [if_pos ⟨by omega, by omega, by rw [h1]; omega, by omega, by rw [h2]; rfl, by omega⟩, h2]
    rfl
theorem opA_mks283 {ex : Ex} {a : Nat} {e : Env} {s : St} {n : Nat} (h : Env.get e a = .int .i64 (n : Int)) (hn : n ≤ 2 ^ 20) :
    opA U ex e (.makeSlice 283 (.tmp a) (.tmp a)) s = some (.sl s.next 0 n (some n) 1, s.new (.cells ((List.range n).map fun _ => .nils) 66 false 0 0)) := by
  have h40 : U.und 283 = some (.slice 66) := by kernel_rfl
  have hz : zero U 66 = some .nils := by kernel_rfl
  have hi : (U.inf 66).map (fun i => (i.bytes, i.size)) = some (24, 1) := by kernel_rfl
  have e1 : ((List.range n).map fun _ => AV.nils) = List.replicate n .nils := by simp [List.map_const']
  cases hj : U.inf 66 with
  | none => rw [hj] at hi; cases hi
  | some j =>
    rw [hj] at hi
    simp only [Option.map_some, Option.some.injEq, Prod.mk.injEq] at hi
    obtain ⟨h1, h2⟩ := hi
    rw [e1, ← repeatL_one]
    simp only [opA, eval, h, h40, hj, hz]
    rw [if_pos ⟨by omega, by omega, by rw [h1]; omega, by omega, by rw [h2]; rfl, by omega⟩, h2]
    rfl
/-- the rows up to a symbol -/
structure BefX (s : St) (B m n : Nat) (bf : Nat → Nat → List Nat) (x : Nat) (bx : Nat → Nat) (vs : Nat → Nat → AV) : Prop where
  g : s.get B = some (.cells ((List.range m).map fun y => if y < x then .sl (bx y) 0 n (some n) 1 else .nils) 66 false 0 0)
  row : ∀ y, y < x → s.get (bx y) = some (.cells ((List.range n).map (vs y)) 40 false 0 0)
  bl : ∀ y, y < x → ∀ c, c < n → SlI s (B + 1) (bf y c) (vs y c)
  hx : ∀ y, y < x → B < bx y ∧ bx y < s.next
theorem BefX.full {s : St} {B m n : Nat} {bf : Nat → Nat → List Nat} {bx : Nat → Nat} {vs : Nat → Nat → AV} (h : BefX s B m n bf m bx vs) (hB : B < s.next) : BefI s B m n bf B s.next bx vs := by
  refine ⟨?_, h.row, fun x hx c hc => ?_, ⟨Nat.le_refl _, hB⟩, fun x hx => ⟨by have := h.hx x hx; omega, (h.hx x hx).2⟩, fun x hx c hc j hj => ?_, Nat.le_refl _⟩
  · rw [h.g]
    congr 2
    refine List.map_congr_left fun y hy => ?_
    rw [if_pos (List.mem_range.1 hy)]
  · rcases h.bl x hx c hc with h1 | ⟨b, h1, h2, h3, h4⟩
    · exact .inl h1
    · exact .inr ⟨b, h1, h2, h4⟩
  · have := (h.bl x hx c hc).lt hj
    omega
theorem l172b {β : Type} {fin : Fl → β} {ks : List K} {Post : β → Prop} {a : Auto} (ha : a.ok) {B ab m : Nat} {e : Env} {s : St} (hm : m = 2 ^ a.lines.toNat)
    (g1 : Env.get e 1 = .ptr ab 0) (g4 : Env.get e 4 = .sl B 0 m (some m) 1) (g28 : Env.get e 28 = .int .i64 (m : Int)) (g29 : Env.get e 29 = .int .i64 (0 : Nat))
    (ga : s.get ab = some (.cells [.int .i64 a.lines, encN a, encFs a] 69 false 0 0)) (gB : s.get B = some (.cells ((List.range m).map fun _ => .nils) 66 false 0 0)) (hab : ab < s.next) (hne : ab ≠ B) (hB : B < s.next) (fr : Fr s)
    (hk : ∀ e' s' bx vs, (∀ t : Nat, t < 5 → Env.get e' t = Env.get e t) → BefX s' B m a.next.length (befA a.fa) m bx vs →
      (∀ j, j < s.next → j ≠ B → s'.get j = s.get j) → s.next ≤ s'.next → Fr s' → Post (goN U fin ks e' s')) :
    Post (goL U fin (.bk 0 :: ks) r172_l1 e s) := by
  have hfew := ha.few
  have hm16 : m ≤ 2 ^ 16 := by
    have := pow_le16 a.lines (by have := ha.lines; omega)
    have := mOf_nat a.lines
    unfold mOf at this
    omega
  refine loop_ex (σ := Nat) (fun x => m - x) (fun x e' s' => x ≤ m ∧ (∀ t : Nat, t < 5 ∨ 7 < t ∧ t < 29 → Env.get e' t = Env.get e t) ∧ Env.get e' 29 = .int .i64 (x : Nat) ∧ (∀ j, j < s.next → j ≠ B → s'.get j = s.get j) ∧ s.next ≤ s'.next ∧ Fr s' ∧
      ∃ bx vs, BefX s' B m a.next.length (befA a.fa) x bx vs) 0 ?_
    ⟨Nat.zero_le _, fun _ _ => rfl, g29, fun _ _ _ => rfl, Nat.le_refl _, fr, fun _ => 0, fun _ _ => .nils, ⟨by rw [gB]; simp, fun y hy => by omega, fun y hy => by omega, fun y hy => by omega⟩⟩
  rintro Lp x e' s' ⟨hxl, hold, q29, hs, hnx, fr', bx, vs, X⟩ IH
  have q1 := (hold 1 (by omega)).trans g1
  have q4 := (hold 4 (by omega)).trans g4
  have q28 := (hold 28 (by omega)).trans g28
  by_cases hd : x < m
  · have hwr := wrap_succ hd (by omega)
    have ga' := (hs ab hab hne).trans ga
    have hl := lenL_encS a.nNl (a.next.map encRow)
    rw [List.length_map] at hl
    have mk := fun (ex : Ex) (t : Nat) (e : Env) (S : St) (h : Env.get e t = .int .i64 (a.next.length : Int)) => opA_mks66 (ex := ex) (s := S) h (by omega)
    have hlay := lay_upd (f := fun y => if y < x then .sl (bx y) 0 a.next.length (some a.next.length) 1 else .nils) hd (.sl s'.next 0 a.next.length (some a.next.length) 1)
    have z1 : (s'.next = B) = False := by simp; omega
    have z2 : (B = ab) = False := by simp; omega
    have z3 : (s'.next = ab) = False := by simp; omega
    have hBn : B < s'.next := by omega
    have XB := X.g
    unfold encN encFs at ga'
    simp (config := { maxSteps := 2000000 }) +contextual only [go_sem, ↓reduceIte, r172_l1, q1, q4, q28, q29, nat_lt_dec, hd, ga', hl, ↓mk, XB, hlay, Nat.mul_one, z1, z2, z3]
    refine l172a ha (x := x) (B := B) (bX := s'.next) (m := m) (Bc := (List.range m).map (updF (fun y => if y < x then .sl (bx y) 0 a.next.length (some a.next.length) 1 else .nils) x (.sl s'.next 0 a.next.length (some a.next.length) 1))) (by omega) ?_ ?_ ?_ ?_ ?_ hd ?_ ?_ ?_ (by omega) (by simp only [next_put, next_new]; omega) (by simp only [next_put, next_new]; omega) ?_ ?_
    case refine_10 =>
      intro e2 s2 vx h2a h2X hvx hs2 hnx2 fr2
      simp only [next_put, next_new] at hs2 hnx2 hvx
      have p29 : Env.get e2 29 = .int .i64 (x : Nat) := by rw [h2a 29 (by omega)]; simp +contextual only [go_sem, ↓reduceIte, q29]
      have old : ∀ j, j < s'.next → j ≠ B → s2.get j = s'.get j := fun j h1 h2 => by
        rw [hs2 j (by omega) (by omega), get_put, if_neg h2.symm, get_new, if_neg (by omega)]
      simp (config := { maxSteps := 2000000 }) +contextual only [go_sem, ↓reduceIte, p29, hwr]
      refine IH (x + 1) _ _ (by omega) ⟨by omega, fun t ht => ?_, ?_, fun j h1 h2 => by rw [old j (by omega) h2, hs j h1 h2], by omega, fr2, fun y => if y = x then s'.next else bx y, fun y => if y = x then vx else vs y, ⟨?_, fun y hy => ?_, fun y hy c hc => ?_, fun y hy => ?_⟩⟩
      · have hne : ∀ k : Nat, 29 ≤ k → (k = t) = False := fun k hk => by simp; omega
        have hne5 : (5 = t) = False := by simp; omega
        simp +contextual only [go_sem, ↓reduceIte, hne]
        rw [h2a t (by omega)]
        simp +contextual only [go_sem, ↓reduceIte, hne, hne5]
        exact hold t ht
      · simp +contextual only [go_sem, ↓reduceIte]
      · rw [hs2 B (by omega) (by omega), get_put, if_pos rfl]
        congr 2
        refine List.map_congr_left fun y hy => ?_
        unfold updF
        by_cases e : y = x
        · rw [if_pos e, if_pos (by omega), if_pos e]
        · rw [if_neg e, if_neg e]
          show (if y < x then _ else _) = _
          by_cases e2 : y < x
          · rw [if_pos e2, if_pos (by omega)]
          · rw [if_neg e2, if_neg (by omega)]
      · by_cases e : y = x
        · simp only [e, if_true]; exact h2X
        · simp only [e, if_false]
          have hb := X.hx y (by omega)
          rw [old _ hb.2 (by omega)]
          exact X.row y (by omega)
      · by_cases e : y = x
        · simp only [e, if_true]
          rcases hvx c hc with h1 | ⟨b, h1, h2, h3, h4⟩
          · exact .inl h1
          · exact .inr ⟨b, h1, h2, by omega, h4⟩
        · simp only [e, if_false]
          have hb := X.bl y (by omega) c hc
          exact hb.keep (by omega) fun j h1 h2 h3 => old j h1 (by omega)
      · by_cases e : y = x
        · simp only [e, if_true]; omega
        · simp only [e, if_false]
          have := X.hx y (by omega)
          omega
    case refine_9 => exact (fr'.new _).put (by rw [next_new]; omega) _
    case refine_8 => rw [get_put, if_neg (by omega), get_new, if_pos rfl]
    case refine_7 =>
      rw [range_get _ hd]
      unfold updF
      rw [if_pos rfl]
    case refine_6 => rw [get_put, if_pos rfl]
    all_goals simp +contextual only [go_sem, ↓reduceIte, q4]
    all_goals rfl
  · have : x = m := by omega
    subst this
    simp (config := { maxSteps := 2000000 }) +contextual only [go_sem, ↓reduceIte, r172_l1, q28, q29, nat_lt_dec, Nat.lt_irrefl]
    refine hk _ _ bx vs (fun t ht => ?_) X hs hnx fr'
    have hne : ∀ k : Nat, 29 ≤ k → (k = t) = False := fun k hk => by simp; omega
    simp +contextual only [go_sem, ↓reduceIte, hne]
    exact hold t (by omega)
theorem l172h {β : Type} {fin : Fl → β} {ks : List K} {Post : β → Prop} {n : Nat} {e : Env} {s : St} (hn : n ≤ 2 ^ 20) (g8 : Env.get e 8 = .nils) (g75 : Env.get e 75 = .int .i64 (n : Int)) (g76 : Env.get e 76 = .int .i64 (0 : Nat)) (fr : Fr s)
    (hk : ∀ e' s' wv, (∀ t : Nat, t < 8 → Env.get e' t = Env.get e t) → Env.get e' 8 = wv → SlJ s' s.next (List.range n) wv → (∀ j, j < s.next → s'.get j = s.get j) → s.next ≤ s'.next → Fr s' → Post (goN U fin ks e' s')) :
    Post (goL U fin (.bk 4 :: ks) r172_l2 e s) := by
  refine loop_ex (σ := Nat) (fun i => n - i) (fun i e' s' => i ≤ n ∧ (∀ t : Nat, t < 8 ∨ 9 < t ∧ t < 76 → Env.get e' t = Env.get e t) ∧ Env.get e' 76 = .int .i64 (i : Nat) ∧ (∀ j, j < s.next → s'.get j = s.get j) ∧ s.next ≤ s'.next ∧ Fr s' ∧
      ∃ wv, Env.get e' 8 = wv ∧ SlJ s' s.next (List.range i) wv) 0 ?_
    ⟨Nat.zero_le _, fun _ _ => rfl, g76, fun _ _ => rfl, Nat.le_refl _, fr, .nils, g8, .inl ⟨rfl, rfl⟩⟩
  rintro Lp i e' s' ⟨hil, hold, q76, hs, hnx, fr', wv, q8, hW⟩ IH
  have q75 := (hold 75 (by omega)).trans g75
  by_cases hd : i < n
  · have hwr := wrap_succ hd (by omega)
    have hlA := hW.lenA
    rw [List.length_range] at hlA
    have hb5 : (i + 1) * 8 ≤ 1099511627776 := by omega
    have hb6 : i + 1 ≤ 1099511627776 := by omega
    simp (config := { maxSteps := 2000000 }) +contextual only [go_sem, ↓reduceIte, r172_l2, q8, q75, q76, nat_lt_dec, hd, hwr, Nat.mul_one, Nat.one_mul, appK_some, Nat.reducePow, hlA, hb5, hb6]
    have W3 : SlJ (s'.new (.cells [.int .i64 (i : Int)] 3 false 0 0)) s.next (List.range i) wv := hW.keep (by rw [next_new]; omega) fun j h1 _ _ => by rw [get_new, if_neg (by omega)]
    obtain ⟨s4, d1, d2, d3, d4, d5⟩ := W3.app (by rw [next_new]; omega) i
    rw [next_new] at d1 d2 d3 d4
    rw [d1]
    simp (config := { maxSteps := 2000000 }) +contextual only [go_sem, ↓reduceIte, q76, hwr]
    refine IH (i + 1) _ _ (by omega) ⟨by omega, fun t ht => ?_, ?_, fun j hj => ?_, by omega, d5 (fr'.new _), _, ?_, by rw [List.range_succ]; exact d3⟩
    · have hne : ∀ k : Nat, 76 ≤ k → (k = t) = False := fun k hk => by simp; omega
      have hne8 : (8 = t) = False := by simp; omega
      have hne9 : (9 = t) = False := by simp; omega
      simp +contextual only [go_sem, ↓reduceIte, hne, hne8, hne9]
      exact hold t ht
    · simp +contextual only [go_sem, ↓reduceIte]
    · rw [d4 j (by omega) (fun h => by have := hW.lt h; omega), get_new, if_neg (by omega)]; exact hs j hj
    · simp +contextual only [go_sem, ↓reduceIte]
  · have : i = n := by omega
    subst this
    simp (config := { maxSteps := 2000000 }) +contextual only [go_sem, ↓reduceIte, r172_l2, q75, q76, nat_lt_dec, Nat.lt_irrefl]
    refine hk _ _ wv (fun t ht => ?_) ?_ hW hs hnx fr'
    · have hne : ∀ k : Nat, 76 ≤ k → (k = t) = False := fun k hk => by simp; omega
      simp +contextual only [go_sem, ↓reduceIte, hne]
      exact hold t (by omega)
    · simp +contextual only [go_sem, ↓reduceIte, q8]
end Go.Am

set_option linter.all false
namespace Go.Am
open Go
variable [MaxLen]
set_option maxRecDepth 100000
set_option maxHeartbeats 8000000

/-! # The program's classes -/
noncomputable def setsA (a : Auto) : List Nat :=
  (hopP (befA a.fa) a.fa.m (2 * (a.fa.n - (rowsP (kapA a) a.fa.n).bg.length) + (rowsP (kapA a) a.fa.n).bg.length) (rowsP (kapA a) a.fa.n) (List.range (rowsP (kapA a) a.fa.n).bg.length)).set
theorem kapA_eq {a : Auto} (ha : a.ok) {u v : Nat} (hu : u < a.fa.n) (hv : v < a.fa.n) : kapA a u = kapA a v ↔ ∀ x, x < a.fa.m → a.fa.fr u x = a.fa.fr v x := by
  have hu' : u < a.fires.length := by rw [ha.fl]; exact hu
  have hv' : v < a.fires.length := by rw [ha.fl]; exact hv
  have h1 := ha.frow u hu'
  have h2 := ha.frow v hv'
  have e1 : ∀ s x, a.fa.fr s x = (a.fires.getD s (true, [])).2.getD x false := fun _ _ => rfl
  unfold kapA
  simp only [e1]
  rw [getD_at hu', getD_at hv']
  constructor
  · intro h x _
    rw [keyS_inj (by omega) h]
  · intro h
    congr 1
    refine List.ext_getElem (by omega) fun x q1 q2 => ?_
    have := h x (by show x < 2 ^ a.lines.toNat; omega)
    rw [getD_at q1, getD_at q2] at this
    exact this
theorem setsA_hop {a : Auto} (ha : a.ok) : Hop a.fa (rowsP (kapA a) a.fa.n) (List.range (rowsP (kapA a) a.fa.n).bg.length) := rows_hop fun u v hu hv => kapA_eq ha hu hv
theorem setsA_len {a : Auto} (ha : a.ok) : (setsA a).length = a.fa.n := by
  have h := hop_end ha.faok (fun y _ c _ u => befA_mem a.fa y c u) _ (setsA_hop ha) (Nat.le_refl _)
  rw [List.length_range] at h
  exact h.wf.ls
theorem setsA_eq {a : Auto} (ha : a.ok) {u v : Nat} (hu : u < a.fa.n) (hv : v < a.fa.n) : gt (setsA a) u = gt (setsA a) v ↔ clsR a.fa u = clsR a.fa v :=
  cls_eq ha.faok (fun u v hu hv => kapA_eq ha hu hv) hu hv
theorem c172 {a : Auto} (ha : a.ok) : calV U 172 [encA a] = some (.fz (nats (setsA a))) := by
  refine pure_go k172 (by kernel_rfl) (by simp [stills, still_encA]) ?_
  have hfew := ha.few
  have hm16 : 2 ^ a.lines.toNat ≤ 2 ^ 8 := Nat.pow_le_pow_right (by omega) (by have := ha.lines; omega)
  have nn := noAgg_encS a.nNl (a.next.map encRow)
  have nf := noAgg_encS a.fNl (a.fires.map encFRow)
  have cn := cells_encS a.nNl (a.next.map encRow)
  have cf := cells_encS a.fNl (a.fires.map encFRow)
  have hsh := bin_shl1 U 3 true .i64 (n := a.lines) (show 0 ≤ a.lines ∧ a.lines ≤ 16 by have := ha.lines; omega)
  have hcast : (2 ^ a.lines.toNat : Int) = ((2 ^ a.lines.toNat : Nat) : Int) := by simp
  rw [hcast] at hsh
  have mk := fun (ex : Ex) (t : Nat) (e : Env) (S : St) (h : Env.get e t = .int .i64 ((2 ^ a.lines.toNat : Nat) : Int)) => opA_mks283 (ex := ex) (s := S) h (by omega)
  obtain ⟨s1, pb, bl, bp, bs, bb, be, bm, h1, P, l1, l2, l3, l4, l5, l6, l7, hn1, fr1, hs1⟩ := c214 ha (s := (ownSt U).new (.cells [.int .i64 a.lines, encN a, encFs a] 69 false 0 0)) (Fr.own.new _)
  have P : PtI s1 pb a.fa.n bl bp bs bb be bm (rowsP (kapA a) a.fa.n) := P
  rw [encA_eq] at h1 ⊢
  unfold encN encFs at *
  have ho : (ownSt U).next = 8 := rfl
  simp only [next_new, ho] at l1 l2 l3 l4 l5 l6 l7 hn1 hs1
  have g8 : s1.get 8 = some (.cells [.int .i64 a.lines, encS a.nNl (a.next.map encRow), encS a.fNl (a.fires.map encFRow)] 69 false 0 0) := by
    rw [hs1 8 (by omega), get_new, ho, if_pos rfl]
  simp (config := { maxSteps := 2000000 }) +contextual only [go_sem, ↓reduceIte, r172, nn, nf, cn, cf, k214', h1, g8, hsh, ↓mk]
  have hmk : mOf a.lines = ((2 ^ a.lines.toNat : Nat) : Int) := mOf_nat a.lines
  have hH := setsA_hop ha
  have hwl := hH.wf.few
  have hlts := P.ltA
  refine l172b (Post := fun r : Option AV => r = some (AV.fz (nats (setsA a)))) ha (B := s1.next) (ab := 8) (m := 2 ^ a.lines.toNat) rfl ?_ ?_ ?_ ?_ ?_ ?_ ?_ ?_ ?_ (fr1.new _) ?_
  case refine_10 =>
    intro e2 s2 bx vs h2a X hs2 hn2 fr2
    rw [next_new] at hs2 hn2
    have p3 : Env.get e2 3 = .ptr pb 0 := by rw [h2a 3 (by omega)]; simp +contextual only [go_sem, ↓reduceIte]
    have p4 : Env.get e2 4 = .sl s1.next 0 (2 ^ a.lines.toNat) (some (2 ^ a.lines.toNat)) 1 := by rw [h2a 4 (by omega)]; simp +contextual only [go_sem, ↓reduceIte]
    have BI := X.full (by omega)
    have P2 := P.mono (s' := s2) (by omega) fun j hj => by
      have := P.lt j hj
      rw [hs2 j (by omega) (by omega), get_new, if_neg (by omega)]
    have hPo : ∀ j, Ou s1.next s2.next j ∨ NotP pb bl bp bs bb be bm j := fun j => by unfold Ou NotP; omega
    simp (config := { maxSteps := 2000000 }) +contextual only [go_sem, ↓reduceIte, p3, P2.g]
    refine l172h (Post := fun r : Option AV => r = some (AV.fz (nats (setsA a)))) (n := (rowsP (kapA a) a.next.length).bg.length) (by have : (rowsP (kapA a) a.next.length).bg.length ≤ a.next.length := hwl; omega) ?_ ?_ ?_ fr2 ?_
    case refine_4 =>
      intro e3 s3 wv h3a h3w W hs3 hn3 fr3
      have p3' : Env.get e3 3 = .ptr pb 0 := by rw [h3a 3 (by omega)]; simp +contextual only [go_sem, ↓reduceIte, p3]
      have p4' : Env.get e3 4 = .sl s1.next 0 (2 ^ a.lines.toNat) (some (2 ^ a.lines.toNat)) 1 := by rw [h3a 4 (by omega)]; simp +contextual only [go_sem, ↓reduceIte, p4]
      simp (config := { maxSteps := 2000000 }) +contextual only [go_sem, ↓reduceIte]
      refine l172g (Post := fun r : Option AV => r = some (AV.fz (nats (setsA a)))) (A := a.fa) ha.faok (N := s2.next) (B := s1.next) (lo := s1.next) (hi := s2.next) (bx := bx) (vs := vs) (F := 2 * (a.fa.n - (rowsP (kapA a) a.fa.n).bg.length) + (rowsP (kapA a) a.fa.n).bg.length) (wv := wv) hfew hm16 (P2.mono hn3 fun j hj => hs3 j (P2.lt j hj)) hH ?_ ?_ p3' p4' h3w W (fun j hj => ?_) hn3 (BI.keep hn3 fun j h1 h2 => hs3 j (by omega)) hPo fr3 ?_
      · have : a.fa.n ≤ 256 := hfew
        omega
      · rw [List.length_range]; exact Nat.le_refl _
      · have := W.lt hj
        unfold NotP Ou
        omega
      · intro e4 s4 cb ce cm q3 P4
        have hsl : (hopP (befA a.fa) a.fa.m (2 * (a.fa.n - (rowsP (kapA a) a.fa.n).bg.length) + (rowsP (kapA a) a.fa.n).bg.length) (rowsP (kapA a) a.fa.n) (List.range (rowsP (kapA a) a.fa.n).bg.length)).set.length = a.fa.n := setsA_len ha
        have hz := frz_slN (d := 38) (cap := some a.fa.n) hsl P4.gs
        have P4g := P4.g
        rw [hsl] at P4g
        simp (config := { maxSteps := 2000000 }) +contextual only [go_sem, ↓reduceIte, q3, P4g]
        rw [frz_sl] at hz
        exact hz
    all_goals simp +contextual only [go_sem, ↓reduceIte]
    all_goals rfl
  case refine_9 => rw [next_new]; omega
  case refine_8 => omega
  case refine_7 => rw [next_new]; omega
  case refine_6 => rw [get_new, if_pos rfl]
  case refine_5 => rw [get_new, if_neg (by omega), g8]; rfl
  all_goals simp +contextual only [go_sem, ↓reduceIte]
  all_goals rfl
end Go.Am

set_option linter.all false
namespace Go.Am
open Go
variable [MaxLen]
set_option maxRecDepth 100000
set_option maxHeartbeats 8000000

/-! # Maps from numbers to numbers; copies of rows -/
def entN : List Nat → Nat → List (AV × AV)
  | [], _ => []
  | k :: ks, i => (.int .i64 (k : Int), .int .i64 (i : Int)) :: entN ks (i + 1)
theorem keyEqN (a b : Nat) : keyEq (.int .i64 (a : Int)) (.int .i64 (b : Int)) = some (b == a) := by
  simp only [keyEq, if_true]
  congr 1
  rw [Bool.eq_iff_iff]
  simp only [beq_iff_eq]
  omega
theorem findA_entN (k : Nat) : ∀ (ks : List Nat) (i : Nat), findA (.int .i64 (k : Int)) (entN ks i) = some (bif decide (idxN ks k < ks.length) then some (.int .i64 ((i + idxN ks k : Nat) : Int)) else none)
  | [], i => rfl
  | x :: l, i => by
    rw [entN, findA, keyEqN, idxN]
    cases h : x == k with
    | true => simp
    | false =>
      simp only [cond_false, List.length_cons]
      rw [findA_entN k l (i + 1)]
      have e : decide (idxN l k + 1 < l.length + 1) = decide (idxN l k < l.length) := by congr 1; apply propext; omega
      rw [e]
      congr 2
      rw [show i + 1 + idxN l k = i + (idxN l k + 1) by omega]
theorem putA_entN (k : Nat) : ∀ (ks : List Nat) (i : Nat), k ∉ ks → putA (.int .i64 (k : Int)) (.int .i64 ((i + ks.length : Nat) : Int)) (entN ks i) = some (entN (ks ++ [k]) i)
  | [], i, _ => rfl
  | x :: l, i, h => by
    rw [List.mem_cons, not_or] at h
    have hne : (x == k) = false := by simpa using fun e => h.1 (Eq.symm e)
    have ih := putA_entN k l (i + 1) h.2
    rw [show i + 1 + l.length = i + (x :: l).length by rw [List.length_cons]; omega] at ih
    rw [entN, putA, keyEqN, hne, List.cons_append, entN]
    simp only [ih]
theorem lookup249 {s : St} {m : Nat} {ks : List Nat} (h : s.get m = some (.map (entN ks 0) false)) (k : Nat) : lookupA U 249 (.map m) (.int .i64 (k : Int)) true s = some (bif decide (idxN ks k < ks.length) then .tup [.int .i64 ((idxN ks k : Nat) : Int), .bool true] else .tup [.int .i64 0, .bool false]) := by
  have hu : U.und 249 = some (.map 3 3) := by kernel_rfl
  have h3 : U.und 3 = some (.int .i64) := by kernel_rfl
  have hz : zero U 3 = some (.int .i64 0) := by kernel_rfl
  unfold lookupA
  rw [hu]
  simp only [keyOk, h3, decide_true, if_true, h, findA_entN, Nat.zero_add]
  cases decide (idxN ks k < ks.length) with
  | true => rfl
  | false => simp only [cond_false, hz]
theorem update249 {s : St} {m : Nat} {ks : List Nat} (h : s.get m = some (.map (entN ks 0) false)) {k : Nat} (hk : k ∉ ks) : updateA U 249 (.map m) (.int .i64 (k : Int)) (.int .i64 ((ks.length : Nat) : Int)) s = some (s.put m (.map (entN (ks ++ [k]) 0) false)) := by
  have hu : U.und 249 = some (.map 3 3) := by kernel_rfl
  have h3 : U.und 3 = some (.int .i64) := by kernel_rfl
  have := putA_entN k ks 0 hk
  rw [Nat.zero_add] at this
  unfold updateA
  rw [hu]
  simp only [keyOk, h3, decide_true, if_true, h, this]
theorem k173' (args : List AV) (s : St) : callK U (calV U 173 args) 173 args s = cal U 173 args s := (callK_eq U 173 args s).symm
theorem eqn43 (l : List AV) : binA U .eql 43 true (.fz l) .nils = some (.bool false) := by
  have h : U.und 43 = some (.slice 4) := by kernel_rfl
  simp only [binA, eqTop, eqT, h]
theorem source_bools (l : List Bool) (s : St) : sourceA 1 (.fz (bools l)) s = some (l.length, bools l) := by
  have h1 : (bools l).all (fun x => x.cells.length == 1) = true := by
    induction l with
    | nil => rfl
    | cons t ts ih => rw [bools, List.map_cons, List.all_cons]; exact ih
  have h2 : (bools l).flatMap AV.cells = bools l := by
    clear h1
    induction l with
    | nil => rfl
    | cons t ts ih => rw [bools, List.map_cons, List.flatMap_cons]; show AV.cells (.bool t) ++ (bools ts).flatMap AV.cells = _; rw [ih]; rfl
  simp only [sourceA, h1, h2, bools_len]
  rfl
theorem c173 (l : List Bool) (h0 : l ≠ []) (hl : l.length ≤ 2 ^ 20) (s : St) : cal U 173 [.fz (bools l)] s = some (.sl (s.next + 1) 0 l.length none 1, (s.new (.cells [] 4 false 0 0)).new (.cells (bools l) 4 false 0 0)) := by
  refine kept_go k173 (by kernel_rfl) ?_
  have hpos : 0 < l.length := List.length_pos_iff.2 h0
  have hap : ∀ S : St, S.get s.next = some (.cells [] 4 false 0 0) → appK 4 1 1 (.sl s.next 0 0 (some 0) 1) (some (l.length, bools l)) S = some (.sl S.next 0 (0 + l.length) none 1, S.new (.cells ([] ++ bools l) 4 false 0 0)) := fun S h => by
    rw [appK_some (by rw [bools_len, Nat.mul_one]) (by simp only [lenA_sl]; omega) (by simp only [lenA_sl]; omega) (by omega), appD_slk h rfl (by omega)]
  simp (config := { maxSteps := 2000000 }) +contextual only [go_sem, ↓reduceIte, r173, eqn43, source_bools, hap, Nat.zero_add, List.nil_append]
theorem frow_fires {a : Auto} (ha : a.ok) {s : Nat} (hs : s < a.fires.length) : a.fires[s].2 = frow a.fa s := by
  have h1 := ha.frow s hs
  refine List.ext_getElem (by rw [h1, frow_len]; rfl) fun x q1 q2 => ?_
  rw [frow_at a.fa s (by show x < 2 ^ a.lines.toNat; omega)]
  show _ = (a.fires.getD s (true, [])).2.getD x false
  rw [getD_at hs, getD_at q1]
/-- one append to a row whose capacity is its length, or unknown -/
theorem appC {s : St} {b n : Nat} {cap : Option Nat} {L : List Nat} (hc : cap = none ∨ cap = some n) (hL : L.length = n) (hg : s.get b = some (.cells (nats L) 3 false 0 0)) (hb : b < s.next) (k : Nat) :
    ∃ s1, appD 3 1 1 [.int .i64 (k : Int)] (.sl b 0 n cap 1) s = some (.sl s.next 0 (n + 1) none 1, s1) ∧ s1.next = s.next + 1 ∧ s1.get s.next = some (.cells (nats (L ++ [k])) 3 false 0 0) ∧ (∀ j, j < s.next → j ≠ b → s1.get j = s.get j) ∧ (Fr s → Fr s1) := by
  rcases hc with rfl | rfl
  · refine ⟨_, appX' hL hg k, rfl, ?_, fun j h1 h2 => ?_, fun hf => (hf.put hb _).new _⟩
    · rw [get_new, next_put, if_pos rfl]
    · rw [get_new, next_put, if_neg (by omega), get_put, if_neg h2.symm]
  · refine ⟨s.new (.cells (nats (L ++ [k])) 3 false 0 0), ?_, rfl, ?_, fun j h1 h2 => ?_, fun hf => hf.new _⟩
    · rw [appD_slk hg (by rw [nats_len, hL, Nat.mul_one]) (by omega), nats_app]
    · rw [get_new, if_pos rfl]
    · rw [get_new, if_neg (by omega)]
theorem SlI.lenA {s : St} {N : Nat} {L : List Nat} {v : AV} (h : SlI s N L v) : Go.Am.lenA v = L.length := by
  rcases h with ⟨rfl, rfl⟩ | ⟨b, rfl, h2, h3, h4⟩ <;> rfl
theorem SlI.app {s : St} {N : Nat} {L : List Nat} {v : AV} (h : SlI s N L v) (hN : N ≤ s.next) (k : Nat) :
    ∃ s1, appD 3 1 1 [.int .i64 (k : Int)] v s = some (.sl s.next 0 (L.length + 1) none 1, s1) ∧ s1.next = s.next + 1 ∧ SlI s1 N (L ++ [k]) (.sl s.next 0 (L.length + 1) none 1) ∧ (∀ j, j < s.next → ¬ isB v j → s1.get j = s.get j) ∧ (Fr s → Fr s1) := by
  rcases h with ⟨rfl, rfl⟩ | ⟨b, rfl, h2, h3, h4⟩
  · refine ⟨_, appD_nils _ _ _ _ _, rfl, .inr ⟨s.next, rfl, ?_, hN, by rw [next_new]; omega⟩, fun j hj _ => by rw [get_new, if_neg (by omega)], fun hf => hf.new _⟩
    rw [get_new, if_pos rfl]; rfl
  · refine ⟨_, appX' rfl h2 k, rfl, .inr ⟨s.next, by simp, ?_, hN, by rw [next_new, next_put]; omega⟩, fun j hj hb => ?_, fun hf => (hf.put h4 _).new _⟩
    · rw [get_new, next_put, if_pos rfl]
    · rw [isB_sl] at hb
      rw [get_new, next_put, if_neg (by omega), get_put, if_neg hb]
end Go.Am

set_option linter.all false
namespace Go.Am
open Go
variable [MaxLen]
set_option maxRecDepth 100000
set_option maxHeartbeats 8000000

/-! # The numbers of a row -/
noncomputable def kapS (a : Auto) (u : Nat) : Nat := gt (setsA a) u
theorem rowF_len (A : Fa) (q : Nat) : (rowF A q).length = A.m := by simp [rowF]
theorem rowF_at (A : Fa) (q : Nat) {x : Nat} (h : x < A.m) : (rowF A q)[x]'(by rw [rowF_len]; exact h) = A.nx q x := by simp [rowF]
theorem l104a {β : Type} {fin : Fl → β} {ks : List K} {Post : β → Prop} {a : Auto} (ha : a.ok) {L : List Nat} {q b m : Nat} {cap : Option Nat} (hq : q < a.next.length) (hcap : cap = none ∨ cap = some L.length) (hLn : ∀ z ∈ L, z < a.next.length) (hnd : (L.map (kapS a)).Nodup) (hbm : b ≠ m)
    {e : Env} {s : St} (g3 : Env.get e 3 = .fz (nats (setsA a))) (g4 : Env.get e 4 = .map m) (g5 : Env.get e 5 = .sl b 0 L.length cap 1) (g8 : Env.get e 8 = .nils) (g37 : Env.get e 37 = encS a.next[q].1 (ints a.next[q].2)) (g38 : Env.get e 38 = .int .i64 ((2 ^ a.lines.toNat : Nat) : Int)) (g39 : Env.get e 39 = .int .i64 (0 : Nat))
    (gm : s.get m = some (.map (entN (L.map (kapS a)) 0) false)) (gb : s.get b = some (.cells (nats L) 3 false 0 0)) (nb : b < s.next) (nm : m < s.next) (fr : Fr s)
    (hk : ∀ e' s' b' cap' rv, (∀ t : Nat, t < 10 → t ≠ 5 → t ≠ 8 → Env.get e' t = Env.get e t) → Env.get e' 5 = .sl b' 0 (numRow (kapS a) (rowF a.fa q) L).1.length cap' 1 → (cap' = none ∨ cap' = some (numRow (kapS a) (rowF a.fa q) L).1.length) → (b' = b ∨ s.next ≤ b') → b' < s'.next →
      s'.get b' = some (.cells (nats (numRow (kapS a) (rowF a.fa q) L).1) 3 false 0 0) → s'.get m = some (.map (entN ((numRow (kapS a) (rowF a.fa q) L).1.map (kapS a)) 0) false) → Env.get e' 8 = rv → SlI s' s.next (numRow (kapS a) (rowF a.fa q) L).2 rv → (∀ j, isB rv j → j ≠ b') →
      (∀ j, j < s.next → j ≠ b → j ≠ m → s'.get j = s.get j) → s.next ≤ s'.next → Fr s' → Post (goN U fin ks e' s')) :
    Post (goL U fin (.bk 2 :: ks) r104_l0 e s) := by
  have hfew := ha.few
  have hA := ha.faok
  have hm16 : 2 ^ a.lines.toNat ≤ 65536 := by have := pow_le16 a.lines (by have := ha.lines; omega); have := mOf_nat a.lines; unfold mOf at this; omega
  have hTl : (rowF a.fa q).length = 2 ^ a.lines.toNat := rowF_len a.fa q
  obtain ⟨_, _, _, hkl, _⟩ := numRow_nd (κ := kapS a) (rowF a.fa q) L hnd
  have hkl : (numRow (kapS a) (rowF a.fa q) L).2.length = 2 ^ a.lines.toNat := by rw [hkl, hTl]
  generalize hk2 : (numRow (kapS a) (rowF a.fa q) L).2 = kf at *
  generalize hk1 : (numRow (kapS a) (rowF a.fa q) L).1 = Lf at *
  refine loop_ex (σ := Nat) (fun x => 2 ^ a.lines.toNat - x) (fun x e' s' => x ≤ 2 ^ a.lines.toNat ∧ (∀ t : Nat, t < 10 ∨ 12 < t ∧ t < 39 → t ≠ 5 → t ≠ 8 → Env.get e' t = Env.get e t) ∧ Env.get e' 39 = .int .i64 (x : Nat) ∧
      (∀ j, j < s.next → j ≠ b → j ≠ m → s'.get j = s.get j) ∧ s.next ≤ s'.next ∧ Fr s' ∧
      ∃ L' b' cap' rv, numRow (kapS a) ((rowF a.fa q).drop x) L' = (Lf, kf.drop x) ∧ (∀ z ∈ L', z < a.next.length) ∧ (L'.map (kapS a)).Nodup ∧
        Env.get e' 5 = .sl b' 0 L'.length cap' 1 ∧ (cap' = none ∨ cap' = some L'.length) ∧ (b' = b ∨ s.next ≤ b') ∧ b' < s'.next ∧ s'.get b' = some (.cells (nats L') 3 false 0 0) ∧ s'.get m = some (.map (entN (L'.map (kapS a)) 0) false) ∧
        Env.get e' 8 = rv ∧ SlI s' s.next (kf.take x) rv ∧ (∀ j, isB rv j → j ≠ b')) 0 ?_
    ⟨Nat.zero_le _, fun _ _ _ _ => rfl, g39, fun _ _ _ _ => rfl, Nat.le_refl _, fr,
      L, b, cap, .nils, by rw [List.drop_zero, List.drop_zero, ← hk1, ← hk2], hLn, hnd, g5, hcap, .inl rfl, nb, gb, gm, g8, .inl ⟨rfl, rfl⟩, fun j hj => absurd hj (isB_nils j)⟩
  rintro Lp x e' s' ⟨hx, hold, q39, hs, hnx, fr', L', b', cap', rv, hnum, hLn', hnd', q5, hcap', hb', nb', qb, qm, q8, hR, hRf⟩ IH
  have q3 := (hold 3 (by omega) (by omega) (by omega)).trans g3
  have q4 := (hold 4 (by omega) (by omega) (by omega)).trans g4
  have q37 := (hold 37 (by omega) (by omega) (by omega)).trans g37
  have q38 := (hold 38 (by omega) (by omega) (by omega)).trans g38
  have hL'n : L'.length ≤ a.next.length := nodup_few hnd' hLn'
  by_cases hd : x < 2 ^ a.lines.toNat
  · have hw := wrap_succ hd (by omega)
    have hxm : x < (rowF a.fa q).length := by omega
    have lt1 : a.fa.nx q x < a.next.length := hA.lt q x hq hd
    have n1 := ha.nxAt hq hd
    have o1 := ixa_natsF (l := setsA a) (i := a.fa.nx q x) (by rw [setsA_len ha]; exact lt1)
    have hTx : (rowF a.fa q)[x] = a.fa.nx q x := rowF_at a.fa q hd
    have hxk : x < kf.length := by omega
    rw [List.drop_eq_getElem_cons hxm, hTx, List.drop_eq_getElem_cons hxk, numRow] at hnum
    have o1 : ixRA 1 (.fz (nats (setsA a))) (.int .i64 ((a.fa.nx q x : Nat) : Int)) = some (.fp [.int .i64 ((kapS a (a.fa.nx q x) : Nat) : Int)] 0) := o1
    generalize hc : a.fa.nx q x = c at *
    have lk := fun (S : St) (h : S.get m = some (.map (entN (L'.map (kapS a)) 0) false)) => lookup249 h (kapS a c)
    have htk : kf.take (x + 1) = kf.take x ++ [kf[x]] := by rw [List.take_succ_eq_append_getElem hxk]
    have hRl : (kf.take x).length = x := by rw [List.length_take]; omega
    have hlA := hR.lenA
    rw [hRl] at hlA
    have hb1 : (x + 1) * 8 ≤ 1099511627776 := by omega
    have hb2 : x + 1 ≤ 1099511627776 := by omega
    have hb3 : (L'.length + 1) * 8 ≤ 1099511627776 := by omega
    have hb4 : L'.length + 1 ≤ 1099511627776 := by omega
    have hlm : (L'.map (kapS a)).length = L'.length := by simp
    have hnt : ∀ t : Nat, t < 10 ∨ 12 < t ∧ t < 39 → t ≠ 5 → t ≠ 8 → (5 = t) = False ∧ (8 = t) = False ∧ (10 = t) = False ∧ (11 = t) = False ∧ (12 = t) = False ∧ ∀ k : Nat, 39 ≤ k → (k = t) = False := fun t h1 h2 h3 => ⟨by simp; omega, by simp; omega, by simp; omega, by simp; omega, by simp; omega, fun k hk => by simp; omega⟩
    by_cases hin : idxN (L'.map (kapS a)) (kapS a c) < L'.length
    · rw [decide_eq_true hin] at hnum
      simp only [cond_true] at hnum
      have hrest : numRow (kapS a) ((rowF a.fa q).drop (x + 1)) L' = (Lf, kf.drop (x + 1)) := by
        have h1 := congrArg Prod.fst hnum
        have h2 := congrArg Prod.snd hnum
        simp only [List.cons.injEq] at h1 h2
        exact Prod.ext h1 h2.2
      have hkx : kf[x] = idxN (L'.map (kapS a)) (kapS a c) := by
        have h2 := congrArg Prod.snd hnum
        simp only [List.cons.injEq] at h2
        exact h2.1.symm
      rw [hlm, decide_eq_true hin] at lk
      simp only [cond_true] at lk
      rw [← hkx] at lk
      simp (config := { maxSteps := 2000000 }) +contextual only [go_sem, ↓reduceIte, r104_l0, q3, q4, q5, q8, q37, q38, q39, qm, nat_lt_dec, hd, n1, o1, lk, hw, Nat.mul_one, Nat.one_mul, appK_some, Nat.reducePow, hlA, hb1, hb2]
      have R3 : SlI (s'.new (.cells [.int .i64 ((kf[x] : Nat) : Int)] 3 false 0 0)) s.next (kf.take x) rv := hR.keep (by rw [next_new]; omega) fun j h1 _ _ => by rw [get_new, if_neg (by omega)]
      obtain ⟨s4, d1, d2, d3, d4, d5⟩ := R3.app (by rw [next_new]; omega) kf[x]
      rw [next_new] at d1 d2 d3 d4
      rw [hRl] at d1 d3
      rw [d1]
      simp (config := { maxSteps := 2000000 }) +contextual only [go_sem, ↓reduceIte, q39, hw]
      have k4 : ∀ j, j < s'.next → ¬ isB rv j → s4.get j = s'.get j := fun j h1 h2 => by rw [d4 j (by omega) h2, get_new, if_neg (by omega)]
      have hrv : ∀ j, j < s.next → ¬ isB rv j := fun j hj h => by have := hR.lt h; omega
      refine IH (x + 1) _ _ (by omega) ⟨by omega, fun t h1 h2 h3 => ?_, ?_, fun j h1 h2 h3 => by rw [k4 j (by omega) (hrv j h1), hs j h1 h2 h3], by omega, d5 (fr'.new _), L', b', cap', .sl (s'.next + 1) 0 (x + 1) none 1, hrest, hLn', hnd', ?_, hcap', hb', by omega, (k4 b' nb' fun h => hRf b' h rfl).trans qb, (k4 m (by omega) (hrv m nm)).trans qm, ?_, by rw [htk]; exact d3, fun j hj => ?_⟩
      · obtain ⟨n5, n8, n10, n11, n12, n39⟩ := hnt t h1 h2 h3
        simp +contextual only [go_sem, ↓reduceIte, n5, n8, n10, n11, n12, n39]
        exact hold t h1 h2 h3
      · simp +contextual only [go_sem, ↓reduceIte]
      · simp +contextual only [go_sem, ↓reduceIte, q5]
      · simp +contextual only [go_sem, ↓reduceIte]
      · rw [isB_sl] at hj; omega
    · have hinM : kapS a c ∉ L'.map (kapS a) := by rw [← idxN_lt, hlm]; exact hin
      rw [decide_eq_false hin] at hnum
      simp only [cond_false] at hnum
      have hrest : numRow (kapS a) ((rowF a.fa q).drop (x + 1)) (L' ++ [c]) = (Lf, kf.drop (x + 1)) := by
        have h1 := congrArg Prod.fst hnum
        have h2 := congrArg Prod.snd hnum
        simp only [List.cons.injEq] at h1 h2
        exact Prod.ext h1 h2.2
      have hkx : kf[x] = L'.length := by
        have h2 := congrArg Prod.snd hnum
        simp only [List.cons.injEq] at h2
        exact h2.1.symm
      rw [hlm, decide_eq_false hin] at lk
      simp only [cond_false] at lk
      have up := fun (S : St) (h : S.get m = some (.map (entN (L'.map (kapS a)) 0) false)) => update249 h hinM
      rw [hlm] at up
      have hlA2 : ∀ c : Option Nat, Go.Am.lenA (.sl b' 0 L'.length c 1) = L'.length := fun _ => rfl
      simp (config := { maxSteps := 2000000 }) +contextual only [go_sem, ↓reduceIte, r104_l0, q3, q4, q5, q8, q37, q38, q39, qm, nat_lt_dec, hd, n1, o1, lk, up, hw, Nat.mul_one, Nat.one_mul, appK_some, Nat.reducePow, hb3, hb4]
      obtain ⟨s4, d1, d2, d3, d4, d5⟩ := appC (b := b') (L := L') (s := (s'.put m (.map (entN (L'.map (kapS a) ++ [kapS a c]) 0) false)).new (.cells [.int .i64 (c : Int)] 3 false 0 0)) hcap' rfl (by rw [get_new, next_put, if_neg (by omega), get_put, if_neg (by omega)]; exact qb) (by rw [next_new, next_put]; omega) c
      simp only [next_new, next_put] at d1 d2 d3 d4
      rw [d1]
      simp (config := { maxSteps := 2000000 }) +contextual only [go_sem, ↓reduceIte, q8, Nat.mul_one, Nat.one_mul, appK_some, Nat.reducePow, hlA, hb1, hb2]
      have k4 : ∀ j, j < s'.next → j ≠ b' → j ≠ m → s4.get j = s'.get j := fun j h1 h2 h3 => by rw [d4 j (by omega) h2, get_new, next_put, if_neg (by omega), get_put, if_neg h3.symm]
      have k4m : s4.get m = some (.map (entN (L'.map (kapS a) ++ [kapS a c]) 0) false) := by rw [d4 m (by omega) (by omega), get_new, next_put, if_neg (by omega), get_put, if_pos rfl]
      have hrv : ∀ j, j < s.next → ¬ isB rv j := fun j hj h => by have := hR.lt h; omega
      have R3 : SlI (s4.new (.cells [.int .i64 (L'.length : Int)] 3 false 0 0)) s.next (kf.take x) rv := hR.keep (by rw [next_new]; omega) fun j h1 h2 h3 => by
        rw [get_new, if_neg (by omega)]
        exact k4 j h1 (hRf j h3) (by omega)
      obtain ⟨s6, b1, b2, b3, b4, b5⟩ := R3.app (by rw [next_new]; omega) L'.length
      rw [next_new] at b1 b2 b3 b4
      rw [hRl] at b1 b3
      rw [b1]
      simp (config := { maxSteps := 2000000 }) +contextual only [go_sem, ↓reduceIte, q39, hw]
      have k6 : ∀ j, j < s4.next → ¬ isB rv j → s6.get j = s4.get j := fun j h1 h2 => by rw [b4 j (by omega) h2, get_new, if_neg (by omega)]
      refine IH (x + 1) _ _ (by omega) ⟨by omega, fun t h1 h2 h3 => ?_, ?_, fun j h1 h2 h3 => by rw [k6 j (by omega) (hrv j h1), k4 j (by omega) (by omega) h3, hs j h1 h2 h3], by omega, b5 ((d5 ((fr'.put (by omega) _).new _)).new _), L' ++ [c], s'.next + 1, none, .sl (s4.next + 1) 0 (x + 1) none 1, hrest, fun z hz => ?_, ?_, ?_, .inl rfl, .inr (by omega), by omega, (k6 _ (by omega) fun h => by have := hR.lt h; omega).trans d3, ?_, ?_, by rw [htk, hkx]; exact b3, fun j hj => ?_⟩
      · obtain ⟨n5, n8, n10, n11, n12, n39⟩ := hnt t h1 h2 h3
        simp +contextual only [go_sem, ↓reduceIte, n5, n8, n10, n11, n12, n39]
        exact hold t h1 h2 h3
      · simp +contextual only [go_sem, ↓reduceIte]
      · rcases List.mem_append.1 hz with h | h
        · exact hLn' z h
        · rw [List.mem_singleton.1 h]; exact lt1
      · rw [List.map_append, List.nodup_append]
        refine ⟨hnd', by simp, fun y hy z hz => ?_⟩
        rw [List.map_cons, List.map_nil, List.mem_singleton] at hz
        rintro rfl
        rw [hz] at hy
        exact hinM hy
      · simp +contextual only [go_sem, ↓reduceIte, List.length_append, List.length_singleton]
      · rw [k6 m (by omega) (hrv m nm), k4m, List.map_append, List.map_cons, List.map_nil]
      · simp +contextual only [go_sem, ↓reduceIte]
      · rw [isB_sl] at hj; omega
  · have hxe : x = 2 ^ a.lines.toNat := by omega
    subst hxe
    rw [List.drop_of_length_le (by omega), List.drop_of_length_le (by omega), numRow] at hnum
    obtain rfl : L' = Lf := congrArg Prod.fst hnum
    rw [List.take_of_length_le (by omega)] at hR
    simp (config := { maxSteps := 2000000 }) +contextual only [go_sem, ↓reduceIte, r104_l0, q38, q39, nat_lt_dec, Nat.lt_irrefl]
    refine hk _ _ b' cap' rv (fun t h1 h2 h3 => ?_) ?_ hcap' hb' nb' qb qm ?_ hR hRf hs hnx fr'
    · have hne : ∀ k : Nat, 39 ≤ k → (k = t) = False := fun k hk => by simp; omega
      simp +contextual only [go_sem, ↓reduceIte, hne]
      exact hold t (.inl h1) h2 h3
    · simp +contextual only [go_sem, ↓reduceIte, q5]
    · simp +contextual only [go_sem, ↓reduceIte, q8]
end Go.Am

set_option linter.all false
namespace Go.Am
open Go
variable [MaxLen]
set_option maxRecDepth 100000
set_option maxHeartbeats 8000000

/-! # A new state is put behind -/
theorem appX1 {s : St} {b n : Nat} {t : TypeId} {cs : List AV} (hL : cs.length = n) (hg : s.get b = some (.cells cs t false 0 0)) (x : AV) (hx : noAgg x = true) :
    appD t 1 1 [x] (.sl b 0 n none 1) s = some (.sl s.next 0 (n + 1) none 1, (s.put b .gone).new (.cells (cs ++ [x]) t false 0 0)) := by
  rw [appD_sl, hg, appS_cells (by omega) (by omega) (by simp [hx])]
theorem blk_ne {s : St} {j k : Nat} {c c' : List AV} {t t' : TypeId} (h : s.get j = some (.cells c t false 0 0)) (h' : s.get k = some (.cells c' t' false 0 0)) (ht : t ≠ t') : j ≠ k := by
  rintro rfl
  have := h.symm.trans h'
  injection this with this
  injection this with _ e
  exact ht e
theorem l104r {β : Type} {fin : Fl → β} {ks : List K} {Post : β → Prop} {a : Auto} (ha : a.ok) {L : List Nat} {q b i ob jr : Nat} {cap : Option Nat} {cN cF : List AV} {v w : AV} (hq : q < a.next.length) (hi : i < L.length) (hLi : gt L i = q) (hi9 : i ≤ 2 ^ 20)
    {e : Env} {s : St} (g1 : Env.get e 1 = .ptr 8 0) (g5 : Env.get e 5 = .sl b 0 L.length cap 1) (g6 : Env.get e 6 = .ptr ob 0) (g7 : Env.get e 7 = .int .i64 (i : Int)) (g8 : Env.get e 8 = .sl jr 0 (2 ^ a.lines.toNat) none 1)
    (gs : s.get 8 = some (.cells [.int .i64 a.lines, encN a, encFs a] 69 false 0 0)) (gout : s.get ob = some (.cells [.int .i64 a.lines, v, w] 69 false 0 0)) (gb : s.get b = some (.cells (nats L) 3 false 0 0)) (h8 : 8 < s.next) (hob : ob < s.next) (hb : b < s.next) (h8o : 8 ≠ ob) (h13 : 13 ≤ s.next)
    (hv : RowI s 13 40 1 i cN v) (hw : RowI s 13 43 1 i cF w) (fr : Fr s)
    (hk : ∀ e' s' v' w' jc, (∀ t : Nat, t < 10 → Env.get e' t = Env.get e t) → s'.get ob = some (.cells [.int .i64 a.lines, v', w'] 69 false 0 0) → RowI s' 13 40 1 (i + 1) (cN ++ [.sl jr 0 (2 ^ a.lines.toNat) none 1]) v' → RowI s' 13 43 1 (i + 1) (cF ++ [.sl jc 0 (2 ^ a.lines.toNat) none 1]) w' →
      s'.get jc = some (.cells (bools (frow a.fa q)) 4 false 0 0) → s.next ≤ jc → jc < s'.next → (∀ j, j < s.next → j ≠ ob → ¬ isB v j → ¬ isB w j → s'.get j = s.get j) → s.next ≤ s'.next → Fr s' → Post (goN U fin ks e' s')) :
    Post (go U fin ks (.raw q104_0) e s) := by
  have hfew := ha.few
  rw [go_drcU d104_0]
  have hfk := fr.at
  have hnt : ∀ t : Nat, t < 10 → (∀ k : Nat, 71 ≤ k → (k = t) = False) := fun t ht => fun k hk => by simp; omega
  have hN1 : ∀ j q, j < s.next → (j = s.next + q) = False := fun j q hj => by simp; omega
  have hN2 : ∀ j q, j < s.next → (s.next + q = j) = False := fun j q hj => by simp; omega
  have hN3 : ∀ q, q ≠ 0 → (s.next + q = s.next) = False := fun q hq => by simp; omega
  have hN4 : ∀ q, q ≠ 0 → (s.next = s.next + q) = False := fun q hq => by simp; omega
  have hq' : q < a.fires.length := by rw [ha.fl]; exact hq
  have hfl : (frow a.fa q).length = 2 ^ a.lines.toNat := frow_len a.fa q
  have hm16 : 2 ^ a.lines.toNat ≤ 65536 := by have := pow_le16 a.lines (by have := ha.lines; omega); have := mOf_nat a.lines; unfold mOf at this; omega
  have hmp : 0 < 2 ^ a.lines.toNat := Nat.two_pow_pos _
  have r2 := ixa_rowB (nl := a.fNl) hq'
  have hrow := frow_fires ha hq'
  have hne : frow a.fa q ≠ [] := fun e => by rw [e, List.length_nil] at hfl; omega
  have henc : encS a.fires[q].1 (bools a.fires[q].2) = .fz (bools (frow a.fa q)) := by
    rw [hrow]
    cases hh : bools (frow a.fa q) with
    | nil => have := congrArg List.length hh; rw [bools_len, hfl, List.length_nil] at this; omega
    | cons x l => cases a.fires[q].1 <;> rfl
  rw [henc] at r2
  have hcl := c173 (frow a.fa q) hne (by omega)
  rw [hfl] at hcl
  have o1 := nats_get (l := L) (i := i) hi
  rw [hLi] at o1
  unfold encN encFs at gs
  have x1 : (ob = 8) = False := eq_false (fun e => h8o e.symm)
  have x2 : (8 = ob) = False := eq_false h8o
  have hb1 : (i + 1) * 24 ≤ 1099511627776 := by omega
  have hb2 : i + 1 ≤ 1099511627776 := by omega
  have hob' : b ≠ ob := blk_ne gb gout (by decide)
  have hb8 : b ≠ 8 := blk_ne gb gs (by decide)
  have x3 : (b = ob) = False := eq_false hob'
  have x4 : (ob = b) = False := eq_false hob'.symm
  have key : ∀ (E : Env) (S : St), (∀ t : Nat, t < 10 → Env.get E t = Env.get e t) →
      S.get ob = some (.cells [.int .i64 a.lines, .sl (s.next + 22) 0 (i + 1) none 1, .sl (s.next + 25) 0 (i + 1) none 1] 69 false 0 0) →
      S.get (s.next + 22) = some (.cells (cN ++ [.sl jr 0 (2 ^ a.lines.toNat) none 1]) 40 false 0 0) → S.get (s.next + 25) = some (.cells (cF ++ [.sl (s.next + 24) 0 (2 ^ a.lines.toNat) none 1]) 43 false 0 0) → S.get (s.next + 24) = some (.cells (bools (frow a.fa q)) 4 false 0 0) →
      (∀ j, j < s.next → j ≠ ob → ¬ isB v j → ¬ isB w j → S.get j = s.get j) → s.next + 25 < S.next → Fr S → cN.length = i → cF.length = i → Post (goN U fin ks E S) := by
    intro E S k1 k2 k3 k4 k5 k6 k7 k8 k9 k10
    exact hk E S (.sl (s.next + 22) 0 (i + 1) none 1) (.sl (s.next + 25) 0 (i + 1) none 1) (s.next + 24) k1 k2 (.inr ⟨by omega, by simp [k9], s.next + 22, by omega, by omega, rfl, k3⟩) (.inr ⟨by omega, by simp [k10], s.next + 25, by omega, by omega, rfl, k4⟩) k5 (by omega) (by omega) k6 (by omega) k8
  rcases hv with ⟨i0, rfl, rfl⟩ | ⟨i0, hcN, bv, v1, v2, rfl, v4⟩
  · rcases hw with ⟨_, rfl, rfl⟩ | ⟨i1, _⟩
    · subst i0
      simp (config := { maxSteps := 2000000 }) +contextual only [go_sem, ↓reduceIte, g1, g5, g6, g7, g8, gs, gout, gb, hi, o1, r2, k173', hcl, appD_nils, appK_some, Nat.mul_one, Nat.one_mul, Nat.reducePow, Nat.zero_add, Nat.add_assoc, hfk, h8, hob, hb, hN1, hN2, hN3, hN4, x1, x2, x3, x4, hb1, hb2]
      refine key _ _ (fun t ht => ?_) ?_ ?_ ?_ ?_ (fun j h1 h2 _ _ => ?_) ?_ ?_ rfl rfl
      · have hne := hnt t ht
        simp +contextual only [go_sem, ↓reduceIte, hne]
      · simp +contextual only [go_sem, ↓reduceIte]
      · simp +contextual [go_sem, ↓reduceIte, hN1, hN2, hob, Nat.add_assoc]
      · simp +contextual [go_sem, ↓reduceIte, hN1, hN2, hob, Nat.add_assoc]
      · simp +contextual [go_sem, ↓reduceIte, hN1, hN2, hob, Nat.add_assoc]
      · have e0 : ∀ q, (s.next + q = j) = False := fun q => by simp; omega
        simp +contextual only [get_put, get_new, next_put, next_new, upto_next, upto_get, Nat.add_assoc, Nat.reduceAdd, e0, eq_false h2.symm, if_false]
      · simp only [next_put, next_new, upto_next]; omega
      · repeat first | exact fr | apply Fr.new | apply Fr.put | apply Fr.upto
        all_goals try simp only [next_put, next_new, upto_next]
        all_goals omega
    · omega
  · rcases hw with ⟨i1, _⟩ | ⟨_, hcF, bw, w1, w2, rfl, w4⟩
    · omega
    · rw [Nat.mul_one] at hcN hcF
      have n1 := blk_ne v4 w4 (by decide)
      have n2 := blk_ne v4 gout (by decide)
      have n3 := blk_ne w4 gout (by decide)
      have n4 := blk_ne v4 gb (by decide)
      have n5 := blk_ne w4 gb (by decide)
      have n6 := blk_ne v4 gs (by decide)
      have n7 := blk_ne w4 gs (by decide)
      have y1 : (bv = bw) = False := eq_false n1
      have y2 : (bv = ob) = False := eq_false n2
      have y3 : (bw = ob) = False := eq_false n3
      have y4 : (bv = b) = False := eq_false n4
      have y5 : (bw = b) = False := eq_false n5
      have y6 : (bv = 8) = False := eq_false n6
      have y7 : (bw = 8) = False := eq_false n7
      have y8 : (ob = bv) = False := eq_false n2.symm
      have y9 : (ob = bw) = False := eq_false n3.symm
      have y10 : (bw = bv) = False := eq_false n1.symm
      have a1 := fun (S : St) (h : S.get bv = some (.cells cN 40 false 0 0)) => appX1 hcN h (.sl jr 0 (2 ^ a.lines.toNat) none 1) rfl
      have a2 := fun (S : St) (h : S.get bw = some (.cells cF 43 false 0 0)) => appX1 hcF h (.sl (s.next + 24) 0 (2 ^ a.lines.toNat) none 1) rfl
      simp (config := { maxSteps := 2000000 }) +contextual only [go_sem, ↓reduceIte, g1, g5, g6, g7, g8, gs, gout, gb, hi, o1, r2, k173', hcl, appK_some, Nat.mul_one, Nat.one_mul, Nat.reducePow, Nat.zero_add, Nat.add_assoc, hfk, h8, hob, hb, hN1, hN2, hN3, hN4, x1, x2, x3, x4, hb1, hb2, v2, v4, w2, w4, y1, y2, y3, y4, y5, y6, y7, y8, y9, y10, a1, a2]
      refine key _ _ (fun t ht => ?_) ?_ ?_ ?_ ?_ (fun j h1 h2 h3 h4 => ?_) ?_ ?_ hcN hcF
      · have hne := hnt t ht
        simp +contextual only [go_sem, ↓reduceIte, hne]
      · simp +contextual only [go_sem, ↓reduceIte]
      · simp +contextual [go_sem, ↓reduceIte, hN1, hN2, hob, v2, w2, Nat.add_assoc]
      · simp +contextual [go_sem, ↓reduceIte, hN1, hN2, hob, v2, w2, Nat.add_assoc]
      · simp +contextual [go_sem, ↓reduceIte, hN1, hN2, hob, v2, w2, Nat.add_assoc]
      · have e0 : ∀ q, (s.next + q = j) = False := fun q => by simp; omega
        rw [isB_sl] at h3 h4
        simp +contextual only [get_put, get_new, next_put, next_new, upto_next, upto_get, Nat.add_assoc, Nat.reduceAdd, e0, eq_false h2.symm, eq_false h3, eq_false h4, if_false]
      · simp only [next_put, next_new, upto_next]; omega
      · repeat first | exact fr | apply Fr.new | apply Fr.put | apply Fr.upto
        all_goals try simp only [next_put, next_new, upto_next]
        all_goals omega
end Go.Am

set_option linter.all false
namespace Go.Am
open Go
variable [MaxLen]
set_option maxRecDepth 100000
set_option maxHeartbeats 8000000

/-! # The program's minimal automaton -/
def BlkJ (s : St) (b : Nat) (t : TypeId) (c : AV) (l : List AV) : Prop := ∃ j cap, c = .sl j 0 l.length cap 1 ∧ j < s.next ∧ j ≠ b ∧ 13 ≤ j ∧ s.get j = some (.cells l t false 0 0)
theorem BlkJ.mono {s s' : St} {b b' : Nat} {t : TypeId} {c : AV} {l : List AV} (h : BlkJ s b t c l) (hn : s.next ≤ s'.next) (hg : ∀ j, j < s.next → j ≠ b → 13 ≤ j → s.get j = some (.cells l t false 0 0) → j ≠ b' ∧ s'.get j = some (.cells l t false 0 0)) : BlkJ s' b' t c l := by
  obtain ⟨j, cap, h1, h2, h3, h4, h5⟩ := h
  obtain ⟨h6, h7⟩ := hg j h2 h3 h4 h5
  exact ⟨j, cap, h1, by omega, h6, h4, h7⟩
theorem BlkJ.frz {s : St} {b d : Nat} {c : AV} {l : List AV} {t : TypeId} (h : BlkJ s b t c l) (hag : isAggT U t = some false) (hsz : size U t = some 1) (hna : l.all noAgg = true) (hf : mapO (Go.Am.frz U s d) l = some l) : Go.Am.frz U s (d + 1) c = some (.fz l) := by
  obtain ⟨j, cap, rfl, _, _, _, h5⟩ := h
  rw [frz_sl, h5, frzS_cells, Nat.mul_one, grab_all, hag, hsz, frzT_one, if_pos hna, chunks_all, hf, fzK_some]
theorem RowI.isB_t {s : St} {B : Nat} {t : TypeId} {i : Nat} {cs : List AV} {v : AV} (h : RowI s B t 1 i cs v) {j : Nat} (hj : isB v j) : B ≤ j ∧ j < s.next ∧ s.get j = some (.cells cs t false 0 0) := by
  rcases h with ⟨_, rfl, _⟩ | ⟨_, _, b, h2, h3, rfl, h5⟩
  · exact absurd hj (isB_nils j)
  · rw [isB_sl] at hj; subst hj; exact ⟨h2, h3, h5⟩
theorem l104b {a : Auto} (ha : a.ok) {e : Env} {s : St} (g1 : Env.get e 1 = .ptr 8 0) (g2 : Env.get e 2 = .ptr 9 0) (g3 : Env.get e 3 = .fz (nats (setsA a))) (g4 : Env.get e 4 = .map 10) (g5 : Env.get e 5 = .sl 11 0 1 (some 1) 1) (g6 : Env.get e 6 = .ptr 12 0) (g7 : Env.get e 7 = .int .i64 (0 : Nat))
    (gs : s.get 8 = some (.cells [.int .i64 a.lines, encN a, encFs a] 69 false 0 0)) (g9 : s.get 9 = some (.cells [.int .i64 0, .nils, .nils] 69 false 0 0)) (gm : s.get 10 = some (.map (entN [kapS a 0] 0) false)) (gb : s.get 11 = some (.cells (nats [0]) 3 false 0 0)) (gout : s.get 12 = some (.cells [.int .i64 a.lines, .nils, .nils] 69 false 0 0)) (nx : 13 ≤ s.next) (fr : Fr s) {ks : List K} {r : Option AV}
    (hk : ∀ e' s' v w, Env.get e' 6 = .ptr 12 0 → Env.get e' 2 = .ptr 9 0 → s'.get 12 = some (.cells [.int .i64 a.lines, v, w] 69 false 0 0) → s'.get 9 = some (.cells [.int .i64 0, .nils, .nils] 69 false 0 0) → noAgg v = true → noAgg w = true →
      (∀ S d, S.next = s'.next → (∀ j, j ≠ 9 → S.get j = s'.get j) → frz U S (d + 3) v = some (encS true ((minP a.fa (kapS a)).map fun x => AV.fz (nats x.2)))) → (∀ S d, S.next = s'.next → (∀ j, j ≠ 9 → S.get j = s'.get j) → frz U S (d + 3) w = some (encS true ((minP a.fa (kapS a)).map fun x => AV.fz (bools (frow a.fa x.1))))) → goN U (finP U [.cell 2 69]) ks e' s' = r) :
    goL U (finP U [.cell 2 69]) (.bk 0 :: ks) r104_l1 e s = r := by
  have hfew := ha.few
  have hA := ha.faok
  have hm16 : 2 ^ a.lines.toNat ≤ 65536 := by have := pow_le16 a.lines (by have := ha.lines; omega); have := mOf_nat a.lines; unfold mOf at this; omega
  have hmp : 0 < 2 ^ a.lines.toNat := Nat.two_pow_pos _
  refine loop_ex (σ := Nat) (Post := fun (x : Option AV) => x = r) (fun i => a.next.length - i) (fun i e s => Env.get e 1 = .ptr 8 0 ∧ Env.get e 2 = .ptr 9 0 ∧ Env.get e 3 = .fz (nats (setsA a)) ∧ Env.get e 4 = .map 10 ∧ Env.get e 6 = .ptr 12 0 ∧ Env.get e 7 = .int .i64 (i : Nat) ∧ s.get 8 = some (.cells [.int .i64 a.lines, encN a, encFs a] 69 false 0 0) ∧ s.get 9 = some (.cells [.int .i64 0, .nils, .nils] 69 false 0 0) ∧ 13 ≤ s.next ∧ Fr s ∧
      ∃ (L : List Nat) (b : Nat) (cap : Option Nat) (acc : List (Nat × List Nat)) (cN cF : List AV) (v w : AV), Env.get e 5 = .sl b 0 L.length cap 1 ∧ (cap = none ∨ cap = some L.length) ∧ s.get b = some (.cells (nats L) 3 false 0 0) ∧ b < s.next ∧ (b = 11 ∨ 13 ≤ b) ∧ (∀ z ∈ L, z < a.next.length) ∧ (L.map (kapS a)).Nodup ∧ s.get 10 = some (.map (entN (L.map (kapS a)) 0) false) ∧
        s.get 12 = some (.cells [.int .i64 a.lines, v, w] 69 false 0 0) ∧ RowI s 13 40 1 i cN v ∧ RowI s 13 43 1 i cF w ∧ acc.length = i ∧ cN.length = i ∧ cF.length = i ∧
        (∀ j (h : j < acc.length) (h' : j < cN.length), BlkJ s b 3 cN[j] (nats acc[j].2)) ∧ (∀ j (h : j < acc.length) (h' : j < cF.length), BlkJ s b 4 cF[j] (bools (frow a.fa acc[j].1))) ∧
        i ≤ L.length ∧ acc ++ bfsN (kapS a) (rowF a.fa) (a.next.length + 1 - i) i L = minP a.fa (kapS a)) 0 ?_
    ⟨g1, g2, g3, g4, g6, g7, gs, g9, nx, fr, [0], 11, some 1, [], [], [], .nils, .nils, g5, .inr rfl, gb, by omega, .inl rfl, fun z hz => by rw [List.mem_singleton.1 hz]; exact ha.pos, by simp, gm, gout, RowI.nil _ _ _ _, RowI.nil _ _ _ _, rfl, rfl, rfl, fun j h => by simp at h, fun j h => by simp at h, Nat.zero_le _, rfl⟩
  clear g1 g2 g3 g4 g5 g6 g7 gs g9 gb gm gout nx fr e s
  rintro Lp i e s ⟨g1, g2, g3, g4, g6, g7, gs, g9, nx, fr, L, b, cap, acc, cN, cF, v, w, g5, hcap, gb, nb, hb, hLn, hnd, gm, gout, hv, hw, hacc, hcN, hcF, hBN, hBF, hiL, hrun⟩ IH
  have hLlen : L.length ≤ a.next.length := nodup_few hnd hLn
  by_cases hd : i < L.length
  · have hwr := wrap_succ hd (by omega)
    have hq : L[i] < a.next.length := hLn _ (List.getElem_mem hd)
    have hLi : L[i]? = some L[i] := List.getElem?_eq_getElem hd
    have o1 := nats_get (l := L) (i := i) hd
    rw [gt_get hd] at o1
    rw [show a.next.length + 1 - i = (a.next.length + 1 - (i + 1)) + 1 by omega, bfsN, hLi] at hrun
    simp only at hrun
    have hrow := ixa_rowI (nl := a.nNl) hq
    have hlen := (ha.row _ hq).1
    have hl := lenL_encS a.next[L[i]].1 (ints a.next[L[i]].2)
    rw [ints_len, hlen] at hl
    generalize hqe : L[i] = q at *
    have gs' := gs
    unfold encN encFs at gs'
    simp (config := { maxSteps := 2000000 }) +contextual only [go_sem, ↓reduceIte, r104_l1, g1, g5, g7, gs', gb, o1, nat_lt_dec, hd, hrow, hl, Nat.mul_one]
    refine l104a (Post := fun (x : Option AV) => x = r) ha (L := L) (q := q) (b := b) (m := 10) (cap := cap) hq hcap hLn hnd (by omega) ?_ ?_ ?_ ?_ ?_ ?_ ?_ gm gb (by rw [upto_next]; omega) (by rw [upto_next]; omega) (fr.upto (by omega)) ?_
    case refine_8 =>
      intro e2 s2 b2 cap2 rv h2a p5 hcap2 hb2 nb2 qb2 qm2 p8 hR hRf hs2 hnx2 fr2
      simp only [upto_next, upto_get] at hb2 hR hs2 hnx2
      obtain ⟨nd2, hle2, hpre, hkl, _⟩ := numRow_nd (κ := kapS a) (rowF a.fa q) L hnd
      have hkl : (numRow (kapS a) (rowF a.fa q) L).2.length = 2 ^ a.lines.toNat := by rw [hkl]; exact rowF_len a.fa q
      have lt2 : ∀ z ∈ (numRow (kapS a) (rowF a.fa q) L).1, z < a.next.length := by
        have := (numRow_rel (κ := kapS a) (ρ := kapS a) (Q := fun z => z < a.next.length) (fun _ _ _ _ => Iff.rfl) (rowF a.fa q) L (fun y hy => by
          obtain ⟨x, hx, rfl⟩ := List.mem_map.1 hy
          exact hA.lt q x hq (List.mem_range.1 hx)) hLn).2
        exact this
      have hLf := hpre i hd
      rw [hLi] at hLf
      generalize hLfe : (numRow (kapS a) (rowF a.fa q) L).1 = Lf at *
      generalize hkfe : (numRow (kapS a) (rowF a.fa q) L).2 = kf at *
      have hiLf : i < Lf.length := by omega
      have hgt : gt Lf i = q := by
        rw [List.getElem?_eq_getElem hiLf] at hLf
        rw [gt_get hiLf]; exact Option.some.inj hLf
      obtain ⟨jr, rfl, hjr, jr1, jr2⟩ : ∃ jr, rv = .sl jr 0 (2 ^ a.lines.toNat) none 1 ∧ s2.get jr = some (.cells (nats kf) 3 false 0 0) ∧ s.next + 10 ≤ jr ∧ jr < s2.next := by
        rcases hR with ⟨_, h⟩ | ⟨j, h1, h2, h3, h4⟩
        · rw [h, List.length_nil] at hkl; omega
        · exact ⟨j, by rw [h1, hkl], h2, h3, h4⟩
      have hjb := hRf jr ((isB_sl _ _ _).2 rfl)
      have E2 : ∀ t : Nat, t < 10 → t ≠ 5 → t ≠ 8 → Env.get e2 t = Env.get e t := fun t h1 h5 h8 => by
        rw [h2a t h1 h5 h8]
        have hne : ∀ k : Nat, 10 ≤ k → (k = t) = False := fun k hk => by simp; omega
        have hne8 : (8 = t) = False := by simp; omega
        simp +contextual only [go_sem, ↓reduceIte, hne, hne8]
      have p1 := (E2 1 (by omega) (by omega) (by omega)).trans g1
      have p2 := (E2 2 (by omega) (by omega) (by omega)).trans g2
      have p3 := (E2 3 (by omega) (by omega) (by omega)).trans g3
      have p4 := (E2 4 (by omega) (by omega) (by omega)).trans g4
      have p6 := (E2 6 (by omega) (by omega) (by omega)).trans g6
      have p7 := (E2 7 (by omega) (by omega) (by omega)).trans g7
      have u8 := (hs2 8 (by omega) (by omega) (by omega)).trans gs
      have u9 := (hs2 9 (by omega) (by omega) (by omega)).trans g9
      have u12 := (hs2 12 (by omega) (by omega) (by omega)).trans gout
      have hv2 : RowI s2 13 40 1 i cN v := hv.keepT (by omega) fun j c h1 h2 h3 => by rw [hs2 j (by omega) (blk_ne h1 gb (by decide)) (by omega)]; exact h1
      have hw2 : RowI s2 13 43 1 i cF w := hw.keepT (by omega) fun j c h1 h2 h3 => by rw [hs2 j (by omega) (blk_ne h1 gb (by decide)) (by omega)]; exact h1
      have hBN2 : ∀ j (h : j < acc.length) (h' : j < cN.length), BlkJ s2 b2 3 cN[j] (nats acc[j].2) := fun j h h' => (hBN j h h').mono (by omega) fun k h1 h2 h3 h4 => ⟨by omega, by rw [hs2 k (by omega) h2 (by omega)]; exact h4⟩
      have hBF2 : ∀ j (h : j < acc.length) (h' : j < cF.length), BlkJ s2 b2 4 cF[j] (bools (frow a.fa acc[j].1)) := fun j h h' => (hBF j h h').mono (by omega) fun k h1 h2 h3 h4 => ⟨by omega, by rw [hs2 k (by omega) h2 (by omega)]; exact h4⟩
      simp (config := { maxSteps := 2000000 }) +contextual only [go_sem, ↓reduceIte]
      refine l104r (Post := fun (x : Option AV) => x = r) ha (L := Lf) (q := q) (b := b2) (i := i) (ob := 12) (jr := jr) (cap := cap2) hq hiLf hgt (by omega) p1 p5 p6 p7 p8 u8 u12 qb2 (by omega) (by omega) nb2 (by omega) (by omega) hv2 hw2 fr2 ?_
      intro e3 s3 v' w' jc h3a u12' hv3 hw3 hjc jc1 jc2 fs3 hnx3 fr3
      have qE : ∀ t : Nat, t < 10 → Env.get e3 t = Env.get e2 t := h3a
      have o7 := (h3a 7 (by omega)).trans p7
      simp (config := { maxSteps := 2000000 }) +contextual only [go_sem, ↓reduceIte, o7, hwr]
      have nv : ∀ j c t, s2.get j = some (.cells c t false 0 0) → t ≠ 40 → ¬ isB v j := fun j c t h1 h2 h3 => h2 (by
        have := hv2.isB_t h3
        by_cases e : t = 40
        · exact e
        · exact absurd rfl (blk_ne h1 this.2.2 e))
      have nw : ∀ j c t, s2.get j = some (.cells c t false 0 0) → t ≠ 43 → ¬ isB w j := fun j c t h1 h2 h3 => h2 (by
        have := hw2.isB_t h3
        by_cases e : t = 43
        · exact e
        · exact absurd rfl (blk_ne h1 this.2.2 e))
      have pr : ∀ j c t, j < s2.next → j ≠ 12 → s2.get j = some (.cells c t false 0 0) → t ≠ 40 → t ≠ 43 → s3.get j = some (.cells c t false 0 0) := fun j c t h1 h2 h3 h4 h5 => by
        rw [fs3 j h1 h2 (nv j c t h3 h4) (nw j c t h3 h5)]; exact h3
      have lo10 : s3.get 10 = s2.get 10 := fs3 10 (by omega) (by omega) (fun h => by have := (hv2.isB_t h).1; omega) fun h => by have := (hw2.isB_t h).1; omega
      have bj3 : ∀ c l, BlkJ s2 b2 3 c l → BlkJ s3 b2 3 c l := fun c l h => h.mono hnx3 fun k h1 h2 h3 h4 => ⟨h2, pr k _ _ h1 (by omega) h4 (by decide) (by decide)⟩
      have bj4 : ∀ c l, BlkJ s2 b2 4 c l → BlkJ s3 b2 4 c l := fun c l h => h.mono hnx3 fun k h1 h2 h3 h4 => ⟨h2, pr k _ _ h1 (by omega) h4 (by decide) (by decide)⟩
      have hfl : (frow a.fa q).length = 2 ^ a.lines.toNat := frow_len a.fa q
      rw [List.append_cons] at hrun
      refine IH (i + 1) _ _ (by omega) ⟨?_, ?_, ?_, ?_, ?_, ?_, pr _ _ _ (by omega) (by omega) u8 (by decide) (by decide), pr _ _ _ (by omega) (by omega) u9 (by decide) (by decide), by omega, fr3, Lf, b2, cap2, acc ++ [(q, kf)], cN ++ [.sl jr 0 (2 ^ a.lines.toNat) none 1], cF ++ [.sl jc 0 (2 ^ a.lines.toNat) none 1], v', w', ?_, hcap2, pr _ _ _ nb2 (by omega) qb2 (by decide) (by decide), by omega, by omega, lt2, nd2, lo10.trans qm2, u12', hv3, hw3, by simp [hacc], by simp [hcN], by simp [hcF], fun j h h' => ?_, fun j h h' => ?_, by omega, hrun⟩
      case refine_8 =>
        by_cases hj : j < acc.length
        · rw [List.getElem_append_left (by omega), List.getElem_append_left hj]
          exact bj3 _ _ (hBN2 j hj (by omega))
        · have hj : j = acc.length := by rw [List.length_append, List.length_singleton] at h; omega
          subst hj
          rw [List.getElem_append_right (by omega), List.getElem_append_right (by omega)]
          simp only [List.getElem_singleton]
          exact bj3 _ _ ⟨jr, none, by rw [nats_len, hkl], jr2, hjb, by omega, hjr⟩
      case refine_9 =>
        by_cases hj : j < acc.length
        · rw [List.getElem_append_left (by omega), List.getElem_append_left hj]
          exact bj4 _ _ (hBF2 j hj (by omega))
        · have hj : j = acc.length := by rw [List.length_append, List.length_singleton] at h; omega
          subst hj
          rw [List.getElem_append_right (by omega), List.getElem_append_right (by omega)]
          simp only [List.getElem_singleton]
          exact ⟨jc, none, by rw [bools_len, hfl], jc2, by omega, by omega, hjc⟩
      all_goals simp +contextual only [go_sem, ↓reduceIte, (h3a 1 (by omega)).trans p1, (h3a 2 (by omega)).trans p2, (h3a 3 (by omega)).trans p3, (h3a 4 (by omega)).trans p4, (h3a 5 (by omega)).trans p5, (h3a 6 (by omega)).trans p6]
    all_goals simp +contextual only [go_sem, ↓reduceIte, g3, g4, g5]
    all_goals rfl
  · have hie : i = L.length := by omega
    have hno : bfsN (kapS a) (rowF a.fa) (a.next.length + 1 - i) i L = [] := by
      rw [show a.next.length + 1 - i = (a.next.length - i) + 1 by omega, bfsN, List.getElem?_eq_none (by omega)]
    rw [hno, List.append_nil] at hrun
    have hle : decide ((i : Int) < (L.length : Int)) = false := by rw [nat_lt_dec]; simp; omega
    simp (config := { maxSteps := 2000000 }) +contextual only [go_sem, ↓reduceIte, r104_l1, g5, g7, hle]
    have keepS : ∀ S : St, S.next = s.next → (∀ j, j ≠ 9 → S.get j = s.get j) → RowI S 13 40 1 i cN v ∧ RowI S 13 43 1 i cF w ∧ (∀ j (h : j < acc.length) (h' : j < cN.length), BlkJ S b 3 cN[j] (nats acc[j].2)) ∧ ∀ j (h : j < acc.length) (h' : j < cF.length), BlkJ S b 4 cF[j] (bools (frow a.fa acc[j].1)) := fun S hn hg =>
      ⟨hv.keepT (by omega) fun j c h _ h2 => by rw [hg j (by omega)]; exact h, hw.keepT (by omega) fun j c h _ h2 => by rw [hg j (by omega)]; exact h,
        fun j h h' => (hBN j h h').mono (by omega) fun k _ h2 h3 h5 => ⟨h2, by rw [hg k (by omega)]; exact h5⟩, fun j h h' => (hBF j h h').mono (by omega) fun k _ h2 h3 h5 => ⟨h2, by rw [hg k (by omega)]; exact h5⟩⟩
    refine hk _ _ v w ?_ ?_ gout g9 hv.noAgg hw.noAgg (fun S d hn hg => ?_) (fun S d hn hg => ?_)
    · simp +contextual only [go_sem, ↓reduceIte, g6]
    · simp +contextual only [go_sem, ↓reduceIte, g2]
    · obtain ⟨k1, k2, k3, k4⟩ := keepS S hn hg
      have k1 : RowI S 13 40 1 cN.length cN v := by rw [hcN]; exact k1
      have hna : cN.all noAgg = true := by
        rw [List.all_eq_true]
        intro x hx
        obtain ⟨j, hj, rfl⟩ := List.mem_iff_getElem.1 hx
        obtain ⟨_, _, e, _⟩ := k3 j (by omega) hj
        rw [e]; rfl
      rw [← hrun]
      exact k1.frz_one U ag_40 sz_40 hna (d := d + 2) (mapO_idx (by omega) fun j h h' => (k3 j h' h).frz ag_3 sz_3 (noAgg_ints _) (frz_ints _ _ _))
    · obtain ⟨k1, k2, k3, k4⟩ := keepS S hn hg
      have k2 : RowI S 13 43 1 cF.length cF w := by rw [hcF]; exact k2
      have hna : cF.all noAgg = true := by
        rw [List.all_eq_true]
        intro x hx
        obtain ⟨j, hj, rfl⟩ := List.mem_iff_getElem.1 hx
        obtain ⟨_, _, e, _⟩ := k4 j (by omega) hj
        rw [e]; rfl
      rw [← hrun]
      exact k2.frz_one U ag_43 sz_43 hna (d := d + 2) (mapO_idx (by omega) fun j h h' => (k4 j h' h).frz ag_4 sz_4 (noAgg_bools _) (frz_bools _ _ _))
theorem minP_R {a : Auto} (ha : a.ok) : (minP a.fa (kapS a)).map (fun x => AV.fz (nats x.2)) = (minR a.fa).map (fun x => AV.fz (nats x.2)) ∧ (minP a.fa (kapS a)).map (fun x => AV.fz (bools (frow a.fa x.1))) = (minR a.fa).map (fun x => AV.fz (bools (frow a.fa x.1))) := by
  obtain ⟨h1, h2⟩ := min_eq ha.faok (cl := kapS a) fun u v hu hv => setsA_eq ha hu hv
  rw [h1]
  simp only [List.map_map]
  refine ⟨rfl, List.map_congr_left fun x hx => ?_⟩
  show _ = AV.fz (bools (frow a.fa (clsR a.fa x.1)))
  congr 2
  unfold frow
  refine List.map_congr_left fun y hy => ?_
  exact (min_fr ha.faok (h2 x hx) (List.mem_range.1 hy)).symm
theorem c104 {a : Auto} (ha : a.ok) : calV U 104 [encA a] = some (encA (minAutR a)) := by
  refine pure_go k104 (by kernel_rfl) (by simp [stills, still_encA]) ?_
  have h172 := c172 ha
  rw [encA_eq] at h172 ⊢
  have nn := noAgg_encS a.nNl (a.next.map encRow)
  have nf := noAgg_encS a.fNl (a.fires.map encFRow)
  have cn := cells_encS a.nNl (a.next.map encRow)
  have cf := cells_encS a.fNl (a.fires.map encFRow)
  have hA := ha.faok
  have o1 := ixa_natsF (l := setsA a) (i := 0) (by rw [setsA_len ha]; exact ha.pos)
  have o1 : ixRA 1 (.fz (nats (setsA a))) (.int .i64 0) = some (.fp [.int .i64 ((kapS a 0 : Nat) : Int)] 0) := o1
  have up := fun (S : St) (h : S.get 10 = some (.map [] false)) => update249 (m := 10) (ks := []) h (k := kapS a 0) (by simp)
  have up : ∀ S : St, S.get 10 = some (.map [] false) → updateA U 249 (.map 10) (.int .i64 ((kapS a 0 : Nat) : Int)) (.int .i64 0) S = some (S.put 10 (.map (entN [kapS a 0] 0) false)) := up
  unfold encN encFs at h172 ⊢
  simp (config := { maxSteps := 2000000 }) +contextual only [go_sem, ↓reduceIte, r104, nn, nf, cn, cf, h172, o1, up]
  refine l104b ha ?_ ?_ ?_ ?_ ?_ ?_ ?_ ?_ ?_ ?_ ?_ ?_ ?_ ?_ ?_
  case refine_15 =>
    intro e' s' v w p6 p2 u12 u9 nav naw fv fw
    have hE : encA (minAutR a) = .agg [.int .i64 a.lines, encS true ((minR a.fa).map fun x => AV.fz (nats x.2)), encS true ((minR a.fa).map fun x => AV.fz (bools (frow a.fa x.1)))] := by
      rw [encA_eq, encN, encFs, minAutR]
      simp only [List.map_map]
      have e1 : ∀ x : Nat × List Nat, (encRow ∘ fun x : Nat × List Nat => (false, nIs x.2)) x = AV.fz (nats x.2) := fun x => by simp only [Function.comp, encRow, encS_fz]; rfl
      have e2 : ∀ x : Nat × List Nat, (encFRow ∘ fun x : Nat × List Nat => (false, frow a.fa x.1)) x = AV.fz (bools (frow a.fa x.1)) := fun x => by simp only [Function.comp, encFRow, encS_fz]
      rw [List.map_congr_left (fun x _ => e1 x), List.map_congr_left (fun x _ => e2 x)]
    obtain ⟨m1, m2⟩ := minP_R ha
    rw [m1] at fv
    rw [m2] at fw
    have fv' := fun x => fv (s'.put 9 x) 36 (by rw [next_put]) fun j hj => by rw [get_put, if_neg (fun e => hj e.symm)]
    have fw' := fun x => fw (s'.put 9 x) 36 (by rw [next_put]) fun j hj => by rw [get_put, if_neg (fun e => hj e.symm)]
    rw [hE]
    simp (config := { maxSteps := 2000000 }) +contextual only [go_sem, ↓reduceIte, p6, p2, u12, u9, nav, naw, fv', fw']
  case refine_14 =>
    repeat first | exact Fr.own | apply Fr.new | apply Fr.put | apply Fr.upto
    all_goals simp +contextual only [go_sem, ↓reduceIte]
  all_goals simp +contextual only [go_sem, ↓reduceIte]
  all_goals rfl
end Go.Am

set_option linter.all false
namespace Go.Am
open Go
variable [MaxLen]
set_option maxRecDepth 100000
set_option maxHeartbeats 8000000

/-! # TriggerRuns: function 10 -/
def intg (n e bad want : Int) : Bool := br (bad != 0) (n == 0 && e == bad) (e == 0 && n == want)
theorem c54 (n e bad want : Int) : calV U 54 [.int .i64 n, .int .i64 e, .int .i64 bad, .int .i64 want] = some (.bool (intg n e bad want)) := by
  refine pure_go k54 (by kernel_rfl) rfl ?_
  simp (config := { maxSteps := 2000000 }) +contextual only [go_sem, ↓reduceIte, r54]
  rfl
theorem numRow_len (κ : Nat → Nat) : ∀ (cs st : List Nat), (numRow κ cs st).2.length = cs.length
  | [], st => rfl
  | c :: cs, st => by
    rw [numRow]
    cases decide (idxN (st.map κ) (κ c) < st.length) <;> simp [numRow_len κ cs]
theorem bfsN_len (κ : Nat → Nat) (row : Nat → List Nat) {m : Nat} (hr : ∀ s, (row s).length = m) : ∀ (f i : Nat) (st : List Nat), (bfsN κ row f i st).length ≤ f ∧ ∀ x ∈ bfsN κ row f i st, x.2.length = m
  | 0, i, st => by simp [bfsN]
  | f + 1, i, st => by
    rw [bfsN]
    cases st[i]? with
    | none => simp
    | some s =>
      obtain ⟨h1, h2⟩ := bfsN_len κ row hr f (i + 1) (numRow κ (row s) st).1
      refine ⟨by simp only [List.length_cons]; omega, fun x hx => ?_⟩
      rcases List.mem_cons.1 hx with rfl | hx
      · simp only [numRow_len, hr]
      · exact h2 x hx
theorem minR_len (A : Fa) : (minR A).length ≤ A.n + 1 ∧ ∀ x ∈ minR A, x.2.length = A.m :=
  bfsN_len id (fun c => (rowF A c).map (clsR A)) (m := A.m) (fun s => by rw [List.length_map, rowF_len]) (A.n + 1) 0 [clsR A 0]
theorem c60_min {a : Auto} (ha : a.ok) : calV U 60 [encA (minAutR a), encA (minAutR a)] = some (.bool true) := by
  obtain ⟨h1, h2⟩ := minR_len a.fa
  have hfew := ha.few
  have hm16 : 2 ^ a.lines.toNat ≤ 65536 := by have := pow_le16 a.lines (by have := ha.lines; omega); have := mOf_nat a.lines; unfold mOf at this; omega
  have hn : a.fa.n = a.next.length := rfl
  have hm : a.fa.m = 2 ^ a.lines.toNat := rfl
  refine c60 _ _ rfl rfl (fun i _ _ => rfl) rfl (fun i _ _ => rfl) ?_ ?_ ?_ ?_
  · simp only [minAutR, List.length_map]; omega
  · simp only [minAutR, List.length_map]; omega
  · intro r hr
    simp only [minAutR, List.mem_map] at hr
    obtain ⟨x, hx, rfl⟩ := hr
    simp only [nIs_len, h2 x hx]; omega
  · intro r hr
    simp only [minAutR, List.mem_map] at hr
    obtain ⟨x, hx, rfl⟩ := hr
    simp only [frow_len]; omega
def minP2 (a : Auto) : AV := bif ckA a != 0 then .tup [encA ⟨0, true, [], true, []⟩, .int .i64 (ckA a)] else .tup [encA (minAutR a), .int .i64 0]
theorem c59 (a : Auto) (hn : a.next.length ≤ 2 ^ 40) (hr : ∀ r ∈ a.next, r.2.length ≤ 2 ^ 40) : calV U 59 [encA a] = some (minP2 a) := by
  refine pure_go k59 (by kernel_rfl) (by simp [stills, still_encA]) ?_
  have h58 := c58 a hn hr
  have nn := noAgg_encS a.nNl (a.next.map encRow)
  have nf := noAgg_encS a.fNl (a.fires.map encFRow)
  have cn := cells_encS a.nNl (a.next.map encRow)
  have cf := cells_encS a.fNl (a.fires.map encFRow)
  unfold minP2
  cases hc : ckA a != 0 with
  | true =>
    rw [encA_eq] at h58 ⊢
    unfold encN encFs at h58 ⊢
    rw [show encA ⟨0, true, [], true, []⟩ = .agg [.int .i64 0, .nils, .nils] from rfl]
    simp (config := { maxSteps := 2000000 }) +contextual only [go_sem, ↓reduceIte, r59, nn, nf, cn, cf, h58, hc, cond_true]
  | false =>
    have h0 : ckA a = 0 := by simpa using hc
    have ha := Auto.ok_of h0
    have h104 := c104 ha
    rw [h0] at h58
    generalize hM : minAutR a = M at *
    have nn' := noAgg_encS M.nNl (M.next.map encRow)
    have nf' := noAgg_encS M.fNl (M.fires.map encFRow)
    have cn' := cells_encS M.nNl (M.next.map encRow)
    have cf' := cells_encS M.fNl (M.fires.map encFRow)
    rw [encA_eq a] at h58 h104 ⊢
    rw [encA_eq M] at h104 ⊢
    unfold encN encFs at h58 h104 ⊢
    simp (config := { maxSteps := 2000000 }) +contextual only [go_sem, ↓reduceIte, r59, nn, nf, cn, cf, nn', nf', cn', cf', h58, h104, cond_false, frz_encS]
theorem c10 (aw : calV U 16 [] = some (.bool true)) (a : Auto) (nl : Bool) (l : List Int) : calV U 10 [encA a, encS nl (ints l)] = some (.bool true) := by
  refine pure_go k10 (by kernel_rfl) (by simp [stills, still_encA, still_encS]) ?_
  have nn := noAgg_encS a.nNl (a.next.map encRow)
  have nf := noAgg_encS a.fNl (a.fires.map encFRow)
  have cn := cells_encS a.nNl (a.next.map encRow)
  have cf := cells_encS a.fNl (a.fires.map encFRow)
  have q44 := c44 a 12
  have q22 := c22 nl l 60
  cases hs : shortA a 12 with
  | false =>
    rw [hs] at q44
    rw [encA_eq] at q44 ⊢
    unfold encN encFs at q44 ⊢
    simp (config := { maxSteps := 2000000 }) +contextual only [go_sem, ↓reduceIte, r10, aw, q44, nn, nf, cn, cf]
  | true =>
  rw [hs] at q44
  cases hss : shortSig l 60 with
  | false =>
    rw [hss] at q22
    rw [encA_eq] at q44 ⊢
    unfold encN encFs at q44 ⊢
    simp (config := { maxSteps := 2000000 }) +contextual only [go_sem, ↓reduceIte, r10, aw, q44, q22, nn, nf, cn, cf]
  | true =>
  rw [hss] at q22
  have hsh : a.next.length ≤ 2 ^ 40 ∧ ∀ r ∈ a.next, r.2.length ≤ 2 ^ 40 := by
    unfold shortA at hs
    cases hb : (decide ((a.next.length : Int) > 12) && decide ((a.next.length : Int) ≤ 256)) || (decide ((a.next.length : Int) > 258) || decide ((a.fires.length : Int) > 260)) with
    | true => rw [hb] at hs; cases hs
    | false =>
      rw [hb, cond_false, Bool.and_eq_true] at hs
      simp only [Bool.or_eq_false_iff, decide_eq_false_iff_not] at hb
      refine ⟨by omega, fun r hr => ?_⟩
      have := shortRows_ok hs.1 r hr
      omega
  obtain ⟨hn, hr⟩ := hsh
  have q50 := c50 a
  have q58 := c58 a hn hr
  have q57 := c57 a hn hr nl l
  have q62 := c62 a hn hr nl l
  have q59 := c59 a hn hr
  unfold runP2 at q57
  unfold finP2 at q62
  unfold minP2 at q59
  have zE : encA ⟨0, true, [], true, []⟩ = .agg [.int .i64 0, .nils, .nils] := rfl
  cases hb : ckA a != 0 with
  | true =>
    have hb' : (ckA a == 0) = false := by simpa [bne] using hb
    have hcr : chkRun a l = ckA a := by unfold chkRun; rw [hb, br_true]
    rw [hcr, hb, cond_true] at q57 q62
    rw [hb, cond_true, zE] at q59
    have q36 := c36 true true [] [] (ckA a) (ckA a) (by decide)
    have hlr : listR [] (ckA a) (ckA a) [] = true := by unfold listR; rw [hb]; simp
    rw [hlr] at q36
    rw [show encS true (ints []) = .nils from rfl] at q36
    have q54 := c54 0 (ckA a) (ckA a) 0
    have hi : intg 0 (ckA a) (ckA a) 0 = true := by unfold intg; rw [hb, br_true]; simp
    rw [hi] at q54
    have q43 := c43_bad (ckA a) (ckA a) (by simpa using hb) rfl
    rw [zE] at q43
    rw [encA_eq] at q44 q50 q58 q57 q62 q59 ⊢
    unfold encN encFs at q44 q50 q58 q57 q62 q59 ⊢
    simp (config := { maxSteps := 2000000 }) +contextual only [go_sem, ↓reduceIte, r10, aw, q44, q22, q50, q58, q57, q62, q59, q36, q54, q43, hb', nn, nf, cn, cf]
    simp [br]
  | false =>
    have hb0 : ckA a = 0 := by simpa using hb
    have ha := Auto.ok_of hb0
    have q28 := c28 a.lines ha.lines.1 (by have := ha.lines; omega) nl l
    have q41 := c41 ha
    have hcr : chkRun a l = ckSig a.lines l := by unfold chkRun; rw [hb, br_false]
    have q43 := c43_ok _ _ (c60_min ha)
    rw [hcr] at q57 q62
    rw [hb, cond_false] at q59
    rw [hb0] at q50 q58
    generalize hM : minAutR a = M at *
    have nn' := noAgg_encS M.nNl (M.next.map encRow)
    have nf' := noAgg_encS M.fNl (M.fires.map encFRow)
    have cn' := cells_encS M.nNl (M.next.map encRow)
    have cf' := cells_encS M.fNl (M.fires.map encFRow)
    cases hg : ckSig a.lines l != 0 with
    | true =>
      have hg' : (ckSig a.lines l == 0) = false := by simpa [bne] using hg
      rw [hg, cond_true] at q57 q62
      have q36 := c36 true true [] [] (ckSig a.lines l) (ckSig a.lines l) (by decide)
      have hlr : listR [] (ckSig a.lines l) (ckSig a.lines l) [] = true := by unfold listR; rw [hg]; simp
      rw [hlr] at q36
      rw [show encS true (ints []) = .nils from rfl] at q36
      have q54 := c54 0 (ckSig a.lines l) (ckSig a.lines l) 0
      have hi : intg 0 (ckSig a.lines l) (ckSig a.lines l) 0 = true := by unfold intg; rw [hg, br_true]; simp
      rw [hi] at q54
      rw [encA_eq a] at q44 q50 q58 q57 q62 q59 q41 ⊢
      rw [encA_eq M] at q59 q41 q43
      unfold encN encFs at q44 q50 q58 q57 q62 q59 q41 q43 ⊢
      simp (config := { maxSteps := 2000000 }) +contextual only [go_sem, ↓reduceIte, r10, aw, q44, q22, q50, q58, q57, q62, q59, q41, q28, q36, q54, q43, hg', nn, nf, cn, cf, nn', nf', cn', cf']
    | false =>
      have hg0 : ckSig a.lines l = 0 := by simpa using hg
      rw [hg, cond_false] at q57 q62
      have hsig := sigOk_of (by have := ha.lines; omega) hg0
      have q63 := c63 ha nl l hsig
      have hlen := runF_len a.fa l l.length 0 0
      have q36 := c36 true true (runF a.fa l l.length 0 0).1 (runF a.fa l l.length 0 0).1 0 0 (by have := hsig.1; omega)
      have hlr : listR (runF a.fa l l.length 0 0).1 0 0 (runF a.fa l l.length 0 0).1 = true := by unfold listR; rw [sameI_refl]; rfl
      rw [hlr] at q36
      have q54 := c54 (((runF a.fa l l.length 0 0).2 : Nat) : Int) 0 0 (((runF a.fa l l.length 0 0).2 : Nat) : Int)
      have hi : intg (((runF a.fa l l.length 0 0).2 : Nat) : Int) 0 0 (((runF a.fa l l.length 0 0).2 : Nat) : Int) = true := by unfold intg; simp [br]
      rw [hi] at q54
      rw [hg0] at q28
      rw [encA_eq a] at q44 q50 q58 q57 q62 q59 q41 q63 ⊢
      rw [encA_eq M] at q59 q41 q43
      unfold encN encFs at q44 q50 q58 q57 q62 q59 q41 q43 q63 ⊢
      simp (config := { maxSteps := 2000000 }) +contextual only [go_sem, ↓reduceIte, r10, aw, q44, q22, q50, q58, q57, q62, q59, q41, q28, q63, q36, q54, q43, nn, nf, cn, cf, nn', nf', cn', cf']
end Go.Am
