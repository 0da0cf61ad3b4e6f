/- A part of the proof of a statement of this seat: the machine on which the program is read, and what it computes; for every input. -/
import Derived.Test.YtkmaeondbkpajaaGreatDoorT15
import Derived.Test.YtkmaeondbkpajaaGreatDoorT20
import Derived.Test.YtkmaeondbkpajaaGreatDoorT05
import Derived.Test.YtkmaeondbkpajaaGreatDoorT12
import Derived.Shelf.Strconv.AtoiAll
import Derived.Shelf.Strconv.Itoa3
import Derived.Test.YtkmaeondbkpajaaGreatDoorProg
set_option linter.all false
set_option linter.all false
namespace Go.Am
open Go
variable [MaxLen]
set_option maxRecDepth 100000
set_option maxHeartbeats 8000000
/-! # Parse at longer strings -/

theorem c1009w {S : Str} (hS : S.length ≤ 4096) (hD : (psteps 16400 8200 (plines ⟨ptoks S, -1⟩).2).2.bad < 0 → ∀ p ∈ (psteps 16400 8200 (plines ⟨ptoks S, -1⟩).2).1, p.cond.dp ≤ 1990) : calV U 9 [.str S] = some (encPA (pans 16400 8200 ⟨ptoks S, -1⟩)) := by
  refine pure_go k1009 (by kernel_rfl) rfl ?_
  have hl : decide ((S.length : Int) > 4096) = false := decide_eq_false (by omega)
  have hck := ck 45 [.str S]
  simp (config := { maxSteps := 2000000 }) +contextual only [go_sem, ↓reduceIte, r1009, hl, hck, c1045]
  refine raw_step (Post := fun x => x = some (encPA (pans 16400 8200 ⟨ptoks S, -1⟩))) (Q := fun e' s' => (Env.get e' 5 = .ptr 10 0 ∧ Env.get e' 2 = .ptr 8 0) ∧ (∃ B, InP s' 9 B ⟨ptoks S, -1⟩) ∧ Fr s' ∧ 12 ≤ s'.next ∧ s'.get 10 = some (.cells [.ptr 9 0] 86 false 0 0) ∧ s'.get 8 = some (.cells [.int .i64 0, .nils] 25 false 0 0)) ?_ ?_
  · obtain ⟨s', h1, h2, h3, h4, h5, h6⟩ := rf9 (S := S) (a := 10) (R := 9) (b := 11) (k0 := 8) (ck := .cells [.int .i64 0, .nils] 25 false 0 0)
      (e := ((((((((((((((Tr.nil.set 0 (AV.str S)).set 2 (AV.ptr 8 0)).set 3 (AV.int IntKind.i64 0)).set 4 (AV.int IntKind.i64 0)).set 9 (AV.str S)).set 10 (AV.int IntKind.i64 ↑(List.length S))).set 11 (AV.bool false)).set 11 (AV.bool false)).set 13 (AV.agg [AV.nils, AV.int IntKind.i64 (-1)])).set 14 (AV.ptr 9 0)).set 5 (AV.ptr 10 0)).set 15 (AV.str S)).set 16 (AV.fn (Fn.func 104) [] [AV.ptr 11 0])) : Env))
      (s := ((((((ownSt U).new (Blk.cells [AV.int IntKind.i64 0, AV.nils] 25 false 0 0)).new (Blk.cells [AV.nils, AV.int IntKind.i64 (-1)] 89 false 0 0)).new (Blk.cells [AV.nilp] 86 false 0 0)).put 10 (Blk.cells [AV.ptr 9 0] 86 false 0 0)).new (Blk.cells [AV.str S] 9 false 0 0)))
      (by omega) (by simp +contextual only [go_sem, ↓reduceIte]) (by simp +contextual only [go_sem, ↓reduceIte]) (by simp +contextual only [go_sem, ↓reduceIte]) (by simp +contextual only [go_sem, ↓reduceIte]) (by simp +contextual only [go_sem, ↓reduceIte]) (by (repeat (first | exact Fr.own | apply Fr.new | apply Fr.put)) <;> simp +contextual only [go_sem, ↓reduceIte] <;> omega) (by omega) (by omega) (by omega) (by intro c h; cases h) (by simp +contextual only [go_sem, ↓reduceIte])
    exact ⟨_, s', h1, ⟨by simp +contextual only [go_sem, ↓reduceIte], by simp +contextual only [go_sem, ↓reduceIte]⟩, h2, h3, h4, h5, h6⟩
  rintro e' s1 ⟨⟨e5, e2⟩, ⟨B, inp⟩, fr1, n1, g10, g8⟩
  have gd := ptoks_gd S (by omega) (-1)
  have hlen := ptoks_len S
  obtain ⟨v, s2, p1, ⟨sv, rfl, st2⟩, inp2, frm2⟩ := c1046 (N := 16400) (m := 8200) inp fr1 gd (by show (ptoks S).length < 8200; omega) (by show 2 * (ptoks S).length + 1 ≤ 16400; omega) (by show (ptoks S).length ≤ 2 ^ 19; omega)
  have hna := st2.noAgg
  have hcl := st2.cells
  have h10 := (frm2.get 10 (by omega) (by omega)).trans g10
  have h8 := (frm2.get 8 (by omega) (by omega)).trans g8
  obtain ⟨pre, hR, _⟩ := inp2.ex
  have n2 := frm2.next
  obtain ⟨g8', g8''⟩ := get8 (s := s2) (by omega)
  have m9 : (s2.next = 9) = False := eq_false (by omega)
  have m10 : (s2.next = 10) = False := eq_false (by omega)
  have fr2 := frm2.fr
  have hfk := fr2.at
  cases hb : decide ((psteps 16400 8200 (plines ⟨ptoks S, -1⟩).2).2.bad ≥ 0) with
  | true =>
    have hA : pans 16400 8200 ⟨ptoks S, -1⟩ = (P0, (psteps 16400 8200 (plines ⟨ptoks S, -1⟩).2).2.bad, 25) := by rw [pans, hb, br_true]
    rw [hA]
    simp (config := { maxSteps := 2000000 }) +contextual only [go_sem, ↓reduceIte, e5, e2, ck, p1, g10, h10, h8, hna, hcl, hR, g8', g8'', m9, m10, hb, go_drcU d1009_1, hfk]
    rfl
  | false =>
    have ok : ∀ p ∈ (psteps 16400 8200 (plines ⟨ptoks S, -1⟩).2).1, okPS 1990 p := fun p hp => ⟨(psteps_ok 16400 8200 (plines ⟨ptoks S, -1⟩).2 p hp).1, hD (by rw [decide_eq_false_iff_not] at hb; omega) p hp⟩
    have hfit : (pprog 16400 8200 ⟨ptoks S, -1⟩).fits := by
      have := psteps_fits (N := 16400) (by omega) 8200 (plines ⟨ptoks S, -1⟩).2 (gd.sf (sf_plines _))
      refine ⟨by show (List.map PS.st _).length < 2 ^ 30; rw [List.length_map]; omega, fun x hx => ?_⟩
      obtain ⟨p, h1, rfl⟩ := List.mem_map.1 hx
      exact this.2 p h1
    have st3 : StK ((s2.new (.cells [.int .i64 0, .nils] 25 false 0 0)).put s2.next (.cells [.int .i64 (plines ⟨ptoks S, -1⟩).1, sv] 25 false 0 0)) (fun _ => True) (psteps 16400 8200 (plines ⟨ptoks S, -1⟩).2).1 sv :=
      st2.mono fun j c _ h => ⟨trivial, by rw [get_put, if_neg (by have := st_lt fr2 h; omega), get_new, if_neg (by have := st_lt fr2 h; omega)]; exact h⟩
    have hc := call47 st3 ok (by omega) hfit
    have st4 : StK (((s2.new (.cells [.int .i64 0, .nils] 25 false 0 0)).put s2.next (.cells [.int .i64 (plines ⟨ptoks S, -1⟩).1, sv] 25 false 0 0)).put 8 (.cells [.int .i64 (plines ⟨ptoks S, -1⟩).1, sv] 25 false 0 0)) (fun _ => True) (psteps 16400 8200 (plines ⟨ptoks S, -1⟩).2).1 sv :=
      st2.mono fun j c hj h => ⟨trivial, by rw [get_put, if_neg (by omega), get_put, if_neg (by have := st_lt fr2 h; omega), get_new, if_neg (by have := st_lt fr2 h; omega)]; exact h⟩
    have hz := frzSt (d := 3998) st4 ok (by omega)
    simp (config := { maxSteps := 2000000 }) +contextual only [go_sem, ↓reduceIte, e5, e2, ck, p1, g10, h10, h8, hna, hcl, hR, g8', g8'', m9, m10, hb, hfk, hc, hz]
    rw [pans, hb, br_false]
    unfold pprog
    cases cpP ⟨(plines ⟨ptoks S, -1⟩).1, true, (psteps 16400 8200 (plines ⟨ptoks S, -1⟩).2).1.map PS.st⟩ != 0
    · simp only [br_false, encPA, encP_pr]
    · rfl
/-! # A printed source is parsed as its program; cut off, it fails at its end -/

theorem tokG_w {t : Str} (h : tokW t = true) : tokG t = true := by rw [tokG, h]; rfl
theorem wrap_d {d : Int} (h0 : 1 ≤ d) (h : d ≤ 4) : IntKind.i64.wrap (d + 1) = d + 1 := wrap_i64 (by omega) (by omega)
/-- bounds of a condition in order -/
theorem ck_facts {lines : Int} (hl : 1 ≤ lines) (hl' : lines ≤ 16) : ∀ (c : Cond) (d : Nat), 1 ≤ d → ckR lines c d = 0 → d ≤ 4 ∧ c.norm.dp + d ≤ 5 ∧ leaves c ≤ 9 ^ (4 - d) ∧ (∀ t ∈ tkP c, tokG t = true) ∧ c.norm.fits := by
  intro c
  induction c using Cond.ind with
  | h k a b mi ma pat nl kids ih =>
    intro d h1 h
    have ok := ckOk hl hl' h
    have hd : d ≤ 4 := by have := ok.dep; omega
    have pv := pv_of hl hl' _ _ h
    rw [Cond.pv] at pv
    have hkids : ∀ x ∈ kids, ckR lines x ((d + 1 : Nat) : Int) = 0 := fun x hx => by
      have := ok.kids x hx
      rw [wrap_d (by omega) (by omega)] at this
      exact this
    have hk := fun x hx => ih x hx (d + 1) (by omega) (hkids x hx)
    have hmem : ∀ l : List Cond, (∀ x ∈ l, x ∈ kids) → dpL (normL l) + d ≤ 4 ∧ leavesL l ≤ l.length * 9 ^ (4 - (d + 1)) ∧ (∀ f, ∀ t ∈ tkPL f l, tokG t = true) := by
      intro l
      induction l with
      | nil => intro _; simp [normL, dpL, leavesL, tkPL]; omega
      | cons x l ihl =>
        intro hm
        obtain ⟨i1, i2, i3⟩ := ihl fun y hy => hm y (List.mem_cons_of_mem _ hy)
        obtain ⟨_, j1, j2, j3, _⟩ := hk x (hm x (by simp))
        refine ⟨?_, ?_, ?_⟩
        · rw [normL, dpL]; omega
        · rw [leavesL, List.length_cons, Nat.succ_mul]; omega
        · intro f t ht
          rw [tkPL] at ht
          rcases List.mem_cons.1 ht with rfl | ht
          · cases f <;> rfl
          · rcases List.mem_append.1 ht with ht | ht
            · exact j3 t ht
            · exact i3 false t ht
    obtain ⟨m1, m2, m3⟩ := hmem kids fun _ h => h
    refine ⟨hd, ?_, ?_, ?_, ?_⟩
    · rw [Cond.norm, Cond.dp]; omega
    · rw [leaves]
      by_cases h4 : d = 4
      · subst h4
        have : kids = [] := by
          cases kids with
          | nil => rfl
          | cons x l => have := (hk x (by simp)).1; omega
        subst this
        simp [leavesL]
      · have e : 9 ^ (4 - d) = 9 * 9 ^ (4 - (d + 1)) := by
          rw [show 4 - d = (4 - (d + 1)) + 1 by omega, Nat.pow_succ]; omega
        have h8 : kids.length * 9 ^ (4 - (d + 1)) ≤ 8 * 9 ^ (4 - (d + 1)) := Nat.mul_le_mul_right _ pv.2.2.2.2.2.2.2.1
        have hp : 0 < 9 ^ (4 - (d + 1)) := Nat.pos_of_ne_zero (by simp)
        omega
    · intro t ht
      rw [tkP] at ht
      simp only [numsT, List.append_assoc, List.append_nil] at ht
      have hn : ∀ {u : Bool} {n : Int} {t : Str}, 0 ≤ n → n ≤ 255 → t ∈ (bif u then [dg n] else []) → tokG t = true := fun {u n t} q1 q2 q3 => by
        cases u
        · simp at q3
        · simp at q3; rw [q3]; exact tokG_w (num_rd q1 q2).2
      rcases List.mem_cons.1 ht with rfl | ht
      · exact tokG_w (kind_w ok.known)
      rcases List.mem_append.1 ht with ht | ht
      · exact hn ok.a.1 ok.a.2.1 ht
      rcases List.mem_append.1 ht with ht | ht
      · exact hn ok.b.1 ok.b.2.1 ht
      rcases List.mem_append.1 ht with ht | ht
      · exact hn ok.mi.1 ok.mi.2.1 ht
      rcases List.mem_append.1 ht with ht | ht
      · exact hn ok.ma.1 ok.ma.2.1 ht
      rcases List.mem_append.1 ht with ht | ht
      · cases hu : (usesOf (kdOf k)).pat
        · rw [hu] at ht; simp at ht
        · rw [hu] at ht; simp at ht; rw [ht]; exact tokG_w (ok.p.1 hu)
      rcases List.mem_append.1 ht with ht | ht
      · exact m3 true t ht
      · cases hu : (usesOf (kdOf k)).kids
        · rw [hu] at ht; simp at ht
        · rw [hu] at ht; simp at ht; rw [ht]; rfl
    · rw [Cond.norm, Cond.fits, normL_len]
      refine ⟨by have := pv.2.2.2.2.2.1; omega, by have := pv.2.2.2.2.2.2.2.1; omega, fun x hx => ?_⟩
      rw [normL_map] at hx
      obtain ⟨y, hy, rfl⟩ := List.mem_map.1 hx
      exact (hk y hy).2.2.2.2
theorem ok_facts {p : Prog} (h : p.ok) {s : Step} (hs : s ∈ p.steps) : okSt p.lines s ∧ (tkP s.cond).length ≤ 16400 ∧ s.cond.norm.dp ≤ 4 ∧ leaves s.cond < 1000 ∧ (∀ t ∈ tkS s, tokG t = true) := by
  obtain ⟨_, h2, h3, h4, _⟩ := ck_facts h.lines.1 h.lines.2 s.cond 1 (by omega) (h.cond s hs)
  have ht := h.tm s hs
  have hw := h.wi s hs
  have h3 : leaves s.cond ≤ 729 := h3
  have := tkP_len s.cond
  refine ⟨⟨h.cond s hs, ⟨by omega, by omega⟩, hw⟩, by omega, by omega, by omega, fun t htt => ?_⟩
  rw [tkS] at htt
  rcases List.mem_append.1 htt with q | q
  · exact h4 t q
  rcases List.mem_append.1 q with q | q
  · cases hu : s.times != 1
    · rw [hu] at q; simp at q
    · rw [hu, cond_true] at q
      rcases List.mem_cons.1 q with rfl | q
      · rfl
      · rw [List.mem_singleton.1 q]; exact tokG_w (num_rd (by omega) (by omega)).2
  rcases List.mem_append.1 q with q | q
  · cases hu : s.within != 0
    · rw [hu] at q; simp at q
    · rw [hu, cond_true] at q
      rcases List.mem_cons.1 q with rfl | q
      · rfl
      · rw [List.mem_singleton.1 q]; exact tokG_w (num_rd (by omega) (by omega)).2
  · rw [List.mem_singleton.1 q]; rfl
theorem tkSL_G {L : List Step} (h : ∀ s ∈ L, ∀ t ∈ tkS s, tokG t = true) : ∀ t ∈ tkSL L, tokG t = true := by
  induction L with
  | nil => intro t ht; simp [tkSL] at ht
  | cons s L ih =>
    intro t ht
    rw [tkSL] at ht
    rcases List.mem_append.1 ht with q | q
    · exact h s (by simp) t q
    · exact ih (fun x hx => h x (List.mem_cons_of_mem _ hx)) t q
theorem toksP_G {p : Prog} (h : p.ok) : ∀ t ∈ toksP p, tokG t = true := by
  intro t ht
  rw [toksP] at ht
  rcases List.mem_cons.1 ht with rfl | ht
  · rfl
  rcases List.mem_cons.1 ht with rfl | ht
  · exact tokG_w (num_rd (by have := h.lines; omega) (by have := h.lines; omega)).2
  rcases List.mem_cons.1 ht with rfl | ht
  · rfl
  exact tkSL_G (fun s hs => (ok_facts h hs).2.2.2.2) t ht
theorem ok_pv {p : Prog} (h : p.ok) : p.pv := h.pv fun s hs => by have := (ok_facts h hs).2.2.2.1; omega
theorem map_toPS (L : List Step) : (L.map toPS).map PS.st = L.map Step.norm := by rw [List.map_map]; rfl
/-- the tokens of a printed source lead to its program -/
theorem rans_print {p : Prog} (h : p.ok) (hc : cpR p = 0) : rans (textR p).length 16400 8200 ⟨rtoks (textR p), -1⟩ = (p.norm, 0, 0) ∧ (rsteps (textR p).length 16400 8200 (rlines (textR p).length ⟨rtoks (textR p), -1⟩).2).1 = p.steps.map toPS := by
  have hT := jn_prog (ok_pv h)
  have hm : (rtoks (textR p)).map (·.txt) = toksP p := by rw [← hT]; exact rtoks_jn (toksP_G h)
  rw [toksP] at hm
  obtain ⟨t1, A, hA1, ht1, hm⟩ := map_con hm
  obtain ⟨t2, A, rfl, ht2, hm⟩ := map_con hm
  generalize (textR p).length = en
  rw [hA1]
  have e1 : rlines en ⟨t1 :: t2 :: A, -1⟩ = (p.lines, ⟨A, -1⟩) := by
    unfold rlines
    rw [rd_take en (w := sLines) (t := t1) (l := t2 :: A) (bad := -1) (by omega) ht1]
    exact rd_num en (by omega) (by have := h.lines; omega) (by have := h.lines; omega) ht2
  have e2 := fwd_steps en h.lines.1 h.lines.2 (N := 16400) (bad := -1) (by omega) p.steps 8200 A (fun s hs => ⟨(ok_facts h hs).1, (ok_facts h hs).2.1⟩) (by have := h.few; omega) hm
  have e3 : rprog en 16400 8200 ⟨t1 :: t2 :: A, -1⟩ = p.norm := by
    unfold rprog
    rw [e1, e2]
    show Prog.mk p.lines true ((p.steps.map toPS).map PS.st) = _
    rw [map_toPS]; rfl
  refine ⟨?_, by rw [e1, e2]⟩
  unfold rans
  rw [e3, e1, e2, cpR_norm, hc]
  rfl
theorem c9_print {p : Prog} (h : p.ok) (hc : cpR p = 0) (hl : (textR p).length ≤ 4096) : calV U 9 [.str (textR p)] = some (encPA (p.norm, 0, 0)) := by
  obtain ⟨h1, h2⟩ := rans_print h hc
  obtain ⟨a1, a2⟩ := all_rel (N := 16400) (m := 8200) (toks_Rel (textR p))
  rw [c1009w hl fun hb x hx => ?_, ← ans_eq (toks_Rel (textR p)), h1]
  rw [a1] at hb
  rw [← (a2 hb).2, h2] at hx
  obtain ⟨s, hs, rfl⟩ := List.mem_map.1 hx
  have := (ok_facts h hs).2.2.1
  show s.cond.norm.dp ≤ 1990
  omega
theorem jn_semiE : ∀ (ts : List Str) (b : Bool), jn b (ts ++ [sSemi]) = jn b ts ++ [59]
  | [], b => by
    rw [List.nil_append, jn, jn, jn, show cont sSemi = true from rfl, Bool.or_true]; rfl
  | t :: l, b => by rw [List.cons_append, jn, jn, jn_semiE l, List.append_assoc]
theorem tkSL_end : ∀ L : List Step, ∃ X, sSemi :: tkSL L = X ++ [sSemi]
  | [] => ⟨[], rfl⟩
  | s :: L => by
    obtain ⟨X, hX⟩ := tkSL_end L
    refine ⟨sSemi :: (tkP s.cond ++ ((bif s.times != 1 then [[116, 105, 109, 101, 115], dg s.times] else []) ++ ((bif s.within != 0 then [[119, 105, 116, 104, 105, 110], dg s.within] else []) ++ X))), ?_⟩
    rw [tkSL, tkS]
    simp only [List.cons_append, List.append_assoc]
    rw [← hX]
    rfl
theorem c9_cut {p : Prog} (h : p.ok) (hl : (textR p).length ≤ 4096) : 0 < (textR p).length ∧ calV U 9 [.str ((textR p).take ((textR p).length - 1))] = some (encPA (P0, ((textR p).length : Int) - 1, 25)) := by
  obtain ⟨X, hX⟩ := tkSL_end p.steps
  have hT := jn_prog (ok_pv h)
  have hTP : toksP p = (sLines :: dg p.lines :: X) ++ [sSemi] := by
    rw [toksP]
    show sLines :: dg p.lines :: (sSemi :: tkSL p.steps) = _
    rw [hX]; rfl
  rw [hTP, jn_semiE] at hT
  have hG : ∀ t ∈ sLines :: dg p.lines :: X, tokG t = true := fun t ht => toksP_G h t (by rw [hTP]; exact List.mem_append_left _ ht)
  have hm := rtoks_jn hG
  generalize hY : jn true (sLines :: dg p.lines :: X) = Y at *
  have hlen : (textR p).length = Y.length + 1 := by rw [← hT]; simp
  have htk : (textR p).take ((textR p).length - 1) = Y := by
    rw [hlen, ← hT]; simp
  refine ⟨by omega, ?_⟩
  rw [htk]
  obtain ⟨t1, A, hA1, ht1, hm⟩ := map_con hm
  obtain ⟨t2, A, rfl, ht2, hm⟩ := map_con hm
  have e1 : rlines Y.length ⟨t1 :: t2 :: A, -1⟩ = (p.lines, ⟨A, -1⟩) := by
    unfold rlines
    rw [rd_take Y.length (w := sLines) (t := t1) (l := t2 :: A) (bad := -1) (by omega) ht1]
    exact rd_num Y.length (by omega) (by have := h.lines; omega) (by have := h.lines; omega) ht2
  have e2 := cut_steps Y.length h.lines.1 h.lines.2 (N := 16400) (bad := -1) (by omega) p.steps 8200 A (fun s hs => ⟨(ok_facts h hs).1, (ok_facts h hs).2.1⟩) (by have := h.few; omega) (by rw [hm, hX])
  obtain ⟨a1, a2⟩ := all_rel (N := 16400) (m := 8200) (toks_Rel Y)
  rw [hA1] at a1
  rw [e1] at a1
  simp only at a1
  rw [e2] at a1
  rw [c1009w (by omega) fun hb x hx => absurd hb (by rw [a1]; omega)]
  unfold pans
  rw [a1, decide_eq_true (by omega), br_true]
  have : ((textR p).length : Int) - 1 = (Y.length : Int) := by omega
  rw [this]
/-! # What was read is printed with the tokens that were read -/

def mp (l : List Tok) : List Str := l.map (·.txt)
section
variable (en : Nat)
theorem bwd_take {w : Str} {r : Rd} (h : (rtake en w r).bad < 0) : mp r.l = w :: mp (rtake en w r).l ∧ r.bad < 0 ∧ (rtake en w r).bad = r.bad := by
  have h1 := ris_lt h
  have e : rtake en w r = rtail r := by unfold rtake; rw [h1, Bool.not_true, br_false]
  rw [e]
  unfold ris at h1
  rw [Bool.and_eq_true, decide_eq_true_eq] at h1
  obtain ⟨hb, h2⟩ := h1
  obtain ⟨rl, rb⟩ := r
  cases rl with
  | nil => cases h2
  | cons t l =>
    have h2 : t.txt = w := eq_of_beq h2
    exact ⟨by show t.txt :: mp l = _; rw [h2]; rfl, hb, rfl⟩
def Tn (l : List Tok) : Prop := ∀ t ∈ l, t.txt ≠ []
theorem Tn.sf {l m : List Tok} (h : Tn l) (k : m <:+ l) : Tn m := fun t ht => h t (k.subset ht)
theorem num_dg {w : Str} {n : Int} (hw : w ≠ []) (h : rnumOf w = some n) (h0 : 0 ≤ n) (h1 : n ≤ 255) : w = dg n := by
  rw [num_eq w hw] at h
  unfold pnumOf at h
  rw [dg_ito h0 h1]
  split at h
  · rename_i k hk
    cases c1 : decide (w.length > 9)
    · cases c2 : itoE k != w
      · cases c3 : decide (k < 0)
        · rw [c1, c2, c3] at h
          simp only [br_false, Option.some.injEq] at h
          subst h
          exact (by simpa using c2 : itoE k = w).symm
        · rw [c1, c2, c3] at h; cases h
      · rw [c1, c2] at h; cases h
    · rw [c1] at h; cases h
  · cases h
theorem rnum_eq {rl : List Tok} {rb : Int} (hb : rb < 0) : rnum en ⟨rl, rb⟩ = match rl with
      | [] => (0, rfail en ⟨rl, rb⟩)
      | t :: _ => match rnumOf t.txt with
        | some n => (n, rtail ⟨rl, rb⟩)
        | none => (0, rfail en ⟨rl, rb⟩) := by
  unfold rnum
  have : decide ((Rd.mk rl rb).bad ≥ 0) = false := decide_eq_false (by show ¬ rb ≥ 0; omega)
  rw [this, br_false]
  rfl
theorem bwd_num {r : Rd} (tn : Tn r.l) (h : (rnum en r).2.bad < 0) (h0 : 0 ≤ (rnum en r).1) (h1 : (rnum en r).1 ≤ 255) : mp r.l = dg (rnum en r).1 :: mp (rnum en r).2.l := by
  obtain ⟨rl, rb⟩ := r
  by_cases hb : rb < 0
  · have e := rnum_eq en (rl := rl) hb
    rw [e] at h h0 h1 ⊢
    cases rl with
    | nil => have := rfail_nn en ⟨[], rb⟩; simp only at h; omega
    | cons t l =>
      simp only at h h0 h1 ⊢
      cases hn : rnumOf t.txt with
      | none => rw [hn] at h; have := rfail_nn en ⟨t :: l, rb⟩; simp only at h; omega
      | some n =>
        rw [hn] at h0 h1
        simp only at h0 h1 ⊢
        show t.txt :: mp l = _
        rw [num_dg (tn t (by simp)) hn h0 h1]; rfl
  · rw [rnum_bad (by show 0 ≤ rb; omega)] at h
    exact absurd h (by show ¬ rb < 0; exact hb)
theorem rword_eq {rl : List Tok} {rb : Int} (hb : rb < 0) : rword en ⟨rl, rb⟩ = match rl with
      | [] => ([], rfail en ⟨rl, rb⟩)
      | t :: _ => match t.txt with
        | [] => ([], rfail en ⟨rl, rb⟩)
        | c :: _ => br (!letter c) ([], rfail en ⟨rl, rb⟩) (t.txt, rtail ⟨rl, rb⟩) := by
  unfold rword
  have : decide ((Rd.mk rl rb).bad ≥ 0) = false := decide_eq_false (by show ¬ rb ≥ 0; omega)
  rw [this, br_false]
  rfl
theorem bwd_word {r : Rd} (h : (rword en r).2.bad < 0) : mp r.l = (rword en r).1 :: mp (rword en r).2.l := by
  obtain ⟨rl, rb⟩ := r
  by_cases hb : rb < 0
  · have e := rword_eq en (rl := rl) hb
    rw [e] at h ⊢
    cases rl with
    | nil => have := rfail_nn en ⟨[], rb⟩; simp only at h; omega
    | cons t l =>
      have := rfail_nn en ⟨t :: l, rb⟩
      simp only at h ⊢
      cases ht : t.txt with
      | nil => rw [ht] at h; simp only at h; omega
      | cons c w =>
        rw [ht] at h
        simp only at h ⊢
        cases hl : letter c with
        | false => rw [hl, Bool.not_false, br_true] at h; simp only at h; omega
        | true =>
          show t.txt :: mp l = _
          rw [ht]; rfl
  · rw [rword_bad (by show 0 ≤ rb; omega)] at h
    exact absurd h (by show ¬ rb < 0; exact hb)
theorem bwd_numIf {u : Bool} {r : Rd} (tn : Tn r.l) (h : (rnumIf en u r).2.bad < 0) (h0 : 0 ≤ (rnumIf en u r).1) (h1 : (rnumIf en u r).1 ≤ 255) : mp r.l = (bif u then [dg (rnumIf en u r).1] else []) ++ mp (rnumIf en u r).2.l := by
  cases u with
  | false => rfl
  | true => exact bwd_num en tn h h0 h1
theorem bwd_wordIf {u : Bool} {r : Rd} (h : (rwordIf en u r).2.bad < 0) : mp r.l = (bif u then [(rwordIf en u r).1] else []) ++ mp (rwordIf en u r).2.l := by
  cases u with
  | false => rfl
  | true => exact bwd_word en h
theorem mp_len (l : List Tok) : (mp l).length = l.length := by unfold mp; simp
def bwdC (lines : Int) (n : Nat) : Prop := ∀ (r : Rd) (d : Int), Tn r.l → r.l.length ≤ n → (rcond en n r).2.bad < 0 → ckR lines (rcond en n r).1 d = 0 → mp r.l = tkP (rcond en n r).1 ++ mp (rcond en n r).2.l
def bwdK (lines : Int) (n : Nat) : Prop := ∀ (nt : Bool) (r : Rd) (d : Int), Tn r.l → r.l.length + 1 ≤ n → (rkids en n nt r).2.bad < 0 → (∀ x ∈ (rkids en n nt r).1, ckR lines x d = 0) → (rkids en n nt r).1 ≠ [] ∧ [40] :: mp r.l = tkPL true (rkids en n nt r).1 ++ mp (rkids en n nt r).2.l
theorem tkP_pos (c : Cond) : 1 ≤ (tkP c).length := by cases c; rw [tkP]; simp
theorem bwd_kids {lines : Int} {n : Nat} (ihC : bwdC en lines n) (ihK : bwdK en lines n) : bwdK en lines (n + 1) := by
  intro nt r d tn hn hb hk
  rw [rkids] at hb hk ⊢
  simp only at hb hk ⊢
  cases hc : (!nt && ris [44] (rcond en n r).2) with
  | false =>
    simp only [hc, br_false] at hb hk ⊢
    refine ⟨by simp, ?_⟩
    rw [ihC r d tn (by omega) hb (hk _ (by simp)), tkPL, tkPL]
    simp
  | true =>
    simp only [hc, br_true] at hb hk ⊢
    rw [Bool.and_eq_true] at hc
    have hbt : (rtake en [44] (rcond en n r).2).bad < 0 := by
      rcases Int.lt_or_le (rtake en [44] (rcond en n r).2).bad 0 with g | g
      · exact g
      · rw [rkids_bad n g] at hb; exact hb
    obtain ⟨t1, t2, _⟩ := bwd_take en hbt
    have e1 := ihC r d tn (by omega) t2 (hk _ (by simp))
    have l1 := congrArg List.length e1
    have l2 := congrArg List.length t1
    have l3 := tkP_pos (rcond en n r).1
    simp only [List.length_append, List.length_cons, mp_len] at l1 l2
    obtain ⟨k1, k2⟩ := ihK nt (rtake en [44] (rcond en n r).2) d ((tn.sf ((sr_cond en n).1 r)).sf (sr_take en _ _)) (by omega) hb (fun x hx => hk x (List.mem_cons_of_mem _ hx))
    refine ⟨by simp, ?_⟩
    generalize rkids en n nt (rtake en [44] (rcond en n r).2) = y at *
    obtain ⟨y1, y2⟩ := y
    simp only at k1 k2 ⊢
    obtain ⟨c2, m, rfl⟩ := List.exists_cons_of_ne_nil k1
    rw [tkPL] at k2
    simp only [cond_true, List.cons_append, List.cons.injEq, true_and] at k2
    rw [e1, t1, k2, tkPL, tkPL]
    simp
end
end Go.Am
set_option linter.all false
namespace Go.Am
open Go
variable [MaxLen]
set_option maxRecDepth 100000
set_option maxHeartbeats 8000000
section
variable (en : Nat)
theorem ck_C0 {lines d : Int} : ckR lines C0 d ≠ 0 := by
  rw [C0, ckR]
  have hk : (kdOf []).known = false := rfl
  rw [hk]
  cases decide (d > 4)
  · simp [br]
  · simp [br]
theorem rkind_known {r : Rd} (h : (kdOf (rkind r)).known = true) : ∃ t l, r = ⟨t :: l, r.bad⟩ ∧ r.bad < 0 ∧ t.txt = rkind r := by
  have hne := (known_ne h).1
  obtain ⟨rl, rb⟩ := r
  unfold rkind at *
  cases hb : decide (rb < 0) with
  | false => rw [show decide ((Rd.mk rl rb).bad < 0) = false from hb, br_false] at hne; exact absurd rfl hne
  | true =>
    rw [show decide ((Rd.mk rl rb).bad < 0) = true from hb, br_true] at hne
    cases rl with
    | nil => exact absurd rfl hne
    | cons t l => exact ⟨t, l, rfl, by simpa using hb, rfl⟩
theorem bwd_cond {lines : Int} (hl : 1 ≤ lines) (hl' : lines ≤ 16) {n : Nat} (ihK : bwdK en lines n) : bwdC en lines (n + 1) := by
  intro r d tn hn hb hk
  rw [rcond] at hb hk ⊢
  cases hkn : (kdOf (rkind r)).known with
  | false =>
    simp only [hkn, Bool.not_false, br_true] at hk
    exact absurd hk ck_C0
  | true =>
    simp only [hkn, Bool.not_true, br_false] at hb hk ⊢
    obtain ⟨t, l, hr, hrb, ht⟩ := rkind_known hkn
    generalize rkind r = k at *
    have e0 : rtake en k r = ⟨l, r.bad⟩ := by rw [hr]; exact rd_take en hrb ht
    rw [e0] at hb hk ⊢
    have tl : Tn l := fun x hx => tn x (by rw [hr]; exact List.mem_cons_of_mem _ hx)
    have hmp : mp r.l = k :: mp l := by rw [hr, ← ht]; rfl
    have hln : l.length + 1 = r.l.length := by rw [hr]; rfl
    have sfl : ∀ r0 : Rd, (rflds en k (usesOf (kdOf k)) r0).2.l <:+ r0.l := fun r0 => (sr_wordIf en _ _).trans ((sr_numIf en _ _).trans ((sr_numIf en _ _).trans ((sr_numIf en _ _).trans (sr_numIf en _ _))))
    -- the fields
    have fld : ∀ (r0 : Rd) (a b mi ma : Int) (p : Str) (kids : List Cond) (r1 : Rd), Tn r0.l → rflds en k (usesOf (kdOf k)) r0 = (.mk k a b mi ma p true [], r1) → r1.bad < 0 → CkOk lines k a b mi ma p kids d →
        mp r0.l = numsT [((usesOf (kdOf k)).a, a), ((usesOf (kdOf k)).b, b), ((usesOf (kdOf k)).mi, mi), ((usesOf (kdOf k)).ma, ma)] ++ ((bif (usesOf (kdOf k)).pat then [p] else []) ++ mp r1.l) := by
      intro r0 a b mi ma p kids r1 tn0 hf hb1 ok
      unfold rflds at hf
      simp only [Prod.mk.injEq, Cond.mk.injEq, true_and, and_true] at hf
      obtain ⟨⟨ha, hb', hmi, hma, hp⟩, h5⟩ := hf
      rw [← h5] at hb1
      have b4 := wordIf_lt hb1
      have b3 := numIf_lt b4
      have b2 := numIf_lt b3
      have b1 := numIf_lt b2
      have t1 := tn0.sf (sr_numIf en (usesOf (kdOf k)).a r0)
      have t2 := t1.sf (sr_numIf en (usesOf (kdOf k)).b _)
      have t3 := t2.sf (sr_numIf en (usesOf (kdOf k)).mi _)
      have q1 := bwd_numIf en tn0 b1 (by rw [ha]; exact ok.a.1) (by rw [ha]; exact ok.a.2.1)
      have q2 := bwd_numIf en t1 b2 (by rw [hb']; exact ok.b.1) (by rw [hb']; exact ok.b.2.1)
      have q3 := bwd_numIf en t2 b3 (by rw [hmi]; exact ok.mi.1) (by rw [hmi]; exact ok.mi.2.1)
      have q4 := bwd_numIf en t3 b4 (by rw [hma]; exact ok.ma.1) (by rw [hma]; exact ok.ma.2.1)
      have q5 := bwd_wordIf en hb1
      rw [ha] at q1
      rw [hb'] at q2
      rw [hmi] at q3
      rw [hma] at q4
      rw [hp, h5] at q5
      rw [q1, q2, q3, q4, q5]
      simp only [numsT, List.append_assoc, List.append_nil]
    obtain ⟨x, hx⟩ : ∃ x, x = rflds en k (usesOf (kdOf k)) ⟨l, r.bad⟩ := ⟨_, rfl⟩
    rw [← hx] at hb hk ⊢
    obtain ⟨a, b, mi, ma, p, hc⟩ : ∃ a b mi ma p, x = (Cond.mk k a b mi ma p true [], x.2) := ⟨_, _, _, _, _, by rw [hx]; rfl⟩
    have hxl : x.2.l.length ≤ l.length := by rw [hx]; exact (sfl ⟨l, r.bad⟩).length_le
    have hxt : Tn x.2.l := by rw [hx]; exact tl.sf (sfl ⟨l, r.bad⟩)
    cases hu : (usesOf (kdOf k)).kids with
    | false =>
      simp only [hu, Bool.not_false, br_true] at hb hk ⊢
      rw [hc] at hk
      have ok := ckOk hl hl' hk
      have f := fld ⟨l, r.bad⟩ a b mi ma p [] x.2 tl (by rw [← hx]; exact hc) hb ok
      rw [hmp, f, hc, tkP, hu, tkPL]
      simp
    | true =>
      simp only [hu, Bool.not_true, br_false] at hb hk ⊢
      obtain ⟨c1, c2, _⟩ := bwd_take en hb
      have hbt : (rtake en [40] x.2).bad < 0 := by
        rcases Int.lt_or_le (rtake en [40] x.2).bad 0 with g | g
        · exact g
        · rw [rkids_bad n g] at c2; exact c2
      obtain ⟨o1, o2, _⟩ := bwd_take en hbt
      have ho := congrArg List.length o1
      simp only [List.length_cons, mp_len] at ho
      rw [hc] at hk
      have hk' : ckR lines (.mk k a b mi ma p true (rkids en n (k == sNot) (rtake en [40] x.2)).1) d = 0 := hk
      have ok := ckOk hl hl' hk'
      obtain ⟨k1, k2⟩ := ihK (k == sNot) (rtake en [40] x.2) _ (hxt.sf (sr_take en _ _)) (by omega) c2 ok.kids
      have f := fld ⟨l, r.bad⟩ a b mi ma p _ x.2 tl (by rw [← hx]; exact hc) o2 ok
      have e2 : withK x.1 (rkids en n (k == sNot) (rtake en [40] x.2)).1 = .mk k a b mi ma p true (rkids en n (k == sNot) (rtake en [40] x.2)).1 := by rw [hc]; rfl
      rw [hmp, f, e2, tkP, hu, o1, k2, c1]
      simp
theorem bwd_all {lines : Int} (hl : 1 ≤ lines) (hl' : lines ≤ 16) : ∀ n, bwdC en lines n ∧ bwdK en lines n
  | 0 => ⟨fun r d _ _ _ hk => by rw [rcond] at hk; exact absurd hk ck_C0, fun nt r d _ hn _ _ => by omega⟩
  | n + 1 => by
    obtain ⟨h1, h2⟩ := bwd_all hl hl' n
    exact ⟨bwd_cond en hl hl' h2, bwd_kids en h1 h2⟩
end
end Go.Am
set_option linter.all false
namespace Go.Am
open Go
variable [MaxLen]
set_option maxRecDepth 100000
set_option maxHeartbeats 8000000
/-! # What is read from a short string is printed short -/

def wt : List Str → Nat
  | [] => 0
  | t :: l => t.length + 1 + wt l
theorem wt_app (a b : List Str) : wt (a ++ b) = wt a + wt b := by
  induction a with
  | nil => simp [wt]
  | cons t l ih => rw [List.cons_append, wt, wt, ih]; omega
theorem jn_wt : ∀ (ts : List Str) (b : Bool), (jn b ts).length ≤ wt ts
  | [], _ => by simp [jn, wt]
  | t :: l, b => by
    have := jn_wt l (t == [40])
    rw [jn, wt, List.length_append]
    cases b || cont t
    · simp only [cond_false, List.length_cons]; omega
    · simp only [cond_true]; omega
theorem rtk_wt (S : Str) : ∀ f i, i ≤ S.length → wt (mp (rtk S f i)) ≤ 2 * (S.length - i)
  | 0, i, h => by simp [rtk, mp, wt]
  | f + 1, i, h => by
    rw [rtk]
    cases hd : S.drop i with
    | nil => simp [mp, wt]
    | cons c l =>
      have hi : i < S.length := by
        rcases Nat.lt_or_ge i S.length with h1 | h1
        · exact h1
        · rw [List.drop_eq_nil_of_le h1] at hd; cases hd
      have hd2 := List.drop_eq_getElem_cons hi
      rw [hd] at hd2
      cases hd2
      simp only
      cases S[i] == 32 || S[i] == 10 with
      | true =>
        rw [br_true]
        have := rtk_wt S f (i + 1) (by omega)
        omega
      | false =>
        rw [br_false]
        obtain ⟨t1, t2⟩ := tlen_le hi
        have := rtk_wt S f (i + tlen S[i] (S.drop (i + 1))) t2
        have hs : (slc S i (i + tlen S[i] (S.drop (i + 1)))).length = tlen S[i] (S.drop (i + 1)) := by
          unfold slc
          rw [List.length_drop, List.length_take]; omega
        show (slc S i (i + tlen S[i] (S.drop (i + 1)))).length + 1 + wt (mp _) ≤ _
        rw [hs]; omega
section
variable (en : Nat)
theorem bwd_opt {w : Str} {o : Int} {r : Rd} (tn : Tn r.l) (h : (ropt en w o r).2.bad < 0) (h0 : 0 ≤ (ropt en w o r).1) (h1 : (ropt en w o r).1 ≤ 255) : wt (bif (ropt en w o r).1 != o then [w, dg (ropt en w o r).1] else []) + wt (mp (ropt en w o r).2.l) ≤ wt (mp r.l) := by
  unfold ropt at *
  cases hr : ris w r with
  | false =>
    simp only [hr, br_false] at h h0 h1 ⊢
    have : (o != o) = false := by simp
    rw [this, cond_false]
    simp [wt]
  | true =>
    simp only [hr, br_true] at h h0 h1 ⊢
    have hb : (rtake en w r).bad < 0 := by
      rcases Int.lt_or_le (rtake en w r).bad 0 with g | g
      · exact g
      · rw [rnum_bad g] at h; exact h
    obtain ⟨q1, _, _⟩ := bwd_take en hb
    have q2 := bwd_num en (tn.sf (sr_take en w r)) h h0 h1
    rw [q1, q2]
    cases (rnum en (rtake en w r)).1 != o
    · simp only [cond_false, wt]; omega
    · simp only [cond_true, wt]; omega
theorem bwd_steps {lines : Int} (hl : 1 ≤ lines) (hl' : lines ≤ 16) {N : Nat} : ∀ (m : Nat) (r : Rd), Tn r.l → r.l.length < m → r.l.length ≤ N → (rsteps en N m r).2.bad < 0 → (∀ p ∈ (rsteps en N m r).1, okSt lines p.st) → wt (sSemi :: tkSL ((rsteps en N m r).1.map PS.st)) ≤ wt (mp r.l)
  | 0, r, _, h, _, _, _ => by omega
  | m + 1, r, tn, hm, hN, hb, hk => by
    rw [rsteps] at hb hk ⊢
    simp only at hb hk ⊢
    cases hc : decide ((rtake en [59] r).bad < 0) && !(rtake en [59] r).l.isEmpty with
    | false =>
      simp only [hc, br_false] at hb hk ⊢
      obtain ⟨q1, _, _⟩ := bwd_take en hb
      rw [q1]
      simp only [List.map_nil, tkSL, wt, sSemi]
      omega
    | true =>
      simp only [hc, br_true] at hb hk ⊢
      rw [Bool.and_eq_true, decide_eq_true_eq] at hc
      obtain ⟨q1, _, _⟩ := bwd_take en hc.1
      have l1 := congrArg List.length q1
      simp only [List.length_cons, mp_len] at l1
      have b3 : (ropt en sWithin 0 (ropt en sTimes 1 (rcond en N (rtake en [59] r)).2).2).2.bad < 0 := by
        rcases Int.lt_or_le (ropt en sWithin 0 (ropt en sTimes 1 (rcond en N (rtake en [59] r)).2).2).2.bad 0 with g | g
        · exact g
        · rw [rsteps_bad m g] at hb; exact hb
      have b2 := opt_lt b3
      have b1 := opt_lt b2
      have t0 := tn.sf (sr_take en [59] r)
      have t1 := t0.sf ((sr_cond en N).1 (rtake en [59] r))
      have t2 := t1.sf (sr_opt en sTimes 1 _)
      have t3 := t2.sf (sr_opt en sWithin 0 _)
      have s1 := ((sr_cond en N).1 (rtake en [59] r)).length_le
      have s2 := (sr_opt en sTimes 1 (rcond en N (rtake en [59] r)).2).length_le
      have s3 := (sr_opt en sWithin 0 (ropt en sTimes 1 (rcond en N (rtake en [59] r)).2).2).length_le
      obtain ⟨k1, k2, k3⟩ := hk _ (List.mem_cons_self ..)
      have e1 := (bwd_all en hl hl' N).1 (rtake en [59] r) 1 t0 (by omega) b1 k1
      have e2 := bwd_opt en t1 b2 k2.1 k2.2
      have e3 := bwd_opt en t2 b3 k3.1 k3.2
      have ih := bwd_steps hl hl' m _ t3 (by omega) (by omega) hb fun p hp => hk p (List.mem_cons_of_mem _ hp)
      have w1 := congrArg wt q1
      have w2 := congrArg wt e1
      rw [wt_app] at w2
      rw [wt] at w1 ih ⊢
      rw [List.map_cons, tkSL, tkS]
      simp only [wt_app]
      simp only [PS.st]
      simp only [wt] at w1 ⊢
      simp only [sSemi, sTimes, sWithin] at *
      omega
end
end Go.Am
set_option linter.all false
namespace Go.Am
open Go
variable [MaxLen]
set_option maxRecDepth 100000
set_option maxHeartbeats 8000000
/-! # A program is like its normal form -/

theorem c1053n : ∀ c : Cond, c.fits → calV U 53 [encC c.norm, encC c] = some (.bool true) := by
  intro c
  induction c using Cond.ind with
  | h kind a b mi ma pat nl kids ih =>
  intro hf
  rw [Cond.fits] at hf
  obtain ⟨f1, f2, f3⟩ := hf
  refine pure_go k1053 (by kernel_rfl) (by simp [stills, still_encC]) ?_
  rw [Cond.norm, encC, encC]
  simp (config := { maxSteps := 2000000 }) +contextual only [go_sem, ↓reduceIte, r1053, lenL_encS, encL_len, normL_len, cells_encS, noAgg_encS, int_nn, str_nn, beq_self_eq_true, Bool.not_true, gateV_true, gateR_true, gateC_true, gateV_false, gateR_false, gateC_false]
  refine loop_to (σ := Nat) (fun i => kids.length - i) (fun i => some (AV.bool true)) (fun i e s => i ≤ kids.length ∧ Env.get e 2 = .ptr 8 0 ∧ Env.get e 3 = .ptr 9 0 ∧ Env.get e 5 = .int .i64 i ∧ Fr s ∧ 9 < s.next ∧
    s.get 8 = some (.cells [.str kind, .int .i64 a, .int .i64 b, .int .i64 mi, .int .i64 ma, .str pat, encS true (encL (normL kids))] 106 false 0 0) ∧ s.get 9 = some (.cells [.str kind, .int .i64 a, .int .i64 b, .int .i64 mi, .int .i64 ma, .str pat, encS nl (encL kids)] 106 false 0 0)) 0 ?_ rfl ?_
  · rintro L i e s ⟨hi, h2, h3, h5, hfr, hn, hs8, hs9⟩ IH
    have hfk := hfr.at
    by_cases hd : i < kids.length
    · have hx : (encL kids)[i]? = some (encC kids[i]) := by rw [encL_get, List.getElem?_eq_getElem hd]; rfl
      have hxn : (encL (normL kids))[i]? = some (encC kids[i].norm) := by rw [encL_get, normL_map, List.getElem?_map, List.getElem?_eq_getElem hd]; rfl
      have hdn : i < (normL kids).length := by rw [normL_len]; exact hd
      have hw := wrap_succ hd (by omega)
      have hc := ih kids[i] (List.getElem_mem hd) (f3 _ (List.getElem_mem hd))
      rw [encC_cells, encC_cells] at hc
      rw [encC_cells] at hx hxn
      simp only [Cond.cells] at hx hxn hc
      rw [encS_ne (encL_ne hdn)] at hs8
      rw [encS_ne (encL_ne hd)] at hs9
      simp (config := { maxSteps := 2000000 }) +contextual only [go_sem, ↓reduceIte, r1053_l0, h2, h3, h5, hs8, hs9, nat_lt_dec, hd, encL_len, normL_len, hx, hxn, hc, noAgg_encS, hfk]
      refine IH (i + 1) _ _ (by omega) ⟨by omega, ?_, ?_, ?_, ?_, ?_, ?_, ?_⟩
      case refine_4 =>
        repeat first | exact hfr | apply Fr.new | apply Fr.put | apply Fr.upto
        all_goals omega
      all_goals simp +contextual only [go_sem, ↓reduceIte, h2, h3, h5, hs8, hs9, hw, encS_ne (encL_ne hd), encS_ne (encL_ne hdn)]
      all_goals omega
    · have : i = kids.length := by omega
      subst this
      simp +contextual only [go_sem, ↓reduceIte, r1053_l0, h2, h3, h5, hs8, hs9, nat_lt_dec, Nat.lt_irrefl, lenL_encS, encL_len, normL_len]
  · refine ⟨Nat.zero_le _, ?_, ?_, ?_, ?_, ?_, ?_, ?_⟩
    case refine_4 =>
      repeat first | exact Fr.own | apply Fr.new | apply Fr.put | apply Fr.upto
    all_goals simp +contextual only [go_sem, ↓reduceIte]
    all_goals rfl
theorem c1011n (p : Prog) (hf : p.fits) : calV U 11 [encP p.norm, encP p] = some (.bool true) := by
  obtain ⟨lines, nl, steps⟩ := p
  obtain ⟨f1, f2⟩ := hf
  simp only at f1 f2
  refine pure_go k1011 (by kernel_rfl) (by simp [stills, still_encP]) ?_
  rw [Prog.norm, encP_eq, encP_eq]
  simp (config := { maxSteps := 2000000 }) +contextual only [go_sem, ↓reduceIte, r1011, lenL_encS, encSteps_len, List.length_map, cells_encS, noAgg_encS, int_nn, str_nn, beq_self_eq_true, Bool.not_true, gateV_true, gateR_true, gateC_true, gateV_false, gateR_false, gateC_false]
  refine loop_to (σ := Nat) (fun i => steps.length - i) (fun i => some (AV.bool true)) (fun i e s => i ≤ steps.length ∧ Env.get e 2 = .ptr 8 0 ∧ Env.get e 3 = .ptr 9 0 ∧ Env.get e 5 = .int .i64 i ∧ Fr s ∧ 9 < s.next ∧
    s.get 8 = some (.cells [.int .i64 lines, encS true (encSteps (steps.map Step.norm))] 31 false 0 0) ∧ s.get 9 = some (.cells [.int .i64 lines, encS nl (encSteps steps)] 31 false 0 0)) 0 ?_ rfl ?_
  · rintro L i e s ⟨hi, h2, h3, h5, hfr, hn, hs8, hs9⟩ IH
    have hfk := hfr.at
    by_cases hd : i < steps.length
    · have hx : (encSteps steps)[i]? = some (encStep steps[i]) := by rw [encSteps_get, List.getElem?_eq_getElem hd]; rfl
      have hxn : (encSteps (steps.map Step.norm))[i]? = some (encStep steps[i].norm) := by rw [encSteps_get, List.getElem?_map, List.getElem?_eq_getElem hd]; rfl
      have hdn : i < (steps.map Step.norm).length := by rw [List.length_map]; exact hd
      have hw := wrap_succ hd (by omega)
      have hc := c1053n steps[i].cond (f2 _ (List.getElem_mem hd))
      rw [encC_cells, encC_cells] at hc
      simp only [Cond.cells, encStep, Step.norm] at hx hxn hc
      rw [encS_ne (encSteps_ne hdn)] at hs8
      rw [encS_ne (encSteps_ne hd)] at hs9
      simp (config := { maxSteps := 2000000 }) +contextual only [go_sem, ↓reduceIte, r1011_l0, h2, h3, h5, hs8, hs9, nat_lt_dec, hd, encSteps_len, List.length_map, hx, hxn, hc, noAgg_encS, hfk, int_nn, str_nn, beq_self_eq_true, Bool.not_true, gateV_true, gateR_true, gateC_true, gateV_false, gateR_false, gateC_false]
      refine IH (i + 1) _ _ (by omega) ⟨by omega, ?_, ?_, ?_, ?_, ?_, ?_, ?_⟩
      case refine_4 =>
        repeat first | exact hfr | apply Fr.new | apply Fr.put | apply Fr.upto
        all_goals omega
      all_goals simp +contextual only [go_sem, ↓reduceIte, h2, h3, h5, hs8, hs9, hw, encS_ne (encSteps_ne hd), encS_ne (encSteps_ne hdn)]
      all_goals omega
    · have : i = steps.length := by omega
      subst this
      simp +contextual only [go_sem, ↓reduceIte, r1011_l0, h2, h3, h5, hs8, hs9, nat_lt_dec, Nat.lt_irrefl, lenL_encS, encSteps_len, List.length_map]
  · refine ⟨Nat.zero_le _, ?_, ?_, ?_, ?_, ?_, ?_, ?_⟩
    case refine_4 =>
      repeat first | exact Fr.own | apply Fr.new | apply Fr.put | apply Fr.upto
    all_goals simp +contextual only [go_sem, ↓reduceIte]
    all_goals rfl
/-! # The law of TriggerSources -/

theorem nm_norm : ∀ c : Cond, c.nm = true → c.norm = c := by
  intro c
  induction c using Cond.ind with
  | h kind a b mi ma pat nl kids ih =>
    intro h
    simp only [Cond.nm, Bool.and_eq_true] at h
    obtain ⟨h1, h2⟩ := h
    have hk : ∀ l : List Cond, (∀ c ∈ l, c.nm = true → c.norm = c) → nmL l = true → normL l = l := by
      intro l
      induction l with
      | nil => intro _ _; simp [normL]
      | cons c l ihl =>
        intro h3 h4
        simp only [nmL, Bool.and_eq_true] at h4
        rw [normL, h3 c (by simp) h4.1, ihl (fun x hx => h3 x (List.mem_cons_of_mem _ hx)) h4.2]
    rw [Cond.norm, hk kids ih h2, h1]
theorem ps_norm {D : Nat} {lines : Int} {L : List PS} (h : ∀ p ∈ L, okPS D p) : (Prog.mk lines true (L.map PS.st)).norm = Prog.mk lines true (L.map PS.st) := by
  have : (L.map PS.st).map Step.norm = L.map PS.st := by
    rw [List.map_map]
    refine List.map_congr_left fun p hp => ?_
    show Step.norm p.st = p.st
    unfold Step.norm PS.st
    simp only [nm_norm _ (h p hp).1]
  unfold Prog.norm
  simp only [this]
theorem pans_fn {S : Str} (hS : S.length ≤ 300) : (pans 1300 700 ⟨ptoks S, -1⟩).1.fits ∧ (pans 1300 700 ⟨ptoks S, -1⟩).1.norm = (pans 1300 700 ⟨ptoks S, -1⟩).1 := by
  have h0 : P0.fits ∧ P0.norm = P0 := ⟨⟨by simp [P0], fun s h => by simp [P0] at h⟩, rfl⟩
  have gd := ptoks_gd S (by omega) (-1)
  have ok := psteps_ok 1300 700 (plines ⟨ptoks S, -1⟩).2
  unfold pans
  cases decide ((psteps 1300 700 (plines ⟨ptoks S, -1⟩).2).2.bad ≥ 0)
  · rw [br_false]
    cases cpP (pprog 1300 700 ⟨ptoks S, -1⟩) != 0
    · rw [br_false]
      refine ⟨?_, ps_norm ok⟩
      have := psteps_fits (N := 1300) (by omega) 700 (plines ⟨ptoks S, -1⟩).2 (gd.sf (sf_plines _))
      refine ⟨by show (List.map PS.st _).length < 2 ^ 30; rw [List.length_map]; omega, fun x hx => ?_⟩
      obtain ⟨p, h1, rfl⟩ := List.mem_map.1 hx
      exact this.2 p h1
    · exact h0
  · exact h0
/-! # What Parse gives for a short string -/

theorem parse_facts {S : Str} (hS : S.length ≤ 300) : ((pans 1300 700 ⟨ptoks S, -1⟩).1 = P0 ∧ (pans 1300 700 ⟨ptoks S, -1⟩).2.2 ≠ 0) ∨
    (∃ q, pans 1300 700 ⟨ptoks S, -1⟩ = (q, 0, 0) ∧ cpR q = 0 ∧ q.norm = q ∧ q.fits ∧ (textR q).length ≤ 4096) := by
  obtain ⟨hf, hn⟩ := pans_fn hS
  have hr := ans_eq (N := 1300) (m := 700) (toks_Rel S)
  cases h1 : decide ((psteps 1300 700 (plines ⟨ptoks S, -1⟩).2).2.bad ≥ 0) with
  | true =>
    left
    have : pans 1300 700 ⟨ptoks S, -1⟩ = (P0, (psteps 1300 700 (plines ⟨ptoks S, -1⟩).2).2.bad, 25) := by rw [pans, h1, br_true]
    rw [this]
    exact ⟨rfl, fun h => by cases h⟩
  | false =>
    cases h2 : cpP (pprog 1300 700 ⟨ptoks S, -1⟩) != 0 with
    | true =>
      left
      have : pans 1300 700 ⟨ptoks S, -1⟩ = (P0, 0, cpP (pprog 1300 700 ⟨ptoks S, -1⟩)) := by rw [pans, h1, br_false, h2, br_true]
      rw [this]
      exact ⟨rfl, by simpa using h2⟩
    | false =>
      right
      have e : pans 1300 700 ⟨ptoks S, -1⟩ = (pprog 1300 700 ⟨ptoks S, -1⟩, 0, 0) := by rw [pans, h1, br_false, h2, br_false]
      rw [e] at hf hn
      have hc : cpR (pprog 1300 700 ⟨ptoks S, -1⟩) = 0 := by rw [← cp_eq]; simpa using h2
      refine ⟨_, e, hc, hn, hf, ?_⟩
      -- what was read, by the reference
      obtain ⟨a1, a2⟩ := all_rel (N := 1300) (m := 700) (toks_Rel S)
      rw [decide_eq_false_iff_not] at h1
      have hb : (rsteps S.length 1300 700 (rlines S.length ⟨rtoks S, -1⟩).2).2.bad < 0 := by rw [← a1]; omega
      obtain ⟨a3, a4⟩ := a2 hb
      have ok := ok_of hc
      rw [← a3] at ok hc ⊢
      have tn : Tn (rtoks S) := fun t ht => (rtk_txt S _ _ t ht).1
      have hb1 : (rlines S.length ⟨rtoks S, -1⟩).2.bad < 0 := by
        rcases Int.lt_or_le (rlines S.length ⟨rtoks S, -1⟩).2.bad 0 with g | g
        · exact g
        · rw [rsteps_bad 700 g] at hb; exact hb
      have hb0 : (rtake S.length sLines ⟨rtoks S, -1⟩).bad < 0 := by
        rcases Int.lt_or_le (rtake S.length sLines ⟨rtoks S, -1⟩).bad 0 with g | g
        · exact g
        · have : (rlines S.length ⟨rtoks S, -1⟩) = (0, rtake S.length sLines ⟨rtoks S, -1⟩) := rnum_bad g
          rw [this] at hb1; exact hb1
      obtain ⟨q1, _, _⟩ := bwd_take S.length hb0
      have hli : (rlines S.length ⟨rtoks S, -1⟩).1 = (rprog S.length 1300 700 ⟨rtoks S, -1⟩).lines := rfl
      have q2 : mp (rtake S.length sLines ⟨rtoks S, -1⟩).l = dg (rlines S.length ⟨rtoks S, -1⟩).1 :: mp (rlines S.length ⟨rtoks S, -1⟩).2.l := bwd_num S.length (tn.sf (sr_take S.length sLines ⟨rtoks S, -1⟩)) hb1 (by show 0 ≤ (rlines S.length ⟨rtoks S, -1⟩).1; rw [hli]; have := ok.lines; omega) (by show (rlines S.length ⟨rtoks S, -1⟩).1 ≤ 255; rw [hli]; have := ok.lines; omega)
      have len0 : (rtoks S).length ≤ S.length + 1 := rtk_len S _ _
      have len1 := (sr_take S.length sLines ⟨rtoks S, -1⟩).length_le
      have len2 : (rlines S.length ⟨rtoks S, -1⟩).2.l.length ≤ (rtake S.length sLines ⟨rtoks S, -1⟩).l.length := (sr_num S.length (rtake S.length sLines ⟨rtoks S, -1⟩)).length_le
      have len3 : (Rd.mk (rtoks S) (-1)).l.length = (rtoks S).length := rfl
      have tn2 : Tn (rlines S.length ⟨rtoks S, -1⟩).2.l := (tn.sf (sr_take S.length sLines ⟨rtoks S, -1⟩)).sf (sr_num S.length _)
      have hst := bwd_steps S.length ok.lines.1 ok.lines.2 (N := 1300) 700 (rlines S.length ⟨rtoks S, -1⟩).2 tn2 (by omega) (by omega) hb fun p hp => (ok_facts ok (s := p.st) (List.mem_map.2 ⟨p, hp, rfl⟩)).1
      have hw := rtk_wt S (S.length + 1) 0 (Nat.zero_le _)
      have e1 := congrArg wt q1
      have e2 := congrArg wt q2
      simp only [wt] at e1 e2
      have hj := jn_wt (toksP (rprog S.length 1300 700 ⟨rtoks S, -1⟩)) true
      rw [jn_prog (ok_pv ok), toksP] at hj
      have hst2 : wt ([59] :: tkSL (rprog S.length 1300 700 ⟨rtoks S, -1⟩).steps) ≤ wt (mp (rlines S.length ⟨rtoks S, -1⟩).2.l) := hst
      rw [wt, wt] at hj
      have hw2 : wt (mp (rtoks S)) ≤ 2 * (S.length - 0) := hw
      have hlen5 : sLines.length = 5 := rfl
      have hl5 : ([108, 105, 110, 101, 115] : Str).length = 5 := rfl
      rw [hli] at e2
      have e1' : wt (mp (rtoks S)) = sLines.length + 1 + wt (mp (rtake S.length sLines ⟨rtoks S, -1⟩).l) := e1
      omega
/-! # TriggerReads: resolved code (printed) -/
/-- strobe/strobelaw04.TriggerReads; results .tmp 4 -/
noncomputable def r1005 : RC := (.seq (.ops [⟨some 2, none, none, false, .box 31 (.t 0)⟩,
  ⟨some 4, none, none, false, .mov (.v (.bool false))⟩]) (.seq (.seq (.ops [⟨some 21, none, none, false, .call 8 []⟩,
  ⟨some 22, none, none, false, .un .not (.t 21)⟩,
  ⟨some 23, none, none, false, .mov (.t 22)⟩,
  ⟨some 24, some (23, false), none, false, .ldn 2 (.t 2)⟩,
  ⟨some 25, some (23, false), none, false, .call 22 [(.t 24), (.v (.int .i64 12))]⟩,
  ⟨some 26, some (23, false), none, false, .un .not (.t 25)⟩,
  ⟨some 27, none, none, false, .pick (.t 23) (.v (.bool true)) (.t 26)⟩,
  ⟨some 28, none, none, false, .mov (.t 27)⟩,
  ⟨some 29, some (28, false), none, false, .ldn 2 (.t 2)⟩,
  ⟨some 30, some (28, false), none, false, .call 23 [(.t 29)]⟩,
  ⟨some 31, some (28, false), none, false, .bin .neq 3 true (.t 30) (.v (.int .i64 0))⟩,
  ⟨some 32, none, none, false, .pick (.t 28) (.v (.bool true)) (.t 31)⟩,
  ⟨some 33, none, none, false, .mov (.t 32)⟩,
  ⟨some 34, some (33, false), none, false, .mov (.t 1)⟩,
  ⟨some 35, some (33, false), none, false, .lenS (.t 34)⟩,
  ⟨some 36, some (33, false), none, false, .bin .gtr 3 true (.t 35) (.v (.int .i64 300))⟩,
  ⟨some 37, none, none, false, .pick (.t 33) (.v (.bool true)) (.t 36)⟩]) (.cond (.t 37) (.seq (.ops [⟨some 38, none, none, false, .call 8 []⟩,
  ⟨some 4, none, none, false, .mov (.t 38)⟩]) .ret) .skip)) (.seq (.ops [⟨some 40, none, none, false, .ldn 2 (.t 2)⟩,
  ⟨some 41, none, none, false, .call 25 [(.t 40)]⟩,
  ⟨some 42, none, none, false, .call 24 [(.t 41)]⟩,
  ⟨some 39, none, none, false, .mov (.t 42)⟩,
  ⟨some 43, none, none, false, .ext (.t 39) 0⟩,
  ⟨some 44, none, none, false, .ext (.t 39) 1⟩,
  ⟨some 5, none, none, false, .mov (.t 43)⟩,
  ⟨some 6, none, none, false, .mov (.t 44)⟩]) (.seq (.seq (.ops [⟨some 45, none, none, false, .mov (.t 6)⟩,
  ⟨some 46, none, none, false, .bin .neq 26 true (.t 45) (.v (.int .i64 0))⟩]) (.cond (.t 46) (.seq (.ops [⟨some 47, none, none, false, .mov (.t 6)⟩,
  ⟨some 48, none, none, false, .bin .eql 26 true (.t 47) (.v (.int .i64 26))⟩,
  ⟨some 4, none, none, false, .mov (.t 48)⟩]) .ret) .skip)) (.seq (.ops [⟨some 50, none, none, false, .mov (.t 5)⟩,
  ⟨some 51, none, none, false, .call 9 [(.t 50)]⟩,
  ⟨some 49, none, none, false, .mov (.t 51)⟩,
  ⟨some 52, none, none, false, .ext (.t 49) 0⟩,
  ⟨some 53, none, none, false, .ext (.t 49) 1⟩,
  ⟨some 54, none, none, false, .ext (.t 49) 2⟩,
  ⟨some 7, none, none, false, .al [(.int .i64 0), .nils] 25⟩,
  ⟨none, none, none, false, .st 2 (.t 7) (.t 52)⟩,
  ⟨some 8, none, none, false, .mov (.t 53)⟩,
  ⟨some 9, none, none, false, .mov (.t 54)⟩]) (.seq (.seq (.drw 14 [⟨some 55, none, none, false, .mov (.t 9)⟩,
  ⟨some 56, none, none, false, .bin .neq 26 true (.t 55) (.v (.int .i64 0))⟩,
  ⟨some 57, none, none, false, .mov (.t 56)⟩,
  ⟨some 58, some (57, false), none, false, .ldn 2 (.t 7)⟩,
  ⟨some 59, some (57, false), none, false, .call 12 [(.t 58)]⟩,
  ⟨some 60, some (57, false), none, false, .ldn 2 (.t 2)⟩,
  ⟨some 61, some (57, false), none, false, .call 11 [(.t 59), (.t 60)]⟩,
  ⟨some 62, some (57, false), none, false, .un .not (.t 61)⟩,
  ⟨some 63, none, none, false, .pick (.t 57) (.v (.bool true)) (.t 62)⟩,
  ⟨some 64, none, none, false, .mov (.t 63)⟩,
  ⟨some 65, some (64, false), none, false, .mov (.t 5)⟩,
  ⟨some 66, some (64, false), none, false, .lenS (.t 65)⟩,
  ⟨some 67, some (64, false), none, false, .bin .eql 3 true (.t 66) (.v (.int .i64 0))⟩,
  ⟨some 68, none, none, false, .pick (.t 64) (.v (.bool true)) (.t 67)⟩]) (.cond (.t 68) (.seq (.ops [⟨some 4, none, none, false, .mov (.v (.bool false))⟩]) .ret) .skip)) (.seq (.ops [⟨some 70, none, none, false, .mov (.t 5)⟩,
  ⟨some 71, none, none, false, .mov (.t 5)⟩,
  ⟨some 72, none, none, false, .lenS (.t 71)⟩,
  ⟨some 73, none, none, false, .bin .sub 3 true (.t 72) (.v (.int .i64 1))⟩,
  ⟨some 74, none, none, false, .sls (.t 70) none (some (.t 73))⟩,
  ⟨some 75, none, none, false, .call 9 [(.t 74)]⟩,
  ⟨some 69, none, none, false, .mov (.t 75)⟩,
  ⟨some 76, none, none, false, .ext (.t 69) 0⟩,
  ⟨some 77, none, none, false, .ext (.t 69) 1⟩,
  ⟨some 78, none, none, false, .ext (.t 69) 2⟩,
  ⟨some 10, none, none, false, .al [(.int .i64 0), .nils] 25⟩,
  ⟨none, none, none, false, .st 2 (.t 10) (.t 76)⟩,
  ⟨some 11, none, none, false, .mov (.t 77)⟩,
  ⟨some 12, none, none, false, .mov (.t 78)⟩]) (.seq (.seq (.ops [⟨some 79, none, none, false, .mov (.t 12)⟩,
  ⟨some 80, none, none, false, .bin .neq 26 true (.t 79) (.v (.int .i64 25))⟩,
  ⟨some 81, none, none, false, .mov (.t 80)⟩,
  ⟨some 82, some (81, false), none, false, .mov (.t 11)⟩,
  ⟨some 83, some (81, false), none, false, .mov (.t 5)⟩,
  ⟨some 84, some (81, false), none, false, .lenS (.t 83)⟩,
  ⟨some 85, some (81, false), none, false, .bin .sub 3 true (.t 84) (.v (.int .i64 1))⟩,
  ⟨some 86, some (81, false), none, false, .bin .neq 3 false (.t 82) (.t 85)⟩,
  ⟨some 87, none, none, false, .pick (.t 81) (.v (.bool true)) (.t 86)⟩]) (.cond (.t 87) (.seq (.ops [⟨some 4, none, none, false, .mov (.v (.bool false))⟩]) .ret) .skip)) (.seq (.ops [⟨some 89, none, none, false, .mov (.t 1)⟩,
  ⟨some 90, none, none, false, .call 9 [(.t 89)]⟩,
  ⟨some 88, none, none, false, .mov (.t 90)⟩,
  ⟨some 91, none, none, false, .ext (.t 88) 0⟩,
  ⟨some 92, none, none, false, .ext (.t 88) 1⟩,
  ⟨some 93, none, none, false, .ext (.t 88) 2⟩,
  ⟨some 13, none, none, false, .al [(.int .i64 0), .nils] 25⟩,
  ⟨none, none, none, false, .st 2 (.t 13) (.t 91)⟩,
  ⟨some 14, none, none, false, .mov (.t 92)⟩,
  ⟨some 15, none, none, false, .mov (.t 93)⟩]) (.seq (.seq (.ops [⟨some 94, none, none, false, .mov (.t 15)⟩,
  ⟨some 95, none, none, false, .bin .neq 26 true (.t 94) (.v (.int .i64 0))⟩]) (.cond (.t 95) (.seq (.ops [⟨some 96, none, none, false, .fa 1 (.t 13)⟩,
  ⟨some 97, none, none, false, .ld1 (.t 96)⟩,
  ⟨some 98, none, none, false, .lenL (.t 97)⟩,
  ⟨some 99, none, none, false, .bin .eql 3 true (.t 98) (.v (.int .i64 0))⟩,
  ⟨some 4, none, none, false, .mov (.t 99)⟩]) .ret) .skip)) (.seq (.ops [⟨some 101, none, none, false, .ldn 2 (.t 13)⟩,
  ⟨some 102, none, none, false, .call 24 [(.t 101)]⟩,
  ⟨some 100, none, none, false, .mov (.t 102)⟩,
  ⟨some 103, none, none, false, .ext (.t 100) 0⟩,
  ⟨some 104, none, none, false, .ext (.t 100) 1⟩,
  ⟨some 16, none, none, false, .mov (.t 103)⟩,
  ⟨some 17, none, none, false, .mov (.t 104)⟩]) (.seq (.ops [⟨some 106, none, none, false, .mov (.t 16)⟩,
  ⟨some 107, none, none, false, .call 9 [(.t 106)]⟩,
  ⟨some 105, none, none, false, .mov (.t 107)⟩,
  ⟨some 108, none, none, false, .ext (.t 105) 0⟩,
  ⟨some 109, none, none, false, .ext (.t 105) 1⟩,
  ⟨some 110, none, none, false, .ext (.t 105) 2⟩,
  ⟨some 18, none, none, false, .al [(.int .i64 0), .nils] 25⟩,
  ⟨none, none, none, false, .st 2 (.t 18) (.t 108)⟩,
  ⟨some 19, none, none, false, .mov (.t 109)⟩,
  ⟨some 20, none, none, false, .mov (.t 110)⟩]) (.seq (.drw 14 [⟨some 111, none, none, false, .mov (.t 17)⟩,
  ⟨some 112, none, none, false, .bin .eql 26 true (.t 111) (.v (.int .i64 0))⟩,
  ⟨some 113, none, none, false, .mov (.t 112)⟩,
  ⟨some 114, some (113, true), none, false, .mov (.t 20)⟩,
  ⟨some 115, some (113, true), none, false, .bin .eql 26 true (.t 114) (.v (.int .i64 0))⟩,
  ⟨some 116, none, none, false, .pick (.t 113) (.t 115) (.v (.bool false))⟩,
  ⟨some 117, none, none, false, .mov (.t 116)⟩,
  ⟨some 118, some (117, true), none, false, .ldn 2 (.t 18)⟩,
  ⟨some 119, some (117, true), none, false, .call 12 [(.t 118)]⟩,
  ⟨some 120, some (117, true), none, false, .ldn 2 (.t 13)⟩,
  ⟨some 121, some (117, true), none, false, .call 12 [(.t 120)]⟩,
  ⟨some 122, some (117, true), none, false, .call 11 [(.t 119), (.t 121)]⟩,
  ⟨some 123, none, none, false, .pick (.t 117) (.t 122) (.v (.bool false))⟩,
  ⟨some 4, none, none, false, .mov (.t 123)⟩]) .ret)))))))))))))
theorem k1005 : fnRC 5 = some ([.tmp 4], r1005) := by kernel_rfl


end Go.Am
set_option linter.all false
namespace Go.Am
open Go
variable [MaxLen]
set_option maxRecDepth 100000
/-- internal/stringslite.IndexByte; results .tmp 4 -/
def r249 : RC := (.seq (.ops [⟨some 4, none, none, false, .mov (.v (.int .i64 0))⟩]) (.seq (.ops [⟨some 5, none, none, false, .mov (.t 0)⟩,
  ⟨some 6, none, none, false, .mov (.t 1)⟩,
  ⟨some 7, none, none, false, .call 256 [(.t 5), (.t 6)]⟩,
  ⟨some 4, none, none, false, .mov (.t 7)⟩]) .ret))
theorem k249 : fnRC 222 = some ([.tmp 4], r249) := by kernel_rfl

def r220_l0 : RC := (.seq (.seq (.ops [⟨some 57, none, none, false, .mov (.t 8)⟩,
  ⟨some 58, none, none, false, .mov (.t 9)⟩,
  ⟨some 59, none, none, false, .bin .lss 3 false (.t 57) (.t 58)⟩]) (.cond (.t 59) .skip (.exit 1))) (.block 2 (.seq (.seq (.ops [⟨some 60, none, none, false, .mov (.t 0)⟩,
  ⟨some 61, none, none, false, .mov (.t 8)⟩,
  ⟨some 62, none, none, false, .ixs (.t 60) (.t 61)⟩,
  ⟨some 63, none, none, false, .mov (.t 6)⟩,
  ⟨some 64, none, none, false, .bin .neq 5 false (.t 62) (.t 63)⟩]) (.cond (.t 64) (.seq (.ops [⟨some 65, none, none, false, .mov (.t 0)⟩,
  ⟨some 66, none, none, false, .mov (.t 8)⟩,
  ⟨some 67, none, none, false, .bin .add 3 true (.t 66) (.v (.int .i64 1))⟩,
  ⟨some 68, none, none, false, .mov (.t 9)⟩,
  ⟨some 69, none, none, false, .sls (.t 65) (some (.t 67)) (some (.t 68))⟩,
  ⟨some 70, none, none, false, .mov (.t 6)⟩,
  ⟨some 71, none, none, false, .call 222 [(.t 69), (.t 70)]⟩,
  ⟨some 11, none, none, false, .mov (.t 71)⟩]) (.seq (.seq (.ops [⟨some 72, none, none, false, .mov (.t 11)⟩,
  ⟨some 73, none, none, false, .bin .lss 3 true (.t 72) (.v (.int .i64 0))⟩]) (.cond (.t 73) (.seq (.ops [⟨some 4, none, none, false, .mov (.v (.int .i64 (-1)))⟩]) .ret) .skip)) (.ops [⟨some 74, none, none, false, .mov (.t 8)⟩,
  ⟨some 75, none, none, false, .mov (.t 11)⟩,
  ⟨some 76, none, none, false, .bin .add 3 true (.t 75) (.v (.int .i64 1))⟩,
  ⟨some 77, none, none, false, .bin .add 3 false (.t 74) (.t 76)⟩,
  ⟨some 8, none, none, false, .mov (.t 77)⟩]))) .skip)) (.seq (.seq (.ops [⟨some 78, none, none, false, .mov (.t 0)⟩,
  ⟨some 79, none, none, false, .mov (.t 8)⟩,
  ⟨some 80, none, none, false, .bin .add 3 true (.t 79) (.v (.int .i64 1))⟩,
  ⟨some 81, none, none, false, .ixs (.t 78) (.t 80)⟩,
  ⟨some 82, none, none, false, .mov (.t 7)⟩,
  ⟨some 83, none, none, false, .bin .eql 5 false (.t 81) (.t 82)⟩,
  ⟨some 84, none, none, false, .mov (.t 83)⟩,
  ⟨some 85, some (84, true), none, false, .mov (.t 0)⟩,
  ⟨some 86, some (84, true), none, false, .mov (.t 8)⟩,
  ⟨some 87, some (84, true), none, false, .mov (.t 8)⟩,
  ⟨some 88, some (84, true), none, false, .mov (.t 5)⟩,
  ⟨some 89, some (84, true), none, false, .bin .add 3 false (.t 87) (.t 88)⟩,
  ⟨some 90, some (84, true), none, false, .sls (.t 85) (some (.t 86)) (some (.t 89))⟩,
  ⟨some 91, some (84, true), none, false, .mov (.t 1)⟩,
  ⟨some 92, some (84, true), none, false, .bin .eql 9 false (.t 90) (.t 91)⟩,
  ⟨some 93, none, none, false, .pick (.t 84) (.t 92) (.v (.bool false))⟩]) (.cond (.t 93) (.seq (.ops [⟨some 94, none, none, false, .mov (.t 8)⟩,
  ⟨some 4, none, none, false, .mov (.t 94)⟩]) .ret) .skip)) (.seq (.ops [⟨some 95, none, none, false, .mov (.t 8)⟩,
  ⟨some 96, none, none, false, .bin .add 3 true (.t 95) (.v (.int .i64 1))⟩,
  ⟨some 8, none, none, false, .mov (.t 96)⟩]) (.seq (.ops [⟨some 97, none, none, false, .mov (.t 10)⟩,
  ⟨some 98, none, none, false, .bin .add 3 true (.t 97) (.v (.int .i64 1))⟩,
  ⟨some 10, none, none, false, .mov (.t 98)⟩]) (.seq (.ops [⟨some 99, none, none, false, .mov (.t 5)⟩,
  ⟨some 100, none, none, false, .ld1 (.v (.ptr 0 0))⟩,
  ⟨some 101, none, none, false, .bin .leq 3 false (.t 99) (.t 100)⟩,
  ⟨some 102, none, none, false, .mov (.t 101)⟩,
  ⟨some 103, some (102, true), none, false, .mov (.t 10)⟩,
  ⟨some 104, some (102, true), none, false, .mov (.t 8)⟩,
  ⟨some 105, some (102, true), none, false, .call 224 [(.t 104)]⟩,
  ⟨some 106, some (102, true), none, false, .bin .gtr 3 false (.t 103) (.t 105)⟩,
  ⟨some 107, none, none, false, .pick (.t 102) (.t 106) (.v (.bool false))⟩]) (.cond (.t 107) (.seq (.ops [⟨some 108, none, none, false, .mov (.t 0)⟩,
  ⟨some 109, none, none, false, .mov (.t 8)⟩,
  ⟨some 110, none, none, false, .sls (.t 108) (some (.t 109)) none⟩,
  ⟨some 111, none, none, false, .mov (.t 1)⟩,
  ⟨some 112, none, none, false, .call 223 [(.t 110), (.t 111)]⟩,
  ⟨some 12, none, none, false, .mov (.t 112)⟩]) (.seq (.seq (.ops [⟨some 113, none, none, false, .mov (.t 12)⟩,
  ⟨some 114, none, none, false, .bin .geq 3 true (.t 113) (.v (.int .i64 0))⟩]) (.cond (.t 114) (.seq (.ops [⟨some 115, none, none, false, .mov (.t 12)⟩,
  ⟨some 116, none, none, false, .mov (.t 8)⟩,
  ⟨some 117, none, none, false, .bin .add 3 false (.t 115) (.t 116)⟩,
  ⟨some 4, none, none, false, .mov (.t 117)⟩]) .ret) .skip)) (.seq (.ops [⟨some 4, none, none, false, .mov (.v (.int .i64 (-1)))⟩]) .ret))) (.seq (.ops [⟨some 118, none, none, false, .mov (.t 5)⟩,
  ⟨some 119, none, none, false, .ld1 (.v (.ptr 0 0))⟩,
  ⟨some 120, none, none, false, .bin .gtr 3 false (.t 118) (.t 119)⟩,
  ⟨some 121, none, none, false, .mov (.t 120)⟩,
  ⟨some 122, some (121, true), none, false, .mov (.t 10)⟩,
  ⟨some 123, some (121, true), none, false, .mov (.t 8)⟩,
  ⟨some 124, some (121, true), none, false, .bin .shr 3 true (.t 123) (.v (.int .u64 4))⟩,
  ⟨some 125, some (121, true), none, false, .bin .add 3 true (.v (.int .i64 4)) (.t 124)⟩,
  ⟨some 126, some (121, true), none, false, .bin .geq 3 false (.t 122) (.t 125)⟩,
  ⟨some 127, none, none, false, .pick (.t 121) (.t 126) (.v (.bool false))⟩,
  ⟨some 128, none, none, false, .mov (.t 127)⟩,
  ⟨some 129, some (128, true), none, false, .mov (.t 8)⟩,
  ⟨some 130, some (128, true), none, false, .mov (.t 9)⟩,
  ⟨some 131, some (128, true), none, false, .bin .lss 3 false (.t 129) (.t 130)⟩,
  ⟨some 132, none, none, false, .pick (.t 128) (.t 131) (.v (.bool false))⟩]) (.cond (.t 132) (.seq (.ops [⟨some 133, none, none, false, .mov (.t 0)⟩,
  ⟨some 134, none, none, false, .mov (.t 8)⟩,
  ⟨some 135, none, none, false, .sls (.t 133) (some (.t 134)) none⟩,
  ⟨some 136, none, none, false, .mov (.t 1)⟩,
  ⟨some 137, none, none, false, .call 225 [(.t 135), (.t 136)]⟩,
  ⟨some 13, none, none, false, .mov (.t 137)⟩]) (.seq (.seq (.ops [⟨some 138, none, none, false, .mov (.t 13)⟩,
  ⟨some 139, none, none, false, .bin .lss 3 true (.t 138) (.v (.int .i64 0))⟩]) (.cond (.t 139) (.seq (.ops [⟨some 4, none, none, false, .mov (.v (.int .i64 (-1)))⟩]) .ret) .skip)) (.seq (.ops [⟨some 140, none, none, false, .mov (.t 8)⟩,
  ⟨some 141, none, none, false, .mov (.t 13)⟩,
  ⟨some 142, none, none, false, .bin .add 3 false (.t 140) (.t 141)⟩,
  ⟨some 4, none, none, false, .mov (.t 142)⟩]) .ret))) .skip))))))))))
/-- internal/stringslite.Index; results .tmp 4 -/
def r220 : RC := (.seq (.ops [⟨some 4, none, none, false, .mov (.v (.int .i64 0))⟩]) (.seq (.ops [⟨some 14, none, none, false, .mov (.t 1)⟩,
  ⟨some 15, none, none, false, .lenS (.t 14)⟩,
  ⟨some 5, none, none, false, .mov (.t 15)⟩]) (.seq (.block 0 (.seq (.ops [⟨some 17, none, none, false, .mov (.t 5)⟩,
  ⟨some 18, none, none, false, .bin .eql 3 true (.t 17) (.v (.int .i64 0))⟩,
  ⟨some 19, none, none, false, .mov (.t 18)⟩,
  ⟨some 20, some (19, false), none, false, .mov (.t 1)⟩,
  ⟨some 21, some (19, false), none, false, .mov (.t 0)⟩,
  ⟨some 22, some (19, false), none, false, .bin .eql 9 false (.t 20) (.t 21)⟩,
  ⟨some 23, none, none, false, .pick (.t 19) (.v (.bool true)) (.t 22)⟩,
  ⟨some 16, none, none, false, .mov (.t 23)⟩]) (.cond (.t 16) (.seq (.ops [⟨some 4, none, none, false, .mov (.v (.int .i64 0))⟩]) .ret) (.seq (.ops [⟨some 25, none, none, false, .mov (.t 5)⟩,
  ⟨some 26, none, none, false, .bin .eql 3 true (.t 25) (.v (.int .i64 1))⟩,
  ⟨some 24, none, none, false, .mov (.t 26)⟩]) (.cond (.t 24) (.seq (.ops [⟨some 27, none, none, false, .mov (.t 0)⟩,
  ⟨some 28, none, none, false, .mov (.t 1)⟩,
  ⟨some 29, none, none, false, .ixs (.t 28) (.v (.int .i64 0))⟩,
  ⟨some 30, none, none, false, .call 222 [(.t 27), (.t 29)]⟩,
  ⟨some 4, none, none, false, .mov (.t 30)⟩]) .ret) (.seq (.ops [⟨some 32, none, none, false, .mov (.t 5)⟩,
  ⟨some 33, none, none, false, .mov (.t 0)⟩,
  ⟨some 34, none, none, false, .lenS (.t 33)⟩,
  ⟨some 35, none, none, false, .bin .geq 3 false (.t 32) (.t 34)⟩,
  ⟨some 31, none, none, false, .mov (.t 35)⟩]) (.cond (.t 31) (.seq (.ops [⟨some 4, none, none, false, .mov (.v (.int .i64 (-1)))⟩]) .ret) (.seq (.ops [⟨some 37, none, none, false, .mov (.t 5)⟩,
  ⟨some 38, none, none, false, .ld1 (.v (.ptr 0 0))⟩,
  ⟨some 39, none, none, false, .bin .leq 3 false (.t 37) (.t 38)⟩,
  ⟨some 40, none, none, false, .mov (.t 39)⟩,
  ⟨some 41, some (40, true), none, false, .mov (.t 0)⟩,
  ⟨some 42, some (40, true), none, false, .lenS (.t 41)⟩,
  ⟨some 43, some (40, true), none, false, .bin .leq 3 true (.t 42) (.v (.int .i64 64))⟩,
  ⟨some 44, none, none, false, .pick (.t 40) (.t 43) (.v (.bool false))⟩,
  ⟨some 36, none, none, false, .mov (.t 44)⟩]) (.cond (.t 36) (.seq (.ops [⟨some 45, none, none, false, .mov (.t 0)⟩,
  ⟨some 46, none, none, false, .mov (.t 1)⟩,
  ⟨some 47, none, none, false, .call 223 [(.t 45), (.t 46)]⟩,
  ⟨some 4, none, none, false, .mov (.t 47)⟩]) .ret) .skip))))))))) (.seq (.ops [⟨some 48, none, none, false, .mov (.t 1)⟩,
  ⟨some 49, none, none, false, .ixs (.t 48) (.v (.int .i64 0))⟩,
  ⟨some 6, none, none, false, .mov (.t 49)⟩]) (.seq (.ops [⟨some 50, none, none, false, .mov (.t 1)⟩,
  ⟨some 51, none, none, false, .ixs (.t 50) (.v (.int .i64 1))⟩,
  ⟨some 7, none, none, false, .mov (.t 51)⟩]) (.seq (.ops [⟨some 8, none, none, false, .mov (.v (.int .i64 0))⟩]) (.seq (.ops [⟨some 52, none, none, false, .mov (.t 0)⟩,
  ⟨some 53, none, none, false, .lenS (.t 52)⟩,
  ⟨some 54, none, none, false, .mov (.t 5)⟩,
  ⟨some 55, none, none, false, .bin .sub 3 false (.t 53) (.t 54)⟩,
  ⟨some 56, none, none, false, .bin .add 3 true (.t 55) (.v (.int .i64 1))⟩,
  ⟨some 9, none, none, false, .mov (.t 56)⟩]) (.seq (.ops [⟨some 10, none, none, false, .mov (.v (.int .i64 0))⟩]) (.seq (.block 1 (.loop r220_l0)) (.seq (.ops [⟨some 4, none, none, false, .mov (.v (.int .i64 (-1)))⟩]) .ret))))))))))
theorem k220 : fnRC 195 = some ([.tmp 4], r220) := by kernel_rfl

/-- strings.Index; results .tmp 4 -/
def r181 : RC := (.seq (.ops [⟨some 4, none, none, false, .mov (.v (.int .i64 0))⟩]) (.seq (.ops [⟨some 5, none, none, false, .mov (.t 0)⟩,
  ⟨some 6, none, none, false, .mov (.t 1)⟩,
  ⟨some 7, none, none, false, .call 195 [(.t 5), (.t 6)]⟩,
  ⟨some 4, none, none, false, .mov (.t 7)⟩]) .ret))
theorem k181 : fnRC 146 = some ([.tmp 4], r181) := by kernel_rfl


end Go.Am
set_option linter.all false
namespace Go.Am
open Go
variable [MaxLen]
set_option maxRecDepth 100000
set_option maxHeartbeats 8000000
/-! # strings.Contains at the tokens; the builder's string -/

theorem cal_272 (args : List AV) (s : St) : cal U 256 args s = extIndexByte args s := by
  unfold cal callF; rw [U_ext]; rfl
theorem cal_250 (args : List AV) (s : St) : cal U 223 args s = extIndexStr args s := by
  unfold cal callF; rw [U_ext]; rfl
theorem c272 (l : Str) (c : UInt8) : calV U 256 [.str l, .int .u8 c.toNat] = some (.int .i64 (Lib.indexByte l c)) := by
  refine calV_of fun s => ?_
  rw [cal_272]
  simp only [extIndexByte, Int.toNat_natCast]
  rw [show (c.toNat).toUInt8 = c from UInt8.ofNat_toNat]
theorem c250 (l m : Str) (c : UInt8) (h1 : l.contains c = false) (h2 : l.length ≤ 64) (h3 : 1 ≤ m.length) (h4 : ((m.length + 1 : Nat) : Int) ≤ MaxLen.val) : calV U 223 [.str l, .str (c :: m)] = some (.int .i64 (-1)) := by
  refine calV_of fun s => ?_
  rw [cal_250]
  simp only [extIndexStr, h1, h2, h3, h4, decide_true, Bool.not_false, Bool.and_self, if_true]
theorem c249 (l : Str) (c : UInt8) : calV U 222 [.str l, .int .u8 c.toNat] = some (.int .i64 (Lib.indexByte l c)) := by
  refine pure_go k249 (by kernel_rfl) rfl ?_
  simp +contextual only [go_sem, ↓reduceIte, r249, c272]
theorem gb_0 : U.gbase 0 = some (.cells [.int .i64 MaxLen.val] 3 true 0 0) := by rw [U_gbase]; rfl
def fourS : Str := [41, 44, 59, 40]
theorem four_not {c : UInt8} (h : (c == 40 || c == 41 || c == 44 || c == 59) = false) : (41 == c) = false ∧ (44 == c) = false ∧ (59 == c) = false ∧ (40 == c) = false := by
  simp only [Bool.or_eq_false_iff, beq_eq_false_iff_ne] at h ⊢
  obtain ⟨⟨⟨h1, h2⟩, h3⟩, h4⟩ := h
  exact ⟨fun e => h2 e.symm, fun e => h3 e.symm, fun e => h4 e.symm, fun e => h1 e.symm⟩
theorem ib_four {c : UInt8} (h : (c == 40 || c == 41 || c == 44 || c == 59) = false) : Lib.indexByte fourS c = -1 ∧ ∀ n, Lib.indexByte ((fourS.drop 1).take n) c = -1 := by
  obtain ⟨h1, h2, h3, h4⟩ := four_not h
  have e2 : (44 == c) = false := h2
  refine ⟨by simp [fourS, Lib.indexByte, h1, h2, h3, h4], fun n => ?_⟩
  match n with
  | 0 => rfl
  | 1 => simp [fourS, Lib.indexByte, h2]
  | 2 => simp [fourS, Lib.indexByte, h2, h3]
  | n + 3 => simp [fourS, Lib.indexByte, h2, h3, h4]
theorem c220_1 (c : UInt8) : calV U 195 [.str fourS, .str [c]] = some (.int .i64 (Lib.indexByte fourS c)) := by
  refine pure_go k220 (by kernel_rfl) rfl ?_
  have h249 := c249 fourS c
  have e1 : (((0 + 1 : Nat) : Int) == 0) = false := rfl
  have e2 : (((0 + 1 : Nat) : Int) == 1) = true := rfl
  have e3 : (([c] : Str) == fourS) = false := by rw [beq_eq_false_iff_ne]; simp [fourS]
  simp (config := { maxSteps := 1000000 }) +contextual only [go_sem, ↓reduceIte, r220, h249, e1, e2, e3, br_tt, Bool.or_false]
theorem fourS_len : fourS.length = 4 := rfl
theorem fourS_0 : fourS[0]? = some 41 := rfl
theorem gb_some {c : UInt8} (h : (c == 40 || c == 41 || c == 44 || c == 59) = false) : fourS.contains c = false := by
  obtain ⟨h1, h2, h3, h4⟩ := four_not h
  have e : ∀ d : UInt8, (d == c) = false → (c == d) = false := fun d hd => by rw [beq_eq_false_iff_ne] at hd ⊢; exact fun e => hd e.symm
  have e41 := e 41 h1
  have e44 := e 44 h2
  have e59 := e 59 h3
  have e40 := e 40 h4
  rw [fourS]
  simp only [List.contains_cons, e41, e44, e59, e40, List.contains_nil, Bool.or_self]
theorem c220_4 (c : UInt8) (m : Str) (hm : 3 ≤ m.length) (h : (c == 40 || c == 41 || c == 44 || c == 59) = false) : calV U 195 [.str fourS, .str (c :: m)] = some (.int .i64 (-1)) := by
  refine pure_go k220 (by kernel_rfl) rfl ?_
  have e1 : (((m.length + 1 : Nat) : Int) == 0) = false := by rw [beq_eq_false_iff_ne]; omega
  have e2 : (((m.length + 1 : Nat) : Int) == 1) = false := by rw [beq_eq_false_iff_ne]; omega
  have e3 : (c :: m == fourS) = false := by
    rw [beq_eq_false_iff_ne]
    intro e
    obtain ⟨h1, _⟩ := four_not h
    rw [fourS] at e
    rw [(List.cons.inj e).1] at h1
    cases h1
  have e4 : decide (((m.length + 1 : Nat) : Int) ≥ ((4 : Nat) : Int)) = true := by rw [decide_eq_true_eq]; omega
  simp (config := { maxSteps := 1000000 }) +contextual only [go_sem, ↓reduceIte, r220, fourS_len, e1, e2, e3, e4, br_tt, Bool.or_false]
theorem c220_2 (c d : UInt8) (h : (c == 40 || c == 41 || c == 44 || c == 59) = false) : calV U 195 [.str fourS, .str [c, d]] = some (.int .i64 (-1)) := by
  refine pure_go k220 (by kernel_rfl) rfl ?_
  have e1 : (((0 + 1 + 1 : Nat) : Int) == 0) = false := rfl
  have e2 : (((0 + 1 + 1 : Nat) : Int) == 1) = false := rfl
  have e3 : (([c, d] : Str) == fourS) = false := by rw [beq_eq_false_iff_ne]; simp [fourS]
  have e4 : decide (((0 + 1 + 1 : Nat) : Int) ≥ ((4 : Nat) : Int)) = false := rfl
  have e41 : (((41 : UInt8).toNat : Int) != (c.toNat : Int)) = true := by
    have := (four_not h).1
    rw [bne_iff_ne]
    intro hh
    rw [beq_eq_false_iff_ne] at this
    exact this (UInt8.toNat_inj.1 (by omega))
  by_cases hm : ((2 : Nat) : Int) ≤ MaxLen.val
  · have e5 : decide (((0 + 1 + 1 : Nat) : Int) ≤ MaxLen.val) = true := by rw [decide_eq_true_eq]; exact hm
    have e6 : decide (((4 : Nat) : Int) ≤ 64) = true := rfl
    have h250 := c250 fourS [d] c (gb_some h) (by rw [fourS_len]; omega) (by simp) hm
    simp (config := { maxSteps := 1000000 }) +contextual only [go_sem, ↓reduceIte, r220, fourS_len, e1, e2, e3, e4, gb_0, e5, e6, h250, br_tt, Bool.or_false]
  · have e5 : decide (((0 + 1 + 1 : Nat) : Int) ≤ MaxLen.val) = false := by rw [decide_eq_false_iff_not]; exact hm
    have w1 : IntKind.i64.wrap (IntKind.i64.wrap (((4 : Nat) : Int) - ((2 : Nat) : Int)) + 1) = 3 := rfl
    have w2 : IntKind.i64.wrap 1 = 1 := rfl
    have h249 := c249 ((fourS.take 3).drop 1) c
    have hib : Lib.indexByte ((fourS.take 3).drop 1) c = -1 := (ib_four h).2 2
    rw [hib] at h249
    have hsl : slRS (.str fourS) (some (.int .i64 1)) (some (.int .i64 3)) = some (.str ((fourS.take 3).drop 1)) := rfl
    simp (config := { maxSteps := 1000000 }) +contextual only [go_sem, ↓reduceIte, r220, fourS_len, e1, e2, e3, e4, gb_0, e5, br_tt, Bool.or_false]
    rw [goL_eq]
    simp (config := { maxSteps := 1000000 }) +contextual only [go_sem, ↓reduceIte, r220_l0, fourS_len, fourS_0, br_tt, Bool.or_false, w1, w2, e41, hsl, h249]
theorem c220_3 (c d e : UInt8) (h : (c == 40 || c == 41 || c == 44 || c == 59) = false) : calV U 195 [.str fourS, .str [c, d, e]] = some (.int .i64 (-1)) := by
  refine pure_go k220 (by kernel_rfl) rfl ?_
  have e1 : (((0 + 1 + 1 + 1 : Nat) : Int) == 0) = false := rfl
  have e2 : (((0 + 1 + 1 + 1 : Nat) : Int) == 1) = false := rfl
  have e3 : (([c, d, e] : Str) == fourS) = false := by rw [beq_eq_false_iff_ne]; simp [fourS]
  have e4 : decide (((0 + 1 + 1 + 1 : Nat) : Int) ≥ ((4 : Nat) : Int)) = false := rfl
  have e41 : (((41 : UInt8).toNat : Int) != (c.toNat : Int)) = true := by
    have := (four_not h).1
    rw [bne_iff_ne]
    intro hh
    rw [beq_eq_false_iff_ne] at this
    exact this (UInt8.toNat_inj.1 (by omega))
  by_cases hm : ((3 : Nat) : Int) ≤ MaxLen.val
  · have e5 : decide (((0 + 1 + 1 + 1 : Nat) : Int) ≤ MaxLen.val) = true := by rw [decide_eq_true_eq]; exact hm
    have e6 : decide (((4 : Nat) : Int) ≤ 64) = true := rfl
    have h250 := c250 fourS [d, e] c (gb_some h) (by rw [fourS_len]; omega) (by simp) hm
    simp (config := { maxSteps := 1000000 }) +contextual only [go_sem, ↓reduceIte, r220, fourS_len, e1, e2, e3, e4, gb_0, e5, e6, h250, br_tt, Bool.or_false]
  · have e5 : decide (((0 + 1 + 1 + 1 : Nat) : Int) ≤ MaxLen.val) = false := by rw [decide_eq_false_iff_not]; exact hm
    have w1 : IntKind.i64.wrap (IntKind.i64.wrap (((4 : Nat) : Int) - ((3 : Nat) : Int)) + 1) = 2 := rfl
    have w2 : IntKind.i64.wrap 1 = 1 := rfl
    have h249 := c249 ((fourS.take 2).drop 1) c
    have hib : Lib.indexByte ((fourS.take 2).drop 1) c = -1 := (ib_four h).2 1
    rw [hib] at h249
    have hsl : slRS (.str fourS) (some (.int .i64 1)) (some (.int .i64 2)) = some (.str ((fourS.take 2).drop 1)) := rfl
    simp (config := { maxSteps := 1000000 }) +contextual only [go_sem, ↓reduceIte, r220, fourS_len, e1, e2, e3, e4, gb_0, e5, br_tt, Bool.or_false]
    rw [goL_eq]
    simp (config := { maxSteps := 1000000 }) +contextual only [go_sem, ↓reduceIte, r220_l0, fourS_len, fourS_0, br_tt, Bool.or_false, w1, w2, e41, hsl, h249]

theorem tokOk_cons {c : UInt8} {m : Str} (h : tokOk (c :: m) = true) : (c == 40 || c == 41 || c == 44 || c == 59) = false := by
  simpa [tokOk] using h
theorem c220_ok (t : Str) (h : tokOk t = true) : calV U 195 [.str fourS, .str t] = some (.int .i64 (-1)) := by
  match t, h with
  | [c], h =>
    have := c220_1 c
    rw [(ib_four (tokOk_cons h)).1] at this
    exact this
  | [c, d], h => exact c220_2 c d (tokOk_cons h)
  | [c, d, e], h => exact c220_3 c d e (tokOk_cons h)
  | c :: d :: e :: f :: m, h => exact c220_4 c _ (by simp) (tokOk_cons h)
theorem c129 (t : Str) (h : tokAny t = true) : calV U 77 [.str [41, 44, 59, 40], .str t] = some (.bool (cont t)) := by
  have key : ∀ (t : Str) (n : Int) (b : Bool), calV U 195 [.str fourS, .str t] = some (.int .i64 n) → decide (n ≥ 0) = b → calV U 77 [.str [41, 44, 59, 40], .str t] = some (.bool b) := fun t n b h1 h2 => by
    have h3 : calV U 146 [.str [41, 44, 59, 40], .str t] = some (.int .i64 n) := by
      refine pure_go k181 (by kernel_rfl) rfl ?_
      rw [fourS] at h1
      simp +contextual only [go_sem, ↓reduceIte, r181, h1]
    refine pure_go k129 (by kernel_rfl) rfl ?_
    simp +contextual only [go_sem, ↓reduceIte, r129, h3, h2]
  rw [tokAny, Bool.or_eq_true] at h
  rcases h with h | h
  · rw [(tokOk_cont h).1]
    exact key t _ _ (c220_ok t h) rfl
  · simp only [Bool.or_eq_true, beq_iff_eq] at h
    rcases h with rfl | rfl | rfl | rfl
    · exact key _ _ _ (c220_1 41) rfl
    · exact key _ _ _ (c220_1 44) rfl
    · exact key _ _ _ (c220_1 59) rfl
    · exact key _ _ _ (c220_1 40) rfl

/-! the builder's string -/
def sdK (v : Option AV) (s : St) : Option (AV × St) := match v with
  | some .nils => some (.nilp, s)
  | some (.sl b o (_ + 1) _ _) => some (.ptr b o, s)
  | _ => none
theorem opA_sd (ex : Ex) (e : Env) (s : St) (x : Operand) (ts : Array TypeId) : opA U ex e (.call { callee := .builtin .unsafeSliceData, args := #[x], argTypes := ts }) s = sdK (eval U e x) s := by
  have h : opA U ex e (.call { callee := .builtin .unsafeSliceData, args := #[x], argTypes := ts }) s = match evals U e [x] with
    | some vs => builtinA U .unsafeSliceData ts vs s
    | none => none := rfl
  rw [h]
  simp only [evals]
  cases eval U e x with
  | none => rfl
  | some v =>
    cases v <;> try rfl
    rename_i b o n c z
    cases n <;> rfl
noncomputable def usK (ts : Array TypeId) (p n : Option AV) (s : St) : Option (AV × St) := match p, n with
  | some p, some n => builtinA U .unsafeString ts [p, n] s
  | _, _ => none
theorem opA_us (ex : Ex) (e : Env) (s : St) (x y : Operand) (ts : Array TypeId) : opA U ex e (.call { callee := .builtin .unsafeString, args := #[x, y], argTypes := ts }) s = usK ts (eval U e x) (eval U e y) s := by
  have h : opA U ex e (.call { callee := .builtin .unsafeString, args := #[x, y], argTypes := ts }) s = match evals U e [x, y] with
    | some vs => builtinA U .unsafeString ts vs s
    | none => none := rfl
  rw [h]
  simp only [evals]
  cases eval U e x with
  | none => rfl
  | some v => cases eval U e y <;> rfl
theorem sdK_nils (s : St) : sdK (some .nils) s = some (.nilp, s) := rfl
theorem sdK_sl (b o n : Nat) (c : Option Nat) (z : Nat) (s : St) : sdK (some (.sl b o (n + 1) c z)) s = some (.ptr b o, s) := rfl
theorem usK_some (ts : Array TypeId) (p n : AV) (s : St) : usK ts (some p) (some n) s = builtinA U .unsafeString ts [p, n] s := rfl
theorem us_nil (s : St) : builtinA U .unsafeString #[228, 3] [.nilp, .int .i64 0] s = some (.str [], s) := rfl
theorem us_ptr {s : St} {j : Nat} {bs : Str} {lo hi : Nat} (hg : s.get j = some (.cells (bytesA bs) 5 false lo hi)) (h0 : bs ≠ []) (hl : bs.length ≤ 2 ^ 39) : builtinA U .unsafeString #[228, 3] [.ptr j 0, .int .i64 bs.length] s = some (.str bs, s.put j (.cells (bytesA bs) 5 true 0 0)) := by
  have hu : U.und 228 = some (.pointer 5) := by kernel_rfl
  have hne : ¬ (bs.length : Int) = 0 := by
    have := List.length_pos_iff.2 h0; omega
  have hb : ¬ ((bs.length : Int) < 0 ∨ (bs.length : Int) > 2 ^ 40) := by omega
  unfold builtinA
  simp only [if_neg hne, if_neg hb, hg]
  have hgr : grab bs.length 0 (bytesA bs) = some (bytesA bs) := by
    have := grab_all (bytesA bs)
    rwa [bytesA_len] at this
  simp [hu, sz_5, hgr, bytesA_load]
attribute [go_sem ↓] opA_sd opA_us
attribute [go_sem] sdK_nils sdK_sl usK_some us_nil
theorem c133 (s : St) (b : Nat) (bs : Str) (h : BldI s b bs) (hl : bs.length ≤ 2 ^ 39) : ∃ s', cal U 81 [.ptr b 0] s = some (.str bs, s') := by
  obtain ⟨p, v, hg, hp, hb, hv⟩ := h
  rcases hv with ⟨h0, rfl, h2⟩ | ⟨h0, h1, j, h2, h3, rfl, h5⟩
  · have : bs = [] := List.length_eq_zero_iff.1 h0
    subst this
    refine ⟨s.upto (s.next + 12), kept_go k133 (by kernel_rfl) ?_⟩
    simp +contextual only [go_sem, ↓reduceIte, r133, hg]
  · have hne : bs ≠ [] := by rintro rfl; simp at h0
    have hus := us_ptr (s := s.upto (s.next + 12)) (bs := bs) (j := j) (by rw [upto_get]; exact h5) hne hl
    obtain ⟨n, hn⟩ : ∃ n, bs.length = n + 1 := ⟨bs.length - 1, by omega⟩
    refine ⟨(s.upto (s.next + 12)).put j (.cells (bytesA bs) 5 true 0 0), kept_go k133 (by kernel_rfl) ?_⟩
    rw [hn] at hg hus
    simp +contextual only [go_sem, ↓reduceIte, r133, hg, hus]
/-! # TriggerReads: for any program and any string -/

theorem c24_ok {p : Prog} (hf : p.fits) (hc : cpR p = 0) : calV U 24 [encP p] = some (outR p) :=
  c66 (fun n h0 h1 => c75t h0 h1) c129 c133 p (ok_pv (ok_of hc)) hf hc
theorem cnorm2 : ∀ c : Cond, c.norm.norm = c.norm := by
  intro c
  induction c using Cond.ind with
  | h k a b mi ma pat nl kids ih =>
    have hk : ∀ l : List Cond, (∀ x ∈ l, x ∈ kids) → normL (normL l) = normL l := by
      intro l
      induction l with
      | nil => intro _; simp [normL]
      | cons c l ihl =>
        intro hm
        simp only [normL]
        rw [ih c (hm c (by simp)), ihl fun x hx => hm x (List.mem_cons_of_mem _ hx)]
    simp only [Cond.norm, hk kids fun _ h => h]
theorem pnorm2 (p : Prog) : p.norm.norm = p.norm := by
  have : (p.steps.map Step.norm).map Step.norm = p.steps.map Step.norm := by
    rw [List.map_map]
    refine List.map_congr_left fun s _ => ?_
    show Step.norm (Step.norm s) = Step.norm s
    unfold Step.norm
    simp only [cnorm2]
  unfold Prog.norm
  simp only [this]
theorem slr_cut (T : Str) (h : 0 < T.length) : slRS (.str T) none (some (.int .i64 ((T.length : Int) - 1))) = some (.str (T.take (T.length - 1))) := by
  have e : (T.length : Int) - 1 = ((T.length - 1 : Nat) : Int) := by omega
  rw [e]
  have h2 : T.length - 1 ≤ T.length := by omega
  simp [slRS, boundA]
theorem c1005 (p : Prog) (S : Str) : calV U 5 [encP p, .str S] = some (.bool true) := by
  have aw := awake_ok
  have q22 := c31 p 12
  have np := noAgg_encS p.nl (encSteps p.steps)
  have cp := cells_encS p.nl (encSteps p.steps)
  cases s1 : short p 12 with
  | false =>
    rw [s1] at q22
    refine pure_go k1005 (by kernel_rfl) (by simp [stills, still_encP, still]) ?_
    rw [encP_eq p] at q22 ⊢
    simp (config := { maxSteps := 2000000 }) +contextual only [go_sem, ↓reduceIte, r1005, aw, q22, np, cp, gateV_true, gateR_true, gateC_true, gateV_false, gateR_false, gateC_false]
  | true =>
  rw [s1] at q22
  have hfp := short_fits s1
  have q23 := c34 p hfp
  cases h0 : cpR p != 0 with
  | true =>
    refine pure_go k1005 (by kernel_rfl) (by simp [stills, still_encP, still]) ?_
    rw [encP_eq p] at q22 q23 ⊢
    simp (config := { maxSteps := 2000000 }) +contextual only [go_sem, ↓reduceIte, r1005, aw, q22, q23, h0, np, cp, gateV_true, gateR_true, gateC_true, gateV_false, gateR_false, gateC_false]
  | false =>
  have hc : cpR p = 0 := by simpa using h0
  rw [hc] at q23
  have h00 : ((0 : Int) != 0) = false := rfl
  cases hS : decide ((S.length : Int) > 300) with
  | true =>
    refine pure_go k1005 (by kernel_rfl) (by simp [stills, still_encP, still]) ?_
    rw [encP_eq p] at q22 q23 ⊢
    simp (config := { maxSteps := 2000000 }) +contextual only [go_sem, ↓reduceIte, r1005, aw, q22, q23, h00, hS, np, cp, gateV_true, gateR_true, gateC_true, gateV_false, gateR_false, gateC_false]
  | false =>
  have hS3 : S.length ≤ 300 := by rw [decide_eq_false_iff_not] at hS; omega
  have q25 := c33 p hfp
  have hfn := Prog.fits_norm hfp
  have q24 := c24_ok hfn (by rw [cpR_norm]; exact hc)
  rw [outR_norm, outR] at q24
  have h26 : ((26 : Int) != 0) = true := rfl
  have nn := noAgg_encS p.norm.nl (encSteps p.norm.steps)
  have cn := cells_encS p.norm.nl (encSteps p.norm.steps)
  cases hl : decide (((textR p).length : Int) > 4096) with
  | true =>
    rw [hl, br_true] at q24
    refine pure_go k1005 (by kernel_rfl) (by simp [stills, still_encP, still]) ?_
    rw [encP_eq p] at q22 q23 q25 ⊢
    rw [encP_eq p.norm] at q24 q25
    simp (config := { maxSteps := 2000000 }) +contextual only [go_sem, ↓reduceIte, r1005, aw, q22, q23, q25, q24, h00, h26, hS, np, cp, nn, cn, gateV_true, gateR_true, gateC_true, gateV_false, gateR_false, gateC_false]
  | false =>
    rw [hl, br_false] at q24
    have hl2 : (textR p).length ≤ 4096 := by rw [decide_eq_false_iff_not] at hl; omega
    have ok := ok_of hc
    have q9a := c9_print ok hc hl2
    obtain ⟨hpos, q9b⟩ := c9_cut ok hl2
    have q12 := c1012 p.norm hfn
    rw [pnorm2] at q12
    have q11 := c1011n p hfp
    have q9c := c1009 hS3
    have hw : IntKind.i64.wrap (((textR p).length : Int) - 1) = ((textR p).length : Int) - 1 := wrap_i64 (by omega) (by omega)
    have hsl := slr_cut (textR p) hpos
    have hz : (((textR p).length : Int) == 0) = false := by rw [beq_eq_false_iff_ne]; omega
    have h25 : ((25 : Int) != 25) = false := rfl
    simp only [encPA] at q9a q9b q9c
    rcases parse_facts hS3 with ⟨e1, e2⟩ | ⟨q, e1, e2, e3, e4, e5⟩
    · obtain ⟨x, hx⟩ : ∃ x, x = pans 1300 700 ⟨ptoks S, -1⟩ := ⟨_, rfl⟩
      rw [← hx] at q9c e1 e2
      obtain ⟨x1, x2, x3⟩ := x
      simp only at e1 e2 q9c
      subst e1
      have h3 : (x3 != 0) = true := by simpa using e2
      have hP : encP P0 = .agg [.int .i64 0, .nils] := rfl
      rw [hP] at q9b q9c
      refine pure_go k1005 (by kernel_rfl) (by simp [stills, still_encP, still]) ?_
      rw [encP_eq p] at q22 q23 q25 q11 ⊢
      rw [encP_eq p.norm] at q24 q25 q9a q12 q11
      simp (config := { maxSteps := 2000000 }) +contextual only [go_sem, ↓reduceIte, r1005, aw, q22, q23, q25, q24, q9a, q9b, q9c, q12, q11, h00, h26, hS, hw, hsl, hz, h25, h3, int_nn, np, cp, nn, cn, gateV_true, gateR_true, gateC_true, gateV_false, gateR_false, gateC_false]
    · rw [e1] at q9c
      have q24q := c24_ok e4 e2
      have hlq : decide (((textR q).length : Int) > 4096) = false := by rw [decide_eq_false_iff_not]; omega
      rw [outR, hlq, br_false] at q24q
      have q9q := c9_print (ok_of e2) e2 e5
      rw [e3] at q9q
      have q12q := c1012 q e4
      have q11q := c1011n q e4
      rw [e3] at q12q q11q
      simp only [encPA] at q9q q9c
      have hP : encP P0 = .agg [.int .i64 0, .nils] := rfl
      rw [hP] at q9b
      have nq := noAgg_encS q.nl (encSteps q.steps)
      have cq := cells_encS q.nl (encSteps q.steps)
      refine pure_go k1005 (by kernel_rfl) (by simp [stills, still_encP, still]) ?_
      rw [encP_eq p] at q22 q23 q25 q11 ⊢
      rw [encP_eq p.norm] at q24 q25 q9a q12 q11
      rw [encP_eq q] at q9c q24q q9q q12q q11q
      simp (config := { maxSteps := 2000000 }) +contextual only [go_sem, ↓reduceIte, r1005, aw, q22, q23, q25, q24, q9a, q9b, q9c, q12, q11, q24q, q9q, q12q, q11q, nq, cq, h00, h26, hS, hw, hsl, hz, h25, int_nn, np, cp, nn, cn, beq_self_eq_true, gateV_true, gateR_true, gateC_true, gateV_false, gateR_false, gateC_false]
end Go.Am
/-
  DERIVED: THE SHELF's CONTRACTS AT THIS DUMP, IN PLAIN WORDS (tools/lay-plain.mjs out of 'PsShelf.lean', which tools/lay-shelf.mjs wrote): THE SAME DECLARATIONS UNDER THE SAME NAMES: 'import', 'namespace', 'open', 'def', 'theorem' AND NOTHING ELSE: no command of the shelf's: FOR A HAND-IN. Each laying: the table of numbers ('.._ren') and one theorem, a field a fact of the dump's own or the kernel's comparison; each contract: ONE APPLICATION.
-/
namespace Go.Proofs
open Go.Shelf
def Tryz.l172_ren : Go.Shelf.Ren := ⟨fun | 172 => 160 | 244 => 209 | 245 => 210 | 247 => 238 | 279 => 239 | 280 => 240 | 281 => 241 | 282 => 242 | 287 => 263 | 316 => 264 | 171 => 75 | 205 => 265 | 321 => 272 | 322 => 273 | 243 => 145 | 246 => 194 | 283 => 218 | 284 => 219 | 285 => 220 | 286 => 221 | 129 => 206 | 317 => 252 | 318 => 253 | 319 => 254 | 320 => 255 | 337 => 267 | 338 => 268 | n => n, fun | 9 => 9 | 3 => 3 | 75 => 153 | 76 => 155 | 4 => 4 | 5 => 5 | 167 => 305 | 37 => 148 | 0 => 0 | 85 => 306 | 2 => 2 | 168 => 308 | 53 => 280 | 175 => 323 | 46 => 236 | 210 => 327 | 127 => 228 | 145 => 334 | 143 => 332 | 21 => 21 | 171 => 288 | 173 => 290 | 212 => 313 | 51 => 278 | 20 => 20 | 213 => 314 | 232 => 335 | 233 => 336 | 80 => 157 | n => n, fun | 15 => 2 | 16 => 3 | 17 => 1 | 18 => 4 | 19 => 5 | n => n⟩
theorem Tryz.l172 : Go.Proofs.LaysC.n172 Tryz.prog Tryz.l172_ren := {
  mixed := by kernel_rfl
  f129 := Tryz.func206.trans (congrArg some (by kernel_rfl))
  f171 := Tryz.func75.trans (congrArg some (by kernel_rfl))
  f172 := Tryz.func160.trans (congrArg some (by kernel_rfl))
  f205 := Tryz.func265.trans (congrArg some (by kernel_rfl))
  f243 := Tryz.func145.trans (congrArg some (by kernel_rfl))
  f244 := Tryz.func209.trans (congrArg some (by kernel_rfl))
  f245 := Tryz.func210.trans (congrArg some (by kernel_rfl))
  f246 := Tryz.func194.trans (congrArg some (by kernel_rfl))
  f247 := Tryz.func238.trans (congrArg some (by kernel_rfl))
  f279 := Tryz.func239.trans (congrArg some (by kernel_rfl))
  f280 := Tryz.func240.trans (congrArg some (by kernel_rfl))
  f281 := Tryz.func241.trans (congrArg some (by kernel_rfl))
  f282 := Tryz.func242.trans (congrArg some (by kernel_rfl))
  f283 := Tryz.func218.trans (congrArg some (by kernel_rfl))
  f284 := Tryz.func219.trans (congrArg some (by kernel_rfl))
  f285 := Tryz.func220.trans (congrArg some (by kernel_rfl))
  f286 := Tryz.func221.trans (congrArg some (by kernel_rfl))
  f287 := Tryz.func263.trans (congrArg some (by kernel_rfl))
  f316 := Tryz.func264.trans (congrArg some (by kernel_rfl))
  f317 := Tryz.func252.trans (congrArg some (by kernel_rfl))
  f318 := Tryz.func253.trans (congrArg some (by kernel_rfl))
  f319 := Tryz.func254.trans (congrArg some (by kernel_rfl))
  f320 := Tryz.func255.trans (congrArg some (by kernel_rfl))
  f321 := Tryz.func272.trans (congrArg some (by kernel_rfl))
  f322 := Tryz.func273.trans (congrArg some (by kernel_rfl))
  f337 := Tryz.func267.trans (congrArg some (by kernel_rfl))
  f338 := Tryz.func268.trans (congrArg some (by kernel_rfl))
  t0 := Tryz.underlying0
  a0 := Tryz.isAgg0
  z0 := Tryz.sizeOf0
  v0 := Tryz.zeroValue0
  t2 := Tryz.underlying2
  a2 := Tryz.isAgg2
  z2 := Tryz.sizeOf2
  v2 := Tryz.zeroValue2
  t3 := Tryz.underlying3
  a3 := Tryz.isAgg3
  z3 := Tryz.sizeOf3
  v3 := Tryz.zeroValue3
  t4 := Tryz.underlying4
  a4 := Tryz.isAgg4
  z4 := Tryz.sizeOf4
  v4 := Tryz.zeroValue4
  t5 := Tryz.underlying5
  a5 := Tryz.isAgg5
  z5 := Tryz.sizeOf5
  v5 := Tryz.zeroValue5
  t9 := Tryz.underlying9
  a9 := Tryz.isAgg9
  z9 := Tryz.sizeOf9
  v9 := Tryz.zeroValue9
  t20 := Tryz.underlying20
  a20 := Tryz.isAgg20
  z20 := Tryz.sizeOf20
  v20 := Tryz.zeroValue20
  t21 := Tryz.underlying21
  a21 := Tryz.isAgg21
  z21 := Tryz.sizeOf21
  v21 := Tryz.zeroValue21
  t37 := Tryz.underlying148
  a37 := Tryz.isAgg148
  z37 := Tryz.sizeOf148
  v37 := Tryz.zeroValue148
  t46 := Tryz.underlying236
  a46 := Tryz.isAgg236
  z46 := Tryz.sizeOf236
  v46 := Tryz.zeroValue236
  t51 := Tryz.underlying278
  a51 := Tryz.isAgg278
  z51 := Tryz.sizeOf278
  v51 := Tryz.zeroValue278
  t53 := Tryz.underlying280
  a53 := Tryz.isAgg280
  z53 := Tryz.sizeOf280
  v53 := Tryz.zeroValue280
  t75 := Tryz.underlying153
  a75 := Tryz.isAgg153
  z75 := Tryz.sizeOf153
  v75 := Tryz.zeroValue153
  t76 := Tryz.underlying155
  a76 := Tryz.isAgg155
  z76 := Tryz.sizeOf155
  v76 := Tryz.zeroValue155
  t85 := Tryz.underlying306
  a85 := Tryz.isAgg306
  z85 := Tryz.sizeOf306
  v85 := Tryz.zeroValue306
  t127 := Tryz.underlying228
  a127 := Tryz.isAgg228
  z127 := Tryz.sizeOf228
  v127 := Tryz.zeroValue228
  t143 := Tryz.underlying332
  a143 := Tryz.isAgg332
  z143 := Tryz.sizeOf332
  v143 := Tryz.zeroValue332
  t145 := Tryz.underlying334
  a145 := Tryz.isAgg334
  z145 := Tryz.sizeOf334
  v145 := Tryz.zeroValue334
  t167 := Tryz.underlying305
  a167 := Tryz.isAgg305
  z167 := Tryz.sizeOf305
  v167 := Tryz.zeroValue305
  t168 := Tryz.underlying308
  a168 := Tryz.isAgg308
  z168 := Tryz.sizeOf308
  v168 := Tryz.zeroValue308
  t171 := Tryz.underlying288
  a171 := Tryz.isAgg288
  z171 := Tryz.sizeOf288
  v171 := Tryz.zeroValue288
  t173 := Tryz.underlying290
  a173 := Tryz.isAgg290
  z173 := Tryz.sizeOf290
  v173 := Tryz.zeroValue290
  t175 := Tryz.underlying323
  a175 := Tryz.isAgg323
  z175 := Tryz.sizeOf323
  v175 := Tryz.zeroValue323
  t210 := Tryz.underlying327
  a210 := Tryz.isAgg327
  z210 := Tryz.sizeOf327
  v210 := Tryz.zeroValue327
  t212 := Tryz.underlying313
  a212 := Tryz.isAgg313
  z212 := Tryz.sizeOf313
  v212 := Tryz.zeroValue313
  t213 := Tryz.underlying314
  a213 := Tryz.isAgg314
  z213 := Tryz.sizeOf314
  t232 := Tryz.underlying335
  a232 := Tryz.isAgg335
  z232 := Tryz.sizeOf335
  v232 := Tryz.zeroValue335
  t233 := Tryz.underlying336
  a233 := Tryz.isAgg336
  z233 := Tryz.sizeOf336
  v233 := Tryz.zeroValue336
  g15 := by kernel_rfl
  g16 := by kernel_rfl
  g17 := by kernel_rfl
  g18 := by kernel_rfl
  g19 := by kernel_rfl
  t80 := Tryz.underlying157
  a80 := Tryz.isAgg157
  z80 := Tryz.sizeOf157
  v80 := Tryz.zeroValue157
  i0 := by kernel_rfl
  i2 := by kernel_rfl
  i3 := by kernel_rfl
  i4 := by kernel_rfl
  i5 := by kernel_rfl
  i9 := by kernel_rfl
  i20 := by kernel_rfl
  i21 := by kernel_rfl
  i37 := by kernel_rfl
  i46 := by kernel_rfl
  i51 := by kernel_rfl
  i53 := by kernel_rfl
  i75 := by kernel_rfl
  i76 := by kernel_rfl
  i80 := by kernel_rfl
  i85 := by kernel_rfl
  i127 := by kernel_rfl
  i143 := by kernel_rfl
  i145 := by kernel_rfl
  i167 := by kernel_rfl
  i168 := by kernel_rfl
  i171 := by kernel_rfl
  i173 := by kernel_rfl
  i175 := by kernel_rfl
  i210 := by kernel_rfl
  i212 := by kernel_rfl
  i232 := by kernel_rfl
  i233 := by kernel_rfl
  m15 := by kernel_rfl
  m16 := by kernel_rfl
  m17 := by kernel_rfl
  m18 := by kernel_rfl
  m19 := by kernel_rfl
  c0 := by kernel_rfl
  c2 := by kernel_rfl
  c3 := by kernel_rfl
  c4 := by kernel_rfl
  c5 := by kernel_rfl
  c9 := by kernel_rfl
  c20 := by kernel_rfl
  c21 := by kernel_rfl
  c37 := by kernel_rfl
  c46 := by kernel_rfl
  c51 := by kernel_rfl
  c53 := by kernel_rfl
  c75 := by kernel_rfl
  c76 := by kernel_rfl
  c80 := by kernel_rfl
  c85 := by kernel_rfl
  c127 := by kernel_rfl
  c143 := by kernel_rfl
  c145 := by kernel_rfl
  c167 := by kernel_rfl
  c168 := by kernel_rfl
  c171 := by kernel_rfl
  c173 := by kernel_rfl
  c175 := by kernel_rfl
  c210 := by kernel_rfl
  c212 := by kernel_rfl
  c213 := by kernel_rfl
  c232 := by kernel_rfl
  c233 := by kernel_rfl }
def Tryz.l171_ren : Go.Shelf.Ren := ⟨fun | 171 => 75 | 243 => 145 | 246 => 194 | 283 => 218 | 284 => 219 | 285 => 220 | 286 => 221 | 129 => 206 | 317 => 252 | 318 => 253 | 319 => 254 | 320 => 255 | 337 => 267 | 338 => 268 | n => n, fun | 3 => 3 | 9 => 9 | 2 => 2 | 4 => 4 | 171 => 288 | 0 => 0 | 53 => 280 | 37 => 148 | 5 => 5 | 173 => 290 | 212 => 313 | 51 => 278 | 20 => 20 | 213 => 314 | 46 => 236 | 232 => 335 | 233 => 336 | n => n, fun | 17 => 1 | 18 => 4 | 19 => 5 | n => n⟩
theorem Tryz.l171 : Go.Proofs.LaysM.n171 Tryz.prog Tryz.l171_ren := {
  mixed := by kernel_rfl
  f129 := Tryz.func206.trans (congrArg some (by kernel_rfl))
  f171 := Tryz.func75.trans (congrArg some (by kernel_rfl))
  f243 := Tryz.func145.trans (congrArg some (by kernel_rfl))
  f246 := Tryz.func194.trans (congrArg some (by kernel_rfl))
  f283 := Tryz.func218.trans (congrArg some (by kernel_rfl))
  f284 := Tryz.func219.trans (congrArg some (by kernel_rfl))
  f285 := Tryz.func220.trans (congrArg some (by kernel_rfl))
  f286 := Tryz.func221.trans (congrArg some (by kernel_rfl))
  f317 := Tryz.func252.trans (congrArg some (by kernel_rfl))
  f318 := Tryz.func253.trans (congrArg some (by kernel_rfl))
  f319 := Tryz.func254.trans (congrArg some (by kernel_rfl))
  f320 := Tryz.func255.trans (congrArg some (by kernel_rfl))
  f337 := Tryz.func267.trans (congrArg some (by kernel_rfl))
  f338 := Tryz.func268.trans (congrArg some (by kernel_rfl))
  t0 := Tryz.underlying0
  a0 := Tryz.isAgg0
  z0 := Tryz.sizeOf0
  v0 := Tryz.zeroValue0
  t2 := Tryz.underlying2
  a2 := Tryz.isAgg2
  z2 := Tryz.sizeOf2
  v2 := Tryz.zeroValue2
  t3 := Tryz.underlying3
  a3 := Tryz.isAgg3
  z3 := Tryz.sizeOf3
  v3 := Tryz.zeroValue3
  t4 := Tryz.underlying4
  a4 := Tryz.isAgg4
  z4 := Tryz.sizeOf4
  v4 := Tryz.zeroValue4
  t5 := Tryz.underlying5
  a5 := Tryz.isAgg5
  z5 := Tryz.sizeOf5
  v5 := Tryz.zeroValue5
  t9 := Tryz.underlying9
  a9 := Tryz.isAgg9
  z9 := Tryz.sizeOf9
  v9 := Tryz.zeroValue9
  t20 := Tryz.underlying20
  a20 := Tryz.isAgg20
  z20 := Tryz.sizeOf20
  v20 := Tryz.zeroValue20
  t37 := Tryz.underlying148
  a37 := Tryz.isAgg148
  z37 := Tryz.sizeOf148
  v37 := Tryz.zeroValue148
  t46 := Tryz.underlying236
  a46 := Tryz.isAgg236
  z46 := Tryz.sizeOf236
  v46 := Tryz.zeroValue236
  t51 := Tryz.underlying278
  a51 := Tryz.isAgg278
  z51 := Tryz.sizeOf278
  v51 := Tryz.zeroValue278
  t53 := Tryz.underlying280
  a53 := Tryz.isAgg280
  z53 := Tryz.sizeOf280
  v53 := Tryz.zeroValue280
  t171 := Tryz.underlying288
  a171 := Tryz.isAgg288
  z171 := Tryz.sizeOf288
  v171 := Tryz.zeroValue288
  t173 := Tryz.underlying290
  a173 := Tryz.isAgg290
  z173 := Tryz.sizeOf290
  v173 := Tryz.zeroValue290
  t212 := Tryz.underlying313
  a212 := Tryz.isAgg313
  z212 := Tryz.sizeOf313
  v212 := Tryz.zeroValue313
  t213 := Tryz.underlying314
  a213 := Tryz.isAgg314
  z213 := Tryz.sizeOf314
  t232 := Tryz.underlying335
  a232 := Tryz.isAgg335
  z232 := Tryz.sizeOf335
  v232 := Tryz.zeroValue335
  t233 := Tryz.underlying336
  a233 := Tryz.isAgg336
  z233 := Tryz.sizeOf336
  v233 := Tryz.zeroValue336
  g17 := by kernel_rfl
  g18 := by kernel_rfl
  g19 := by kernel_rfl
  i0 := by kernel_rfl
  i2 := by kernel_rfl
  i3 := by kernel_rfl
  i4 := by kernel_rfl
  i5 := by kernel_rfl
  i9 := by kernel_rfl
  i20 := by kernel_rfl
  i37 := by kernel_rfl
  i46 := by kernel_rfl
  i51 := by kernel_rfl
  i53 := by kernel_rfl
  i171 := by kernel_rfl
  i173 := by kernel_rfl
  i212 := by kernel_rfl
  i232 := by kernel_rfl
  i233 := by kernel_rfl
  m17 := by kernel_rfl
  m18 := by kernel_rfl
  m19 := by kernel_rfl }
end Go.Proofs
