/- A part of the proof of a statement of this seat: the machine on which the program is read, and what it computes; for every input. -/
import Derived.Test.YtkmaeondbkpajaaGreatDoorS14
import Derived.Test.YtkmaeondbkpajaaGreatDoorS19
import Derived.Shelf.Strconv.AtoiAll
import Derived.Shelf.Strconv.Itoa3
import Derived.Test.YtkmaeondbkpajaaGreatDoorProg
set_option linter.all false
set_option linter.all false
namespace Go.Am
open Go
variable [MaxLen]
set_option maxRecDepth 100000
set_option maxHeartbeats 8000000
/-! # The law of TriggerSources -/

theorem nm_norm : ∀ c : Cond, c.nm = true → c.norm = c := by
  intro c
  induction c using Cond.ind with
  | h kind a b mi ma pat nl kids ih =>
    intro h
    simp only [Cond.nm, Bool.and_eq_true] at h
    obtain ⟨h1, h2⟩ := h
    have hk : ∀ l : List Cond, (∀ c ∈ l, c.nm = true → c.norm = c) → nmL l = true → normL l = l := by
      intro l
      induction l with
      | nil => intro _ _; simp [normL]
      | cons c l ihl =>
        intro h3 h4
        simp only [nmL, Bool.and_eq_true] at h4
        rw [normL, h3 c (by simp) h4.1, ihl (fun x hx => h3 x (List.mem_cons_of_mem _ hx)) h4.2]
    rw [Cond.norm, hk kids ih h2, h1]
theorem ps_norm {D : Nat} {lines : Int} {L : List PS} (h : ∀ p ∈ L, okPS D p) : (Prog.mk lines true (L.map PS.st)).norm = Prog.mk lines true (L.map PS.st) := by
  have : (L.map PS.st).map Step.norm = L.map PS.st := by
    rw [List.map_map]
    refine List.map_congr_left fun p hp => ?_
    show Step.norm p.st = p.st
    unfold Step.norm PS.st
    simp only [nm_norm _ (h p hp).1]
  unfold Prog.norm
  simp only [this]
theorem pans_fn {S : Str} (hS : S.length ≤ 300) : (pans 1300 700 ⟨ptoks S, -1⟩).1.fits ∧ (pans 1300 700 ⟨ptoks S, -1⟩).1.norm = (pans 1300 700 ⟨ptoks S, -1⟩).1 := by
  have h0 : P0.fits ∧ P0.norm = P0 := ⟨⟨by simp [P0], fun s h => by simp [P0] at h⟩, rfl⟩
  have gd := ptoks_gd S (by omega) (-1)
  have ok := psteps_ok 1300 700 (plines ⟨ptoks S, -1⟩).2
  unfold pans
  cases decide ((psteps 1300 700 (plines ⟨ptoks S, -1⟩).2).2.bad ≥ 0)
  · rw [br_false]
    cases cpP (pprog 1300 700 ⟨ptoks S, -1⟩) != 0
    · rw [br_false]
      refine ⟨?_, ps_norm ok⟩
      have := psteps_fits (N := 1300) (by omega) 700 (plines ⟨ptoks S, -1⟩).2 (gd.sf (sf_plines _))
      refine ⟨by show (List.map PS.st _).length < 2 ^ 30; rw [List.length_map]; omega, fun x hx => ?_⟩
      obtain ⟨p, h1, rfl⟩ := List.mem_map.1 hx
      exact this.2 p h1
    · exact h0
  · exact h0
theorem c1003g {S : Str} {x : Prog × Int × Int} (h9 : calV U 9 [.str S] = some (encPA x)) (h10 : calV U 10 [.str S] = some (encPA x)) (hf : x.1.fits) (hn : x.1.norm = x.1)
    (h1 : (decide ((S.length : Int) > 300) && decide ((S.length : Int) ≤ 4096)) = false) (h2 : decide ((S.length : Int) > 4099) = false) : calV U 3 [.str S] = some (.bool true) := by
  refine pure_go k1003 (by kernel_rfl) rfl ?_
  have a1 := c1012 x.1 hf
  have a2 := c1011 x.1 hf
  rw [hn] at a1
  obtain ⟨⟨lines, nl, steps⟩, at_, er⟩ := x
  simp only [encPA, encP_eq] at h9 h10 a1 a2
  cases h3 : decide ((S.length : Int) > 300) with
  | false =>
    simp (config := { maxSteps := 2000000 }) +contextual only [go_sem, ↓reduceIte, r1003, awake_ok, h3, h2, h9, h10, a1, a2, cells_encS, noAgg_encS, beq_self_eq_true, gateV_true, gateR_true, gateC_true, gateV_false, gateR_false, gateC_false]
  | true =>
    rw [h3, Bool.true_and] at h1
    simp (config := { maxSteps := 2000000 }) +contextual only [go_sem, ↓reduceIte, r1003, awake_ok, h3, h1, h2, h9, h10, a1, a2, cells_encS, noAgg_encS, beq_self_eq_true, gateV_true, gateR_true, gateC_true, gateV_false, gateR_false, gateC_false]
theorem c1003e {S : Str} (h : (decide ((S.length : Int) > 300) && decide ((S.length : Int) ≤ 4096)) = true ∨ decide ((S.length : Int) > 4099) = true) : calV U 3 [.str S] = some (.bool true) := by
  refine pure_go k1003 (by kernel_rfl) rfl ?_
  cases h3 : decide ((S.length : Int) > 300) with
  | false =>
    have h2 : decide ((S.length : Int) > 4099) = true := by rw [h3, Bool.false_and] at h; simpa using h
    simp (config := { maxSteps := 2000000 }) +contextual only [go_sem, ↓reduceIte, r1003, awake_ok, h3, h2, gateV_true, gateR_true, gateC_true, gateV_false, gateR_false, gateC_false]
  | true =>
    cases h4 : decide ((S.length : Int) ≤ 4096) with
    | true => simp (config := { maxSteps := 2000000 }) +contextual only [go_sem, ↓reduceIte, r1003, awake_ok, h3, h4, gateV_true, gateR_true, gateC_true, gateV_false, gateR_false, gateC_false]
    | false =>
      have h2 : decide ((S.length : Int) > 4099) = true := by rw [h3, h4, Bool.true_and] at h; simpa using h
      simp (config := { maxSteps := 2000000 }) +contextual only [go_sem, ↓reduceIte, r1003, awake_ok, h3, h4, h2, gateV_true, gateR_true, gateC_true, gateV_false, gateR_false, gateC_false]
theorem c1003 (S : Str) : calV U 3 [.str S] = some (.bool true) := by
  cases h2 : decide ((S.length : Int) > 4099) with
  | true => exact c1003e (.inr h2)
  | false =>
    cases h1 : (decide ((S.length : Int) > 300) && decide ((S.length : Int) ≤ 4096)) with
    | true => exact c1003e (.inl h1)
    | false =>
      by_cases hS : S.length ≤ 300
      · obtain ⟨hf, hn⟩ := pans_fn hS
        exact c1003g (c1009 hS) (by rw [c1010 hS, ans_eq (toks_Rel S)]) hf hn h1 h2
      · have hS : 4096 < S.length := by
          rw [Bool.and_eq_false_iff, decide_eq_false_iff_not, decide_eq_false_iff_not] at h1
          omega
        exact c1003g (x := (P0, 0, 26)) (c1009l hS) (c1010l hS) ⟨by simp [P0], fun s h => by simp [P0] at h⟩ rfl h1 h2
end Go.Am
/-
  DERIVED: THE SHELF's CONTRACTS AT THIS DUMP, IN PLAIN WORDS (tools/lay-plain.mjs out of 'PsShelf.lean', which tools/lay-shelf.mjs wrote): THE SAME DECLARATIONS UNDER THE SAME NAMES: 'import', 'namespace', 'open', 'def', 'theorem' AND NOTHING ELSE: no command of the shelf's: FOR A HAND-IN. Each laying: the table of numbers ('.._ren') and one theorem, a field a fact of the dump's own or the kernel's comparison; each contract: ONE APPLICATION.
-/
namespace Go.Proofs
open Go.Shelf
def Tryz.l172_ren : Go.Shelf.Ren := ⟨fun | 172 => 160 | 244 => 209 | 245 => 210 | 247 => 238 | 279 => 239 | 280 => 240 | 281 => 241 | 282 => 242 | 287 => 263 | 316 => 264 | 171 => 75 | 205 => 265 | 321 => 272 | 322 => 273 | 243 => 145 | 246 => 194 | 283 => 218 | 284 => 219 | 285 => 220 | 286 => 221 | 129 => 206 | 317 => 252 | 318 => 253 | 319 => 254 | 320 => 255 | 337 => 267 | 338 => 268 | n => n, fun | 9 => 9 | 3 => 3 | 75 => 153 | 76 => 155 | 4 => 4 | 5 => 5 | 167 => 305 | 37 => 148 | 0 => 0 | 85 => 306 | 2 => 2 | 168 => 308 | 53 => 280 | 175 => 323 | 46 => 236 | 210 => 327 | 127 => 228 | 145 => 334 | 143 => 332 | 21 => 21 | 171 => 288 | 173 => 290 | 212 => 313 | 51 => 278 | 20 => 20 | 213 => 314 | 232 => 335 | 233 => 336 | 80 => 157 | n => n, fun | 15 => 2 | 16 => 3 | 17 => 1 | 18 => 4 | 19 => 5 | n => n⟩
theorem Tryz.l172 : Go.Proofs.LaysC.n172 Tryz.prog Tryz.l172_ren := {
  mixed := by kernel_rfl
  f129 := Tryz.func206.trans (congrArg some (by kernel_rfl))
  f171 := Tryz.func75.trans (congrArg some (by kernel_rfl))
  f172 := Tryz.func160.trans (congrArg some (by kernel_rfl))
  f205 := Tryz.func265.trans (congrArg some (by kernel_rfl))
  f243 := Tryz.func145.trans (congrArg some (by kernel_rfl))
  f244 := Tryz.func209.trans (congrArg some (by kernel_rfl))
  f245 := Tryz.func210.trans (congrArg some (by kernel_rfl))
  f246 := Tryz.func194.trans (congrArg some (by kernel_rfl))
  f247 := Tryz.func238.trans (congrArg some (by kernel_rfl))
  f279 := Tryz.func239.trans (congrArg some (by kernel_rfl))
  f280 := Tryz.func240.trans (congrArg some (by kernel_rfl))
  f281 := Tryz.func241.trans (congrArg some (by kernel_rfl))
  f282 := Tryz.func242.trans (congrArg some (by kernel_rfl))
  f283 := Tryz.func218.trans (congrArg some (by kernel_rfl))
  f284 := Tryz.func219.trans (congrArg some (by kernel_rfl))
  f285 := Tryz.func220.trans (congrArg some (by kernel_rfl))
  f286 := Tryz.func221.trans (congrArg some (by kernel_rfl))
  f287 := Tryz.func263.trans (congrArg some (by kernel_rfl))
  f316 := Tryz.func264.trans (congrArg some (by kernel_rfl))
  f317 := Tryz.func252.trans (congrArg some (by kernel_rfl))
  f318 := Tryz.func253.trans (congrArg some (by kernel_rfl))
  f319 := Tryz.func254.trans (congrArg some (by kernel_rfl))
  f320 := Tryz.func255.trans (congrArg some (by kernel_rfl))
  f321 := Tryz.func272.trans (congrArg some (by kernel_rfl))
  f322 := Tryz.func273.trans (congrArg some (by kernel_rfl))
  f337 := Tryz.func267.trans (congrArg some (by kernel_rfl))
  f338 := Tryz.func268.trans (congrArg some (by kernel_rfl))
  t0 := Tryz.underlying0
  a0 := Tryz.isAgg0
  z0 := Tryz.sizeOf0
  v0 := Tryz.zeroValue0
  t2 := Tryz.underlying2
  a2 := Tryz.isAgg2
  z2 := Tryz.sizeOf2
  v2 := Tryz.zeroValue2
  t3 := Tryz.underlying3
  a3 := Tryz.isAgg3
  z3 := Tryz.sizeOf3
  v3 := Tryz.zeroValue3
  t4 := Tryz.underlying4
  a4 := Tryz.isAgg4
  z4 := Tryz.sizeOf4
  v4 := Tryz.zeroValue4
  t5 := Tryz.underlying5
  a5 := Tryz.isAgg5
  z5 := Tryz.sizeOf5
  v5 := Tryz.zeroValue5
  t9 := Tryz.underlying9
  a9 := Tryz.isAgg9
  z9 := Tryz.sizeOf9
  v9 := Tryz.zeroValue9
  t20 := Tryz.underlying20
  a20 := Tryz.isAgg20
  z20 := Tryz.sizeOf20
  v20 := Tryz.zeroValue20
  t21 := Tryz.underlying21
  a21 := Tryz.isAgg21
  z21 := Tryz.sizeOf21
  v21 := Tryz.zeroValue21
  t37 := Tryz.underlying148
  a37 := Tryz.isAgg148
  z37 := Tryz.sizeOf148
  v37 := Tryz.zeroValue148
  t46 := Tryz.underlying236
  a46 := Tryz.isAgg236
  z46 := Tryz.sizeOf236
  v46 := Tryz.zeroValue236
  t51 := Tryz.underlying278
  a51 := Tryz.isAgg278
  z51 := Tryz.sizeOf278
  v51 := Tryz.zeroValue278
  t53 := Tryz.underlying280
  a53 := Tryz.isAgg280
  z53 := Tryz.sizeOf280
  v53 := Tryz.zeroValue280
  t75 := Tryz.underlying153
  a75 := Tryz.isAgg153
  z75 := Tryz.sizeOf153
  v75 := Tryz.zeroValue153
  t76 := Tryz.underlying155
  a76 := Tryz.isAgg155
  z76 := Tryz.sizeOf155
  v76 := Tryz.zeroValue155
  t85 := Tryz.underlying306
  a85 := Tryz.isAgg306
  z85 := Tryz.sizeOf306
  v85 := Tryz.zeroValue306
  t127 := Tryz.underlying228
  a127 := Tryz.isAgg228
  z127 := Tryz.sizeOf228
  v127 := Tryz.zeroValue228
  t143 := Tryz.underlying332
  a143 := Tryz.isAgg332
  z143 := Tryz.sizeOf332
  v143 := Tryz.zeroValue332
  t145 := Tryz.underlying334
  a145 := Tryz.isAgg334
  z145 := Tryz.sizeOf334
  v145 := Tryz.zeroValue334
  t167 := Tryz.underlying305
  a167 := Tryz.isAgg305
  z167 := Tryz.sizeOf305
  v167 := Tryz.zeroValue305
  t168 := Tryz.underlying308
  a168 := Tryz.isAgg308
  z168 := Tryz.sizeOf308
  v168 := Tryz.zeroValue308
  t171 := Tryz.underlying288
  a171 := Tryz.isAgg288
  z171 := Tryz.sizeOf288
  v171 := Tryz.zeroValue288
  t173 := Tryz.underlying290
  a173 := Tryz.isAgg290
  z173 := Tryz.sizeOf290
  v173 := Tryz.zeroValue290
  t175 := Tryz.underlying323
  a175 := Tryz.isAgg323
  z175 := Tryz.sizeOf323
  v175 := Tryz.zeroValue323
  t210 := Tryz.underlying327
  a210 := Tryz.isAgg327
  z210 := Tryz.sizeOf327
  v210 := Tryz.zeroValue327
  t212 := Tryz.underlying313
  a212 := Tryz.isAgg313
  z212 := Tryz.sizeOf313
  v212 := Tryz.zeroValue313
  t213 := Tryz.underlying314
  a213 := Tryz.isAgg314
  z213 := Tryz.sizeOf314
  t232 := Tryz.underlying335
  a232 := Tryz.isAgg335
  z232 := Tryz.sizeOf335
  v232 := Tryz.zeroValue335
  t233 := Tryz.underlying336
  a233 := Tryz.isAgg336
  z233 := Tryz.sizeOf336
  v233 := Tryz.zeroValue336
  g15 := by kernel_rfl
  g16 := by kernel_rfl
  g17 := by kernel_rfl
  g18 := by kernel_rfl
  g19 := by kernel_rfl
  t80 := Tryz.underlying157
  a80 := Tryz.isAgg157
  z80 := Tryz.sizeOf157
  v80 := Tryz.zeroValue157
  i0 := by kernel_rfl
  i2 := by kernel_rfl
  i3 := by kernel_rfl
  i4 := by kernel_rfl
  i5 := by kernel_rfl
  i9 := by kernel_rfl
  i20 := by kernel_rfl
  i21 := by kernel_rfl
  i37 := by kernel_rfl
  i46 := by kernel_rfl
  i51 := by kernel_rfl
  i53 := by kernel_rfl
  i75 := by kernel_rfl
  i76 := by kernel_rfl
  i80 := by kernel_rfl
  i85 := by kernel_rfl
  i127 := by kernel_rfl
  i143 := by kernel_rfl
  i145 := by kernel_rfl
  i167 := by kernel_rfl
  i168 := by kernel_rfl
  i171 := by kernel_rfl
  i173 := by kernel_rfl
  i175 := by kernel_rfl
  i210 := by kernel_rfl
  i212 := by kernel_rfl
  i232 := by kernel_rfl
  i233 := by kernel_rfl
  m15 := by kernel_rfl
  m16 := by kernel_rfl
  m17 := by kernel_rfl
  m18 := by kernel_rfl
  m19 := by kernel_rfl
  c0 := by kernel_rfl
  c2 := by kernel_rfl
  c3 := by kernel_rfl
  c4 := by kernel_rfl
  c5 := by kernel_rfl
  c9 := by kernel_rfl
  c20 := by kernel_rfl
  c21 := by kernel_rfl
  c37 := by kernel_rfl
  c46 := by kernel_rfl
  c51 := by kernel_rfl
  c53 := by kernel_rfl
  c75 := by kernel_rfl
  c76 := by kernel_rfl
  c80 := by kernel_rfl
  c85 := by kernel_rfl
  c127 := by kernel_rfl
  c143 := by kernel_rfl
  c145 := by kernel_rfl
  c167 := by kernel_rfl
  c168 := by kernel_rfl
  c171 := by kernel_rfl
  c173 := by kernel_rfl
  c175 := by kernel_rfl
  c210 := by kernel_rfl
  c212 := by kernel_rfl
  c213 := by kernel_rfl
  c232 := by kernel_rfl
  c233 := by kernel_rfl }
def Tryz.l171_ren : Go.Shelf.Ren := ⟨fun | 171 => 75 | 243 => 145 | 246 => 194 | 283 => 218 | 284 => 219 | 285 => 220 | 286 => 221 | 129 => 206 | 317 => 252 | 318 => 253 | 319 => 254 | 320 => 255 | 337 => 267 | 338 => 268 | n => n, fun | 3 => 3 | 9 => 9 | 2 => 2 | 4 => 4 | 171 => 288 | 0 => 0 | 53 => 280 | 37 => 148 | 5 => 5 | 173 => 290 | 212 => 313 | 51 => 278 | 20 => 20 | 213 => 314 | 46 => 236 | 232 => 335 | 233 => 336 | n => n, fun | 17 => 1 | 18 => 4 | 19 => 5 | n => n⟩
theorem Tryz.l171 : Go.Proofs.LaysM.n171 Tryz.prog Tryz.l171_ren := {
  mixed := by kernel_rfl
  f129 := Tryz.func206.trans (congrArg some (by kernel_rfl))
  f171 := Tryz.func75.trans (congrArg some (by kernel_rfl))
  f243 := Tryz.func145.trans (congrArg some (by kernel_rfl))
  f246 := Tryz.func194.trans (congrArg some (by kernel_rfl))
  f283 := Tryz.func218.trans (congrArg some (by kernel_rfl))
  f284 := Tryz.func219.trans (congrArg some (by kernel_rfl))
  f285 := Tryz.func220.trans (congrArg some (by kernel_rfl))
  f286 := Tryz.func221.trans (congrArg some (by kernel_rfl))
  f317 := Tryz.func252.trans (congrArg some (by kernel_rfl))
  f318 := Tryz.func253.trans (congrArg some (by kernel_rfl))
  f319 := Tryz.func254.trans (congrArg some (by kernel_rfl))
  f320 := Tryz.func255.trans (congrArg some (by kernel_rfl))
  f337 := Tryz.func267.trans (congrArg some (by kernel_rfl))
  f338 := Tryz.func268.trans (congrArg some (by kernel_rfl))
  t0 := Tryz.underlying0
  a0 := Tryz.isAgg0
  z0 := Tryz.sizeOf0
  v0 := Tryz.zeroValue0
  t2 := Tryz.underlying2
  a2 := Tryz.isAgg2
  z2 := Tryz.sizeOf2
  v2 := Tryz.zeroValue2
  t3 := Tryz.underlying3
  a3 := Tryz.isAgg3
  z3 := Tryz.sizeOf3
  v3 := Tryz.zeroValue3
  t4 := Tryz.underlying4
  a4 := Tryz.isAgg4
  z4 := Tryz.sizeOf4
  v4 := Tryz.zeroValue4
  t5 := Tryz.underlying5
  a5 := Tryz.isAgg5
  z5 := Tryz.sizeOf5
  v5 := Tryz.zeroValue5
  t9 := Tryz.underlying9
  a9 := Tryz.isAgg9
  z9 := Tryz.sizeOf9
  v9 := Tryz.zeroValue9
  t20 := Tryz.underlying20
  a20 := Tryz.isAgg20
  z20 := Tryz.sizeOf20
  v20 := Tryz.zeroValue20
  t37 := Tryz.underlying148
  a37 := Tryz.isAgg148
  z37 := Tryz.sizeOf148
  v37 := Tryz.zeroValue148
  t46 := Tryz.underlying236
  a46 := Tryz.isAgg236
  z46 := Tryz.sizeOf236
  v46 := Tryz.zeroValue236
  t51 := Tryz.underlying278
  a51 := Tryz.isAgg278
  z51 := Tryz.sizeOf278
  v51 := Tryz.zeroValue278
  t53 := Tryz.underlying280
  a53 := Tryz.isAgg280
  z53 := Tryz.sizeOf280
  v53 := Tryz.zeroValue280
  t171 := Tryz.underlying288
  a171 := Tryz.isAgg288
  z171 := Tryz.sizeOf288
  v171 := Tryz.zeroValue288
  t173 := Tryz.underlying290
  a173 := Tryz.isAgg290
  z173 := Tryz.sizeOf290
  v173 := Tryz.zeroValue290
  t212 := Tryz.underlying313
  a212 := Tryz.isAgg313
  z212 := Tryz.sizeOf313
  v212 := Tryz.zeroValue313
  t213 := Tryz.underlying314
  a213 := Tryz.isAgg314
  z213 := Tryz.sizeOf314
  t232 := Tryz.underlying335
  a232 := Tryz.isAgg335
  z232 := Tryz.sizeOf335
  v232 := Tryz.zeroValue335
  t233 := Tryz.underlying336
  a233 := Tryz.isAgg336
  z233 := Tryz.sizeOf336
  v233 := Tryz.zeroValue336
  g17 := by kernel_rfl
  g18 := by kernel_rfl
  g19 := by kernel_rfl
  i0 := by kernel_rfl
  i2 := by kernel_rfl
  i3 := by kernel_rfl
  i4 := by kernel_rfl
  i5 := by kernel_rfl
  i9 := by kernel_rfl
  i20 := by kernel_rfl
  i37 := by kernel_rfl
  i46 := by kernel_rfl
  i51 := by kernel_rfl
  i53 := by kernel_rfl
  i171 := by kernel_rfl
  i173 := by kernel_rfl
  i212 := by kernel_rfl
  i232 := by kernel_rfl
  i233 := by kernel_rfl
  m17 := by kernel_rfl
  m18 := by kernel_rfl
  m19 := by kernel_rfl }
end Go.Proofs
