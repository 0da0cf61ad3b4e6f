/- A part of the proof of a statement of this seat: the machine on which the program is read, and what it computes; for every input. -/
import Derived.Test.YtgbhangfciiepaaGreatDoorC10
import Derived.Test.YtgbhangfciiepaaGreatDoorC05
set_option linter.all false
set_option linter.all false
namespace Go.Am
open Go
variable [MaxLen]
set_option maxRecDepth 100000
set_option maxHeartbeats 8000000
/-! # TopClipLines: plain facts -/
theorem fin_lt {b : Nat} (h : fin32 b = true) : b % 2 ^ 31 < 255 * 2 ^ 23 := by unfold fin32 at h; rwa [Nat.blt_eq] at h
theorem geF_iff {a b : Nat} (ha : fin32 a = true) (hb : fin32 b = true) : geF a b = true ↔ valF b ≤ valF a := by
  have h : FloatKind.f32.format.order a b = some (compare (valF a) (valF b)) := order_fin (fin_lt ha) (fin_lt hb)
  unfold geF
  rw [h]
  rcases Int.lt_trichotomy (valF a) (valF b) with h | h | h
  · rw [(Int.compare_eq_lt).2 h]; simp; omega
  · rw [h, (Int.compare_eq_eq).2 rfl]; simp
  · rw [(Int.compare_eq_gt).2 h]; simp; omega
theorem leF_iff {a b : Nat} (ha : fin32 a = true) (hb : fin32 b = true) : leF a b = true ↔ valF a ≤ valF b := by
  have h : FloatKind.f32.format.order a b = some (compare (valF a) (valF b)) := order_fin (fin_lt ha) (fin_lt hb)
  unfold leF
  rw [h]
  rcases Int.lt_trichotomy (valF a) (valF b) with h | h | h
  · rw [(Int.compare_eq_lt).2 h]; simp; omega
  · rw [h, (Int.compare_eq_eq).2 rfl]; simp
  · rw [(Int.compare_eq_gt).2 h]; simp; omega
theorem Lv.apart {lo hi f : Nat} (lv : Lv lo hi) (hf : fin32 f = true) (h : geF f hi = true) : leF f lo = false := by
  have h1 := (geF_iff hf lv.fhi).1 h
  have h2 : ¬ valF hi ≤ valF lo := fun h => by have := lv.lt; rw [(geF_iff lv.flo lv.fhi).2 h] at this; cases this
  rw [Bool.eq_false_iff]
  intro h3
  have := (leF_iff hf lv.flo).1 h3
  omega
theorem geF_posZ (a b : Nat) : geF (posZ a) b = geF a b := by
  unfold geF
  have : FloatKind.f32.format.order (posZ a) b = FloatKind.f32.format.order a b := (posZ_order a b).1
  rw [this]
theorem leF_posZ (a b : Nat) : leF (posZ a) b = leF a b := by
  unfold leF
  have : FloatKind.f32.format.order (posZ a) b = FloatKind.f32.format.order a b := (posZ_order a b).1
  rw [this]
theorem fin_posZ {a : Nat} (h : fin32 a = true) : fin32 (posZ a) = true := by
  unfold posZ
  split
  · rfl
  · exact h
def decF (lo hi f : Nat) : Bool := geF f hi || leF f lo
theorem step_dec {lo hi f : Nat} (h : decF lo hi f = true) (v w : Bool) : stepF lo hi v f = stepF lo hi w f := by
  unfold decF at h
  unfold stepF
  cases h1 : geF f hi
  · rw [h1, Bool.false_or] at h
    rw [h]; rfl
  · rfl
theorem step_posZ (lo hi : Nat) (v : Bool) (f : Nat) : stepF lo hi v (posZ f) = stepF lo hi v f := by
  unfold stepF; rw [geF_posZ, leF_posZ]
theorem dec_posZ (lo hi f : Nat) : decF lo hi (posZ f) = decF lo hi f := by unfold decF; rw [geF_posZ, leF_posZ]
/-- what has been decided after k samples -/
def dcd (lo hi : Nat) (l : List Nat) (k : Nat) : Bool := (l.take k).any (decF lo hi)
theorem dcd_succ {lo hi : Nat} {l : List Nat} {k : Nat} (h : k < l.length) : dcd lo hi l (k + 1) = (dcd lo hi l k || decF lo hi l[k]) := by
  unfold dcd
  rw [List.take_succ_eq_append_getElem h, List.any_append]; simp
/-- once decided, the line of the aligned samples is the line of all -/
theorem vAt_same {lo hi : Nat} {r al : List Nat} {b : Nat} (hal : ∀ k (h : k < al.length), ∃ h2 : b + k < r.length, al[k] = posZ (r[b + k])) : ∀ k, k ≤ al.length → dcd lo hi al k = true → vAt lo hi al k = vAt lo hi r (b + k)
  | 0, _, h => by simp [dcd] at h
  | k + 1, hk, h => by
    have hk1 : k < al.length := by omega
    obtain ⟨h2, h3⟩ := hal k hk1
    have e : b + (k + 1) = (b + k) + 1 := by omega
    rw [dcd_succ hk1] at h
    rw [vAt_succ hk1, e, vAt_succ h2, h3, step_posZ]
    cases hd : dcd lo hi al k with
    | true => rw [vAt_same hal k (by omega) hd]
    | false =>
      rw [hd, Bool.false_or, h3, dec_posZ] at h
      exact step_dec h _ _
/-- how far into the record the aligned samples begin -/
def bgn (S : List Int) (i : Nat) : Nat → Int
  | 0 => 0
  | k + 1 => max (bgn S i k) (S.getD i 0 - S.getD k 0)
theorem bgn_eq (S : List Int) (i : Nat) : ∀ k, bgn S i (k + 1) = max 0 (S.getD i 0 + frm S (k + 1))
  | 0 => by rw [bgn, bgn, frm, frm]; omega
  | k + 1 => by
    rw [bgn, bgn_eq S i k]
    show max (max 0 (S.getD i 0 + frm S (k + 1))) (S.getD i 0 - S.getD (k + 1) 0) = max 0 (S.getD i 0 + max (frm S (k + 1)) (-(S.getD (k + 1) 0)))
    generalize frm S (k + 1) = x
    omega
theorem bgn_at {S : List Int} {i n : Nat} (h : i < n) : bgn S i n = frm S n + S.getD i 0 := by
  obtain ⟨k, rfl⟩ : ∃ k, n = k + 1 := ⟨n - 1, by omega⟩
  have := frm_ge (S := S) h
  rw [bgn_eq]; omega
theorem bgn_in {R : List (Bool × List Nat)} {S : List Int} (g : Good2 R S) {i : Nat} (hi : i < R.length) : ∀ k, k ≤ R.length → 0 ≤ bgn S i k ∧ bgn S i k ≤ 2000
  | 0, _ => by rw [bgn]; omega
  | k + 1, h => by
    have := bgn_in g hi k (by omega)
    have := g.skA k (by omega)
    have := g.skA i hi
    rw [bgn]; omega
variable {R : List (Bool × List Nat)} {S : List Int}
/-- how many samples the aligned records have -/
def alen (R : List (Bool × List Nat)) (S : List Int) : Nat := (tom R S R.length - frm S R.length).toNat
theorem algn_len (g : Good2 R S) (hlt : frm S R.length < tom R S R.length) {i : Nat} (hi : i < R.length) : (algn R S i).length = alen R S := by
  have b1 := frm_ge (S := S) hi
  have b2 := tom_le (R := R) (S := S) hi
  unfold algn alen
  rw [List.length_map, List.length_drop, List.length_take]
  omega
theorem algn_at (g : Good2 R S) (hlt : frm S R.length < tom R S R.length) {i : Nat} (hi : i < R.length) : ∀ k (h : k < (algn R S i).length), ∃ h2 : (bgn S i R.length).toNat + k < R[i].2.length, (algn R S i)[k] = posZ (R[i].2[(bgn S i R.length).toNat + k]) := by
  intro k h
  have hl := algn_len g hlt hi
  have b1 := frm_ge (S := S) hi
  have b2 := tom_le (R := R) (S := S) hi
  have hb := bgn_at (S := S) hi
  rw [getD_at _ hi] at b2
  have hal : alen R S = (tom R S R.length - frm S R.length).toNat := rfl
  refine ⟨by rw [hb]; omega, ?_⟩
  unfold algn
  simp only [getD_at _ hi, List.getElem_map, List.getElem_drop, List.getElem_take]
  congr 2
  rw [hb]
theorem algn_fin (g : Good2 R S) (hlt : frm S R.length < tom R S R.length) {i : Nat} (hi : i < R.length) : ∀ b ∈ algn R S i, fin32 b = true := by
  intro b hb
  obtain ⟨x, hx, rfl⟩ := List.mem_map.1 hb
  have hm := List.mem_of_mem_take (List.mem_of_mem_drop hx)
  rw [getD_at _ hi] at hm
  exact fin_posZ ((g.fin _ (List.getElem_mem hi)).2 x hm)
theorem alen_le (g : Good2 R S) (hlt : frm S R.length < tom R S R.length) : 0 < alen R S ∧ alen R S ≤ 4096 := by
  have b1 := frm_ge (S := S) g.pos
  have b2 := tom_le (R := R) (S := S) g.pos
  have b3 := g.lenA 0 g.pos
  unfold alen
  omega
theorem dig_at {lo hi : Nat} {l : List Nat} {k : Nat} (h : k < l.length) : (dig lo hi l)[k]'(by rw [dig_len]; exact h) = vAt lo hi l (k + 1) := by
  simp [dig]
/-- the lines of the aligned records -/
def lns (lo hi : Nat) (R : List (Bool × List Nat)) (S : List Int) (n : Nat) : List (List Bool) := (List.range n).map fun i => dig lo hi (algn R S i)
theorem lns_len (lo hi n : Nat) : (lns lo hi R S n).length = n := by simp [lns]
theorem lns_at {lo hi n i : Nat} (h : i < n) : (lns lo hi R S n)[i]'(by rw [lns_len]; exact h) = dig lo hi (algn R S i) := by simp [lns]
theorem lns_ok (g : Good2 R S) (hlt : frm S R.length < tom R S R.length) (lo hi : Nat) : Lns (lns lo hi R S R.length) (alen R S) := by
  refine ⟨by rw [lns_len]; exact g.pos, by rw [lns_len]; have := g.le; omega, fun l hl => ?_, (alen_le g hlt).2⟩
  obtain ⟨i, hi', rfl⟩ := List.mem_map.1 hl
  rw [dig_len, algn_len g hlt (List.mem_range.1 hi')]
/-- above High a line is true, below Low false -/
theorem vAt_hi {lo hi : Nat} {l : List Nat} (lv : Lv lo hi) {k : Nat} (h : k < l.length) (hf : fin32 l[k] = true) : (vAt lo hi l (k + 1) = true → leF l[k] lo = false) ∧ (vAt lo hi l (k + 1) = false → geF l[k] hi = false) := by
  rw [vAt_succ h]
  unfold stepF
  cases h1 : geF l[k] hi with
  | true => exact ⟨fun _ => lv.apart hf h1, fun h => (by cases h)⟩
  | false =>
    cases h2 : leF l[k] lo with
    | true => exact ⟨fun h => (by cases h), fun _ => rfl⟩
    | false => exact ⟨fun _ => rfl, fun _ => rfl⟩
end Go.Am
set_option linter.all false
namespace Go.Am
open Go
variable [MaxLen]
set_option maxRecDepth 100000
set_option maxHeartbeats 8000000
/-! # Calls with what lies in memory -/
def encA (l : List Nat) : AV := encS true (flts l)
theorem mapO_idx {f : AV → Option AV} : ∀ {vs : List AV} {n : Nat} {g : Nat → AV}, vs.length = n → (∀ j u, vs[j]? = some u → f u = some (g j)) → mapO f vs = some ((List.range n).map g)
  | [], n, g, h, _ => by subst h; rfl
  | v :: vs, n, g, h, hf => by
    subst h
    have h0 := hf 0 v rfl
    have ih := mapO_idx (f := f) (vs := vs) (n := vs.length) (g := fun j => g (j + 1)) rfl fun j u hu => hf (j + 1) u hu
    rw [mapO, h0, ih, List.length_cons, List.range_succ_eq_map, List.map_cons, List.map_map]
    rfl
theorem mapO_idxB {f : AV → Option AV} {vs : List AV} {n : Nat} {g : Nat → AV} (h : vs.length = n) (hf : ∀ j, j < n → ∃ u, vs[j]? = some u ∧ f u = some (g j)) : mapO f vs = some ((List.range n).map g) :=
  mapO_idx h fun j u hu => by
    have hj : j < n := by rw [← h]; exact (List.getElem?_eq_some_iff.1 hu).1
    obtain ⟨w, h1, h2⟩ := hf j hj
    rw [hu] at h1; cases h1; exact h2
theorem RowI.rlen {s : St} {B : Nat} {t : TypeId} {i : Nat} {cs : List AV} {v : AV} (h : RowI s B t 1 i cs v) : cs.length = i := by
  rcases h with ⟨h1, _, h3⟩ | ⟨_, h2, _⟩
  · rw [h3, h1]; rfl
  · omega
theorem RowI.open {s : St} {B : Nat} {t : TypeId} {i : Nat} {cs : List AV} {v : AV} (h : RowI s B t 1 i cs v) (hi : 0 < i) : ∃ b, B ≤ b ∧ b < s.next ∧ v = .sl b 0 i none 1 ∧ s.get b = some (.cells cs t false 0 0) := by
  rcases h with ⟨h1, _, h3⟩ | ⟨_, _, b, h3, h4, h5, h6⟩
  · omega
  · exact ⟨b, h3, h4, h5, h6⟩
theorem noAgg_flts (l : List Nat) : (flts l).all noAgg = true := by
  rw [List.all_eq_true]; intro x hx
  obtain ⟨b, _, rfl⟩ := List.mem_map.1 hx; rfl
theorem frzN_flts (s : St) (d : Nat) (l : List Nat) : mapO (frzN U s (d + 1)) (flts l) = some (flts l) := mapO_self fun x hx => by
  obtain ⟨b, _, rfl⟩ := List.mem_map.1 hx; rfl
theorem frz_flts (s : St) (d : Nat) (l : List Nat) : mapO (frz U s (d + 1)) (flts l) = some (flts l) := mapO_self fun x hx => by
  obtain ⟨b, _, rfl⟩ := List.mem_map.1 hx; rfl
variable {R : List (Bool × List Nat)} {S : List Int}
/-- what Aligned answers -/
def ansA (R : List (Bool × List Nat)) (S : List Int) : AV :=
  if frm S R.length ≥ tom R S R.length then .tup [.nils, .int .i64 16] else .tup [.fz ((List.range R.length).map fun i => encA (algn R S i)), .int .i64 0]
theorem cz7 (g : Good2 R S) (hb : ∀ r ∈ R, ∀ b ∈ r.2, b < 2 ^ 32) (s : St) : calZ U 7 (some [.fz (recs R), .fz (ints S)]) s = some (ansA R S, s) := by
  refine calZ_some U s ?_
  unfold ansA
  have h := o7 (fin := finB U [.tmp 4, .tmp 5]) (Post := fun x => (frm S R.length ≥ tom R S R.length ∧ ∃ s', x = some (AV.tup [.nils, .int .i64 16], s')) ∨ (frm S R.length < tom R S R.length ∧ ∃ v vs s' B, x = some (AV.tup [v, .int .i64 0], s') ∧ RowI s' B 30 1 R.length vs v ∧ (∀ j (h : j < R.length), ∃ u B', vs[j]? = some u ∧ RowI s' B' 24 1 (algn R S j).length (flts (algn R S j)) u))) g hb
    (fun hge e s h4 h5 => .inl ⟨hge, s, by simp +contextual only [go_sem, ↓reduceIte, h4, h5]⟩)
    (fun hlt e s v vs B h4 h5 row inner => .inr ⟨hlt, v, vs, s, B, by simp +contextual only [go_sem, ↓reduceIte, h4, h5], row, inner⟩)
  unfold callQ
  rcases h with ⟨hge, s', h1⟩ | ⟨hlt, v, vs, s', B, h1, row, inner⟩
  · rw [callB_k k7 h1, if_pos hge]
    rfl
  · rw [callB_k k7 h1, if_neg (by omega)]
    simp only [Bool.false_eq_true, if_false]
    have hlen := row.rlen
    have hvp : vs.all noAgg = true := by
      rw [List.all_eq_true]; intro x hx
      obtain ⟨j, hj⟩ := List.getElem?_of_mem hx
      obtain ⟨u, B', h2, h3⟩ := inner j (by rw [← hlen]; exact (List.getElem?_eq_some_iff.1 hj).1)
      rw [hj] at h2; cases h2
      exact h3.noAgg
    obtain ⟨b, _, _, rfl, hg⟩ := row.open g.pos
    have hd : frzDepth = 3998 + 2 := rfl
    have hfl : flat (.tup [.sl b 0 R.length none 1, .int .i64 0]) = false := rfl
    rw [hfl, hd, if_neg (by decide)]
    refine frzN_pair ?_
    refine frzN_slR hlen.symm hg ag_30 sz_30 hvp (mapO_idxB hlen fun j hj => ?_)
    obtain ⟨u, B', h2, h3⟩ := inner j hj
    refine ⟨u, h2, ?_⟩
    have h4 : RowI s' B' 24 1 (flts (algn R S j)).length (flts (algn R S j)) u := by rw [flts_len]; exact h3
    exact h4.frzN_one ag_24 sz_24 (noAgg_flts _) (d := 3997) (frzN_flts _ _ _)
/-- a copy of a record -/
def OwnR (s : St) (u : AV) (r : List Nat) : Prop := ∃ b cap, b < s.next ∧ u = .sl b 0 r.length cap 1 ∧ s.get b = some (.cells (flts r) 24 false 0 0)
def OwnI (s : St) (u : AV) (r : List Int) : Prop := ∃ b cap, b < s.next ∧ u = .sl b 0 r.length cap 1 ∧ s.get b = some (.cells (ints r) 3 false 0 0)
theorem OwnR.frz {s : St} {u : AV} {r : List Nat} (h : OwnR s u r) (d : Nat) : Go.Am.frz U s (d + 2) u = some (.fz (flts r)) := by
  obtain ⟨b, cap, _, rfl, hg⟩ := h
  have e : r.length = (flts r).length := (flts_len r).symm
  rw [frz_sl, hg, frzS_cells, Nat.mul_one, e, grab_all, ag_24, sz_24, frzT_one, if_pos (noAgg_flts r), chunks_all, frz_flts, fzK_some]
theorem OwnI.frz {s : St} {u : AV} {r : List Int} (h : OwnI s u r) (d : Nat) : Go.Am.frz U s (d + 2) u = some (.fz (ints r)) := by
  obtain ⟨b, cap, _, rfl, hg⟩ := h
  have e : r.length = (ints r).length := (ints_len r).symm
  rw [frz_sl, hg, frzS_cells, Nat.mul_one, e, grab_all, ag_3, sz_3, frzT_one, if_pos (noAgg_ints r), chunks_all, frz_ints, fzK_some]
theorem OwnR.mono {s s' : St} {u : AV} {r : List Nat} (h : OwnR s u r) (hn : s.next ≤ s'.next) (hg : ∀ j, j < s.next → s.get j = some (.cells (flts r) 24 false 0 0) → s'.get j = s.get j) : OwnR s' u r := by
  obtain ⟨b, cap, h1, h2, h3⟩ := h
  exact ⟨b, cap, by omega, h2, by rw [hg b h1 h3]; exact h3⟩
theorem OwnR.plain {s : St} {u : AV} {r : List Nat} (h : OwnR s u r) : noAgg u = true ∧ u.cells = [u] ∧ lenRL u = some (.int .i64 r.length) := by
  obtain ⟨b, cap, _, rfl, _⟩ := h; exact ⟨rfl, rfl, rfl⟩
theorem OwnI.plain {s : St} {u : AV} {r : List Int} (h : OwnI s u r) : noAgg u = true ∧ u.cells = [u] := by
  obtain ⟨b, cap, _, rfl, _⟩ := h; exact ⟨rfl, rfl⟩
theorem source_encS (l : List AV) (nl : Bool) (s : St) (h : ∀ x ∈ l, x.cells = [x]) : sourceA 1 (encS nl l) s = some (l.length, l) := by
  have hf : ∀ l : List AV, (∀ x ∈ l, x.cells = [x]) → l.flatMap AV.cells = l := by
    intro l h
    induction l with
    | nil => rfl
    | cons x l ih =>
      rw [List.flatMap_cons, h x (List.mem_cons_self ..), ih fun y hy => h y (List.mem_cons_of_mem _ hy)]; rfl
  have ha : ∀ l : List AV, (∀ x ∈ l, x.cells = [x]) → l.all (fun x => x.cells.length == 1) = true := by
    intro l h
    rw [List.all_eq_true]; intro x hx; rw [h x hx]; rfl
  cases nl <;> cases l with
  | nil => rfl
  | cons x l =>
    simp only [encS, sourceA, ha _ h, hf _ h]
    rfl
/-- a copy is made: append to an empty slice -/
theorem copy_of (t : TypeId) (bytes : Nat) (l : List AV) (nl : Bool) (h : ∀ x ∈ l, x.cells = [x]) (hl : l.length * bytes ≤ 2 ^ 40 ∧ l.length ≤ 2 ^ 40) {s : St} {b : Nat} (hb : s.get b = some (.cells [] t false 0 0)) (hbn : b < s.next) :
    ∃ d s1, appK t 1 bytes (.sl b 0 0 (some 0) 1) (sourceA 1 (encS nl l) s) s = some (d, s1) ∧ (∃ b' cap, b' < s1.next ∧ d = .sl b' 0 l.length cap 1 ∧ s1.get b' = some (.cells l t false 0 0)) ∧ s.next ≤ s1.next ∧ (∀ j, j < s.next → s1.get j = s.get j) ∧ (Fr s → Fr s1) := by
  rw [source_encS l nl s h]
  cases l with
  | nil =>
    refine ⟨.sl b 0 0 (some 0) 1, s, ?_, ⟨b, some 0, hbn, rfl, hb⟩, Nat.le_refl _, fun _ _ => rfl, id⟩
    simp [appK, lenA, app0]
  | cons x l =>
    refine ⟨.sl s.next 0 (x :: l).length none 1, s.new (.cells (x :: l) t false 0 0), ?_, ⟨s.next, none, by rw [next_new]; omega, rfl, by rw [get_new, if_pos rfl]⟩, by rw [next_new]; omega, fun j hj => by rw [get_new, if_neg (by omega)], fun hf => hf.new _⟩
    rw [appK_some (by omega) (by show (0 + (x :: l).length) * bytes ≤ 2 ^ 40; rw [Nat.zero_add]; exact hl.1) (by show 0 + (x :: l).length ≤ 2 ^ 40; rw [Nat.zero_add]; exact hl.2) (by simp)]
    have hc : s.cells b = some [] := by unfold St.cells; rw [hb]
    simp only [appD, hc, Nat.zero_mul, grab_zero, List.length_cons, Nat.zero_add, List.nil_append]
    rw [if_neg (by omega)]
theorem z7 {args : List AV} {s : St} (h : stills args = false) : callK U (calV U 7 args) 7 args s = calZ U 7 (mapO (frz U s 4000) args) s := z_of (by kernel_rfl) s h
theorem z8 {args : List AV} {s : St} (h : stills args = false) : callK U (calV U 8 args) 8 args s = calZ U 8 (mapO (frz U s 4000) args) s := z_of (by kernel_rfl) s h
theorem z9 {args : List AV} {s : St} (h : stills args = false) : callK U (calV U 9 args) 9 args s = calZ U 9 (mapO (frz U s 4000) args) s := z_of (by kernel_rfl) s h
/-- Aligned, of the copies -/
theorem call7 (g : Good2 R S) (hb : ∀ r ∈ R, ∀ b ∈ r.2, b < 2 ^ 32) {s : St} {B : Nat} {v d : AV} {vs : List AV} (row : RowI s B 30 1 R.length vs v) (own : ∀ j (h : j < R.length), ∃ u, vs[j]? = some u ∧ OwnR s u R[j].2) (hd : OwnI s d S) :
    callK U (calV U 7 [v, d]) 7 [v, d] s = some (ansA R S, s) := by
  have hlen := row.rlen
  have hvp : vs.all noAgg = true := by
    rw [List.all_eq_true]; intro x hx
    obtain ⟨j, hj⟩ := List.getElem?_of_mem hx
    obtain ⟨u, h2, h3⟩ := own j (by rw [← hlen]; exact (List.getElem?_eq_some_iff.1 hj).1)
    rw [hj] at h2; cases h2
    exact h3.plain.1
  have hst : stills [v, d] = false := by
    have := row.notStill (by have := g.pos; omega)
    simp [stills, this]
  rw [z7 hst]
  obtain ⟨R', hR'⟩ : ∃ R', R' = R.map fun r => (false, r.2) := ⟨_, rfl⟩
  have hf : frz U s 4000 v = some (.fz (recs R')) := by
    have h1 : RowI s B 30 1 vs.length vs v := by rw [hlen]; exact row
    have h2 := h1.frz_one U ag_30 sz_30 hvp (d := 3999) (r := (List.range R.length).map fun j => .fz (flts (R.getD j (false, [])).2)) (mapO_idxB hlen fun j hj => by
      obtain ⟨u, h2, h3⟩ := own j hj
      exact ⟨u, h2, by rw [getD_at _ hj]; exact h3.frz 3997⟩)
    have e : ((List.range R.length).map fun j => AV.fz (flts (R.getD j (false, [])).2)) = recs R' := by
      rw [range_map R (false, []) (fun r => AV.fz (flts r.2)), hR', recs, List.map_map]
      refine List.map_congr_left fun r _ => ?_
      show AV.fz (flts r.2) = encS false (flts r.2)
      rw [encS_fz]
    rw [h2, e]
    have hne : recs R' ≠ [] := by
      intro h
      have := congrArg List.length h
      rw [recs_len, hR', List.length_map] at this
      have hp := g.pos
      rw [this] at hp
      exact absurd hp (by simp)
    cases hr : recs R' with
    | nil => exact absurd hr hne
    | cons x l => rfl
  have hm : mapO (frz U s 4000) [v, d] = some [.fz (recs R'), .fz (ints S)] := by
    rw [mapO, hf, mapO, hd.frz 3998]; rfl
  rw [hm]
  have hl : R'.length = R.length := by rw [hR', List.length_map]
  have hgd : ∀ i, (R'.getD i (false, [])).2 = (R.getD i (false, [])).2 := by
    intro i
    rw [hR']
    simp only [List.getD_eq_getElem?_getD, List.getElem?_map]
    cases R[i]? <;> rfl
  have g' : Good2 R' S := ⟨by rw [hl]; exact g.pos, by rw [hl]; exact g.le, fun r hr => by
    rw [hR'] at hr
    obtain ⟨x, hx, rfl⟩ := List.mem_map.1 hr
    exact g.fin x hx, by rw [hl]; exact g.len, g.sk⟩
  have ht : ∀ i, tom R' S i = tom R S i := by
    intro i
    induction i with
    | zero => rw [tom, tom, hgd]
    | succ i ih => rw [tom, tom, hgd, ih]
  have ha : ansA R' S = ansA R S := by
    have hal : ∀ i, algn R' S i = algn R S i := fun i => by unfold algn; rw [hl, ht, hgd]
    unfold ansA
    rw [hl, ht]
    simp only [hal]
  rw [← ha]
  exact cz7 g' (fun r hr => by
    rw [hR'] at hr
    obtain ⟨x, hx, rfl⟩ := List.mem_map.1 hr
    exact hb x hx) s
theorem call8 {r : List Nat} {lo hi : Nat} (hf : ∀ b ∈ r, fin32 b = true) (hl : r.length ≤ 4096) (lv : Lv lo hi) {s : St} {u : AV} (h : OwnR s u r) :
    callK U (calV U 8 [u, .agg [.flt .f32 lo, .flt .f32 hi], .bool false]) 8 [u, .agg [.flt .f32 lo, .flt .f32 hi], .bool false] s = some (.tup [encB (dig lo hi r), .int .i64 0], s) := by
  have hst : stills [u, .agg [.flt .f32 lo, .flt .f32 hi], .bool false] = false := by
    obtain ⟨b, cap, _, rfl, _⟩ := h
    simp [stills, still]
  rw [z8 hst]
  have hm : mapO (frz U s 4000) [u, .agg [.flt .f32 lo, .flt .f32 hi], .bool false] = some [.fz (flts r), .agg [.flt .f32 lo, .flt .f32 hi], .bool false] := by
    rw [mapO, h.frz 3998]; rfl
  rw [hm]
  have := cz8 false hf hl lv s
  rw [encS_fz] at this
  exact this
theorem call9 {L : List (List Bool)} {n : Nat} (h : Lns L n) {s : St} {B : Nat} {w : AV} (row : RowI s B 35 1 L.length (L.map encB) w) : callK U (calV U 9 [w]) 9 [w] s = some (.tup [encS true (words (wds L n)), .int .i64 0], s) := by
  have hst : stills [w] = false := by
    have := row.notStill (by have := h.pos; omega)
    simp [stills, this]
  rw [z9 hst]
  have hp : (L.map encB).all noAgg = true := by
    rw [List.all_eq_true]; intro x hx
    obtain ⟨l, _, rfl⟩ := List.mem_map.1 hx
    exact noAgg_encS _ _
  have h1 : RowI s B 35 1 (L.map encB).length (L.map encB) w := by rw [List.length_map]; exact row
  have h2 := h1.frz_one U ag_35 sz_35 hp (d := 3999) (r := L.map encB) (mapO_self fun x hx => by
    obtain ⟨l, _, rfl⟩ := List.mem_map.1 hx
    exact frz_encS U s 3998 true _)
  have hm : mapO (frz U s 4000) [w] = some [.fz (L.map encB)] := by
    rw [mapO, h2]
    have hp := h.pos
    cases L with
    | nil => simp at hp
    | cons l L => rfl
  rw [hm]
  exact cz9 h s
end Go.Am
set_option linter.all false
namespace Go.Am
open Go
variable [MaxLen]
set_option maxRecDepth 100000
set_option maxHeartbeats 8000000
/-! # TopClipLines: the law's resolved code (printed) -/
noncomputable def r3_l0 : RC := (.seq (.ops [⟨some 62, none, none, false, .bin .lss 3 false (.t 61) (.t 60)⟩]) (.seq (.cond (.t 62) .skip (.exit 0)) (.seq (.block 1 (.seq (.ops [⟨some 63, none, none, false, .ixa 1 (.t 59) (.t 61)⟩,
  ⟨some 64, none, none, false, .ld1 (.t 63)⟩,
  ⟨some 8, none, none, false, .mov (.t 64)⟩]) (.seq (.ops [⟨some 65, none, none, false, .mov (.t 8)⟩,
  ⟨some 66, none, none, false, .lenL (.t 65)⟩,
  ⟨some 67, none, none, false, .bin .gtr 3 true (.t 66) (.v (.int .i64 30))⟩]) (.cond (.t 67) (.seq (.ops [⟨some 68, none, none, false, .call 6 []⟩,
  ⟨some 6, none, none, false, .mov (.t 68)⟩]) .ret) .skip)))) (.ops [⟨some 69, none, none, false, .bin .add 3 true (.t 61) (.v (.int .i64 1))⟩,
  ⟨some 61, none, none, false, .mov (.t 69)⟩]))))
noncomputable def r3_l1 : RC := (.seq (.ops [⟨some 73, none, none, false, .bin .lss 3 false (.t 72) (.t 71)⟩]) (.seq (.cond (.t 73) .skip (.exit 2)) (.seq (.block 3 (.seq (.ops [⟨some 74, none, none, false, .ixa 1 (.t 70) (.t 72)⟩,
  ⟨some 75, none, none, false, .ld1 (.t 74)⟩,
  ⟨some 11, none, none, false, .mov (.t 75)⟩]) (.ops [⟨some 76, none, none, false, .mov (.t 9)⟩,
  ⟨some 77, none, none, false, .bsl 24 1 0 [] []⟩,
  ⟨some 78, none, none, false, .mov (.t 11)⟩,
  ⟨some 79, none, none, false, .app 24 1 4 (.t 77) (.t 78)⟩,
  ⟨some 80, none, none, false, .bsl 30 1 1 [.nils] [(0, 1, (.t 79))]⟩,
  ⟨some 81, none, none, false, .app 30 1 24 (.t 76) (.t 80)⟩,
  ⟨some 9, none, none, false, .mov (.t 81)⟩]))) (.ops [⟨some 82, none, none, false, .bin .add 3 true (.t 72) (.v (.int .i64 1))⟩,
  ⟨some 72, none, none, false, .mov (.t 82)⟩]))))
noncomputable def r3_l2 : RC := (.seq (.ops [⟨some 151, none, none, false, .bin .lss 3 false (.t 150) (.t 149)⟩]) (.seq (.cond (.t 151) .skip (.exit 6)) (.seq (.block 7 (.seq (.ops [⟨some 152, none, none, false, .mov (.t 150)⟩,
  ⟨some 22, none, none, false, .mov (.t 152)⟩]) (.drw 12 [⟨some 153, none, none, false, .mov (.t 21)⟩,
  ⟨some 154, none, none, false, .mov (.t 1)⟩,
  ⟨some 155, none, none, false, .mov (.t 15)⟩,
  ⟨some 156, none, none, false, .ixa 1 (.t 154) (.t 155)⟩,
  ⟨some 157, none, none, false, .ld1 (.t 156)⟩,
  ⟨some 158, none, none, false, .mov (.t 1)⟩,
  ⟨some 159, none, none, false, .mov (.t 22)⟩,
  ⟨some 160, none, none, false, .ixa 1 (.t 158) (.t 159)⟩,
  ⟨some 161, none, none, false, .ld1 (.t 160)⟩,
  ⟨some 162, none, none, false, .bin .sub 3 false (.t 157) (.t 161)⟩,
  ⟨some 163, none, none, false, .raw (.call { callee := .builtin .max, args := #[(.tmp 153), (.tmp 162)], argTypes := #[3, 3] })⟩,
  ⟨some 21, none, none, false, .mov (.t 163)⟩]))) (.ops [⟨some 164, none, none, false, .bin .add 3 true (.t 150) (.v (.int .i64 1))⟩,
  ⟨some 150, none, none, false, .mov (.t 164)⟩]))))
noncomputable def r3_l3 : RC := (.seq (.ops [⟨some 168, none, none, false, .bin .lss 3 false (.t 167) (.t 166)⟩]) (.seq (.cond (.t 168) .skip (.exit 8)) (.seq (.block 9 (.seq (.ops [⟨some 169, none, none, false, .mov (.t 167)⟩,
  ⟨some 170, none, none, false, .ixa 1 (.t 165) (.t 167)⟩,
  ⟨some 171, none, none, false, .ld1 (.t 170)⟩,
  ⟨some 24, none, none, false, .mov (.t 169)⟩,
  ⟨some 25, none, none, false, .mov (.t 171)⟩]) (.seq (.ops [⟨some 172, none, none, false, .mov (.t 23)⟩,
  ⟨some 173, none, none, false, .mov (.t 172)⟩,
  ⟨some 174, some (173, false), none, false, .mov (.t 25)⟩,
  ⟨some 175, some (173, false), none, false, .fa 1 (.t 5)⟩,
  ⟨some 176, some (173, false), none, false, .ld1 (.t 175)⟩,
  ⟨some 177, some (173, false), none, false, .bin .geq 24 false (.t 174) (.t 176)⟩,
  ⟨some 178, none, none, false, .pick (.t 173) (.v (.bool true)) (.t 177)⟩,
  ⟨some 179, none, none, false, .mov (.t 178)⟩,
  ⟨some 180, some (179, false), none, false, .mov (.t 25)⟩,
  ⟨some 181, some (179, false), none, false, .fa 0 (.t 5)⟩,
  ⟨some 182, some (179, false), none, false, .ld1 (.t 181)⟩,
  ⟨some 183, some (179, false), none, false, .bin .leq 24 false (.t 180) (.t 182)⟩,
  ⟨some 184, none, none, false, .pick (.t 179) (.v (.bool true)) (.t 183)⟩,
  ⟨some 23, none, none, false, .mov (.t 184)⟩]) (.seq (.drw 22 [⟨some 185, none, none, false, .mov (.t 21)⟩,
  ⟨some 186, none, none, false, .mov (.t 24)⟩,
  ⟨some 187, none, none, false, .bin .add 3 false (.t 185) (.t 186)⟩,
  ⟨some 188, none, none, false, .mov (.t 19)⟩,
  ⟨some 189, none, none, false, .lenL (.t 188)⟩,
  ⟨some 190, none, none, false, .bin .geq 3 false (.t 187) (.t 189)⟩,
  ⟨some 191, none, none, false, .mov (.t 190)⟩,
  ⟨some 192, some (191, false), none, false, .mov (.t 23)⟩,
  ⟨some 193, some (191, false), none, false, .mov (.t 192)⟩,
  ⟨some 194, some (193, true), none, false, .mov (.t 19)⟩,
  ⟨some 195, some (193, true), none, false, .mov (.t 21)⟩,
  ⟨some 196, some (193, true), none, false, .mov (.t 24)⟩,
  ⟨some 197, some (193, true), none, false, .bin .add 3 false (.t 195) (.t 196)⟩,
  ⟨some 198, some (193, true), none, false, .ixa 1 (.t 194) (.t 197)⟩,
  ⟨some 199, some (193, true), none, false, .ld1 (.t 198)⟩,
  ⟨some 200, some (193, true), none, false, .mov (.t 17)⟩,
  ⟨some 201, some (193, true), none, false, .mov (.t 24)⟩,
  ⟨some 202, some (193, true), none, false, .ixa 1 (.t 200) (.t 201)⟩,
  ⟨some 203, some (193, true), none, false, .ld1 (.t 202)⟩,
  ⟨some 204, some (193, true), none, false, .bin .neq 4 false (.t 199) (.t 203)⟩,
  ⟨some 205, some (191, false), none, false, .pick (.t 193) (.t 204) (.v (.bool false))⟩,
  ⟨some 206, none, none, false, .pick (.t 191) (.v (.bool true)) (.t 205)⟩]) (.cond (.t 206) (.seq (.ops [⟨some 6, none, none, false, .mov (.v (.bool false))⟩]) .ret) .skip))))) (.ops [⟨some 207, none, none, false, .bin .add 3 true (.t 167) (.v (.int .i64 1))⟩,
  ⟨some 167, none, none, false, .mov (.t 207)⟩]))))
noncomputable def r3_l4 : RC := (.seq (.ops [⟨some 106, none, none, false, .bin .lss 3 false (.t 105) (.t 104)⟩]) (.seq (.cond (.t 106) .skip (.exit 4)) (.seq (.block 5 (.seq (.ops [⟨some 107, none, none, false, .mov (.t 105)⟩,
  ⟨some 108, none, none, false, .ixa 1 (.t 103) (.t 105)⟩,
  ⟨some 109, none, none, false, .ld1 (.t 108)⟩,
  ⟨some 15, none, none, false, .mov (.t 107)⟩,
  ⟨some 16, none, none, false, .mov (.t 109)⟩]) (.seq (.ops [⟨some 111, none, none, false, .mov (.t 16)⟩,
  ⟨some 112, none, none, false, .ldn 2 (.t 5)⟩,
  ⟨some 113, none, none, false, .call 8 [(.t 111), (.t 112), (.v (.bool false))]⟩,
  ⟨some 110, none, none, false, .mov (.t 113)⟩,
  ⟨some 114, none, none, false, .ext (.t 110) 0⟩,
  ⟨some 115, none, none, false, .ext (.t 110) 1⟩,
  ⟨some 17, none, none, false, .mov (.t 114)⟩,
  ⟨some 18, none, none, false, .mov (.t 115)⟩]) (.seq (.drw 11 [⟨some 117, none, none, false, .mov (.t 9)⟩,
  ⟨some 118, none, none, false, .mov (.t 15)⟩,
  ⟨some 119, none, none, false, .ixa 1 (.t 117) (.t 118)⟩,
  ⟨some 120, none, none, false, .ld1 (.t 119)⟩,
  ⟨some 121, none, none, false, .ldn 2 (.t 5)⟩,
  ⟨some 122, none, none, false, .call 8 [(.t 120), (.t 121), (.v (.bool false))]⟩,
  ⟨some 116, none, none, false, .mov (.t 122)⟩,
  ⟨some 123, none, none, false, .ext (.t 116) 0⟩,
  ⟨some 124, none, none, false, .ext (.t 116) 1⟩,
  ⟨some 19, none, none, false, .mov (.t 123)⟩,
  ⟨some 20, none, none, false, .mov (.t 124)⟩]) (.seq (.seq (.ops [⟨some 125, none, none, false, .mov (.t 18)⟩,
  ⟨some 126, none, none, false, .bin .neq 31 true (.t 125) (.v (.int .i64 0))⟩,
  ⟨some 127, none, none, false, .mov (.t 126)⟩,
  ⟨some 128, some (127, false), none, false, .mov (.t 20)⟩,
  ⟨some 129, some (127, false), none, false, .bin .neq 31 true (.t 128) (.v (.int .i64 0))⟩,
  ⟨some 130, none, none, false, .pick (.t 127) (.v (.bool true)) (.t 129)⟩,
  ⟨some 131, none, none, false, .mov (.t 130)⟩,
  ⟨some 132, some (131, false), none, false, .mov (.t 17)⟩,
  ⟨some 133, some (131, false), none, false, .lenL (.t 132)⟩,
  ⟨some 134, some (131, false), none, false, .mov (.t 16)⟩,
  ⟨some 135, some (131, false), none, false, .lenL (.t 134)⟩,
  ⟨some 136, some (131, false), none, false, .bin .neq 3 false (.t 133) (.t 135)⟩,
  ⟨some 137, none, none, false, .pick (.t 131) (.v (.bool true)) (.t 136)⟩,
  ⟨some 138, none, none, false, .mov (.t 137)⟩,
  ⟨some 139, some (138, false), none, false, .mov (.t 19)⟩,
  ⟨some 140, some (138, false), none, false, .lenL (.t 139)⟩,
  ⟨some 141, some (138, false), none, false, .mov (.t 9)⟩,
  ⟨some 142, some (138, false), none, false, .mov (.t 15)⟩,
  ⟨some 143, some (138, false), none, false, .ixa 1 (.t 141) (.t 142)⟩,
  ⟨some 144, some (138, false), none, false, .ld1 (.t 143)⟩,
  ⟨some 145, some (138, false), none, false, .lenL (.t 144)⟩,
  ⟨some 146, some (138, false), none, false, .bin .neq 3 false (.t 140) (.t 145)⟩,
  ⟨some 147, none, none, false, .pick (.t 138) (.v (.bool true)) (.t 146)⟩]) (.cond (.t 147) (.seq (.ops [⟨some 6, none, none, false, .mov (.v (.bool false))⟩]) .ret) .skip)) (.seq (.ops [⟨some 21, none, none, false, .mov (.v (.int .i64 0))⟩]) (.seq (.seq (.ops [⟨some 148, none, none, false, .mov (.t 1)⟩,
  ⟨some 149, none, none, false, .lenL (.t 148)⟩,
  ⟨some 150, none, none, false, .mov (.v (.int .i64 0))⟩]) (.block 6 (.loop r3_l2))) (.seq (.ops [⟨some 23, none, none, false, .mov (.v (.bool false))⟩]) (.seq (.seq (.ops [⟨some 165, none, none, false, .mov (.t 16)⟩,
  ⟨some 166, none, none, false, .lenL (.t 165)⟩,
  ⟨some 167, none, none, false, .mov (.v (.int .i64 0))⟩]) (.block 8 (.loop r3_l3))) (.ops [⟨some 208, none, none, false, .mov (.t 14)⟩,
  ⟨some 209, none, none, false, .mov (.t 17)⟩,
  ⟨some 210, none, none, false, .bsl 35 1 1 [.nils] [(0, 1, (.t 209))]⟩,
  ⟨some 211, none, none, false, .app 35 1 24 (.t 208) (.t 210)⟩,
  ⟨some 14, none, none, false, .mov (.t 211)⟩])))))))))) (.ops [⟨some 212, none, none, false, .bin .add 3 true (.t 105) (.v (.int .i64 1))⟩,
  ⟨some 105, none, none, false, .mov (.t 212)⟩]))))
noncomputable def r3_l5 : RC := (.seq (.ops [⟨some 245, none, none, false, .bin .lss 3 false (.t 244) (.t 243)⟩]) (.seq (.cond (.t 245) .skip (.exit 10)) (.seq (.block 11 (.seq (.ops [⟨some 246, none, none, false, .mov (.t 244)⟩,
  ⟨some 247, none, none, false, .ixa 1 (.t 242) (.t 244)⟩,
  ⟨some 248, none, none, false, .ld1 (.t 247)⟩,
  ⟨some 32, none, none, false, .mov (.t 246)⟩,
  ⟨some 33, none, none, false, .mov (.t 248)⟩]) (.seq (.ops [⟨some 250, none, none, false, .mov (.t 30)⟩,
  ⟨some 251, none, none, false, .mov (.t 32)⟩,
  ⟨some 252, none, none, false, .call 13 [(.t 250), (.t 251)]⟩,
  ⟨some 249, none, none, false, .mov (.t 252)⟩,
  ⟨some 253, none, none, false, .ext (.t 249) 0⟩,
  ⟨some 254, none, none, false, .ext (.t 249) 1⟩,
  ⟨some 34, none, none, false, .mov (.t 253)⟩,
  ⟨some 35, none, none, false, .mov (.t 254)⟩]) (.seq (.ops [⟨some 256, none, none, false, .mov (.t 34)⟩,
  ⟨some 257, none, none, false, .call 14 [(.t 256), (.v (.bool false))]⟩,
  ⟨some 255, none, none, false, .mov (.t 257)⟩,
  ⟨some 258, none, none, false, .ext (.t 255) 0⟩,
  ⟨some 259, none, none, false, .ext (.t 255) 1⟩,
  ⟨some 36, none, none, false, .mov (.t 258)⟩,
  ⟨some 37, none, none, false, .mov (.t 259)⟩]) (.seq (.ops [⟨some 261, none, none, false, .mov (.t 36)⟩,
  ⟨some 262, none, none, false, .mov (.t 34)⟩,
  ⟨some 263, none, none, false, .lenL (.t 262)⟩,
  ⟨some 264, none, none, false, .call 15 [(.t 261), (.v (.bool false)), (.t 263)]⟩,
  ⟨some 260, none, none, false, .mov (.t 264)⟩,
  ⟨some 265, none, none, false, .ext (.t 260) 0⟩,
  ⟨some 266, none, none, false, .ext (.t 260) 1⟩,
  ⟨some 38, none, none, false, .mov (.t 265)⟩,
  ⟨some 39, none, none, false, .mov (.t 266)⟩]) (.seq (.ops [⟨some 267, none, none, false, .mov (.t 35)⟩,
  ⟨some 268, none, none, false, .mov (.t 37)⟩,
  ⟨some 269, none, none, false, .bin .add 31 false (.t 267) (.t 268)⟩,
  ⟨some 270, none, none, false, .mov (.t 39)⟩,
  ⟨some 271, none, none, false, .bin .add 31 false (.t 269) (.t 270)⟩,
  ⟨some 272, none, none, false, .bin .neq 31 true (.t 271) (.v (.int .i64 0))⟩,
  ⟨some 273, none, none, false, .mov (.t 272)⟩,
  ⟨some 274, some (273, false), none, false, .mov (.t 34)⟩,
  ⟨some 275, some (273, false), none, false, .mov (.t 33)⟩,
  ⟨some 276, some (273, false), none, false, .call 16 [(.t 274), (.t 275)]⟩,
  ⟨some 277, some (273, false), none, false, .un .not (.t 276)⟩,
  ⟨some 278, none, none, false, .pick (.t 273) (.v (.bool true)) (.t 277)⟩,
  ⟨some 279, none, none, false, .mov (.t 278)⟩,
  ⟨some 280, some (279, false), none, false, .mov (.t 38)⟩,
  ⟨some 281, some (279, false), none, false, .mov (.t 33)⟩,
  ⟨some 282, some (279, false), none, false, .call 16 [(.t 280), (.t 281)]⟩,
  ⟨some 283, some (279, false), none, false, .un .not (.t 282)⟩,
  ⟨some 284, none, none, false, .pick (.t 279) (.v (.bool true)) (.t 283)⟩]) (.cond (.t 284) (.seq (.ops [⟨some 6, none, none, false, .mov (.v (.bool false))⟩]) .ret) .skip))))))) (.ops [⟨some 285, none, none, false, .bin .add 3 true (.t 244) (.v (.int .i64 1))⟩,
  ⟨some 244, none, none, false, .mov (.t 285)⟩]))))
noncomputable def r3_l6 : RC := (.seq (.ops [⟨some 296, none, none, false, .bin .lss 3 false (.t 295) (.t 294)⟩]) (.seq (.cond (.t 296) .skip (.exit 14)) (.seq (.block 15 (.seq (.ops [⟨some 297, none, none, false, .mov (.t 295)⟩,
  ⟨some 298, none, none, false, .ixa 1 (.t 293) (.t 295)⟩,
  ⟨some 299, none, none, false, .ld1 (.t 298)⟩,
  ⟨some 42, none, none, false, .mov (.t 297)⟩,
  ⟨some 43, none, none, false, .mov (.t 299)⟩]) (.seq (.ops [⟨some 300, none, none, false, .mov (.t 14)⟩,
  ⟨some 301, none, none, false, .mov (.t 40)⟩,
  ⟨some 302, none, none, false, .ixa 1 (.t 300) (.t 301)⟩,
  ⟨some 303, none, none, false, .ld1 (.t 302)⟩,
  ⟨some 304, none, none, false, .mov (.t 42)⟩,
  ⟨some 305, none, none, false, .ixa 1 (.t 303) (.t 304)⟩,
  ⟨some 306, none, none, false, .ld1 (.t 305)⟩,
  ⟨some 307, none, none, false, .mov (.t 306)⟩,
  ⟨some 308, some (307, true), none, false, .mov (.t 43)⟩,
  ⟨some 309, some (307, true), none, false, .fa 0 (.t 5)⟩,
  ⟨some 310, some (307, true), none, false, .ld1 (.t 309)⟩,
  ⟨some 311, some (307, true), none, false, .bin .leq 24 false (.t 308) (.t 310)⟩,
  ⟨some 312, none, none, false, .pick (.t 307) (.t 311) (.v (.bool false))⟩,
  ⟨some 313, none, none, false, .mov (.t 312)⟩,
  ⟨some 314, some (313, false), none, false, .mov (.t 14)⟩,
  ⟨some 315, some (313, false), none, false, .mov (.t 40)⟩,
  ⟨some 316, some (313, false), none, false, .ixa 1 (.t 314) (.t 315)⟩,
  ⟨some 317, some (313, false), none, false, .ld1 (.t 316)⟩,
  ⟨some 318, some (313, false), none, false, .mov (.t 42)⟩,
  ⟨some 319, some (313, false), none, false, .ixa 1 (.t 317) (.t 318)⟩,
  ⟨some 320, some (313, false), none, false, .ld1 (.t 319)⟩,
  ⟨some 321, some (313, false), none, false, .un .not (.t 320)⟩,
  ⟨some 322, some (313, false), none, false, .mov (.t 321)⟩,
  ⟨some 323, some (322, true), none, false, .mov (.t 43)⟩,
  ⟨some 324, some (322, true), none, false, .fa 1 (.t 5)⟩,
  ⟨some 325, some (322, true), none, false, .ld1 (.t 324)⟩,
  ⟨some 326, some (322, true), none, false, .bin .geq 24 false (.t 323) (.t 325)⟩,
  ⟨some 327, some (313, false), none, false, .pick (.t 322) (.t 326) (.v (.bool false))⟩,
  ⟨some 328, none, none, false, .pick (.t 313) (.v (.bool true)) (.t 327)⟩]) (.cond (.t 328) (.seq (.ops [⟨some 6, none, none, false, .mov (.v (.bool false))⟩]) .ret) .skip)))) (.ops [⟨some 329, none, none, false, .bin .add 3 true (.t 295) (.v (.int .i64 1))⟩,
  ⟨some 295, none, none, false, .mov (.t 329)⟩]))))
noncomputable def r3_l7 : RC := (.seq (.ops [⟨some 289, none, none, false, .bin .lss 3 false (.t 288) (.t 287)⟩]) (.seq (.cond (.t 289) .skip (.exit 12)) (.seq (.block 13 (.seq (.ops [⟨some 290, none, none, false, .mov (.t 288)⟩,
  ⟨some 291, none, none, false, .ixa 1 (.t 286) (.t 288)⟩,
  ⟨some 292, none, none, false, .ld1 (.t 291)⟩,
  ⟨some 40, none, none, false, .mov (.t 290)⟩,
  ⟨some 41, none, none, false, .mov (.t 292)⟩]) (.seq (.ops [⟨some 293, none, none, false, .mov (.t 41)⟩,
  ⟨some 294, none, none, false, .lenL (.t 293)⟩,
  ⟨some 295, none, none, false, .mov (.v (.int .i64 0))⟩]) (.block 14 (.loop r3_l6))))) (.ops [⟨some 330, none, none, false, .bin .add 3 true (.t 288) (.v (.int .i64 1))⟩,
  ⟨some 288, none, none, false, .mov (.t 330)⟩]))))
/-- strobe/strobetop.TopClipLines; results .tmp 6 -/
noncomputable def r3 : RC := (.seq (.ops [⟨some 5, none, none, false, .box 26 (.t 2)⟩,
  ⟨some 6, none, none, false, .mov (.v (.bool false))⟩]) (.seq (.seq (.ops [⟨some 44, none, none, false, .mov (.t 0)⟩,
  ⟨some 45, none, none, false, .lenL (.t 44)⟩,
  ⟨some 46, none, none, false, .bin .gtr 3 true (.t 45) (.v (.int .i64 4))⟩,
  ⟨some 47, none, none, false, .mov (.t 46)⟩,
  ⟨some 48, some (47, false), none, false, .mov (.t 0)⟩,
  ⟨some 49, some (47, false), none, false, .mov (.t 1)⟩,
  ⟨some 50, some (47, false), none, false, .call 4 [(.t 48), (.t 49)]⟩,
  ⟨some 51, some (47, false), none, false, .bin .neq 3 true (.t 50) (.v (.int .i64 0))⟩,
  ⟨some 52, none, none, false, .pick (.t 47) (.v (.bool true)) (.t 51)⟩,
  ⟨some 53, none, none, false, .mov (.t 52)⟩,
  ⟨some 54, some (53, false), none, false, .ldn 2 (.t 5)⟩,
  ⟨some 55, some (53, false), none, false, .call 5 [(.t 54)]⟩,
  ⟨some 56, some (53, false), none, false, .bin .neq 3 true (.t 55) (.v (.int .i64 0))⟩,
  ⟨some 57, none, none, false, .pick (.t 53) (.v (.bool true)) (.t 56)⟩]) (.cond (.t 57) (.seq (.ops [⟨some 58, none, none, false, .call 6 []⟩,
  ⟨some 6, none, none, false, .mov (.t 58)⟩]) .ret) .skip)) (.seq (.seq (.ops [⟨some 59, none, none, false, .mov (.t 0)⟩,
  ⟨some 60, none, none, false, .lenL (.t 59)⟩,
  ⟨some 61, none, none, false, .mov (.v (.int .i64 0))⟩]) (.block 0 (.loop r3_l0))) (.seq (.ops [⟨some 9, none, none, false, .mov (.v .nils)⟩]) (.seq (.seq (.ops [⟨some 70, none, none, false, .mov (.t 0)⟩,
  ⟨some 71, none, none, false, .lenL (.t 70)⟩,
  ⟨some 72, none, none, false, .mov (.v (.int .i64 0))⟩]) (.block 2 (.loop r3_l1))) (.seq (.ops [⟨some 84, none, none, false, .mov (.t 9)⟩,
  ⟨some 85, none, none, false, .bsl 3 1 0 [] []⟩,
  ⟨some 86, none, none, false, .mov (.t 1)⟩,
  ⟨some 87, none, none, false, .app 3 1 8 (.t 85) (.t 86)⟩,
  ⟨some 88, none, none, false, .call 7 [(.t 84), (.t 87)]⟩,
  ⟨some 83, none, none, false, .mov (.t 88)⟩,
  ⟨some 89, none, none, false, .ext (.t 83) 0⟩,
  ⟨some 90, none, none, false, .ext (.t 83) 1⟩,
  ⟨some 12, none, none, false, .mov (.t 89)⟩,
  ⟨some 13, none, none, false, .mov (.t 90)⟩]) (.seq (.seq (.ops [⟨some 91, none, none, false, .mov (.t 13)⟩,
  ⟨some 92, none, none, false, .bin .neq 31 true (.t 91) (.v (.int .i64 0))⟩]) (.cond (.t 92) (.seq (.ops [⟨some 93, none, none, false, .mov (.t 13)⟩,
  ⟨some 94, none, none, false, .bin .eql 31 true (.t 93) (.v (.int .i64 16))⟩,
  ⟨some 95, none, none, false, .mov (.t 94)⟩,
  ⟨some 96, some (95, true), none, false, .call 6 []⟩,
  ⟨some 97, none, none, false, .pick (.t 95) (.t 96) (.v (.bool false))⟩,
  ⟨some 6, none, none, false, .mov (.t 97)⟩]) .ret) .skip)) (.seq (.seq (.ops [⟨some 98, none, none, false, .mov (.t 12)⟩,
  ⟨some 99, none, none, false, .lenL (.t 98)⟩,
  ⟨some 100, none, none, false, .mov (.t 0)⟩,
  ⟨some 101, none, none, false, .lenL (.t 100)⟩,
  ⟨some 102, none, none, false, .bin .neq 3 false (.t 99) (.t 101)⟩]) (.cond (.t 102) (.seq (.ops [⟨some 6, none, none, false, .mov (.v (.bool false))⟩]) .ret) .skip)) (.seq (.ops [⟨some 14, none, none, false, .mov (.v .nils)⟩]) (.seq (.seq (.ops [⟨some 103, none, none, false, .mov (.t 12)⟩,
  ⟨some 104, none, none, false, .lenL (.t 103)⟩,
  ⟨some 105, none, none, false, .mov (.v (.int .i64 0))⟩]) (.block 4 (.loop r3_l4))) (.seq (.ops [⟨some 214, none, none, false, .mov (.t 14)⟩,
  ⟨some 215, none, none, false, .call 9 [(.t 214)]⟩,
  ⟨some 213, none, none, false, .mov (.t 215)⟩,
  ⟨some 216, none, none, false, .ext (.t 213) 0⟩,
  ⟨some 217, none, none, false, .ext (.t 213) 1⟩,
  ⟨some 26, none, none, false, .mov (.t 216)⟩,
  ⟨some 27, none, none, false, .mov (.t 217)⟩]) (.seq (.ops [⟨some 219, none, none, false, .mov (.t 26)⟩,
  ⟨some 220, none, none, false, .call 10 [(.t 219)]⟩,
  ⟨some 218, none, none, false, .mov (.t 220)⟩,
  ⟨some 221, none, none, false, .ext (.t 218) 0⟩,
  ⟨some 222, none, none, false, .ext (.t 218) 1⟩,
  ⟨some 28, none, none, false, .mov (.t 221)⟩,
  ⟨some 29, none, none, false, .mov (.t 222)⟩]) (.seq (.ops [⟨some 224, none, none, false, .mov (.t 28)⟩,
  ⟨some 225, none, none, false, .mov (.t 26)⟩,
  ⟨some 226, none, none, false, .lenL (.t 225)⟩,
  ⟨some 227, none, none, false, .call 11 [(.t 224), (.t 226)]⟩,
  ⟨some 223, none, none, false, .mov (.t 227)⟩,
  ⟨some 228, none, none, false, .ext (.t 223) 0⟩,
  ⟨some 229, none, none, false, .ext (.t 223) 1⟩,
  ⟨some 30, none, none, false, .mov (.t 228)⟩,
  ⟨some 31, none, none, false, .mov (.t 229)⟩]) (.seq (.seq (.ops [⟨some 230, none, none, false, .mov (.t 27)⟩,
  ⟨some 231, none, none, false, .mov (.t 29)⟩,
  ⟨some 232, none, none, false, .bin .add 31 false (.t 230) (.t 231)⟩,
  ⟨some 233, none, none, false, .mov (.t 31)⟩,
  ⟨some 234, none, none, false, .bin .add 31 false (.t 232) (.t 233)⟩,
  ⟨some 235, none, none, false, .bin .neq 31 true (.t 234) (.v (.int .i64 0))⟩,
  ⟨some 236, none, none, false, .mov (.t 235)⟩,
  ⟨some 237, some (236, false), none, false, .mov (.t 30)⟩,
  ⟨some 238, some (236, false), none, false, .mov (.t 26)⟩,
  ⟨some 239, some (236, false), none, false, .call 12 [(.t 237), (.t 238)]⟩,
  ⟨some 240, some (236, false), none, false, .un .not (.t 239)⟩,
  ⟨some 241, none, none, false, .pick (.t 236) (.v (.bool true)) (.t 240)⟩]) (.cond (.t 241) (.seq (.ops [⟨some 6, none, none, false, .mov (.v (.bool false))⟩]) .ret) .skip)) (.seq (.seq (.ops [⟨some 242, none, none, false, .mov (.t 14)⟩,
  ⟨some 243, none, none, false, .lenL (.t 242)⟩,
  ⟨some 244, none, none, false, .mov (.v (.int .i64 0))⟩]) (.block 10 (.loop r3_l5))) (.seq (.seq (.ops [⟨some 286, none, none, false, .mov (.t 12)⟩,
  ⟨some 287, none, none, false, .lenL (.t 286)⟩,
  ⟨some 288, none, none, false, .mov (.v (.int .i64 0))⟩]) (.block 12 (.loop r3_l7))) (.seq (.ops [⟨some 331, none, none, false, .call 6 []⟩,
  ⟨some 6, none, none, false, .mov (.t 331)⟩]) .ret)))))))))))))))))
theorem k3 : fnRC 3 = some ([.tmp 6], r3) := by kernel_rfl
/-! # TopClipLines: the copies -/
/-- what stands throughout -/
structure Cm (nr ns : Bool) (R : List (Bool × List Nat)) (S : List Int) (lo hi : Nat) (e : Env) (s : St) : Prop where
  e0 : Env.get e 0 = encS nr (recs R)
  e1 : Env.get e 1 = encS ns (ints S)
  e5 : Env.get e 5 = .ptr 11 0
  g11 : s.get 11 = some (.cells [.flt .f32 lo, .flt .f32 hi] 26 false 0 0)
  fr : Fr s
  n12 : 12 ≤ s.next
/-- the copies of the first i records -/
structure Own (R : List (Bool × List Nat)) (i : Nat) (v : AV) (vs : List AV) (s : St) : Prop where
  row : RowI s 12 30 1 i vs v
  own : ∀ j (h : j < i) (h2 : j < R.length), ∃ u, vs[j]? = some u ∧ OwnR s u R[j].2
theorem Own.stay {R : List (Bool × List Nat)} {i : Nat} {v : AV} {vs : List AV} {s s' : St} (h : Own R i v vs s) (hn : s.next ≤ s'.next) (hg : ∀ j c t, s.get j = some (.cells c t false 0 0) → t = 24 ∨ t = 30 → s'.get j = s.get j) : Own R i v vs s' := by
  refine ⟨?_, fun j h1 h2 => ?_⟩
  · rcases h.row with ⟨a1, a2, a3⟩ | ⟨a1, a2, b, a3, a4, a5, a6⟩
    · exact .inl ⟨a1, a2, a3⟩
    · exact .inr ⟨a1, a2, b, a3, by omega, a5, by rw [hg b _ _ a6 (.inr rfl)]; exact a6⟩
  · obtain ⟨u, q1, q2⟩ := h.own j h1 h2
    exact ⟨u, q1, q2.mono hn fun j _ hj => hg j _ _ hj (.inl rfl)⟩
variable {nr ns : Bool} {R : List (Bool × List Nat)} {S : List Int} {lo hi : Nat}
theorem l1c {β : Type} {fin : Fl → β} {ks : List K} {Post : β → Prop} (g : Good2 R S)
    (hk : ∀ e s v vs, Cm nr ns R S lo hi e s → Env.get e 9 = v → Own R R.length v vs s → Post (goN U fin ks e s)) {e : Env} {s : St} (cm : Cm nr ns R S lo hi e s) (h9 : Env.get e 9 = .nils) (h70 : Env.get e 70 = encS nr (recs R)) (h71 : Env.get e 71 = .int .i64 R.length) (h72 : Env.get e 72 = .int .i64 (0 : Nat)) :
    Post (goL U fin (.bk 2 :: ks) r3_l1 e s) := by
  have hle := g.le
  refine loop_ex (Post := Post) (σ := Nat) (fun i => R.length - i) (fun i e s => i ≤ R.length ∧ Cm nr ns R S lo hi e s ∧ Env.get e 70 = encS nr (recs R) ∧ Env.get e 71 = .int .i64 R.length ∧ Env.get e 72 = .int .i64 (i : Nat) ∧ ∃ v vs, Env.get e 9 = v ∧ Own R i v vs s) 0 ?_ ⟨Nat.zero_le _, cm, h70, h71, h72, .nils, [], h9, RowI.nil _ _ _ _, fun j h => absurd h (by omega)⟩
  clear cm h9 h70 h71 h72 e s
  rintro L i e s ⟨hie, cm, g70, g71, g72, v, vs, g9, ow⟩ ih
  obtain ⟨g0, g1, g5, g11, fr, hn⟩ := id cm
  by_cases hd : i < R.length
  · have hx := ixa_recs (nl := nr) hd
    have hw := wrap_succ hd (by omega)
    have hrl := (g.fin _ (List.getElem_mem hd)).1
    obtain ⟨d, s1, p1, ⟨b', cap, p2, p3, p4⟩, p5, p6, p7⟩ := copy_of 24 4 (flts R[i].2) R[i].1 (fun x hx => by
      obtain ⟨z, _, rfl⟩ := List.mem_map.1 hx; rfl) (by rw [flts_len]; omega) (s := s.new (.cells [] 24 false 0 0)) (b := s.next) (by rw [get_new, if_pos rfl]) (by rw [next_new]; omega)
    have p1 : appK 24 1 4 (.sl s.next 0 0 (some 0) 1) (sourceA 1 (encR R[i]) (s.new (.cells [] 24 false 0 0))) (s.new (.cells [] 24 false 0 0)) = some (d, s1) := p1
    rw [next_new] at p5 p6
    have od : OwnR s1 d R[i].2 := ⟨b', cap, p2, by rw [p3, flts_len], p4⟩
    have ow1 : Own R i v vs s1 := ow.stay (by omega) fun j c t hj _ => by
      have hlt := st_lt fr hj
      rw [p6 j (by omega), get_new, if_neg (by omega)]
    have hdp := od.plain
    have hla := ow1.row.lenA
    have hb1 : (i + 1) * 24 ≤ 1099511627776 := by omega
    have hb2 : i + 1 ≤ 1099511627776 := by omega
    obtain ⟨s2, e1, e2, e3, e6, e4, e5⟩ := ow1.row.app1 (by omega) d hdp.1
    have hdc := hdp.2.1
    have hda := hdp.1
    have hvl := ow.row.rlen
    have fr1 := p7 (fr.new _)
    have keep : ∀ j c, s1.get j = some (.cells c 24 false 0 0) → s2.get j = s1.get j := fun j c hj => e4 j (st_lt fr1 hj) (ow1.row.other hj (by decide))
    have hg11 : s2.get 11 = some (.cells [.flt .f32 lo, .flt .f32 hi] 26 false 0 0) := by
      rw [e6 11 (by omega), p6 11 (by omega), get_new, if_neg (by omega)]; exact g11
    simp (config := { maxSteps := 2000000 }) +contextual only [go_sem, ↓reduceIte, r3_l1, g70, g71, g72, g9, nat_lt_dec, hd, hx, noAgg_encR, p1, hdc, hda, appK_some, Nat.reducePow, Nat.one_mul, hla, hb1, hb2, e1, hw]
    refine ih (i + 1) _ _ (by omega) ⟨by omega, ⟨?_, ?_, ?_, hg11, e5 fr1, by omega⟩, ?_, ?_, ?_, _, vs ++ [d], rfl, ?_, ?_⟩
    case refine_8 =>
      intro j h1 h2
      rcases Nat.lt_or_ge j i with h3 | h3
      · obtain ⟨u, q1, q2⟩ := ow1.own j h3 h2
        exact ⟨u, by rw [List.getElem?_append_left (by omega)]; exact q1, q2.mono (by omega) fun j _ hj => keep j _ hj⟩
      · have : j = i := by omega
        subst this
        exact ⟨d, by rw [List.getElem?_append_right (by omega), hvl, Nat.sub_self]; rfl, od.mono (by omega) fun j _ hj => keep j _ hj⟩
    case refine_7 =>
      simp +contextual only [go_sem, ↓reduceIte]
      exact e3
    all_goals simp +contextual only [go_sem, ↓reduceIte, g0, g1, g5, g70, g71, hw]
  · have : i = R.length := by omega
    subst this
    simp +contextual only [go_sem, ↓reduceIte, r3_l1, g70, g71, g72, g9, nat_lt_dec, Nat.lt_irrefl]
    refine hk _ _ v vs ⟨?_, ?_, ?_, g11, fr, hn⟩ ?_ ow
    all_goals simp +contextual only [go_sem, ↓reduceIte, g0, g1, g5, g9]
end Go.Am
set_option linter.all false
namespace Go.Am
open Go
variable [MaxLen]
set_option maxRecDepth 100000
set_option maxHeartbeats 8000000
/-! # TopClipLines: the lines of the aligned records and of the whole ones -/
variable {nr ns : Bool} {R : List (Bool × List Nat)} {S : List Int} {lo hi : Nat}
def als (R : List (Bool × List Nat)) (S : List Int) : AV := .fz ((List.range R.length).map fun i => encA (algn R S i))
theorem cells_encA (l : List Nat) : (encA l).cells = [encA l] := cells_encS _ _
theorem noAgg_encA (l : List Nat) : noAgg (encA l) = true := noAgg_encS _ _
theorem noAgg_encB (l : List Bool) : noAgg (encB l) = true := noAgg_encS _ _
theorem len_encA (l : List Nat) : lenRL (encA l) = some (.int .i64 l.length) := by unfold encA; rw [lenL_encS, flts_len]
theorem ixa_als {i : Nat} (h : i < R.length) : ixRA 1 (als R S) (.int .i64 (i : Int)) = some (.fp [encA (algn R S i)] 0) := by
  have := ixa_encS 1 false ((List.range R.length).map fun i => encA (algn R S i)) .i64 i (encA (algn R S i)) (by omega) (by rw [Int.toNat_natCast, List.getElem?_map, List.getElem?_range h]; rfl) (by rw [cells_encA]; rfl) (by decide)
  rw [encS_fz, cells_encA] at this
  exact this
theorem ixa_encA {l : List Nat} {k : Nat} (h : k < l.length) : ixRA 1 (encA l) (.int .i64 (k : Int)) = some (.fp [.flt .f32 l[k]] 0) := ixa_flts h
theorem ixa_encB {l : List Bool} {k : Nat} (h : k < l.length) : ixRA 1 (encB l) (.int .i64 (k : Int)) = some (.fp [.bool l[k]] 0) := ixa_bools h
/-- what stands while a record is looked at -/
structure Md (nr ns : Bool) (R : List (Bool × List Nat)) (S : List Int) (lo hi : Nat) (v w : AV) (i : Nat) (e : Env) : Prop where
  e0 : Env.get e 0 = encS nr (recs R)
  e1 : Env.get e 1 = encS ns (ints S)
  e5 : Env.get e 5 = .ptr 11 0
  e9 : Env.get e 9 = v
  e12 : Env.get e 12 = als R S
  e14 : Env.get e 14 = w
  e15 : Env.get e 15 = .int .i64 (i : Nat)
  e16 : Env.get e 16 = encA (algn R S i)
  e17 : Env.get e 17 = encB (dig lo hi (algn R S i))
  e19 : Env.get e 19 = encB (dig lo hi (R.getD i (false, [])).2)
  e103 : Env.get e 103 = als R S
  e104 : Env.get e 104 = .int .i64 R.length
  e105 : Env.get e 105 = .int .i64 (i : Nat)
/-- ids were kept; else all is as it was -/
structure Up (s s' : St) : Prop where
  next : s.next ≤ s'.next
  get : ∀ j, s'.get j = s.get j
  fr : Fr s'
theorem Up.upto {s s' : St} (h : Up s s') (k : Nat) : Up s (s'.upto (s'.next + k)) := ⟨by rw [upto_next]; have := h.next; omega, fun j => by rw [upto_get]; exact h.get j, h.fr.upto (by omega)⟩
theorem l2c {β : Type} {fin : Fl → β} {ks : List K} {Post : β → Prop} (g : Good2 R S) {v w : AV} {i : Nat} (hir : i < R.length) {s : St} (fr : Fr s)
    (hk : ∀ e s', Md nr ns R S lo hi v w i e → Env.get e 21 = .int .i64 (bgn S i R.length) → Up s s' → Post (goN U fin ks e s')) {e : Env} (md : Md nr ns R S lo hi v w i e) (h21 : Env.get e 21 = .int .i64 0) (h149 : Env.get e 149 = .int .i64 R.length) (h150 : Env.get e 150 = .int .i64 (0 : Nat)) :
    Post (goL U fin (.bk 6 :: ks) r3_l2 e s) := by
  have hle := g.le
  have hSl := g.len
  refine loop_ex (Post := Post) (σ := Nat) (fun k => R.length - k) (fun k e s' => k ≤ R.length ∧ Up s s' ∧ Md nr ns R S lo hi v w i e ∧ Env.get e 21 = .int .i64 (bgn S i k) ∧ Env.get e 149 = .int .i64 R.length ∧ Env.get e 150 = .int .i64 (k : Nat)) 0 ?_ ⟨Nat.zero_le _, ⟨Nat.le_refl _, fun _ => rfl, fr⟩, md, h21, h149, h150⟩
  clear md h21 h149 h150 e
  rintro L k e s' ⟨hke, up, md, g21, g149, g150⟩ ih
  obtain ⟨g0, g1, g5, g9, g12, g14, g15, g16, g17, g19, g103, g104, g105⟩ := id md
  by_cases hd : k < R.length
  · have hd2 : k < S.length := by omega
    have hi2 : i < S.length := by omega
    have hx : ixRA 1 (encS ns (ints S)) (.int .i64 (k : Int)) = some (.fp [.int .i64 (S.getD k 0)] 0) := by rw [getD_at 0 hd2]; exact ixa_ints hd2
    have hy : ixRA 1 (encS ns (ints S)) (.int .i64 (i : Int)) = some (.fp [.int .i64 (S.getD i 0)] 0) := by rw [getD_at 0 hi2]; exact ixa_ints hi2
    have hw := wrap_succ hd (by omega)
    have b1 := g.skA k hd
    have b2 := g.skA i hir
    have hm : max (bgn S i k) (IntKind.i64.wrap (S.getD i 0 - S.getD k 0)) = bgn S i (k + 1) := by rw [bgn, wrap_i64] <;> omega
    simp (config := { maxSteps := 2000000 }) +contextual only [go_sem, ↓reduceIte, r3_l2, g1, g15, g21, g149, g150, nat_lt_dec, hd, hx, hy, hm, hw]
    refine ih (k + 1) _ _ (by omega) ⟨by omega, up.upto _, ⟨?_, ?_, ?_, ?_, ?_, ?_, ?_, ?_, ?_, ?_, ?_, ?_, ?_⟩, ?_, ?_, ?_⟩
    all_goals simp +contextual only [go_sem, ↓reduceIte, g0, g1, g5, g9, g12, g14, g15, g16, g17, g19, g103, g104, g105, g149, hw]
  · have : k = R.length := by omega
    subst this
    simp +contextual only [go_sem, ↓reduceIte, r3_l2, g149, g150, nat_lt_dec, Nat.lt_irrefl]
    refine hk _ _ ⟨?_, ?_, ?_, ?_, ?_, ?_, ?_, ?_, ?_, ?_, ?_, ?_, ?_⟩ ?_ up
    all_goals simp +contextual only [go_sem, ↓reduceIte, g0, g1, g5, g9, g12, g14, g15, g16, g17, g19, g103, g104, g105, g21]
theorem bne_self_b (b : Bool) : (b != b) = false := by cases b <;> rfl
theorem l3c {β : Type} {fin : Fl → β} {ks : List K} {Post : β → Prop} (g : Good2 R S) (hlt : frm S R.length < tom R S R.length) {v w : AV} {i : Nat} (hir : i < R.length) {s : St} (fr : Fr s) (h11 : s.get 11 = some (.cells [.flt .f32 lo, .flt .f32 hi] 26 false 0 0))
    (hk : ∀ e s', Md nr ns R S lo hi v w i e → Up s s' → Post (goN U fin ks e s')) {e : Env} (md : Md nr ns R S lo hi v w i e) (h21 : Env.get e 21 = .int .i64 (bgn S i R.length)) (h23 : Env.get e 23 = .bool false) (h165 : Env.get e 165 = encA (algn R S i)) (h166 : Env.get e 166 = .int .i64 (algn R S i).length) (h167 : Env.get e 167 = .int .i64 (0 : Nat)) :
    Post (goL U fin (.bk 8 :: ks) r3_l3 e s) := by
  have hal := algn_at g hlt hir
  have hlen := algn_len g hlt hir
  have hal4 := (alen_le g hlt).2
  have hbg := bgn_in g hir R.length (Nat.le_refl _)
  refine loop_ex (Post := Post) (σ := Nat) (fun k => (algn R S i).length - k) (fun k e s' => k ≤ (algn R S i).length ∧ Up s s' ∧ Md nr ns R S lo hi v w i e ∧ Env.get e 21 = .int .i64 (bgn S i R.length) ∧ Env.get e 23 = .bool (dcd lo hi (algn R S i) k) ∧ Env.get e 165 = encA (algn R S i) ∧ Env.get e 166 = .int .i64 (algn R S i).length ∧ Env.get e 167 = .int .i64 (k : Nat)) 0 ?_ ⟨Nat.zero_le _, ⟨Nat.le_refl _, fun _ => rfl, fr⟩, md, h21, h23, h165, h166, h167⟩
  clear md h21 h23 h165 h166 h167 e
  rintro L k e s' ⟨hke, up, md, g21, g23, g165, g166, g167⟩ ih
  obtain ⟨g0, g1, g5, g9, g12, g14, g15, g16, g17, g19, g103, g104, g105⟩ := id md
  have h11 := (up.get 11).trans h11
  by_cases hd : k < (algn R S i).length
  · have hx := ixa_encA hd
    have hw := wrap_succ hd (by omega)
    obtain ⟨h2, h3⟩ := hal k hd
    have hwb : IntKind.i64.wrap (bgn S i R.length + (k : Int)) = (((bgn S i R.length).toNat + k : Nat) : Int) := by rw [wrap_i64] <;> omega
    have hge : decide ((((bgn S i R.length).toNat + k : Nat) : Int) ≥ ((R[i].2.length : Nat) : Int)) = false := decide_eq_false (by omega)
    have hgi : R.getD i (false, []) = R[i] := getD_at _ hir
    have hll : (dig lo hi R[i].2).length = R[i].2.length := dig_len _ _ _
    have hx2 : ixRA 1 (encB (dig lo hi R[i].2)) (.int .i64 (((bgn S i R.length).toNat + k : Nat) : Int)) = some (.fp [.bool (vAt lo hi R[i].2 ((bgn S i R.length).toNat + k + 1))] 0) := by
      rw [ixa_encB (by rw [dig_len]; exact h2), dig_at h2]
    have hx3 : ixRA 1 (encB (dig lo hi (algn R S i))) (.int .i64 (k : Int)) = some (.fp [.bool (vAt lo hi (algn R S i) (k + 1))] 0) := by
      rw [ixa_encB (by rw [dig_len]; exact hd), dig_at hd]
    have hds := dcd_succ (lo := lo) (hi := hi) hd
    rw [hgi] at g19
    have hsame : dcd lo hi (algn R S i) (k + 1) = true → vAt lo hi (algn R S i) (k + 1) = vAt lo hi R[i].2 ((bgn S i R.length).toNat + k + 1) := fun h => vAt_same (b := (bgn S i R.length).toNat) hal (k + 1) (by omega) h
    have fin : ∀ e2, Md nr ns R S lo hi v w i e2 → Env.get e2 21 = .int .i64 (bgn S i R.length) → Env.get e2 23 = .bool (dcd lo hi (algn R S i) (k + 1)) → Env.get e2 165 = encA (algn R S i) → Env.get e2 166 = .int .i64 (algn R S i).length → Env.get e2 167 = .int .i64 ((k + 1 : Nat) : Int) → Post (goL U fin (.bk 8 :: ks) L e2 (s'.upto (s'.next + 22))) :=
      fun e2 q1 q2 q3 q4 q5 q6 => ih (k + 1) _ _ (by omega) ⟨by omega, up.upto _, q1, q2, q3, q4, q5, q6⟩
    cases h1 : dcd lo hi (algn R S i) k with
    | true =>
      rw [h1, Bool.true_or] at hds
      have hs := hsame hds
      rw [hs] at hx3
      simp (config := { maxSteps := 2000000 }) +contextual only [go_sem, ↓reduceIte, r3_l3, g5, g16, g17, g19, g21, g23, g165, g166, g167, nat_lt_dec, hd, hx, hwb, len_encB, hll, hge, h1, h11, hx2, hx3, bin_bneq, bne_self_b, hw, gateV_true, gateC_true, gateR_true, gateV_false, gateC_false, gateR_false]
      refine fin _ ⟨?_, ?_, ?_, ?_, ?_, ?_, ?_, ?_, ?_, ?_, ?_, ?_, ?_⟩ ?_ ?_ ?_ ?_ ?_
      all_goals simp +contextual only [go_sem, ↓reduceIte, g0, g1, g5, g9, g12, g14, g15, g16, g17, g19, g103, g104, g105, g21, g165, g166, hw, hds, hgi]
    | false =>
      rw [h1, Bool.false_or] at hds
      cases h4 : geF (algn R S i)[k] hi with
      | true =>
        have h5 : decF lo hi (algn R S i)[k] = true := by unfold decF; rw [h4]; rfl
        rw [h5] at hds
        have hs := hsame hds
        rw [hs] at hx3
        simp (config := { maxSteps := 2000000 }) +contextual only [go_sem, ↓reduceIte, r3_l3, g5, g16, g17, g19, g21, g23, g165, g166, g167, nat_lt_dec, hd, hx, hwb, len_encB, hll, hge, h1, h4, h11, hx2, hx3, bin_bneq, bne_self_b, hw, gateV_true, gateC_true, gateR_true, gateV_false, gateC_false, gateR_false]
        refine fin _ ⟨?_, ?_, ?_, ?_, ?_, ?_, ?_, ?_, ?_, ?_, ?_, ?_, ?_⟩ ?_ ?_ ?_ ?_ ?_
        all_goals simp +contextual only [go_sem, ↓reduceIte, g0, g1, g5, g9, g12, g14, g15, g16, g17, g19, g103, g104, g105, g21, g165, g166, hw, hds, hgi]
      | false =>
        cases h6 : leF (algn R S i)[k] lo with
        | true =>
          have h5 : decF lo hi (algn R S i)[k] = true := by unfold decF; rw [h4, h6]; rfl
          rw [h5] at hds
          have hs := hsame hds
          rw [hs] at hx3
          simp (config := { maxSteps := 2000000 }) +contextual only [go_sem, ↓reduceIte, r3_l3, g5, g16, g17, g19, g21, g23, g165, g166, g167, nat_lt_dec, hd, hx, hwb, len_encB, hll, hge, h1, h4, h6, h11, hx2, hx3, bin_bneq, bne_self_b, hw, gateV_true, gateC_true, gateR_true, gateV_false, gateC_false, gateR_false]
          refine fin _ ⟨?_, ?_, ?_, ?_, ?_, ?_, ?_, ?_, ?_, ?_, ?_, ?_, ?_⟩ ?_ ?_ ?_ ?_ ?_
          all_goals simp +contextual only [go_sem, ↓reduceIte, g0, g1, g5, g9, g12, g14, g15, g16, g17, g19, g103, g104, g105, g21, g165, g166, hw, hds, hgi]
        | false =>
          have h5 : decF lo hi (algn R S i)[k] = false := by unfold decF; rw [h4, h6]; rfl
          rw [h5] at hds
          simp (config := { maxSteps := 2000000 }) +contextual only [go_sem, ↓reduceIte, r3_l3, g5, g16, g17, g19, g21, g23, g165, g166, g167, nat_lt_dec, hd, hx, hwb, len_encB, hll, hge, h1, h4, h6, h11, hw, gateV_true, gateC_true, gateR_true, gateV_false, gateC_false, gateR_false]
          refine fin _ ⟨?_, ?_, ?_, ?_, ?_, ?_, ?_, ?_, ?_, ?_, ?_, ?_, ?_⟩ ?_ ?_ ?_ ?_ ?_
          all_goals simp +contextual only [go_sem, ↓reduceIte, g0, g1, g5, g9, g12, g14, g15, g16, g17, g19, g103, g104, g105, g21, g165, g166, hw, hds, hgi]
  · have : k = (algn R S i).length := by omega
    subst this
    simp +contextual only [go_sem, ↓reduceIte, r3_l3, g165, g166, g167, nat_lt_dec, Nat.lt_irrefl]
    refine hk _ _ ⟨?_, ?_, ?_, ?_, ?_, ?_, ?_, ?_, ?_, ?_, ?_, ?_, ?_⟩ up
    all_goals simp +contextual only [go_sem, ↓reduceIte, g0, g1, g5, g9, g12, g14, g15, g16, g17, g19, g103, g104, g105, g21]
end Go.Am
set_option linter.all false
namespace Go.Am
open Go
variable [MaxLen]
set_option maxRecDepth 100000
set_option maxHeartbeats 8000000
/-! # TopClipLines: record by record -/
variable {nr ns : Bool} {R : List (Bool × List Nat)} {S : List Int} {lo hi : Nat}
theorem Up.row {s s' : St} {B : Nat} {t : TypeId} {n i : Nat} {cs : List AV} {v : AV} (up : Up s s') (h : RowI s B t n i cs v) : RowI s' B t n i cs v := h.mono up.next fun j _ _ => up.get j
theorem Up.own {s s' : St} {i : Nat} {v : AV} {vs : List AV} (up : Up s s') (h : Own R i v vs s) : Own R i v vs s' := h.stay up.next fun j c t _ _ => up.get j
theorem Up.trans {a b c : St} (h : Up a b) (k : Up b c) : Up a c := ⟨Nat.le_trans h.next k.next, fun j => (k.get j).trans (h.get j), k.fr⟩
theorem Up.refl {s : St} (fr : Fr s) : Up s s := ⟨Nat.le_refl _, fun _ => rfl, fr⟩
def lnsB (lo hi : Nat) (R : List (Bool × List Nat)) (S : List Int) (i : Nat) : List AV := (lns lo hi R S i).map encB
theorem lnsB_succ (lo hi i : Nat) : lnsB lo hi R S (i + 1) = lnsB lo hi R S i ++ [encB (dig lo hi (algn R S i))] := by
  unfold lnsB lns
  rw [List.range_succ, List.map_append, List.map_append]; rfl
theorem l4c {β : Type} {fin : Fl → β} {ks : List K} {Post : β → Prop} (g : Good2 R S) (lv : Lv lo hi) (hlt : frm S R.length < tom R S R.length) {v : AV} {vs : List AV}
    (hk : ∀ e s w, Cm nr ns R S lo hi e s → Env.get e 12 = als R S → Env.get e 14 = w → RowI s 12 35 1 R.length (lnsB lo hi R S R.length) w → Post (goN U fin ks e s)) {e : Env} {s : St} (cm : Cm nr ns R S lo hi e s) (h9 : Env.get e 9 = v) (ow : Own R R.length v vs s) (h12 : Env.get e 12 = als R S) (h14 : Env.get e 14 = .nils)
    (h103 : Env.get e 103 = als R S) (h104 : Env.get e 104 = .int .i64 R.length) (h105 : Env.get e 105 = .int .i64 (0 : Nat)) :
    Post (goL U fin (.bk 4 :: ks) r3_l4 e s) := by
  have hle := g.le
  refine loop_ex (Post := Post) (σ := Nat) (fun i => R.length - i) (fun i e s => i ≤ R.length ∧ Cm nr ns R S lo hi e s ∧ Env.get e 9 = v ∧ Own R R.length v vs s ∧ Env.get e 12 = als R S ∧ Env.get e 103 = als R S ∧ Env.get e 104 = .int .i64 R.length ∧ Env.get e 105 = .int .i64 (i : Nat) ∧ ∃ w, Env.get e 14 = w ∧ RowI s 12 35 1 i (lnsB lo hi R S i) w) 0 ?_ ⟨Nat.zero_le _, cm, h9, ow, h12, h103, h104, h105, .nils, h14, RowI.nil _ _ _ _⟩
  clear cm h9 ow h12 h14 h103 h104 h105 e s
  rintro L i e s ⟨hie, cm, g9, ow, g12, g103, g104, g105, w, g14, row⟩ ih
  obtain ⟨g0, g1, g5, g11, fr, hn⟩ := id cm
  by_cases hd : i < R.length
  · obtain ⟨b, hb1, hb2, hv, hg⟩ := ow.row.open (by omega)
    obtain ⟨u, hu, hou⟩ := ow.own i hd hd
    have hx := ixa_als (R := R) (S := S) hd
    have hw := wrap_succ hd (by omega)
    have hfin := algn_fin g hlt hd
    have hlen := algn_len g hlt hd
    have hal4 := (alen_le g hlt).2
    have hc8 : calV U 8 [encA (algn R S i), .agg [.flt .f32 lo, .flt .f32 hi], .bool false] = some (.tup [encB (dig lo hi (algn R S i)), .int .i64 0]) := c8 true hfin (by omega) lv
    have hrf := g.fin _ (List.getElem_mem hd)
    have hgi : R.getD i (false, []) = R[i] := getD_at _ hd
    have up0 : Up s (s.upto (s.next + 11)) := (Up.refl fr).upto 11
    have hou1 : OwnR (s.upto (s.next + 11)) u R[i].2 := hou.mono up0.next fun j _ _ => up0.get j
    have hc8b := call8 hrf.2 hrf.1 lv hou1
    have hup := hou.plain
    have hl1 : (dig lo hi (algn R S i)).length = (algn R S i).length := dig_len _ _ _
    have hl2 : (dig lo hi R[i].2).length = R[i].2.length := dig_len _ _ _
    have hul := hup.2.2
    have hua := hup.1
    subst hv
    have hSl := g.len
    simp (config := { maxSteps := 2000000 }) +contextual only [go_sem, ↓reduceIte, r3_l4, g5, g9, g12, g103, g104, g105, g11, nat_lt_dec, hd, hx, noAgg_encA, noAgg_encB, hc8, hg, hu, Nat.mul_one, hc8b, len_encA, len_encB, hl1, hl2, hul, hua, g1, lenL_encS, ints_len, hSl, bne_self_eq_false, gateV_true, gateC_true, gateR_true, gateV_false, gateC_false, gateR_false]
    refine l2c (w := w) (v := .sl b 0 R.length none 1) (nr := nr) (ns := ns) (lo := lo) (hi := hi) g hd up0.fr ?K ⟨?_, ?_, ?_, ?_, ?_, ?_, ?_, ?_, ?_, ?_, ?_, ?_, ?_⟩ ?_ ?_ ?_
    case K =>
      intro e2 s2 md h21 up2
      have h11b : s2.get 11 = some (.cells [.flt .f32 lo, .flt .f32 hi] 26 false 0 0) := ((up0.trans up2).get 11).trans g11
      obtain ⟨n0, n1, n5, n9, n12, n14, n15, n16, n17, n19, n103, n104, n105⟩ := md
      simp +contextual only [go_sem, ↓reduceIte, n16, len_encA]
      refine l3c (w := w) (v := .sl b 0 R.length none 1) (nr := nr) (ns := ns) (lo := lo) (hi := hi) g hlt hd up2.fr h11b ?K2 ⟨?_, ?_, ?_, ?_, ?_, ?_, ?_, ?_, ?_, ?_, ?_, ?_, ?_⟩ ?_ ?_ ?_ ?_ ?_
      case K2 =>
        intro e3 s3 md3 up3
        have up : Up s s3 := (up0.trans up2).trans up3
        have row3 := up.row row
        have hla := row3.lenA
        have hb1 : (i + 1) * 24 ≤ 1099511627776 := by omega
        have hb2 : i + 1 ≤ 1099511627776 := by omega
        have hcB := cells_encB (dig lo hi (algn R S i))
        have hn3 := up.next
        obtain ⟨s4, e1, e2', e3', e6, e4', e5'⟩ := row3.app1 (by omega) (encB (dig lo hi (algn R S i))) (noAgg_encB _)
        obtain ⟨m0, m1, m5, m9, m12, m14, m15, m16, m17, m19, m103, m104, m105⟩ := md3
        simp (config := { maxSteps := 2000000 }) +contextual only [go_sem, ↓reduceIte, m14, m17, m105, hcB, noAgg_encB, appK_some, Nat.reducePow, Nat.one_mul, hla, hb1, hb2, e1, hw]
        have ow3 := up.own ow
        refine ih (i + 1) _ _ (by omega) ⟨by omega, ⟨?_, ?_, ?_, ?_, e5' up3.fr, by omega⟩, ?_, ?_, ?_, ?_, ?_, ?_, _, rfl, ?_⟩
        case refine_6 => exact ow3.stay (by omega) fun j c t hj ht => e4' j (st_lt up3.fr hj) (row3.other hj (by rcases ht with rfl | rfl <;> decide))
        case refine_4 => rw [e6 11 (by omega), up.get 11]; exact g11
        case refine_11 =>
          simp +contextual only [go_sem, ↓reduceIte]
          rw [lnsB_succ]; exact e3'
        all_goals simp +contextual only [go_sem, ↓reduceIte, m0, m1, m5, m9, m12, m103, m104, hw]
      all_goals simp +contextual only [go_sem, ↓reduceIte, n0, n1, n5, n9, n12, n14, n15, n16, n17, n19, n103, n104, n105, h21]
      all_goals rfl
    all_goals simp +contextual only [go_sem, ↓reduceIte, g0, g1, g5, g9, g12, g14, g103, g104, g105, hgi]
    all_goals rfl
  · have : i = R.length := by omega
    subst this
    simp +contextual only [go_sem, ↓reduceIte, r3_l4, g103, g104, g105, nat_lt_dec, Nat.lt_irrefl]
    refine hk _ _ w ⟨?_, ?_, ?_, g11, fr, hn⟩ ?_ ?_ row
    all_goals simp +contextual only [go_sem, ↓reduceIte, g0, g1, g5, g12, g14]
end Go.Am
set_option linter.all false
namespace Go.Am
open Go
variable [MaxLen]
set_option maxRecDepth 100000
set_option maxHeartbeats 8000000
/-! # TopClipLines: the lines come back; above High true, below Low false -/
variable {nr ns : Bool} {R : List (Bool × List Nat)} {S : List Int} {lo hi : Nat}
/-- the lines, as they lie in memory, and the levels -/
structure Ln (lo hi : Nat) (R : List (Bool × List Nat)) (S : List Int) (b : Nat) (e : Env) (s : St) : Prop where
  e5 : Env.get e 5 = .ptr 11 0
  e12 : Env.get e 12 = als R S
  e14 : Env.get e 14 = .sl b 0 R.length none 1
  g11 : s.get 11 = some (.cells [.flt .f32 lo, .flt .f32 hi] 26 false 0 0)
  gb : s.get b = some (.cells (lnsB lo hi R S R.length) 35 false 0 0)
theorem lnsB_at {i : Nat} (h : i < R.length) : (lnsB lo hi R S R.length)[i]? = some (encB (dig lo hi (algn R S i))) := by
  unfold lnsB lns
  rw [List.map_map, List.getElem?_map, List.getElem?_range h]; rfl
theorem l5c {β : Type} {fin : Fl → β} {ks : List K} {Post : β → Prop} (g : Good2 R S) (hlt : frm S R.length < tom R S R.length) {b : Nat} {s : St}
    (hk : ∀ e, Ln lo hi R S b e s → Post (goN U fin ks e s)) {e : Env} (ln : Ln lo hi R S b e s) (h30 : Env.get e 30 = .fz (words (wds (lns lo hi R S R.length) (alen R S)))) (h242 : Env.get e 242 = .sl b 0 R.length none 1) (h243 : Env.get e 243 = .int .i64 R.length) (h244 : Env.get e 244 = .int .i64 (0 : Nat)) :
    Post (goL U fin (.bk 10 :: ks) r3_l5 e s) := by
  have hle := g.le
  have hL := lns_ok g hlt lo hi
  have hal4 := (alen_le g hlt).2
  refine loop_ex (Post := Post) (σ := Nat) (fun i => R.length - i) (fun i e s' => i ≤ R.length ∧ s' = s ∧ Ln lo hi R S b e s ∧ Env.get e 30 = .fz (words (wds (lns lo hi R S R.length) (alen R S))) ∧ Env.get e 242 = .sl b 0 R.length none 1 ∧ Env.get e 243 = .int .i64 R.length ∧ Env.get e 244 = .int .i64 (i : Nat)) 0 ?_ ⟨Nat.zero_le _, rfl, ln, h30, h242, h243, h244⟩
  clear ln h30 h242 h243 h244 e
  rintro Lp i e s' ⟨hie, rfl, ln, g30, g242, g243, g244⟩ ih
  obtain ⟨g5, g12, g14, g11, gb⟩ := id ln
  by_cases hd : i < R.length
  · have hw := wrap_succ hd (by omega)
    have hla := lnsB_at (lo := lo) (hi := hi) (S := S) hd
    have hlen := algn_len g hlt hd
    obtain ⟨D, hD⟩ : ∃ D, D = dig lo hi (algn R S i) := ⟨_, rfl⟩
    have hDl : D.length = alen R S := by rw [hD, dig_len, hlen]
    rw [← hD] at hla
    have hi' : i < (lns lo hi R S R.length).length := by rw [lns_len]; exact hd
    have hline : (wds (lns lo hi R S R.length) (alen R S)).map (bitW i) = D := by
      rw [wds_line hi' (hL.at hi'), lns_at hd, hD]
    have h13 : calV U 13 [.fz (words (wds (lns lo hi R S R.length) (alen R S))), .int .i64 (i : Nat)] = some (.tup [encB D, .int .i64 0]) := by
      have := c13 false (wds (lns lo hi R S R.length) (alen R S)) i (wds_lt hL.le) (by rw [wds_len]; exact hal4) (by omega)
      rw [hline, encS_fz] at this
      exact this
    have h14 : calV U 14 [encB D, .bool false] = some (.tup [encS true (ints (chg false 0 D)), .int .i64 0]) := c14 true D (by omega)
    have h15 := c15 true D (by omega)
    have h16 : calV U 16 [encB D, encB D] = some (.bool true) := c16 true true D (by omega)
    have h16' : calV U 16 [.fz (bools D), encB D] = some (.bool true) := by
      have := c16 false true D (by omega)
      rw [encS_fz] at this
      exact this
    have hw0 : IntKind.i64.wrap 0 = 0 := rfl
    simp (config := { maxSteps := 2000000 }) +contextual only [go_sem, ↓reduceIte, r3_l5, g30, g242, g243, g244, nat_lt_dec, hd, Nat.mul_one, gb, hla, noAgg_encB, noAgg_encS, h13, h14, h15, h16, h16', len_encB, hw0, hw, gateV_true, gateC_true, gateR_true, gateV_false, gateC_false, gateR_false]
    refine ih (i + 1) _ _ (by omega) ⟨by omega, rfl, ⟨?_, ?_, ?_, g11, gb⟩, ?_, ?_, ?_, ?_⟩
    all_goals simp +contextual only [go_sem, ↓reduceIte, g5, g12, g14, g30, g242, g243, hw]
  · have : i = R.length := by omega
    subst this
    simp +contextual only [go_sem, ↓reduceIte, r3_l5, g243, g244, nat_lt_dec, Nat.lt_irrefl]
    refine hk _ ⟨?_, ?_, ?_, g11, gb⟩
    all_goals simp +contextual only [go_sem, ↓reduceIte, g5, g12, g14]
theorem l6c {β : Type} {fin : Fl → β} {ks : List K} {Post : β → Prop} (g : Good2 R S) (lv : Lv lo hi) (hlt : frm S R.length < tom R S R.length) {b i : Nat} (hir : i < R.length) {s : St}
    (hk : ∀ e, Ln lo hi R S b e s → Env.get e 286 = als R S → Env.get e 287 = .int .i64 R.length → Env.get e 288 = .int .i64 (i : Nat) → Post (goN U fin ks e s)) {e : Env} (ln : Ln lo hi R S b e s) (h286 : Env.get e 286 = als R S) (h287 : Env.get e 287 = .int .i64 R.length) (h288 : Env.get e 288 = .int .i64 (i : Nat))
    (h40 : Env.get e 40 = .int .i64 (i : Nat)) (h293 : Env.get e 293 = encA (algn R S i)) (h294 : Env.get e 294 = .int .i64 (algn R S i).length) (h295 : Env.get e 295 = .int .i64 (0 : Nat)) :
    Post (goL U fin (.bk 14 :: ks) r3_l6 e s) := by
  have hle := g.le
  have hal4 := (alen_le g hlt).2
  have hlen := algn_len g hlt hir
  have hla := lnsB_at (lo := lo) (hi := hi) (S := S) hir
  refine loop_ex (Post := Post) (σ := Nat) (fun k => (algn R S i).length - k) (fun k e s' => k ≤ (algn R S i).length ∧ s' = s ∧ Ln lo hi R S b e s ∧ Env.get e 286 = als R S ∧ Env.get e 287 = .int .i64 R.length ∧ Env.get e 288 = .int .i64 (i : Nat) ∧ Env.get e 40 = .int .i64 (i : Nat) ∧ Env.get e 293 = encA (algn R S i) ∧ Env.get e 294 = .int .i64 (algn R S i).length ∧ Env.get e 295 = .int .i64 (k : Nat)) 0 ?_ ⟨Nat.zero_le _, rfl, ln, h286, h287, h288, h40, h293, h294, h295⟩
  clear ln h286 h287 h288 h40 h293 h294 h295 e
  rintro Lp k e s' ⟨hke, rfl, ln, g286, g287, g288, g40, g293, g294, g295⟩ ih
  obtain ⟨g5, g12, g14, g11, gb⟩ := id ln
  by_cases hd : k < (algn R S i).length
  · have hw := wrap_succ hd (by omega)
    have hx := ixa_encA hd
    have hx3 : ixRA 1 (encB (dig lo hi (algn R S i))) (.int .i64 (k : Int)) = some (.fp [.bool (vAt lo hi (algn R S i) (k + 1))] 0) := by
      rw [ixa_encB (by rw [dig_len]; exact hd), dig_at hd]
    obtain ⟨v1, v2⟩ := vAt_hi lv hd (algn_fin g hlt hir _ (List.getElem_mem hd))
    cases hv : vAt lo hi (algn R S i) (k + 1) with
    | true =>
      rw [hv] at hx3
      have v1 := v1 hv
      simp (config := { maxSteps := 2000000 }) +contextual only [go_sem, ↓reduceIte, r3_l6, g5, g11, g14, g40, g293, g294, g295, nat_lt_dec, hir, hd, Nat.mul_one, gb, hla, noAgg_encB, hx, hx3, v1, hw, gateV_true, gateC_true, gateR_true, gateV_false, gateC_false, gateR_false]
      refine ih (k + 1) _ _ (by omega) ⟨by omega, rfl, ⟨?_, ?_, ?_, g11, gb⟩, ?_, ?_, ?_, ?_, ?_, ?_, ?_⟩
      all_goals simp +contextual only [go_sem, ↓reduceIte, g5, g12, g14, g286, g287, g288, g40, g293, g294, hw]
    | false =>
      rw [hv] at hx3
      have v2 := v2 hv
      simp (config := { maxSteps := 2000000 }) +contextual only [go_sem, ↓reduceIte, r3_l6, g5, g11, g14, g40, g293, g294, g295, nat_lt_dec, hir, hd, Nat.mul_one, gb, hla, noAgg_encB, hx, hx3, v2, hw, gateV_true, gateC_true, gateR_true, gateV_false, gateC_false, gateR_false]
      refine ih (k + 1) _ _ (by omega) ⟨by omega, rfl, ⟨?_, ?_, ?_, g11, gb⟩, ?_, ?_, ?_, ?_, ?_, ?_, ?_⟩
      all_goals simp +contextual only [go_sem, ↓reduceIte, g5, g12, g14, g286, g287, g288, g40, g293, g294, hw]
  · have : k = (algn R S i).length := by omega
    subst this
    simp +contextual only [go_sem, ↓reduceIte, r3_l6, g294, g295, nat_lt_dec, Nat.lt_irrefl]
    refine hk _ ⟨?_, ?_, ?_, g11, gb⟩ ?_ ?_ ?_
    all_goals simp +contextual only [go_sem, ↓reduceIte, g5, g12, g14, g286, g287, g288]
theorem l7c {β : Type} {fin : Fl → β} {ks : List K} {Post : β → Prop} (g : Good2 R S) (lv : Lv lo hi) (hlt : frm S R.length < tom R S R.length) {b : Nat} {s : St}
    (hk : ∀ e, Post (goN U fin ks e s)) {e : Env} (ln : Ln lo hi R S b e s) (h286 : Env.get e 286 = als R S) (h287 : Env.get e 287 = .int .i64 R.length) (h288 : Env.get e 288 = .int .i64 (0 : Nat)) :
    Post (goL U fin (.bk 12 :: ks) r3_l7 e s) := by
  have hle := g.le
  refine loop_ex (Post := Post) (σ := Nat) (fun i => R.length - i) (fun i e s' => i ≤ R.length ∧ s' = s ∧ Ln lo hi R S b e s ∧ Env.get e 286 = als R S ∧ Env.get e 287 = .int .i64 R.length ∧ Env.get e 288 = .int .i64 (i : Nat)) 0 ?_ ⟨Nat.zero_le _, rfl, ln, h286, h287, h288⟩
  clear ln h286 h287 h288 e
  rintro Lp i e s' ⟨hie, rfl, ln, g286, g287, g288⟩ ih
  obtain ⟨g5, g12, g14, g11, gb⟩ := id ln
  by_cases hd : i < R.length
  · have hw := wrap_succ hd (by omega)
    have hx := ixa_als (R := R) (S := S) hd
    simp +contextual only [go_sem, ↓reduceIte, r3_l7, g286, g287, g288, nat_lt_dec, hd, hx, noAgg_encA, len_encA]
    refine l6c (b := b) g lv hlt hd ?K ⟨?_, ?_, ?_, g11, gb⟩ ?_ ?_ ?_ ?_ ?_ ?_ ?_
    case K =>
      intro e2 ln2 q286 q287 q288
      obtain ⟨n5, n12, n14, n11, nb⟩ := id ln2
      simp +contextual only [go_sem, ↓reduceIte, q288, hw]
      refine ih (i + 1) _ _ (by omega) ⟨by omega, rfl, ⟨?_, ?_, ?_, g11, gb⟩, ?_, ?_, ?_⟩
      all_goals simp +contextual only [go_sem, ↓reduceIte, n5, n12, n14, q286, q287]
    all_goals simp +contextual only [go_sem, ↓reduceIte, g5, g12, g14, g286, g287, g288]
    all_goals rfl
  · have : i = R.length := by omega
    subst this
    simp +contextual only [go_sem, ↓reduceIte, r3_l7, g287, g288, nat_lt_dec, Nat.lt_irrefl]
    exact hk _
end Go.Am
set_option linter.all false
namespace Go.Am
open Go
variable [MaxLen]
set_option maxRecDepth 100000
set_option maxHeartbeats 8000000
/-! # TopClipLines returns true -/
variable {nr ns : Bool} {R : List (Bool × List Nat)} {S : List Int} {lo hi : Nat}
theorem len_als : lenRL (als R S) = some (.int .i64 R.length) := by
  unfold als; rw [lenL_fz, List.length_map, List.length_range]
theorem lv_of (h : ckLv lo hi = 0) : Lv lo hi := by
  unfold ckLv at h
  obtain ⟨h1, h2⟩ := br_zero h (by decide)
  obtain ⟨h3, _⟩ := br_zero h2 (by decide)
  rw [Bool.or_eq_false_iff, Bool.not_eq_false', Bool.not_eq_false'] at h1
  exact ⟨h1.1, h1.2, h3⟩
theorem encS_pos {l : List AV} (h : 0 < l.length) : encS true l = .fz l := by
  cases l with
  | nil => simp at h
  | cons x l => rfl
theorem c3 (nr : Bool) (R : List (Bool × List Nat)) (ns : Bool) (S : List Int) (lo hi : Nat) (hb : ∀ r ∈ R, ∀ b ∈ r.2, b < 2 ^ 32) : calV U 3 [encS nr (recs R), encS ns (ints S), .agg [.flt .f32 lo, .flt .f32 hi]] = some (.bool true) := by
  refine pure_go k3 (by kernel_rfl) (by simp [stills, still_encS, still]) ?_
  have h4 := c4 nr R ns S
  have h5 := c5 lo hi
  have h6 := clip_ok
  cases h1 : decide ((R.length : Int) > 4) with
  | true => simp (config := { maxSteps := 2000000 }) +contextual only [go_sem, ↓reduceIte, r3, lenL_encS, recs_len, noAgg_encS, h1, h6, gateV_true, gateC_true, gateR_true, gateV_false, gateC_false, gateR_false]
  | false =>
    cases h2 : ckR R S != 0 with
    | true => simp (config := { maxSteps := 2000000 }) +contextual only [go_sem, ↓reduceIte, r3, lenL_encS, recs_len, noAgg_encS, h1, h2, h4, h6, gateV_true, gateC_true, gateR_true, gateV_false, gateC_false, gateR_false]
    | false =>
      cases h3 : ckLv lo hi != 0 with
      | true => simp (config := { maxSteps := 2000000 }) +contextual only [go_sem, ↓reduceIte, r3, lenL_encS, recs_len, noAgg_encS, h1, h2, h3, h4, h5, h6, gateV_true, gateC_true, gateR_true, gateV_false, gateC_false, gateR_false]
      | false =>
        have g : Good2 R S := good2 (by simpa using h2)
        have lv : Lv lo hi := lv_of (by simpa using h3)
        have hle := g.le
        simp (config := { maxSteps := 2000000 }) +contextual only [go_sem, ↓reduceIte, r3, lenL_encS, recs_len, noAgg_encS, h1, h2, h3, h4, h5, gateV_true, gateC_true, gateR_true, gateV_false, gateC_false, gateR_false]
        refine loop_ex (Post := fun x => x = some (AV.bool true)) (σ := Nat) (fun i => R.length - i) (fun i e s => i ≤ R.length ∧ Cm nr ns R S lo hi e s ∧ Env.get e 59 = encS nr (recs R) ∧ Env.get e 60 = .int .i64 R.length ∧ Env.get e 61 = .int .i64 (i : Nat)) 0 ?_ ⟨Nat.zero_le _, ⟨?_, ?_, ?_, ?_, ?_, ?_⟩, ?_, ?_, ?_⟩
        case refine_6 => exact Fr.own.new _
        · rintro L i e s ⟨hie, cm, g59, g60, g61⟩ ih
          obtain ⟨g0, g1, g5, g11, fr, hn⟩ := id cm
          by_cases hd : i < R.length
          · have hw := wrap_succ hd (by omega)
            have hx := ixa_recs (nl := nr) hd
            cases h30 : decide ((R[i].2.length : Int) > 30) with
            | true => simp +contextual only [go_sem, ↓reduceIte, r3_l0, g59, g60, g61, nat_lt_dec, hd, hx, noAgg_encR, len_encR, h30, h6]
            | false =>
              simp +contextual only [go_sem, ↓reduceIte, r3_l0, g59, g60, g61, nat_lt_dec, hd, hx, noAgg_encR, len_encR, h30, hw]
              refine ih (i + 1) _ _ (by omega) ⟨by omega, ⟨?_, ?_, ?_, g11, fr, hn⟩, ?_, ?_, ?_⟩
              all_goals simp +contextual only [go_sem, ↓reduceIte, g0, g1, g5, g59, g60, hw]
          · have : i = R.length := by omega
            subst this
            simp +contextual only [go_sem, ↓reduceIte, r3_l0, g0, g60, g61, nat_lt_dec, Nat.lt_irrefl, lenL_encS, recs_len, noAgg_encS]
            refine l1c (nr := nr) (ns := ns) (lo := lo) (hi := hi) (S := S) (Post := fun x => x = some (AV.bool true)) g ?K ⟨?_, ?_, ?_, g11, fr, hn⟩ ?_ ?_ ?_ ?_
            case K =>
              clear ih cm g0 g1 g5 g11 fr hn g59 g60 g61 e s
              intro e s v vs cm h9 ow
              obtain ⟨g0, g1, g5, g11, fr, hn⟩ := id cm
              obtain ⟨d, s1, p1, ⟨b', cap, p2, p3, p4⟩, p5, p6, p7⟩ := copy_of 3 8 (ints S) ns (fun x hx => by
                obtain ⟨z, _, rfl⟩ := List.mem_map.1 hx; rfl) (by rw [ints_len, g.len]; omega) (s := s.new (.cells [] 3 false 0 0)) (b := s.next) (by rw [get_new, if_pos rfl]) (by rw [next_new]; omega)
              rw [next_new] at p5 p6
              have od : OwnI s1 d S := ⟨b', cap, p2, by rw [p3, ints_len], p4⟩
              have hk0 : ∀ j, j < s.next → s1.get j = s.get j := fun j hj => by rw [p6 j (by omega), get_new, if_neg (by omega)]
              have ow1 : Own R R.length v vs s1 := ow.stay (by omega) fun j c t hj _ => hk0 j (st_lt fr hj)
              have h7 := call7 g hb ow1.row (fun j h => ow1.own j h h) od
              have hna := ow1.row.noAgg
              have hdn := od.plain.1
              have fr1 := p7 (fr.new _)
              have g11' := (hk0 11 (by omega)).trans g11
              by_cases hge : frm S R.length ≥ tom R S R.length
              · have ha : ansA R S = .tup [.nils, .int .i64 16] := if_pos hge
                rw [ha] at h7
                simp (config := { maxSteps := 2000000 }) +contextual only [go_sem, ↓reduceIte, g1, h9, p1, hna, hdn, noAgg_encS, h7, h6, gateV_true, gateC_true, gateR_true, gateV_false, gateC_false, gateR_false]
              · have hlt : frm S R.length < tom R S R.length := by omega
                have ha : ansA R S = .tup [als R S, .int .i64 0] := if_neg hge
                rw [ha] at h7
                have hpa : noAgg (als R S) = true := rfl
                simp (config := { maxSteps := 2000000 }) +contextual only [go_sem, ↓reduceIte, g0, g1, h9, p1, hna, hdn, noAgg_encS, h7, len_als, lenL_encS, recs_len, bne_self_eq_false, gateV_true, gateC_true, gateR_true, gateV_false, gateC_false, gateR_false]
                refine l4c (nr := nr) (ns := ns) (lo := lo) (hi := hi) (v := v) (vs := vs) (Post := fun x => x = some (AV.bool true)) g lv hlt ?K2 ⟨?_, ?_, ?_, g11', fr1, by omega⟩ ?_ ow1 ?_ ?_ ?_ ?_ ?_
                case K2 =>
                  clear cm g0 g1 g5 g11 fr hn h9 ow p1 p2 p3 p4 p5 p6 p7 od hk0 ow1 h7 hna hdn fr1 g11' e s s1
                  intro e s w cm h12 h14 row
                  obtain ⟨g0, g1, g5, g11, fr, hn⟩ := id cm
                  have hL := lns_ok g hlt lo hi
                  have hal := alen_le g hlt
                  have hlen : (lns lo hi R S R.length).length = R.length := lns_len _ _ _
                  have row' : RowI s 12 35 1 (lns lo hi R S R.length).length ((lns lo hi R S R.length).map encB) w := by rw [hlen]; exact row
                  have h9 := call9 hL row'
                  have hW : (wds (lns lo hi R S R.length) (alen R S)).length = alen R S := wds_len _ _
                  rw [encS_pos (by rw [words_len, hW]; exact hal.1)] at h9
                  have h10 := c10 (W := wds (lns lo hi R S R.length) (alen R S)) (by omega) (by omega)
                  have h11 := c11 (W := wds (lns lo hi R S R.length) (alen R S)) (by omega) (by omega)
                  have h12w : calV U 12 [.fz (words (wds (lns lo hi R S R.length) (alen R S))), .fz (words (wds (lns lo hi R S R.length) (alen R S)))] = some (.bool true) := by
                    have := c12 false false (wds (lns lo hi R S R.length) (alen R S)) (by omega)
                    rw [encS_fz] at this
                    exact this
                  obtain ⟨b, hb1, hb2, hv, hgb⟩ := row.open g.pos
                  have hna := row.noAgg
                  have hw0 : IntKind.i64.wrap 0 = 0 := rfl
                  subst hv
                  simp (config := { maxSteps := 2000000 }) +contextual only [go_sem, ↓reduceIte, h14, h9, h10, h11, h12w, lenL_fz, words_len, hw0, gateV_true, gateC_true, gateR_true, gateV_false, gateC_false, gateR_false]
                  refine l5c (lo := lo) (hi := hi) (Post := fun x => x = some (AV.bool true)) (b := b) g hlt ?K3 ⟨?_, ?_, ?_, g11, hgb⟩ ?_ ?_ ?_ ?_
                  case K3 =>
                    intro e3 ln
                    obtain ⟨n5, n12, n14, n11, nb⟩ := id ln
                    simp +contextual only [go_sem, ↓reduceIte, n12, len_als]
                    refine l7c (lo := lo) (hi := hi) (Post := fun x => x = some (AV.bool true)) (b := b) g lv hlt ?K4 ⟨?_, ?_, ?_, n11, nb⟩ ?_ ?_ ?_
                    case K4 =>
                      intro e4
                      simp +contextual only [go_sem, ↓reduceIte, h6]
                    all_goals simp +contextual only [go_sem, ↓reduceIte, n5, n12, n14]
                    all_goals rfl
                  all_goals simp +contextual only [go_sem, ↓reduceIte, g5, h12, h14]
                  all_goals rfl
                all_goals simp +contextual only [go_sem, ↓reduceIte, g0, g1, g5, h9]
                all_goals rfl
            all_goals simp +contextual only [go_sem, ↓reduceIte, g0, g1, g5]
            all_goals rfl
        all_goals simp +contextual only [go_sem, ↓reduceIte]
        all_goals rfl
end Go.Am
