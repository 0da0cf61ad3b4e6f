/- A part of the proof of a statement of this seat: the machine on which the program is read, and what it computes; for every input. -/
import Derived.Test.YtaoeblefgefgpaaGreatDoorC21
import Derived.Test.YtaoeblefgefgpaaGreatDoorC29
import Derived.Test.YtaoeblefgefgpaaGreatDoorTie
import Derived.Test.YtaoeblefgefgpaaGreatDoorCards
import Derived.ProofKit
import Derived.OpenShut
import Derived.LaidMore
import Derived.LaidLaws
import Derived.Lay
import Derived.Below
import Derived.Shelf.Vars
import Derived.SevenTiedAt
import Derived.SizedLaws
import Derived.Stop.Joined
set_option linter.all false
set_option linter.all false
namespace Go.Am
open Go Go.Proofs Go.Proofs.YtaoeblefgefgpaaGreatDoor Go.RowKit
set_option maxRecDepth 100000

/-! # From a call's world to the machine, and back -/

def laid7 : List (String × DataW Unit) := Rows.benchCollectsRow.laid
def pow10L : List Int := tab10.map fun n : Nat => (n : Int)
structure GlobW (W : World) : Prop where
  g1 : ∃ cs : Array Value, W.heap[1]? = some (.cells cs 354) ∧ cs.toList = pow10L.map (.int .u64 ·)
  size : 10 ≤ W.heap.size
theorem sh_at {W : World} (hsh : W.ShapedOpen Tryz.prog) {g t n : Nat} (hg : g < Tryz.prog.globals.size) (h0 : (((begin Tryz.prog (fun _ _ => 0) default).world.heap[g]?).bind Obj.row?).map (fun x => (x.1.size, x.2)) = some (n, t)) : ∃ cs, W.heap[g]? = some (.cells cs t) ∧ cs.size = n := by
  obtain ⟨⟨z, t'⟩, h1, h2⟩ := Option.map_eq_some_iff.1 h0
  cases h2
  obtain ⟨cs, h3, h4, _⟩ := hsh.1 g z _ hg h1
  exact ⟨cs, h3, h4⟩
theorem named_eq {n : String} {g k : Nat} (h : Tryz.prog.globalNamed n = some g) (h' : Tryz.prog.globalNamed n = some k) : k = g := Option.some.inj (h'.symm.trans h)
theorem cz_el : Tryz.prog.cellsOf 274 = 1 := by kernel_rfl
theorem cz_354 : Tryz.prog.cellsOf 354 = 20 := by kernel_rfl
theorem tab_of {H : Type} {enc : TypeId × Value → H} {W : World} {base : Nat} {sp : Nat → Bool} {held : Bool} {fuel : Nat} {cs : List Value} {zs : List Int} {p : List MemPlace}
    (h : DataW.trod enc Tryz.prog W base sp held fuel 354 cs = some (.agg (zs.map fun z => .lit (.int .u64 z)), p)) : cs = zs.map (.int .u64 ·) := by
  obtain ⟨xs, m, _, ex, hlen, hl, hel⟩ := DataW.trod_array Tryz.underlying354 h
  rw [cz_354] at hlen
  have e1 : (zs.map fun z => (DataW.lit (.int .u64 z) : DataW H)) = xs.map (·.1) := DataW.agg.inj (Prod.mk.inj ex).1
  have hzl : zs.length = xs.length := by have := congrArg List.length e1; simpa using this
  refine List.ext_getElem? fun i => ?_
  by_cases hi : i < 20
  · have hE := hel i hi
    rw [cz_el, Nat.mul_one, List.getElem?_eq_getElem (by omega)] at hE
    obtain ⟨z, e2, e3, _⟩ := DataW.trod_int Tryz.underlying274 hE
    have e4 : (zs.map fun z => (DataW.lit (.int .u64 z) : DataW H))[i]? = (xs.map (·.1))[i]? := by rw [e1]
    rw [List.getElem?_map, List.getElem?_map, List.getElem?_eq_getElem (by omega : i < xs.length), e3] at e4
    obtain ⟨z', hz', hzz⟩ := Option.map_eq_some_iff.1 e4
    cases hzz
    rw [List.getElem?_map, hz']
    have h0 : ((cs.drop i).take 1)[0]? = some (.int .u64 z) := by rw [e2]; rfl
    simpa using h0
  · rw [List.getElem?_eq_none (by omega), List.getElem?_eq_none (by rw [List.length_map, hzl]; have : xs.length = 20 := hl; omega)]
theorem globW_of {W : World} (hL : laidMetH Tryz.prog laid7 W) (hsh : W.ShapedOpen Tryz.prog) : GlobW W := by
  rw [MakeChecks.laidMetH_plain _ _ _ (by kernel_rfl)] at hL
  obtain ⟨ps, ⟨_, _, _, _, _, _, _, _, _, _, ⟨_, _, _, _, _, _, _, _, _, _, ⟨g1, t1, cs1, f1, p1, q1, hg1, ht1, hv1, hd1, _, _⟩, _⟩, _⟩, _, hok⟩ := hL
  obtain rfl := named_eq hg1 (k := 1) (by kernel_rfl)
  obtain rfl := Option.some.inj ((show (Tryz.prog.globals[1]?).map (·.type) = some 354 by kernel_rfl).symm.trans ht1)
  obtain ⟨c1, k1, z1⟩ := sh_at (g := 1) (t := 354) (n := 20) hsh (of_decide_eq_true (by kernel_rfl)) (by kernel_rfl)
  obtain ⟨c9, k9, z9⟩ := sh_at (g := 9) (t := 378) (n := 64) hsh (of_decide_eq_true (by kernel_rfl)) (by kernel_rfl)
  have same : ∀ {g : Nat} {c cs : Array Value} {t : TypeId}, W.heap[g]? = some (.cells c t) → (∀ i, W.cell? ⟨g, i, none⟩ = cs[i]?) → c = cs := fun {g c cs t} hk hc => by
    refine Array.ext_getElem? fun i => ?_
    rw [← hc i]; simp [World.cell?, hk]
  refine ⟨⟨c1, k1, ?_⟩, ?_⟩
  · have := same k1 (World.var?_cell hg1 hv1)
    subst this
    exact tab_of (zs := pow10L) hd1
  · have := (Array.getElem?_eq_some_iff.1 k9).1
    omega
def bsize (W : World) (i : Nat) : Nat := match W.heap[i]? with
  | some (.cells cc _ _) => cc.size
  | _ => 0
/-- all that stands at the call's begin is written no more -/
def σ0 (W : World) : Sg := { m := fun i => if i < 10 then some ⟨i, 0, bsize W i⟩ else none, fz := fun b => W.heap[b]? }
theorem br_of [Stat] {σ : Sg} {W : World} {i : Nat} {c : List AV} {cc : Array Value} {t : TypeId} (hr : vrels σ c cc.toList) (hk : W.heap[i]? = some (.cells cc t)) : BR σ ⟨i, 0, bsize W i⟩ (.cells c t true 0 0) (.cells cc t) := by
  have hs : bsize W i = cc.size := by unfold bsize; rw [hk]
  have hl : c.length = cc.size := by rw [hr.length]; exact Array.length_toList
  refine ⟨by simp only [hs], by simp only [hs, hl]; omega, rfl, fun j a ha => ?_, fun h => (by cases h), fun _ => ⟨rfl, by simp only [hs, hl]⟩⟩
  obtain ⟨v, h1, h2⟩ := hr.get j a ha
  refine ⟨v, ?_, h2⟩
  rw [Nat.zero_add, ← Array.getElem?_toList]
  exact h1
theorem vrels_ints {σ : Sg} {k : IntKind} : ∀ zs : List Int, vrels σ (zs.map (AV.int k ·)) (zs.map (Value.int k ·))
  | [] => rfl
  | z :: zs => ⟨_, _, rfl, rfl, vrels_ints zs⟩
theorem own_look (i : Nat) : (ownSt U).look i = gbU i := by
  have : (ownSt U).get i = gbU i := by rw [own_get, U_gbase]
  unfold St.look
  rw [this]
  unfold gbU
  cases gcell i <;> rfl
theorem gb_rel {W : World} (G : GlobW W) {i : Nat} {b : Blk} (h : gbU i = some b) : i < 4 ∧ b.own = false ∧ ∃ o, W.heap[i]? = some o ∧ BR (σ0 W).bare ⟨i, 0, bsize W i⟩ b o := by
  match i, h with
  | 0, h => cases h
  | 1, h =>
    cases h
    obtain ⟨cs, h1, h2⟩ := G.g1
    refine ⟨by omega, rfl, _, h1, br_of ?_ h1⟩
    rw [h2]
    have := vrels_ints (σ := (σ0 W).bare) (k := .u64) pow10L
    rw [pow10L, List.map_map] at this
    exact this
  | n + 2, h => cases h
theorem s0_some {W : World} {i : Nat} {p : Pl} (h : σ0 W i = some p) : i < 10 ∧ p = ⟨i, 0, bsize W i⟩ := by
  have h : (if i < 10 then some (⟨i, 0, bsize W i⟩ : Pl) else none) = some p := h
  split at h
  · rename_i hi
    cases h; exact ⟨hi, rfl⟩
  · cases h
theorem no_owns {W : World} (G : GlobW W) (c : Nat) : ¬ Owns (σ0 W) (ownSt U) c := by
  rintro ⟨i, p, b, _, h2, h3, _⟩
  rw [own_look] at h2
  rw [(gb_rel G h2).2.1] at h3
  cases h3
theorem hr0 {W : World} (G : GlobW W) : HR (σ0 W) (ownSt U) W where
  lt i p h := by
    obtain ⟨hi, rfl⟩ := s0_some h
    have := G.size
    show i < _
    omega
  blk i p b h hb := by
    obtain ⟨hi, rfl⟩ := s0_some h
    rw [own_look] at hb
    obtain ⟨_, _, o, h1, h2⟩ := gb_rel G hb
    exact ⟨o, h1, h2.mono (Sg.bare_le _)⟩
  inj i j p q b c h1 h2 _ _ h5 := by
    obtain ⟨_, rfl⟩ := s0_some h1
    obtain ⟨_, rfl⟩ := s0_some h2
    exact h5
  fz c o h := ⟨h, no_owns G c⟩
theorem fresh0 {W : World} : Fresh (σ0 W) (ownSt U) := fun i hi => by
  rw [own_next, U_glob] at hi
  show (if i < 10 then _ else none) = none
  rw [if_neg (by omega)]
theorem glob0 {W : World} (G : GlobW W) : GlobOk U (σ0 W) := fun g hg => by
  rw [U_glob] at hg
  refine ⟨bsize W g, if_pos hg, fun b hb => ?_⟩
  rw [U_gbase] at hb
  obtain ⟨_, h1, o, h2, h3⟩ := gb_rel G hb
  exact ⟨h1, o, h2, h3⟩
/-- what the machine computes, the program returns; and of what stood there nothing turns -/
theorem enter_ok {W : World} (G : GlobW W) {f : FuncId} (hext : U.ext f = none) {args : List AV} {us : Array Value} {v : AV} (hv : vrels (σ0 W).bare args us.toList) (h : calV U f args = some v) :
    Calls Tryz.prog f us W fun e W' => ∃ u σ', e = .returned u ∧ vrel σ' v u ∧ Below W.heap.size W W' := by
  have h1 := calV_eq h (ownSt U)
  obtain ⟨n, h2⟩ := callL_run h1
  refine (run_ok full_U hext h2 (hr0 G) fresh0 (glob0 G) (hv.mono (Sg.bare_le _) _ _)).mono ?_
  rintro e W' ⟨u, σ', he, hr, hg⟩
  exact ⟨u, σ', he, hr, hg.ext.os, hg.ext.tape, hg.ext.output, hg.ext.size, fun k hk => hg.ext.keep k hk (no_owns G k)⟩
end Go.Am
