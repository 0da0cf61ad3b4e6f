/- A part of the proof of a statement of this seat: the machine on which the program is read, and what it computes; for every input. -/
import Derived.Test.YtkmaeondbkpajaaGreatDoorT22
import Derived.Test.YtkmaeondbkpajaaGreatDoorT02
import Derived.Test.YtkmaeondbkpajaaGreatDoorTie
import Derived.Test.YtkmaeondbkpajaaGreatDoorCards
import Derived.ProofKit
import Derived.OpenShut
import Derived.LaidMore
import Derived.LaidLaws
import Derived.Lay
import Derived.Below
import Derived.Shelf.Vars
import Derived.SevenTiedAt
import Derived.Stop.Joined
set_option linter.all false
set_option linter.all false
namespace Go.Am
open Go Go.Proofs
set_option maxRecDepth 100000

/-! # What comes in, as conditions, steps and programs -/

variable {H : Type} {enc : TypeId × Value → H} {w : World} {σ : Sg}
theorem encS'_eq (nl : Bool) (l : List AV) : encS' nl l = encS nl l := by cases nl <;> cases l <;> rfl
theorem cz_3 : Tryz.prog.cellsOf 3 = 1 := by kernel_rfl
theorem cz_9 : Tryz.prog.cellsOf 9 = 1 := by kernel_rfl
theorem cz_37 : Tryz.prog.cellsOf 104 = 1 := by kernel_rfl
theorem cz_29 : Tryz.prog.cellsOf 29 = 1 := by kernel_rfl
theorem cz_39 : Tryz.prog.cellsOf 106 = 7 := by kernel_rfl
theorem cz_90 : Tryz.prog.cellsOf 109 = 9 := by kernel_rfl
theorem cz_31 : Tryz.prog.cellsOf 31 = 2 := by kernel_rfl
theorem some_of {α : Type} {l : List α} {i : Nat} (h : i < l.length) : ∃ x, l[i]? = some x := ⟨l[i], List.getElem?_eq_getElem h⟩
theorem vrels_app {σ : Sg} : ∀ (a b : List AV) (x y : List Value), vrels σ a x → vrels σ b y → vrels σ (a ++ b) (x ++ y)
  | [], b, x, y, h1, h2 => by
    have h1 : x = [] := h1
    subst h1; exact h2
  | a :: l, b, x, y, h1, h2 => by
    obtain ⟨v, z, rfl, h3, h4⟩ := h1
    exact ⟨v, z ++ y, rfl, h3, vrels_app l b z y h4 h2⟩
theorem cond_of (hz : ∀ b o, w.heap[b]? = some o → σ.fz b = some o) {base : Nat} {spare : Nat → Bool} {held : Bool} : ∀ (fuel : Nat) (cs : List Value) (x : DataW H × List MemPlace), DataW.trod enc Tryz.prog w base spare held fuel 106 cs = some x →
    ∃ (c : Cond) (u : Value), vrel σ.bare (encC c) u ∧ u.cells.toList = cs := by
  intro fuel
  induction fuel using Nat.strongRecOn with
  | ind fuel ih =>
  intro cs x h
  obtain ⟨xs, n, hn, _, hlen, hsz, hel⟩ := DataW.trod_struct Tryz.underlying106 h
  rw [cz_39] at hlen
  match cs, hlen with
  | [v0, v1, v2, v3, v4, v5, v6], _ =>
    have hx7 : xs.length = 7 := hsz
    have h0 := hel 0 _ rfl
    have h1 := hel 1 _ rfl
    have h2 := hel 2 _ rfl
    have h3 := hel 3 _ rfl
    have h4 := hel 4 _ rfl
    have h5 := hel 5 _ rfl
    have h6 := hel 6 _ rfl
    try simp only [cz_3, cz_9, cz_37, List.drop_zero, List.drop_succ_cons, List.take_succ_cons, List.take_zero] at h0 h1 h2 h3 h4 h5 h6
    obtain ⟨x0, e0⟩ := some_of (l := xs) (i := 0) (by omega)
    obtain ⟨x1, e1⟩ := some_of (l := xs) (i := 1) (by omega)
    obtain ⟨x2, e2⟩ := some_of (l := xs) (i := 2) (by omega)
    obtain ⟨x3, e3⟩ := some_of (l := xs) (i := 3) (by omega)
    obtain ⟨x4, e4⟩ := some_of (l := xs) (i := 4) (by omega)
    obtain ⟨x5, e5⟩ := some_of (l := xs) (i := 5) (by omega)
    obtain ⟨x6, e6⟩ := some_of (l := xs) (i := 6) (by omega)
    rw [e0] at h0; rw [e1] at h1; rw [e2] at h2; rw [e3] at h3; rw [e4] at h4; rw [e5] at h5; rw [e6] at h6
    obtain ⟨s0, f0, _, _⟩ := DataW.trod_string Tryz.underlying9 h0
    obtain ⟨n1, f1, _, _⟩ := DataW.trod_int Tryz.underlying3 h1
    obtain ⟨n2, f2, _, _⟩ := DataW.trod_int Tryz.underlying3 h2
    obtain ⟨n3, f3, _, _⟩ := DataW.trod_int Tryz.underlying3 h3
    obtain ⟨n4, f4, _, _⟩ := DataW.trod_int Tryz.underlying3 h4
    obtain ⟨s5, f5, _, _⟩ := DataW.trod_string Tryz.underlying9 h5
    obtain ⟨nl, kids, u6, f6, hr6, _⟩ := open_row hz encC (k := 7) (by omega) Tryz.underlying104 cz_39 h6 fun m cs x hm hx => ih m (by omega) cs x hx
    cases f0; cases f1; cases f2; cases f3; cases f4; cases f5; cases f6
    rw [encS'_eq, ← encL_map] at hr6
    refine ⟨.mk s0.data.toList n1 n2 n3 n4 s5.data.toList nl kids, .agg #[.string s0, .int .i64 n1, .int .i64 n2, .int .i64 n3, .int .i64 n4, .string s5, v6], ?_, rfl⟩
    rw [encC]
    exact ⟨_, rfl, _, _, rfl, ⟨s0, rfl, rfl⟩, _, _, rfl, rfl, _, _, rfl, rfl, _, _, rfl, rfl, _, _, rfl, rfl, _, _, rfl, ⟨s5, rfl, rfl⟩, _, _, rfl, hr6, rfl⟩
theorem step_of (hz : ∀ b o, w.heap[b]? = some o → σ.fz b = some o) {base : Nat} {spare : Nat → Bool} {held : Bool} (fuel : Nat) (cs : List Value) (x : DataW H × List MemPlace) (h : DataW.trod enc Tryz.prog w base spare held fuel 109 cs = some x) :
    ∃ (c : Step) (u : Value), vrel σ.bare (encStep c) u ∧ u.cells.toList = cs := by
  obtain ⟨xs, n, hn, _, hlen, hsz, hel⟩ := DataW.trod_struct Tryz.underlying109 h
  rw [cz_90] at hlen
  match cs, hlen with
  | [v0, v1, v2, v3, v4, v5, v6, v7, v8], _ =>
    have hx7 : xs.length = 3 := hsz
    have h0 := hel 0 _ rfl
    have h1 := hel 1 _ rfl
    have h2 := hel 2 _ rfl
    try simp only [cz_3, cz_39, List.drop_zero, List.drop_succ_cons, List.take_succ_cons, List.take_zero] at h0 h1 h2
    obtain ⟨x0, e0⟩ := some_of (l := xs) (i := 0) (by omega)
    obtain ⟨x1, e1⟩ := some_of (l := xs) (i := 1) (by omega)
    obtain ⟨x2, e2⟩ := some_of (l := xs) (i := 2) (by omega)
    rw [e0] at h0; rw [e1] at h1; rw [e2] at h2
    obtain ⟨c, u, hu, hu2⟩ := cond_of hz _ _ _ h0
    obtain ⟨n1, f1, _, _⟩ := DataW.trod_int Tryz.underlying3 h1
    obtain ⟨n2, f2, _, _⟩ := DataW.trod_int Tryz.underlying3 h2
    cases f1; cases f2
    rw [encC_cells] at hu
    obtain ⟨vs, rfl, hvs⟩ := hu
    have hvs2 : vs.toList = [v0, v1, v2, v3, v4, v5, v6] := hu2
    rw [hvs2] at hvs
    refine ⟨⟨c, n1, n2⟩, .agg #[v0, v1, v2, v3, v4, v5, v6, .int .i64 n1, .int .i64 n2], ?_, rfl⟩
    have := vrels_app c.cells [.int .i64 n1, .int .i64 n2] [v0, v1, v2, v3, v4, v5, v6] [.int .i64 n1, .int .i64 n2] hvs ⟨_, _, rfl, rfl, _, _, rfl, rfl, rfl⟩
    exact ⟨_, rfl, this⟩
theorem prog_of (hz : ∀ b o, w.heap[b]? = some o → σ.fz b = some o) {base : Nat} {spare : Nat → Bool} {held : Bool} {fuel : Nat} {cs : List Value} {x : DataW H × List MemPlace} (h : DataW.trod enc Tryz.prog w base spare held fuel 31 cs = some x) :
    ∃ (p : Prog) (u : Value), vrel σ.bare (encP p) u ∧ u.cells.toList = cs := by
  obtain ⟨xs, n, hn, _, hlen, hsz, hel⟩ := DataW.trod_struct Tryz.underlying31 h
  rw [cz_31] at hlen
  match cs, hlen with
  | [v0, v1], _ =>
    have hx7 : xs.length = 2 := hsz
    have h0 := hel 0 _ rfl
    have h1 := hel 1 _ rfl
    try simp only [cz_3, cz_29, List.drop_zero, List.drop_succ_cons, List.take_succ_cons, List.take_zero] at h0 h1
    obtain ⟨x0, e0⟩ := some_of (l := xs) (i := 0) (by omega)
    obtain ⟨x1, e1⟩ := some_of (l := xs) (i := 1) (by omega)
    rw [e0] at h0; rw [e1] at h1
    obtain ⟨n0, f0, _, _⟩ := DataW.trod_int Tryz.underlying3 h0
    obtain ⟨nl, steps, u1, f1, hr1, _⟩ := open_row hz encStep (k := 9) (by omega) Tryz.underlying29 cz_90 h1 fun m cs x hm hx => step_of hz m cs x hx
    cases f0; cases f1
    rw [encS'_eq] at hr1
    exact ⟨⟨n0, nl, steps⟩, .agg #[.int .i64 n0, v1], ⟨_, rfl, _, _, rfl, rfl, _, _, rfl, hr1, rfl⟩, rfl⟩
end Go.Am
set_option linter.all false
namespace Go.Am
open Go Go.Proofs Go.Proofs.YtkmaeondbkpajaaGreatDoor Go.RowKit
set_option maxRecDepth 100000

/-! # From a call's world to the machine, and back -/

def laid7 : List (String × DataW Unit) := Rows.triggerEqualRow.laid
def pow10L : List Int := [1, 10, 100, 1000, 10000, 100000, 1000000, 10000000, 100000000, 1000000000, 10000000000, 100000000000, 1000000000000, 10000000000000, 100000000000000, 1000000000000000, 10000000000000000, 100000000000000000, 1000000000000000000, 10000000000000000000]
structure GlobW (W : World) (m : Int) : Prop where
  g0 : W.heap[0]? = some (.cells #[.int .i64 m] 3)
  g1 : ∃ cs : Array Value, W.heap[1]? = some (.cells cs 313) ∧ cs.toList = pow10L.map (.int .u64 ·)
  g2 : ∃ a s, W.heap[2]? = some (.cells #[.iface 332 (.pointer (some a))] 153) ∧ W.cell? a = some (.string s) ∧ s.data.toList = [105, 110, 118, 97, 108, 105, 100, 32, 115, 121, 110, 116, 97, 120]
  g3 : ∃ a s, W.heap[3]? = some (.cells #[.iface 332 (.pointer (some a))] 153) ∧ W.cell? a = some (.string s) ∧ s.data.toList = [118, 97, 108, 117, 101, 32, 111, 117, 116, 32, 111, 102, 32, 114, 97, 110, 103, 101]
  size : 8 ≤ W.heap.size
theorem sh_at {W : World} (hsh : W.ShapedOpen Tryz.prog) {g t n : Nat} (hg : g < Tryz.prog.globals.size) (h0 : (((begin Tryz.prog (fun _ _ => 0) default).world.heap[g]?).bind Obj.row?).map (fun x => (x.1.size, x.2)) = some (n, t)) : ∃ cs, W.heap[g]? = some (.cells cs t) ∧ cs.size = n := by
  obtain ⟨⟨z, t'⟩, h1, h2⟩ := Option.map_eq_some_iff.1 h0
  cases h2
  obtain ⟨cs, h3, h4, _⟩ := hsh.1 g z _ hg h1
  exact ⟨cs, h3, h4⟩
noncomputable def nm349 : String := (Tryz.prog.typeName? 2 334).getD default
theorem row347 (nm : String) (h0 : Tryz.prog.typeName? 3 332 = some nm) (u : TypeId) (h : Tryz.prog.typeName? 3 u = some nm) : u = 332 := by
  refine typeName_ptr_named (P := Tryz.prog) (nm := nm349) (by kernel_rfl) (by kernel_rfl) (by decide +kernel) u ?_
  rw [h, ← h0]
  kernel_rfl
theorem named_eq {n : String} {g k : Nat} (h : Tryz.prog.globalNamed n = some g) (h' : Tryz.prog.globalNamed n = some k) : k = g := Option.some.inj (h'.symm.trans h)
theorem cz_349 : Tryz.prog.cellsOf 334 = 1 := by kernel_rfl
theorem cz_301 : Tryz.prog.cellsOf 280 = 1 := by kernel_rfl
theorem cz_332 : Tryz.prog.cellsOf 313 = 20 := by kernel_rfl
theorem tab_of {H : Type} {enc : TypeId × Value → H} {W : World} {base : Nat} {sp : Nat → Bool} {held : Bool} {fuel : Nat} {cs : List Value} {zs : List Int} {p : List MemPlace}
    (h : DataW.trod enc Tryz.prog W base sp held fuel 313 cs = some (.agg (zs.map fun z => .lit (.int .u64 z)), p)) : cs = zs.map (.int .u64 ·) := by
  obtain ⟨xs, m, _, ex, hlen, hl, hel⟩ := DataW.trod_array Tryz.underlying313 h
  rw [cz_332] at hlen
  have e1 : (zs.map fun z => (DataW.lit (.int .u64 z) : DataW H)) = xs.map (·.1) := DataW.agg.inj (Prod.mk.inj ex).1
  have hzl : zs.length = xs.length := by have := congrArg List.length e1; simpa using this
  refine List.ext_getElem? fun i => ?_
  by_cases hi : i < 20
  · have hE := hel i hi
    rw [cz_301, Nat.mul_one, List.getElem?_eq_getElem (by omega)] at hE
    obtain ⟨z, e2, e3, _⟩ := DataW.trod_int Tryz.underlying280 hE
    have e4 : (zs.map fun z => (DataW.lit (.int .u64 z) : DataW H))[i]? = (xs.map (·.1))[i]? := by rw [e1]
    rw [List.getElem?_map, List.getElem?_map, List.getElem?_eq_getElem (by omega : i < xs.length), e3] at e4
    obtain ⟨z', hz', hzz⟩ := Option.map_eq_some_iff.1 e4
    cases hzz
    rw [List.getElem?_map, hz']
    have h0 : ((cs.drop i).take 1)[0]? = some (.int .u64 z) := by rw [e2]; rfl
    simpa using h0
  · rw [List.getElem?_eq_none (by omega), List.getElem?_eq_none (by rw [List.length_map, hzl]; have : xs.length = 20 := hl; omega)]
theorem globW_of {W : World} (hL : laidMetH Tryz.prog laid7 W) (hsh : W.ShapedOpen Tryz.prog) : ∃ m, GlobW W m := by
  rw [MakeChecks.laidMetH_plain _ _ _ (by kernel_rfl)] at hL
  obtain ⟨ps, ⟨_, _, _, _, _, _, _, _, _, _, ⟨g7, _, cs7, _, _, _, hg7, _, hv7, _, ⟨g1, t1, cs1, f1, p1, q1, hg1, ht1, hv1, hd1, ⟨_, _, _, _, _, _, _, _, _, _, ⟨g3, t3, cs3, f3, p3, q3, hg3, ht3, hv3, hd3, ⟨g2, t2, cs2, f2, p2, q2, hg2, ht2, hv2, hd2, _, e2⟩, e3⟩, e4⟩, e1⟩, e5⟩, e6⟩, _, hok⟩ := hL
  obtain rfl := named_eq hg1 (k := 1) (by kernel_rfl)
  obtain rfl := named_eq hg3 (k := 3) (by kernel_rfl)
  obtain rfl := named_eq hg2 (k := 2) (by kernel_rfl)
  obtain rfl := Option.some.inj ((show (Tryz.prog.globals[1]?).map (·.type) = some 313 by kernel_rfl).symm.trans ht1)
  obtain rfl := Option.some.inj ((show (Tryz.prog.globals[3]?).map (·.type) = some 153 by kernel_rfl).symm.trans ht3)
  obtain rfl := Option.some.inj ((show (Tryz.prog.globals[2]?).map (·.type) = some 153 by kernel_rfl).symm.trans ht2)
  obtain ⟨c0, k0, z0⟩ := sh_at (g := 0) (t := 3) (n := 1) hsh (of_decide_eq_true (by kernel_rfl)) (by kernel_rfl)
  obtain ⟨c1, k1, z1⟩ := sh_at (g := 1) (t := 313) (n := 20) hsh (of_decide_eq_true (by kernel_rfl)) (by kernel_rfl)
  obtain ⟨c2, k2, z2⟩ := sh_at (g := 2) (t := 153) (n := 1) hsh (of_decide_eq_true (by kernel_rfl)) (by kernel_rfl)
  obtain ⟨c3, k3, z3⟩ := sh_at (g := 3) (t := 153) (n := 1) hsh (of_decide_eq_true (by kernel_rfl)) (by kernel_rfl)
  obtain ⟨c7, k7, z7⟩ := sh_at (g := 7) (t := 340) (n := 32) hsh (of_decide_eq_true (by kernel_rfl)) (by kernel_rfl)
  obtain ⟨m, hm⟩ := cell_of_shapedOpen_int (P := Tryz.prog) (g := 0) (t := 3) (zero := #[.int .i64 0]) hsh (of_decide_eq_true (by kernel_rfl)) (by kernel_rfl) rfl (by kernel_rfl) (by kernel_rfl) Tryz.underlying3
  have same : ∀ {g : Nat} {c cs : Array Value} {t : TypeId}, W.heap[g]? = some (.cells c t) → (∀ i, W.cell? ⟨g, i, none⟩ = cs[i]?) → c = cs := fun {g c cs t} hk hc => by
    refine Array.ext_getElem? fun i => ?_
    rw [← hc i]; simp [World.cell?, hk]
  refine ⟨m, ?_, ⟨c1, k1, ?_⟩, ?_, ?_, ?_⟩
  · have : c0 = #[.int .i64 m] := by
      have h0 : c0[0]? = some (.int .i64 m) := by rw [← hm]; simp [World.cell?, k0]
      match c0, z0, h0 with
      | ⟨[x]⟩, _, h0 => simp at h0; rw [h0]
    rw [k0, this]
  · have := same k1 (World.var?_cell hg1 hv1)
    subst this
    exact tab_of (zs := pow10L) hd1
  · have := same k2 (World.var?_cell hg2 hv2)
    subst this
    obtain ⟨a, s, hcs, hca, hs, _, _⟩ := errorString_of_trod Tryz.underlying153 (row347 _ (by kernel_rfl)) Tryz.underlying332 Tryz.underlying334 rfl rfl Tryz.underlying9 cz_349 cz_9 hd2 (fun u v he => by
      refine (hok 2 0 ?_).2 u v ?_
      · rw [e6, e5, e1, e4, e3, e2]
        have hmem : MemPlace.cell 2 0 ∈ MemPlace.row ⟨2, 0, none⟩ c2.size := by
          rw [z2]; exact List.mem_map.2 ⟨0, by simp, rfl⟩
        simp only [List.mem_append]
        simp [hmem]
      · have : c2[0]? = some (.iface u v) := by
          rw [← Array.getElem?_toList, he]; rfl
        simpa [World.cell?, k2] using this)
    have : c2 = #[.iface 332 (.pointer (some a))] := Array.eq_one_of_toList hcs
    subst this
    exact ⟨a, s, k2, hca, hs⟩
  · have := same k3 (World.var?_cell hg3 hv3)
    subst this
    obtain ⟨a, s, hcs, hca, hs, _, _⟩ := errorString_of_trod Tryz.underlying153 (row347 _ (by kernel_rfl)) Tryz.underlying332 Tryz.underlying334 rfl rfl Tryz.underlying9 cz_349 cz_9 hd3 (fun u v he => by
      refine (hok 3 0 ?_).2 u v ?_
      · rw [e6, e5, e1, e4, e3]
        have hmem : MemPlace.cell 3 0 ∈ MemPlace.row ⟨3, 0, none⟩ c3.size := by
          rw [z3]; exact List.mem_map.2 ⟨0, by simp, rfl⟩
        simp only [List.mem_append]
        simp [hmem]
      · have : c3[0]? = some (.iface u v) := by
          rw [← Array.getElem?_toList, he]; rfl
        simpa [World.cell?, k3] using this)
    have : c3 = #[.iface 332 (.pointer (some a))] := Array.eq_one_of_toList hcs
    subst this
    exact ⟨a, s, k3, hca, hs⟩
  · have := (Array.getElem?_eq_some_iff.1 k7).1
    omega
end Go.Am
set_option linter.all false
namespace Go.Am
open Go Go.Proofs Go.Proofs.YtkmaeondbkpajaaGreatDoor Go.RowKit
set_option maxRecDepth 100000

def bsize (W : World) (i : Nat) : Nat := match W.heap[i]? with
  | some (.cells cc _ _) => cc.size
  | _ => 0
/-- all that stands at the call's begin is written no more -/
def σ0 (W : World) : Sg := { m := fun i => if i < 8 then some ⟨i, 0, bsize W i⟩ else none, fz := fun b => W.heap[b]? }
theorem br_of [Stat] {σ : Sg} {W : World} {i : Nat} {c : List AV} {cc : Array Value} {t : TypeId} (hr : vrels σ c cc.toList) (hk : W.heap[i]? = some (.cells cc t)) : BR σ ⟨i, 0, bsize W i⟩ (.cells c t true 0 0) (.cells cc t) := by
  have hs : bsize W i = cc.size := by unfold bsize; rw [hk]
  have hl : c.length = cc.size := by rw [hr.length]; exact Array.length_toList
  refine ⟨by simp only [hs], by simp only [hs, hl]; omega, rfl, fun j a ha => ?_, fun h => (by cases h), fun _ => ⟨rfl, by simp only [hs, hl]⟩⟩
  obtain ⟨v, h1, h2⟩ := hr.get j a ha
  refine ⟨v, ?_, h2⟩
  rw [Nat.zero_add, ← Array.getElem?_toList]
  exact h1
theorem vrels_ints {σ : Sg} {k : IntKind} : ∀ zs : List Int, vrels σ (zs.map (AV.int k ·)) (zs.map (Value.int k ·))
  | [] => rfl
  | z :: zs => ⟨_, _, rfl, rfl, vrels_ints zs⟩
theorem vrel_err {W : World} {a : Addr} {s : ByteArray} {l : List UInt8} (h : W.cell? a = some (.string s)) (hs : s.data.toList = l) : vrel (σ0 W).bare (.iface 332 (.fp [.str l] 0)) (.iface 332 (.pointer (some a))) := by
  obtain ⟨h1, cc, e, fz, h2, h3⟩ := cell_some h
  refine ⟨_, rfl, a.block, a.off, [.string s], cc, e, fz, ?_, h2, ⟨_, _, rfl, ⟨s, rfl, hs⟩, rfl⟩, fun i u hu => ?_⟩
  · cases a; simp only at h1; subst h1; rfl
  · cases i with
    | zero => cases hu; exact h3
    | succ i => simp at hu
variable [MaxLen]
theorem own_look (i : Nat) : (ownSt U).look i = gbU i := by
  have : (ownSt U).get i = gbU i := by rw [own_get, U_gbase]
  unfold St.look
  rw [this]
  unfold gbU
  cases gcell i <;> rfl
theorem gb_rel {W : World} (G : GlobW W MaxLen.val) {i : Nat} {b : Blk} (h : gbU i = some b) : i < 4 ∧ b.own = false ∧ ∃ o, W.heap[i]? = some o ∧ BR (σ0 W).bare ⟨i, 0, bsize W i⟩ b o := by
  match i, h with
  | 0, h => cases h; exact ⟨by omega, rfl, _, G.g0, br_of ⟨_, _, rfl, rfl, rfl⟩ G.g0⟩
  | 1, h =>
    cases h
    obtain ⟨cs, h1, h2⟩ := G.g1
    exact ⟨by omega, rfl, _, h1, br_of (by rw [h2]; exact vrels_ints pow10L) h1⟩
  | 2, h =>
    cases h
    obtain ⟨a, s, h1, h2, h3⟩ := G.g2
    exact ⟨by omega, rfl, _, h1, br_of ⟨_, _, rfl, vrel_err h2 h3, rfl⟩ h1⟩
  | 3, h =>
    cases h
    obtain ⟨a, s, h1, h2, h3⟩ := G.g3
    exact ⟨by omega, rfl, _, h1, br_of ⟨_, _, rfl, vrel_err h2 h3, rfl⟩ h1⟩
  | n + 4, h => cases h
theorem s0_some {W : World} {i : Nat} {p : Pl} (h : σ0 W i = some p) : i < 8 ∧ p = ⟨i, 0, bsize W i⟩ := by
  have h : (if i < 8 then some (⟨i, 0, bsize W i⟩ : Pl) else none) = some p := h
  split at h
  · rename_i hi
    cases h; exact ⟨hi, rfl⟩
  · cases h
theorem no_owns {W : World} (G : GlobW W MaxLen.val) (c : Nat) : ¬ Owns (σ0 W) (ownSt U) c := by
  rintro ⟨i, p, b, _, h2, h3, _⟩
  rw [own_look] at h2
  rw [(gb_rel G h2).2.1] at h3
  cases h3
theorem hr0 {W : World} (G : GlobW W MaxLen.val) : HR (σ0 W) (ownSt U) W where
  lt i p h := by
    obtain ⟨hi, rfl⟩ := s0_some h
    have := G.size
    show i < _
    omega
  blk i p b h hb := by
    obtain ⟨hi, rfl⟩ := s0_some h
    rw [own_look] at hb
    obtain ⟨_, _, o, h1, h2⟩ := gb_rel G hb
    exact ⟨o, h1, h2.mono (Sg.bare_le _)⟩
  inj i j p q b c h1 h2 _ _ h5 := by
    obtain ⟨_, rfl⟩ := s0_some h1
    obtain ⟨_, rfl⟩ := s0_some h2
    exact h5
  fz c o h := ⟨h, no_owns G c⟩
theorem fresh0 {W : World} : Fresh (σ0 W) (ownSt U) := fun i hi => by
  rw [own_next, U_glob] at hi
  show (if i < 8 then _ else none) = none
  rw [if_neg (by omega)]
theorem glob0 {W : World} (G : GlobW W MaxLen.val) : GlobOk U (σ0 W) := fun g hg => by
  rw [U_glob] at hg
  refine ⟨bsize W g, if_pos hg, fun b hb => ?_⟩
  rw [U_gbase] at hb
  obtain ⟨_, h1, o, h2, h3⟩ := gb_rel G hb
  exact ⟨h1, o, h2, h3⟩
/-- what the machine computes, the program returns; and of what stood there nothing turns -/
theorem enter_ok {W : World} (G : GlobW W MaxLen.val) {f : FuncId} (hext : U.ext f = none) {args : List AV} {us : Array Value} {v : AV} (hv : vrels (σ0 W).bare args us.toList) (h : calV U f args = some v) :
    Calls Tryz.prog f us W fun e W' => ∃ u σ', e = .returned u ∧ vrel σ' v u ∧ Below W.heap.size W W' := by
  have h1 := calV_eq h (ownSt U)
  obtain ⟨n, h2⟩ := callL_run h1
  refine (run_ok U_full hext h2 (hr0 G) fresh0 (glob0 G) (hv.mono (Sg.bare_le _) _ _)).mono ?_
  rintro e W' ⟨u, σ', he, hr, hg⟩
  exact ⟨u, σ', he, hr, hg.ext.os, hg.ext.tape, hg.ext.output, hg.ext.size, fun k hk => hg.ext.keep k hk (no_owns G k)⟩
end Go.Am
