/- A part of the proof of a statement of this seat: the machine on which the program is read, and what it computes; for every input. -/
import Derived.Test.YtgbhangfciiepaaGreatDoorC12
import Derived.Test.YtgbhangfciiepaaGreatDoorC03
import Derived.Test.YtgbhangfciiepaaGreatDoorTie
import Derived.Test.YtgbhangfciiepaaGreatDoorCards
import Derived.ProofKit
import Derived.OpenShut
import Derived.LaidMore
import Derived.LaidLaws
import Derived.Lay
import Derived.Below
import Derived.Shelf.Vars
import Derived.SevenTiedAt
import Derived.Stop.Joined
set_option linter.all false
set_option linter.all false
namespace Go.Am
open Go Go.Proofs
set_option maxRecDepth 100000

/-! # What comes in, as records, skews and levels -/

variable {H : Type} {enc : TypeId × Value → H} {w : World} {σ : Sg}
theorem encS'_eq (nl : Bool) (l : List AV) : encS' nl l = encS nl l := by cases nl <;> cases l <;> rfl
theorem cz_3 : Tryz.prog.cellsOf 3 = 1 := by kernel_rfl
theorem cz_24 : Tryz.prog.cellsOf 24 = 1 := by kernel_rfl
theorem cz_30 : Tryz.prog.cellsOf 30 = 1 := by kernel_rfl
theorem cz_26 : Tryz.prog.cellsOf 26 = 2 := by kernel_rfl
theorem un_3 : Tryz.prog.underlying 3 = some (.int .i64) := by kernel_rfl
theorem un_4 : Tryz.prog.underlying 4 = some .bool := by kernel_rfl
theorem un_24 : Tryz.prog.underlying 24 = some (.float .f32) := by kernel_rfl
theorem un_30 : Tryz.prog.underlying 30 = some (.slice 24) := by kernel_rfl
theorem un_22 : Tryz.prog.underlying 22 = some (.slice 30) := by kernel_rfl
theorem un_23 : Tryz.prog.underlying 23 = some (.slice 3) := by kernel_rfl
theorem some_of {α : Type} {l : List α} {i : Nat} (h : i < l.length) : ∃ x, l[i]? = some x := ⟨l[i], List.getElem?_eq_getElem h⟩
theorem trod_flt {P : Program} {base : Nat} {spare : Nat → Bool} {held : Bool} {fuel : Nat} {t : TypeId} {cs : List Value} {x : DataW H × List MemPlace} {k : FloatKind} (ht : P.underlying t = some (.float k)) (h : DataW.trod enc P w base spare held fuel t cs = some x) : ∃ n, cs = [.float k n] ∧ (Lit.float k n).wf = true := by
  cases fuel with
  | zero => simp [DataW.trod] at h
  | succ n =>
    unfold DataW.trod at h
    rw [ht] at h
    split at h <;> simp_all
abbrev F32 := { n : Nat // n < 2 ^ 32 }
def en32 (n : F32) : AV := .flt .f32 n.val
def enR (r : Bool × List F32) : AV := encS' r.1 (r.2.map en32)
theorem cells_of {nl : Bool} {l : List AV} {v : Value} (h : vrel σ (encS' nl l) v) : v.cells.toList = [v] := by
  have h1 : ∀ l v, vrel σ (.fz l) v → v.cells.toList = [v] := by
    intro l v h
    obtain ⟨a, c, us, rfl, _⟩ := vrel_fz h
    rfl
  unfold encS' at h
  split at h
  · have h : v = .slice none 0 0 := h
    subst h; rfl
  · exact h1 _ _ h
theorem rec_of (hz : ∀ b o, w.heap[b]? = some o → σ.fz b = some o) {base : Nat} {spare : Nat → Bool} {held : Bool} (fuel : Nat) (cs : List Value) (x : DataW H × List MemPlace) (h : DataW.trod enc Tryz.prog w base spare held fuel 30 cs = some x) :
    ∃ (r : Bool × List F32) (u : Value), vrel σ.bare (enR r) u ∧ u.cells.toList = cs := by
  obtain ⟨nl, l, v, rfl, hr, _⟩ := open_row hz en32 (k := 1) (by omega) un_30 cz_24 h fun m cs x hm hx => by
    obtain ⟨n, rfl, hw⟩ := trod_flt un_24 hx
    have hn : n < 2 ^ 32 := of_decide_eq_true hw
    exact ⟨⟨n, hn⟩, .float .f32 n, rfl, rfl⟩
  exact ⟨(nl, l), v, hr, cells_of hr⟩
theorem recs_of (hz : ∀ b o, w.heap[b]? = some o → σ.fz b = some o) {base : Nat} {spare : Nat → Bool} {held : Bool} {fuel : Nat} {cs : List Value} {x : DataW H × List MemPlace} (h : DataW.trod enc Tryz.prog w base spare held fuel 22 cs = some x) :
    ∃ (nl : Bool) (R : List (Bool × List F32)) (v : Value), cs = [v] ∧ vrel σ.bare (encS' nl (R.map enR)) v := by
  obtain ⟨nl, l, v, e, hr, _⟩ := open_row hz enR (k := 1) (by omega) un_22 cz_30 h fun m cs x hm hx => rec_of hz m cs x hx
  exact ⟨nl, l, v, e, hr⟩
theorem skews_of (hz : ∀ b o, w.heap[b]? = some o → σ.fz b = some o) {base : Nat} {spare : Nat → Bool} {held : Bool} {fuel : Nat} {cs : List Value} {x : DataW H × List MemPlace} (h : DataW.trod enc Tryz.prog w base spare held fuel 23 cs = some x) :
    ∃ (nl : Bool) (S : List Int) (v : Value), cs = [v] ∧ vrel σ.bare (encS' nl (S.map (AV.int .i64 ·))) v := by
  obtain ⟨nl, l, v, e, hr, _⟩ := open_row hz (fun n : Int => AV.int .i64 n) (k := 1) (by omega) un_23 cz_3 h fun m cs x hm hx => by
    obtain ⟨n, rfl, _⟩ := DataW.trod_int un_3 hx
    exact ⟨n, .int .i64 n, rfl, rfl⟩
  exact ⟨nl, l, v, e, hr⟩
theorem levels_of {base : Nat} {spare : Nat → Bool} {held : Bool} {fuel : Nat} {cs : List Value} {x : DataW H × List MemPlace} (h : DataW.trod enc Tryz.prog w base spare held fuel 26 cs = some x) :
    ∃ lo hi : Nat, cs = [.float .f32 lo, .float .f32 hi] := by
  obtain ⟨xs, n, hn, _, hlen, hsz, hel⟩ := DataW.trod_struct Tryz.underlying26 h
  rw [cz_26] at hlen
  match cs, hlen with
  | [v0, v1], _ =>
    have hx2 : xs.length = 2 := hsz
    have h0 := hel 0 _ rfl
    have h1 := hel 1 _ rfl
    obtain ⟨x0, e0⟩ := some_of (l := xs) (i := 0) (by omega)
    obtain ⟨x1, e1⟩ := some_of (l := xs) (i := 1) (by omega)
    try simp only [cz_24, List.drop_zero, List.drop_succ_cons, List.take_succ_cons, List.take_zero] at h0 h1
    rw [e0] at h0; rw [e1] at h1
    obtain ⟨n0, f0, _⟩ := trod_flt un_24 h0
    obtain ⟨n1, f1, _⟩ := trod_flt un_24 h1
    cases f0; cases f1
    exact ⟨n0, n1, rfl⟩
end Go.Am
set_option linter.all false
namespace Go.Am
open Go Go.Proofs Go.Proofs.YtgbhangfciiepaaGreatDoor Go.RowKit
set_option maxRecDepth 100000

/-! # From a call's world to the machine, and back -/

def laid7 : List (String × DataW Unit) := Rows.topClipLinesRow.laid
structure GlobW (W : World) : Prop where
  size : 11 ≤ W.heap.size
theorem sh_at {W : World} (hsh : W.ShapedOpen Tryz.prog) {g t n : Nat} (hg : g < Tryz.prog.globals.size) (h0 : (((begin Tryz.prog (fun _ _ => 0) default).world.heap[g]?).bind Obj.row?).map (fun x => (x.1.size, x.2)) = some (n, t)) : ∃ cs, W.heap[g]? = some (.cells cs t) ∧ cs.size = n := by
  obtain ⟨⟨z, t'⟩, h1, h2⟩ := Option.map_eq_some_iff.1 h0
  cases h2
  obtain ⟨cs, h3, h4, _⟩ := hsh.1 g z _ hg h1
  exact ⟨cs, h3, h4⟩
theorem globW_of {W : World} (hsh : W.ShapedOpen Tryz.prog) : GlobW W := by
  obtain ⟨c, k, z⟩ := sh_at (g := 10) (t := 213) (n := 64) hsh (of_decide_eq_true (by kernel_rfl)) (by kernel_rfl)
  have := (Array.getElem?_eq_some_iff.1 k).1
  exact ⟨by omega⟩
def bsize (W : World) (i : Nat) : Nat := match W.heap[i]? with
  | some (.cells cc _ _) => cc.size
  | _ => 0
/-- all that stands at the call's begin is written no more -/
def σ0 (W : World) : Sg := { m := fun i => if i < 11 then some ⟨i, 0, bsize W i⟩ else none, fz := fun b => W.heap[b]? }
variable [MaxLen]
theorem own_look (i : Nat) : (ownSt U).look i = none := by
  have : (ownSt U).get i = none := by rw [own_get, U_gbase]; rfl
  unfold St.look
  rw [this]
theorem s0_some {W : World} {i : Nat} {p : Pl} (h : σ0 W i = some p) : i < 11 ∧ p = ⟨i, 0, bsize W i⟩ := by
  have h : (if i < 11 then some (⟨i, 0, bsize W i⟩ : Pl) else none) = some p := h
  split at h
  · rename_i hi
    cases h; exact ⟨hi, rfl⟩
  · cases h
theorem no_owns {W : World} (c : Nat) : ¬ Owns (σ0 W) (ownSt U) c := by
  rintro ⟨i, p, b, _, h2, h3, _⟩
  rw [own_look] at h2
  cases h2
theorem hr0 {W : World} (G : GlobW W) : HR (σ0 W) (ownSt U) W where
  lt i p h := by
    obtain ⟨hi, rfl⟩ := s0_some h
    have := G.size
    show i < _
    omega
  blk i p b h hb := by
    rw [own_look] at hb
    cases hb
  inj i j p q b c h1 h2 _ _ h5 := by
    obtain ⟨_, rfl⟩ := s0_some h1
    obtain ⟨_, rfl⟩ := s0_some h2
    exact h5
  fz c o h := ⟨h, no_owns c⟩
theorem fresh0 {W : World} : Fresh (σ0 W) (ownSt U) := fun i hi => by
  rw [own_next, U_glob] at hi
  show (if i < 11 then _ else none) = none
  rw [if_neg (by omega)]
theorem glob0 {W : World} : GlobOk U (σ0 W) := fun g hg => by
  rw [U_glob] at hg
  refine ⟨bsize W g, if_pos hg, fun b hb => ?_⟩
  rw [U_gbase] at hb
  cases hb
/-- what the machine computes, the program returns; and of what stood there nothing turns -/
theorem enter_ok {W : World} (G : GlobW W) {f : FuncId} (hext : U.ext f = none) {args : List AV} {us : Array Value} {v : AV} (hv : vrels (σ0 W).bare args us.toList) (h : calV U f args = some v) :
    Calls Tryz.prog f us W fun e W' => ∃ u σ', e = .returned u ∧ vrel σ' v u ∧ Below W.heap.size W W' := by
  have h1 := calV_eq h (ownSt U)
  obtain ⟨n, h2⟩ := callL_run h1
  refine (run_ok U_full hext h2 (hr0 G) fresh0 glob0 (hv.mono (Sg.bare_le _) _ _)).mono ?_
  rintro e W' ⟨u, σ', he, hr, hg⟩
  exact ⟨u, σ', he, hr, hg.ext.os, hg.ext.tape, hg.ext.output, hg.ext.size, fun k hk => hg.ext.keep k hk (no_owns k)⟩
end Go.Am
