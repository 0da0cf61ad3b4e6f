/- A part of the proof of a statement of this seat: the machine on which the program is read, and what it computes; for every input. -/
import Derived.Test.YtaoeblefgefgpaaGreatDoorC02
import Derived.Test.YtaoeblefgefgpaaGreatDoorC01
import Derived.Test.YtaoeblefgefgpaaGreatDoorC00
set_option linter.all false
set_option linter.unusedSimpArgs false
set_option linter.unusedVariables false
set_option linter.unusedSectionVars false
namespace Go.Am
open Go
/-! # Resolved code, read by simp: what stands behind is kept as data -/

theorem setF_same {α : Type} : ∀ (f : Nat) (t : Tr α) (k : Nat) (x : α), k < f → Tr.get t k = some x → Tr.setF f t k x = t := by
  intro f
  induction f with
  | zero => intro t k x h; omega
  | succ f ih =>
    intro t k x hk h
    cases t with
    | nil => simp [Tr.get] at h
    | n v l r =>
      cases k with
      | zero =>
        simp only [Tr.get] at h
        simp only [Tr.setF, h]
      | succ k =>
        simp only [Tr.get] at h
        simp only [Tr.setF]
        cases hb : Nat.beq (k % 2) 0 with
        | true =>
          simp only [hb, cond_true] at h ⊢
          rw [ih l (k / 2) x (by omega) h]
        | false =>
          simp only [hb, cond_false] at h ⊢
          rw [ih r (k / 2) x (by omega) h]
theorem set_same (e : Env) (k : Nat) (p : Bool) (h : Env.get e k = .bool p) : Tr.set e k (.bool p) = e := by
  unfold Env.get at h
  cases hg : Tr.get e k with
  | none => rw [hg] at h; cases h
  | some v =>
    rw [hg] at h
    have h : v = .bool p := h
    rw [h] at hg
    exact setF_same _ _ _ _ (by omega) hg

inductive K where
  | sq (b : RC)
  | bk (id : Nat)
  | lp (b : RC)

def gBool (v : AV) (b : Bool) : Bool := match v with
  | .bool p => p == b
  | _ => false
/-- two ways on -/
def br {β : Type} (p : Bool) (x y : β) : β := bif p then x else y
theorem br_true {β : Type} (x y : β) : br true x y = x := (fun h => h) rfl
theorem br_false {β : Type} (x y : β) : br false x y = y := (fun h => h) rfl
theorem br_some {β : Type} (p : Bool) (x y : β) : br p (some x) (some y) = some (br p x y) := by cases p <;> rfl
theorem br_self {β : Type} (p : Bool) (x : β) : br p x x = x := by cases p <;> rfl
section
variable (X : Cx) {β : Type}

/-- on with what stands behind -/
noncomputable def pop (fin : Fl → β) : List K → Fl → β
  | [], x => fin x
  | .sq b :: ks, x => pop fin ks (match x with
    | some (.norm, e, s) => den X b e s
    | r => r)
  | .bk id :: ks, x => pop fin ks (match x with
    | some (.exit i, e, s) => if i = id then some (.norm, e, s) else some (.exit i, e, s)
    | r => r)
  | .lp b :: ks, x => pop fin ks (match x with
    | some (.norm, e, s) => iterL (den X b) e s
    | r => r)

noncomputable def go (fin : Fl → β) (ks : List K) (c : RC) (e : Env) (s : St) : β := pop X fin ks (den X c e s)
noncomputable def goL (fin : Fl → β) (ks : List K) (b : RC) (e : Env) (s : St) : β := pop X fin ks (iterL (den X b) e s)
/-- on, behind a normal end -/
noncomputable def goN (fin : Fl → β) (ks : List K) (e : Env) (s : St) : β := pop X fin ks (some (.norm, e, s))
noncomputable def goX (fin : Fl → β) (ks : List K) (i : Nat) (e : Env) (s : St) : β := pop X fin ks (some (.exit i, e, s))
noncomputable def goO (fin : Fl → β) (ks : List K) (base : Nat) (l : List RO) (e : Env) (s : St) : β := pop X fin ks (match rops X base l e s with
  | some (e, s) => some (.norm, e, s)
  | none => none)
noncomputable def goD' (fin : Fl → β) (ks : List K) (base : Nat) (l : List RO) (e : Env) (s : St) : β := pop X fin ks (match ropsD X base l e s with
  | some (e, s) => some (.norm, e, s)
  | none => none)
noncomputable def stuck (fin : Fl → β) (ks : List K) : β := pop X fin ks none
noncomputable def cndG (fin : Fl → β) (ks : List K) (v : AV) (a b : RC) (e : Env) (s : St) : β := match v with
  | .bool p => bif p then go X fin ks a e s else go X fin ks b e s
  | _ => stuck X fin ks
/-- the way taken is written into the temp -/
noncomputable def cndT (fin : Fl → β) (ks : List K) (v : AV) (n : Nat) (a b : RC) (e : Env) (s : St) : β := match v with
  | .bool p => br p (go X fin ks a (Tr.set e n (.bool true)) s) (go X fin ks b (Tr.set e n (.bool false)) s)
  | _ => stuck X fin ks
noncomputable def bndG (fin : Fl → β) (ks : List K) (base : Nat) (x : Option (AV × St)) (d : Option Nat) (l : List RO) (e : Env) : β := match x with
  | some (v, s) => goO X fin ks base l (setDst e d v) s
  | none => stuck X fin ks
noncomputable def bndD (fin : Fl → β) (ks : List K) (base : Nat) (x : Option (AV × St)) (d : Option Nat) (w : Bool) (l : List RO) (e : Env) : β := match x with
  | some (v, s) => bif !w || noneR base s l then goD' X fin ks base l (setDst e d v) s else stuck X fin ks
  | none => stuck X fin ks
noncomputable def gateR (p : Bool) (base : Nat) (at_ : Option Nat) (e : Env) (s : St) (op : ROp) : Option (AV × St) := bif p then rop X base at_ e s op else some (undef, s)
def gateV (p : Bool) (x : Option AV) (s : St) : Option (AV × St) := bif p then pureO x s else some (undef, s)
/-- the value of a call that leaves the state alone -/
noncomputable def calV (f : FuncId) (args : List AV) : Option AV := open Classical in if h : ∃ v, ∀ s, cal X f args s = some (v, s) then some (Classical.choose h) else none
noncomputable def callK (x : Option AV) (f : FuncId) (args : List AV) (s : St) : Option (AV × St) := match x with
  | some v => some (v, s)
  | none => cal X f args s
noncomputable def gateC (p : Bool) (x : Option AV) (f : FuncId) (args : List AV) (s : St) : Option (AV × St) := bif p then callK X x f args s else some (undef, s)

variable (fin : Fl → β) (ks : List K)
theorem pop_none : ∀ ks : List K, pop X fin ks none = fin none
  | [] => rfl
  | .sq b :: ks => pop_none ks
  | .bk id :: ks => pop_none ks
  | .lp b :: ks => pop_none ks
theorem pop_ret (e : Env) (s : St) : ∀ ks : List K, pop X fin ks (some (.ret, e, s)) = fin (some (.ret, e, s))
  | [] => rfl
  | .sq b :: ks => pop_ret e s ks
  | .bk id :: ks => pop_ret e s ks
  | .lp b :: ks => pop_ret e s ks
theorem stuck_eq : stuck X fin ks = fin none := pop_none X fin ks

variable (e : Env) (s : St)
theorem go_seq (a b : RC) : go X fin ks (.seq a b) e s = go X fin (.sq b :: ks) a e s := (fun h => h) rfl
theorem go_block (id : Nat) (b : RC) : go X fin ks (.block id b) e s = go X fin (.bk id :: ks) b e s := (fun h => h) rfl
theorem go_cond (c : Opd) (a b : RC) : go X fin ks (.cond c a b) e s = cndG X fin ks (evO e c) a b e s := by
  simp only [go, den, cndG]
  cases evO e c <;> try rfl
  rename_i p; cases p <;> rfl
theorem go_condT (n : Nat) (a b : RC) : go X fin ks (.cond (.t n) a b) e s = cndT X fin ks (Env.get e n) n a b e s := by
  simp only [go, den, cndT, evO]
  cases h : Env.get e n <;> try rfl
  rename_i p
  cases p
  · rw [set_same e n false h]; rfl
  · rw [set_same e n true h]; rfl
theorem cndT_bool (n : Nat) (p : Bool) (a b : RC) : cndT X fin ks (.bool p) n a b e s = br p (go X fin ks a (Tr.set e n (.bool true)) s) (go X fin ks b (Tr.set e n (.bool false)) s) := (fun h => h) rfl
theorem go_condV (v : AV) (a b : RC) : go X fin ks (.cond (.v v) a b) e s = cndG X fin ks v a b e s := go_cond X fin ks e s (.v v) a b
theorem go_loop (b : RC) : go X fin ks (.loop b) e s = goL X fin ks b e s := (fun h => h) rfl
theorem go_exit (i : Nat) : go X fin ks (.exit i) e s = goX X fin ks i e s := (fun h => h) rfl
theorem go_ret : go X fin ks .ret e s = fin (some (.ret, e, s)) := pop_ret X fin e s ks
theorem go_skip : go X fin ks .skip e s = goN X fin ks e s := (fun h => h) rfl
theorem go_ops (l : List RO) : go X fin ks (.ops l) e s = goO X fin ks 0 l e s := (fun h => h) rfl
theorem go_drw (n : Nat) (l : List RO) : go X fin ks (.drw n l) e s = bif noneR s.next s l then goD' X fin ks s.next l e { s with next := s.next + n } else stuck X fin ks := by
  simp only [go, den]
  cases noneR s.next s l <;> rfl
theorem goN_nil : goN X fin [] e s = fin (some (.norm, e, s)) := (fun h => h) rfl
theorem goN_sq (b : RC) : goN X fin (.sq b :: ks) e s = go X fin ks b e s := (fun h => h) rfl
theorem goN_bk (id : Nat) : goN X fin (.bk id :: ks) e s = goN X fin ks e s := (fun h => h) rfl
theorem goN_lp (b : RC) : goN X fin (.lp b :: ks) e s = goL X fin ks b e s := (fun h => h) rfl
theorem goX_nil (i : Nat) : goX X fin [] i e s = fin (some (.exit i, e, s)) := (fun h => h) rfl
theorem goX_sq (i : Nat) (b : RC) : goX X fin (.sq b :: ks) i e s = goX X fin ks i e s := (fun h => h) rfl
theorem goX_bk (i id : Nat) : goX X fin (.bk id :: ks) i e s = if i = id then goN X fin ks e s else goX X fin ks i e s := by
  simp only [goX, pop, goN]
  split <;> rfl
theorem goX_lp (i : Nat) (b : RC) : goX X fin (.lp b :: ks) i e s = goX X fin ks i e s := (fun h => h) rfl
/-- one round; not for simp -/
theorem goL_eq [Stat] (b : RC) : goL X fin ks b e s = go X fin (.lp b :: ks) b e s := by
  simp only [goL, go, pop]
  rw [iterL_eq]
  all_goals rfl
theorem cndG_bool (p : Bool) (a b : RC) : cndG X fin ks (.bool p) a b e s = br p (go X fin ks a e s) (go X fin ks b e s) := (fun h => h) rfl
theorem goO_nil (base : Nat) : goO X fin ks base [] e s = goN X fin ks e s := (fun h => h) rfl
theorem goO_cons (base : Nat) (d : Option Nat) (a : Option Nat) (w : Bool) (op : ROp) (l : List RO) :
    goO X fin ks base (⟨d, none, a, w, op⟩ :: l) e s = bndG X fin ks base (rop X base a e s op) d l e := by
  simp only [goO, rops, bndG, wantR, cond_true]
  cases rop X base a e s op <;> rfl
theorem goO_consG (base : Nat) (d : Option Nat) (t : Nat) (b : Bool) (a : Option Nat) (w : Bool) (op : ROp) (l : List RO) :
    goO X fin ks base (⟨d, some (t, b), a, w, op⟩ :: l) e s = bndG X fin ks base (gateR X (gBool (Env.get e t) b) base a e s op) d l e := by
  simp only [goO, rops, bndG, gateR]
  have : wantR e (some (t, b)) = gBool (Env.get e t) b := rfl
  rw [this]
  cases (bif gBool (Env.get e t) b then rop X base a e s op else some (undef, s)) <;> rfl
theorem goD_nil (base : Nat) : goD' X fin ks base [] e s = goN X fin ks e s := (fun h => h) rfl
theorem goD_cons (base : Nat) (d : Option Nat) (a : Option Nat) (w : Bool) (op : ROp) (l : List RO) :
    goD' X fin ks base (⟨d, none, a, w, op⟩ :: l) e s = bndD X fin ks base (rop X base a e s op) d w l e := by
  simp only [goD', ropsD, bndD, wantR, cond_true]
  cases rop X base a e s op with
  | none => rfl
  | some x =>
    simp only
    cases w <;> cases noneR base x.2 l <;> rfl
theorem goD_consG (base : Nat) (d : Option Nat) (t : Nat) (b : Bool) (a : Option Nat) (w : Bool) (op : ROp) (l : List RO) :
    goD' X fin ks base (⟨d, some (t, b), a, w, op⟩ :: l) e s = bndD X fin ks base (gateR X (gBool (Env.get e t) b) base a e s op) d w l e := by
  simp only [goD', ropsD, bndD, gateR]
  have : wantR e (some (t, b)) = gBool (Env.get e t) b := rfl
  rw [this]
  cases (bif gBool (Env.get e t) b then rop X base a e s op else some (undef, s)) with
  | none => rfl
  | some x =>
    simp only
    cases w <;> cases noneR base x.2 l <;> rfl
theorem bndG_some (base : Nat) (v : AV) (d : Option Nat) (l : List RO) : bndG X fin ks base (some (v, s)) d l e = goO X fin ks base l (setDst e d v) s := (fun h => h) rfl
theorem bndD_some0 (base : Nat) (v : AV) (d : Option Nat) (l : List RO) : bndD X fin ks base (some (v, s)) d false l e = goD' X fin ks base l (setDst e d v) s := (fun h => h) rfl
theorem bndD_some1 (base : Nat) (v : AV) (d : Option Nat) (l : List RO) : bndD X fin ks base (some (v, s)) d true l e = bif noneR base s l then goD' X fin ks base l (setDst e d v) s else stuck X fin ks := (fun h => h) rfl
theorem noneR_nil (base : Nat) : noneR base s [] = true := (fun h => h) rfl
theorem noneR_cons0 (base : Nat) (d : Option Nat) (g : Option (Nat × Bool)) (w : Bool) (op : ROp) (l : List RO) : noneR base s (⟨d, g, none, w, op⟩ :: l) = noneR base s l := by
  simp [noneR]
theorem noneR_cons1 (base i : Nat) (d : Option Nat) (g : Option (Nat × Bool)) (w : Bool) (op : ROp) (l : List RO) : noneR base s (⟨d, g, some i, w, op⟩ :: l) = ((s.get (base + i)).isNone && noneR base s l) := by
  simp [noneR]
end

@[congr] theorem bndG_congr {X : Cx} {β : Type} {fin : Fl → β} {ks : List K} {base : Nat} {x x' : Option (AV × St)} {d : Option Nat} {l : List RO} {e : Env} (h : x = x') : bndG X fin ks base x d l e = bndG X fin ks base x' d l e := by rw [h]
@[congr] theorem bndD_congr {X : Cx} {β : Type} {fin : Fl → β} {ks : List K} {base : Nat} {x x' : Option (AV × St)} {d : Option Nat} {w : Bool} {l : List RO} {e : Env} (h : x = x') : bndD X fin ks base x d w l e = bndD X fin ks base x' d w l e := by rw [h]
@[congr] theorem cndT_congr {X : Cx} {β : Type} {fin : Fl → β} {ks : List K} {v v' : AV} {n : Nat} {a b : RC} {e : Env} {s : St} (h : v = v') : cndT X fin ks v n a b e s = cndT X fin ks v' n a b e s := by rw [h]
@[congr] theorem cndG_congr {X : Cx} {β : Type} {fin : Fl → β} {ks : List K} {v v' : AV} {a b : RC} {e : Env} {s : St} (h : v = v') : cndG X fin ks v a b e s = cndG X fin ks v' a b e s := by rw [h]
@[congr] theorem gateR_congr {X : Cx} {p p' : Bool} {base : Nat} {at_ : Option Nat} {e : Env} {s : St} {op : ROp} (h : p = p') : gateR X p base at_ e s op = gateR X p' base at_ e s op := by rw [h]
@[congr] theorem gateV_congr {p p' : Bool} {x x' : Option AV} {s : St} (h : p = p') (hx : p' = true → x = x') : gateV p x s = gateV p' x' s := by
  subst h
  cases p
  · rfl
  · rw [hx rfl]
@[congr] theorem gateC_congr {X : Cx} {p p' : Bool} {x x' : Option AV} {f : FuncId} {args : List AV} {s : St} (h : p = p') (hx : p' = true → x = x') : gateC X p x f args s = gateC X p' x' f args s := by
  subst h
  cases p
  · rfl
  · rw [hx rfl]
@[congr] theorem callK_congr {X : Cx} {x x' : Option AV} {f : FuncId} {args : List AV} {s : St} (h : x = x') : callK X x f args s = callK X x' f args s := by rw [h]
theorem gateR_true (X : Cx) (base : Nat) (at_ : Option Nat) (e : Env) (s : St) (op : ROp) : gateR X true base at_ e s op = rop X base at_ e s op := (fun h => h) rfl
theorem gateR_false (X : Cx) (base : Nat) (at_ : Option Nat) (e : Env) (s : St) (op : ROp) : gateR X false base at_ e s op = some (undef, s) := (fun h => h) rfl
theorem gateV_some (p : Bool) (v : AV) (s : St) : gateV p (some v) s = some (bif p then v else undef, s) := by cases p <;> rfl
theorem gateC_some (X : Cx) (p : Bool) (v : AV) (f : FuncId) (args : List AV) (s : St) : gateC X p (some v) f args s = some (bif p then v else undef, s) := by cases p <;> rfl
theorem callK_some (X : Cx) (v : AV) (f : FuncId) (args : List AV) (s : St) : callK X (some v) f args s = some (v, s) := (fun h => h) rfl
theorem calV_of {X : Cx} {f : FuncId} {args : List AV} {v : AV} (h : ∀ s, cal X f args s = some (v, s)) : calV X f args = some v := by
  unfold calV
  have hx : ∃ v, ∀ s, cal X f args s = some (v, s) := ⟨v, h⟩
  rw [dif_pos hx]
  have h1 := Classical.choose_spec hx (ownSt X)
  rw [h (ownSt X)] at h1
  cases h1; rfl
theorem calV_eq {X : Cx} {f : FuncId} {args : List AV} {v : AV} (h : calV X f args = some v) (s : St) : cal X f args s = some (v, s) := by
  unfold calV at h
  split at h
  · rename_i hx
    cases h
    exact Classical.choose_spec hx s
  · cases h
theorem callK_eq (X : Cx) (f : FuncId) (args : List AV) (s : St) : cal X f args s = callK X (calV X f args) f args s := by
  unfold callK
  split
  · rename_i v h; exact calV_eq h s
  · rfl
theorem cond_not {α : Type} (p : Bool) (x y z : α) : (bif p then x else bif !p then y else z) = bif p then x else y := by cases p <;> rfl
theorem cond_same {α : Type} (p : Bool) (x y z : α) : (bif p then (bif p then x else y) else z) = bif p then x else z := by cases p <;> rfl
theorem cond_bool_true (p q : Bool) : (bif p then true else q) = (p || q) := by cases p <;> rfl
theorem cond_bool_false (p q : Bool) : (bif p then q else false) = (p && q) := by cases p <;> rfl

section
variable (X : Cx)
theorem want_none (e : Env) : wantR e none = true := (fun h => h) rfl
theorem want_some (e : Env) (t : Nat) (b : Bool) : wantR e (some (t, b)) = gBool (Env.get e t) b := (fun h => h) rfl
theorem gBool_true (p : Bool) : gBool (.bool p) true = p := by cases p <;> rfl
theorem gBool_false (p : Bool) : gBool (.bool p) false = !p := by cases p <;> rfl
theorem gBool_cond (p q b : Bool) : gBool (bif p then .bool q else undef) b = (p && gBool (.bool q) b) := by cases p <;> rfl
theorem evO_t (e : Env) (n : Nat) : evO e (.t n) = Env.get e n := (fun h => h) rfl
theorem evO_v (e : Env) (a : AV) : evO e (.v a) = a := (fun h => h) rfl
theorem set_get (e : Env) (k j : Nat) (x : AV) : Env.get (Tr.set e k x) j = if k = j then x else Env.get e j := Env.get_set e k j x
theorem setDst_some (e : Env) (d : Nat) (v : AV) : setDst e (some d) v = Tr.set e d v := (fun h => h) rfl
theorem setDst_none (e : Env) (v : AV) : setDst e none v = e := (fun h => h) rfl
theorem bind_nil (i : Nat) (e : Env) : bindArgs i [] e = e := (fun h => h) rfl
theorem bind_cons (i : Nat) (v : AV) (l : List AV) (e : Env) : bindArgs i (v :: l) e = bindArgs (i + 1) l (Tr.set e i v) := (fun h => h) rfl

variable (base : Nat) (at_ : Option Nat) (e : Env) (s : St)
theorem rop_mov (x : Opd) : rop X base at_ e s (.mov x) = some (evO e x, s) := (fun h => h) rfl
theorem rop_pick (c a b : Opd) : rop X base at_ e s (.pick c a b) = pureO (pickR (evO e c) (evO e a) (evO e b)) s := (fun h => h) rfl
theorem rop_al (z : List AV) (t : TypeId) : rop X base none e s (.al z t) = some (.ptr s.next 0, s.new (.cells z t false 0 0)) := (fun h => h) rfl
theorem rop_al_at (i : Nat) (z : List AV) (t : TypeId) : rop X base (some i) e s (.al z t) = some (.ptr (base + i) 0, s.put (base + i) (.cells z t false 0 0)) := (fun h => h) rfl
theorem rop_box (t : TypeId) (x : Opd) : rop X base none e s (.box t x) = some (.ptr s.next 0, s.new (.cells (evO e x).cells t false 0 0)) := (fun h => h) rfl
theorem rop_box_at (i : Nat) (t : TypeId) (x : Opd) : rop X base (some i) e s (.box t x) = some (.ptr (base + i) 0, s.put (base + i) (.cells (evO e x).cells t false 0 0)) := (fun h => h) rfl
theorem rop_ld1 (x : Opd) : rop X base at_ e s (.ld1 x) = pureO (ld1 (evO e x) s) s := (fun h => h) rfl
theorem rop_ldn (n : Nat) (x : Opd) : rop X base at_ e s (.ldn n x) = pureO (ldn n (evO e x) s) s := (fun h => h) rfl
theorem rop_st (n : Nat) (a x : Opd) : rop X base at_ e s (.st n a x) = unitO (st n (evO e a) (evO e x) s) := (fun h => h) rfl
theorem rop_fa (o : Nat) (x : Opd) : rop X base at_ e s (.fa o x) = pureO (faR o (evO e x)) s := (fun h => h) rfl
theorem rop_bin (op : BinOp) (t : TypeId) (cst : Bool) (x y : Opd) : rop X base at_ e s (.bin op t cst x y) = pureO (binA X op t cst (evO e x) (evO e y)) s := (fun h => h) rfl
theorem rop_ext (x : Opd) (i : Nat) : rop X base at_ e s (.ext x i) = pureO (extR (evO e x) i) s := (fun h => h) rfl
theorem rop_call (f : FuncId) (args : List Opd) : rop X base at_ e s (.call f args) = callK X (calV X f (evOs e args)) f (evOs e args) s := callK_eq X f (evOs e args) s
theorem rop_callv (f : Opd) (args : List Opd) : rop X base at_ e s (.callv f args) = calv X (evO e f) (evOs e args) s := (fun h => h) rfl
theorem rop_un (op : UnOp) (x : Opd) : rop X base at_ e s (.un op x) = pureO (unA op (evO e x)) s := (fun h => h) rfl
theorem rop_lenS (x : Opd) : rop X base at_ e s (.lenS x) = pureO (lenRS (evO e x)) s := (fun h => h) rfl
theorem rop_lenL (x : Opd) : rop X base at_ e s (.lenL x) = pureO (lenRL (evO e x)) s := (fun h => h) rfl
theorem rop_lenM (x : Opd) : rop X base at_ e s (.lenM x) = pureO (lenRM s (evO e x)) s := (fun h => h) rfl
theorem rop_ixs (x i : Opd) : rop X base at_ e s (.ixs x i) = pureO (ixRS (evO e x) (evO e i)) s := (fun h => h) rfl
theorem rop_ixa (n : Nat) (x i : Opd) : rop X base at_ e s (.ixa n x i) = pureO (ixRA n (evO e x) (evO e i)) s := (fun h => h) rfl
theorem rop_ixp (l n : Nat) (x i : Opd) : rop X base at_ e s (.ixp l n x i) = pureO (ixRP l n (evO e x) (evO e i)) s := (fun h => h) rfl
theorem rop_sls (x : Opd) (lo hi : Option Opd) : rop X base at_ e s (.sls x lo hi) = pureO (slRS (evO e x) (evOo e lo) (evOo e hi)) s := (fun h => h) rfl
theorem rop_sll (n : Nat) (x : Opd) (lo hi : Option Opd) : rop X base at_ e s (.sll n x lo hi) = pureO (slRL n (evO e x) (evOo e lo) (evOo e hi)) s := (fun h => h) rfl
theorem rop_fd1 (o : Nat) (x : Opd) : rop X base at_ e s (.fd1 o x) = pureO (fdR1 o (evO e x)) s := (fun h => h) rfl
theorem rop_fdn (o n : Nat) (x : Opd) : rop X base at_ e s (.fdn o n x) = pureO (fdRn o n (evO e x)) s := (fun h => h) rfl
def someAgg (x : Option (List AV)) : Option AV := x.map .agg
theorem someAgg_some (c : List AV) : someAgg (some c) = some (.agg c) := (fun h => h) rfl
theorem rop_bld (z : List AV) (ps : List (Nat × Nat × Opd)) : rop X base at_ e s (.bld z ps) = pureO (someAgg (fillR e z ps)) s := (fun h => h) rfl
def bslK (x : Option (List AV)) (k : List AV → Option (AV × St)) : Option (AV × St) := match x with
  | some c => k c
  | none => none
theorem bslK_some (c : List AV) (k : List AV → Option (AV × St)) : bslK (some c) k = k c := (fun h => h) rfl
theorem rop_bsl (t : TypeId) (n len : Nat) (z : List AV) (ps : List (Nat × Nat × Opd)) : rop X base none e s (.bsl t n len z ps) = bslK (fillR e z ps) fun c => some (.sl s.next 0 len (some len) n, s.new (.cells c t false 0 0)) := by
  simp only [rop, bslK]; rfl
theorem rop_bsl_at (i : Nat) (t : TypeId) (n len : Nat) (z : List AV) (ps : List (Nat × Nat × Opd)) : rop X base (some i) e s (.bsl t n len z ps) = bslK (fillR e z ps) fun c => some (.sl (base + i) 0 len (some len) n, s.put (base + i) (.cells c t false 0 0)) := by
  simp only [rop, bslK]; rfl
theorem rop_app (t : TypeId) (n b : Nat) (d x : Opd) : rop X base at_ e s (.app t n b d x) = appR t n b (evO e d) (evO e x) s := (fun h => h) rfl
theorem rop_mkf (f : FuncId) (a b : List Opd) : rop X base at_ e s (.mkf f a b) = some (.fn (.func f) (evOs e a) (evOs e b), s) := (fun h => h) rfl
theorem fill_nil (z : List AV) : fillR e z [] = some z := (fun h => h) rfl
def layK (x : Option (List AV)) (k : List AV → Option (List AV)) : Option (List AV) := match x with
  | some c => k c
  | none => none
theorem layK_some (c : List AV) (k : List AV → Option (List AV)) : layK (some c) k = k c := (fun h => h) rfl
theorem fill_cons (z : List AV) (off n : Nat) (x : Opd) (l : List (Nat × Nat × Opd)) : fillR e z ((off, n, x) :: l) = if (evO e x).cells.length = n ∧ off + n ≤ z.length then layK (lay off (evO e x).cells z) (fun c => fillR e c l) else none := by
  simp only [fillR, layK]; rfl
theorem lenS_str (l : List UInt8) : lenRS (.str l) = some (.int .i64 l.length) := (fun h => h) rfl
theorem lenL_nils : lenRL .nils = some (.int .i64 0) := (fun h => h) rfl
theorem lenL_sl (b o n : Nat) (c : Option Nat) (z : Nat) : lenRL (.sl b o n c z) = some (.int .i64 n) := (fun h => h) rfl
theorem lenL_fz (es : List AV) : lenRL (.fz es) = some (.int .i64 es.length) := (fun h => h) rfl
theorem un_not (p : Bool) : unA .not (.bool p) = some (.bool !p) := (fun h => h) rfl
theorem evOo_none : evOo e none = none := (fun h => h) rfl
theorem evOo_some (x : Opd) : evOo e (some x) = some (evO e x) := (fun h => h) rfl
theorem fd1_agg (o : Nat) (c : List AV) : fdR1 o (.agg c) = c[o]? := (fun h => h) rfl
theorem gate_mov (p : Bool) (x : Opd) : gateR X p base at_ e s (.mov x) = gateV p (some (evO e x)) s := (fun h => h) rfl
theorem gate_pick (p : Bool) (c a b : Opd) : gateR X p base at_ e s (.pick c a b) = gateV p (pickR (evO e c) (evO e a) (evO e b)) s := (fun h => h) rfl
theorem gate_ld1 (p : Bool) (x : Opd) : gateR X p base at_ e s (.ld1 x) = gateV p (ld1 (evO e x) s) s := (fun h => h) rfl
theorem gate_ldn (p : Bool) (n : Nat) (x : Opd) : gateR X p base at_ e s (.ldn n x) = gateV p (ldn n (evO e x) s) s := (fun h => h) rfl
theorem gate_fa (p : Bool) (o : Nat) (x : Opd) : gateR X p base at_ e s (.fa o x) = gateV p (faR o (evO e x)) s := (fun h => h) rfl
theorem gate_bin (p : Bool) (op : BinOp) (t : TypeId) (cst : Bool) (x y : Opd) : gateR X p base at_ e s (.bin op t cst x y) = gateV p (binA X op t cst (evO e x) (evO e y)) s := (fun h => h) rfl
theorem gate_ext (p : Bool) (x : Opd) (i : Nat) : gateR X p base at_ e s (.ext x i) = gateV p (extR (evO e x) i) s := (fun h => h) rfl
theorem gate_un (p : Bool) (op : UnOp) (x : Opd) : gateR X p base at_ e s (.un op x) = gateV p (unA op (evO e x)) s := (fun h => h) rfl
theorem gate_lenS (p : Bool) (x : Opd) : gateR X p base at_ e s (.lenS x) = gateV p (lenRS (evO e x)) s := (fun h => h) rfl
theorem gate_lenL (p : Bool) (x : Opd) : gateR X p base at_ e s (.lenL x) = gateV p (lenRL (evO e x)) s := (fun h => h) rfl
theorem gate_lenM (p : Bool) (x : Opd) : gateR X p base at_ e s (.lenM x) = gateV p (lenRM s (evO e x)) s := (fun h => h) rfl
theorem gate_ixs (p : Bool) (x i : Opd) : gateR X p base at_ e s (.ixs x i) = gateV p (ixRS (evO e x) (evO e i)) s := (fun h => h) rfl
theorem gate_ixa (p : Bool) (n : Nat) (x i : Opd) : gateR X p base at_ e s (.ixa n x i) = gateV p (ixRA n (evO e x) (evO e i)) s := (fun h => h) rfl
theorem gate_ixp (p : Bool) (l n : Nat) (x i : Opd) : gateR X p base at_ e s (.ixp l n x i) = gateV p (ixRP l n (evO e x) (evO e i)) s := (fun h => h) rfl
theorem gate_sls (p : Bool) (x : Opd) (lo hi : Option Opd) : gateR X p base at_ e s (.sls x lo hi) = gateV p (slRS (evO e x) (evOo e lo) (evOo e hi)) s := (fun h => h) rfl
theorem gate_sll (p : Bool) (n : Nat) (x : Opd) (lo hi : Option Opd) : gateR X p base at_ e s (.sll n x lo hi) = gateV p (slRL n (evO e x) (evOo e lo) (evOo e hi)) s := (fun h => h) rfl
theorem gate_fd1 (p : Bool) (o : Nat) (x : Opd) : gateR X p base at_ e s (.fd1 o x) = gateV p (fdR1 o (evO e x)) s := (fun h => h) rfl
theorem gate_fdn (p : Bool) (o n : Nat) (x : Opd) : gateR X p base at_ e s (.fdn o n x) = gateV p (fdRn o n (evO e x)) s := (fun h => h) rfl
theorem gate_bld (p : Bool) (z : List AV) (ps : List (Nat × Nat × Opd)) : gateR X p base at_ e s (.bld z ps) = gateV p (someAgg (fillR e z ps)) s := (fun h => h) rfl
theorem gate_mkf (p : Bool) (f : FuncId) (a b : List Opd) : gateR X p base at_ e s (.mkf f a b) = gateV p (some (.fn (.func f) (evOs e a) (evOs e b))) s := (fun h => h) rfl
theorem gate_call (p : Bool) (f : FuncId) (args : List Opd) : gateR X p base at_ e s (.call f args) = gateC X p (calV X f (evOs e args)) f (evOs e args) s := by
  cases p
  · rfl
  · exact callK_eq X f (evOs e args) s
theorem rop_raw (o : Op) : rop X base none e s (.raw o) = opA X (execL X) e o s := (fun h => h) rfl
theorem evOs_nil (e : Env) : evOs e [] = [] := (fun h => h) rfl
theorem evOs_cons (e : Env) (x : Opd) (l : List Opd) : evOs e (x :: l) = evO e x :: evOs e l := (fun h => h) rfl

theorem pureO_v (v : AV) (s : St) : pureO (some v) s = some (v, s) := (fun h => h) rfl
theorem unitO_v (s : St) : unitO (some s) = some (undef, s) := (fun h => h) rfl
theorem pick_b (p : Bool) (a b : AV) : pickR (.bool p) a b = some (bif p then a else b) := (fun h => h) rfl
theorem bool_cond (p a b : Bool) : (bif p then AV.bool a else .bool b) = .bool (bif p then a else b) := by cases p <;> rfl
theorem int_cond (p : Bool) (k : IntKind) (a b : Int) : (bif p then AV.int k a else .int k b) = .int k (bif p then a else b) := by cases p <;> rfl
theorem ext_tup (vs : List AV) (i : Nat) : extR (.tup vs) i = vs[i]? := (fun h => h) rfl
theorem fa_ptr (o b o' : Nat) : faR o (.ptr b o') = some (.ptr b (o' + o)) := (fun h => h) rfl
theorem fa_fp (o : Nat) (c : List AV) (o' : Nat) : faR o (.fp c o') = some (.fp c (o' + o)) := (fun h => h) rfl
theorem ld1_ptr (b o : Nat) (s : St) : ld1 (.ptr b o) s = cell s b o := (fun h => h) rfl
theorem ld1_fp (c : List AV) (o : Nat) (s : St) : ld1 (.fp c o) s = c[o]? := (fun h => h) rfl

theorem bin_lss (t : TypeId) (cst : Bool) (k : IntKind) (a b : Int) : binA X .lss t cst (.int k a) (.int k b) = some (.bool (decide (a < b))) := by simp [binA, intA]
theorem bin_leq (t : TypeId) (cst : Bool) (k : IntKind) (a b : Int) : binA X .leq t cst (.int k a) (.int k b) = some (.bool (decide (a ≤ b))) := by simp [binA, intA]
theorem bin_gtr (t : TypeId) (cst : Bool) (k : IntKind) (a b : Int) : binA X .gtr t cst (.int k a) (.int k b) = some (.bool (decide (a > b))) := by simp [binA, intA]
theorem bin_geq (t : TypeId) (cst : Bool) (k : IntKind) (a b : Int) : binA X .geq t cst (.int k a) (.int k b) = some (.bool (decide (a ≥ b))) := by simp [binA, intA]
theorem bin_eql (t : TypeId) (cst : Bool) (k : IntKind) (a b : Int) : binA X .eql t cst (.int k a) (.int k b) = some (.bool (a == b)) := by simp [binA, intA]
theorem bin_neq (t : TypeId) (cst : Bool) (k : IntKind) (a b : Int) : binA X .neq t cst (.int k a) (.int k b) = some (.bool (a != b)) := by simp [binA, intA]
theorem bin_add (t : TypeId) (cst : Bool) (k : IntKind) (a b : Int) : binA X .add t cst (.int k a) (.int k b) = some (.int k (k.wrap (a + b))) := by simp [binA, intA]
theorem bin_sub (t : TypeId) (cst : Bool) (k : IntKind) (a b : Int) : binA X .sub t cst (.int k a) (.int k b) = some (.int k (k.wrap (a - b))) := by simp [binA, intA]
theorem bin_mul (t : TypeId) (cst : Bool) (k : IntKind) (a b : Int) : binA X .mul t cst (.int k a) (.int k b) = some (.int k (k.wrap (a * b))) := by simp [binA, intA]
theorem bin_seql (t : TypeId) (cst : Bool) (a b : List UInt8) : binA X .eql t cst (.str a) (.str b) = some (.bool (a == b)) := by simp [binA, strA]
theorem bin_sneq (t : TypeId) (cst : Bool) (a b : List UInt8) : binA X .neq t cst (.str a) (.str b) = some (.bool (!(a == b))) := by simp [binA, strA]

/-! ### The memory -/

def cellsOf (b : Option Blk) : Option (List AV) := match b with
  | some (.cells c _ _ _ _) => some c
  | _ => none
def cellOf (b : Option Blk) (o : Nat) : Option AV := match b with
  | some (.cells c _ _ _ _) => c[o]?
  | _ => none
theorem cells_get (s : St) (b : Nat) : s.cells b = cellsOf (s.get b) := by unfold St.cells cellsOf; rfl
theorem cell_get (s : St) (b o : Nat) : cell s b o = cellOf (s.get b) o := by
  unfold cell St.cells cellOf
  cases s.get b with
  | none => rfl
  | some x => cases x <;> rfl
theorem cellsOf_some (c : List AV) (t : TypeId) (r : Bool) (lo hi : Nat) : cellsOf (some (.cells c t r lo hi)) = some c := (fun h => h) rfl
theorem cellOf_some (c : List AV) (t : TypeId) (r : Bool) (lo hi o : Nat) : cellOf (some (.cells c t r lo hi)) o = c[o]? := (fun h => h) rfl
theorem get_new (s : St) (j : Nat) (x : Blk) : (s.new x).get j = if s.next = j then some x else s.get j := St.get_new s j x
theorem get_put (s : St) (k j : Nat) (x : Blk) : (s.put k x).get j = if k = j then some x else s.get j := St.get_put s k j x
theorem next_new (s : St) (x : Blk) : (s.new x).next = s.next + 1 := (fun h => h) rfl
theorem next_put (s : St) (k : Nat) (x : Blk) : (s.put k x).next = s.next := (fun h => h) rfl
theorem own_next (X : Cx) : (ownSt X).next = X.glob := (fun h => h) rfl
theorem own_get (X : Cx) (j : Nat) : (ownSt X).get j = X.gbase j := by
  unfold ownSt St.get; rfl

def grabK (x : Option (List AV)) : Option AV := match x with
  | some r => some (.agg r)
  | none => none
theorem grabK_some (r : List AV) : grabK (some r) = some (.agg r) := (fun h => h) rfl
def ldnK (n o : Nat) (x : Option (List AV)) : Option AV := match x with
  | some c => grabK (grab n o c)
  | none => none
theorem ldnK_some (n o : Nat) (c : List AV) : ldnK n o (some c) = grabK (grab n o c) := (fun h => h) rfl
theorem ldn_ptr (n b o : Nat) (s : St) : ldn n (.ptr b o) s = ldnK n o (cellsOf (s.get b)) := by
  rw [← cells_get]; simp only [ldn, ldnK, grabK]; rfl
theorem ldn_fp (n : Nat) (c : List AV) (o : Nat) (s : St) : ldn n (.fp c o) s = grabK (grab n o c) := by
  simp only [ldn, grabK]; rfl

def layP (x : Option (List AV)) (k : List AV → Option St) : Option St := match x with
  | some c => k c
  | none => none
theorem layP_some (c : List AV) (k : List AV → Option St) : layP (some c) k = k c := (fun h => h) rfl
def wrC (s : St) (b o : Nat) (vs : List AV) (x : Option Blk) : Option St := match x with
  | some (.cells c e false flo fhi) => if (o + vs.length ≤ flo || fhi ≤ o) && vs.all noAgg then layP (lay o vs c) fun c' => some (s.put b (.cells c' e false flo fhi)) else none
  | _ => none
theorem wrC_cells (s : St) (b o : Nat) (vs c : List AV) (e : TypeId) (flo fhi : Nat) :
    wrC s b o vs (some (.cells c e false flo fhi)) = if (o + vs.length ≤ flo || fhi ≤ o) && vs.all noAgg then layP (lay o vs c) fun c' => some (s.put b (.cells c' e false flo fhi)) else none := rfl
theorem writeCells_get (s : St) (b o : Nat) (vs : List AV) : writeCells s b o vs = wrC s b o vs (s.get b) := by
  unfold writeCells wrC layP
  rfl
theorem st_ptr (n b o : Nat) (v : AV) (s : St) : st n (.ptr b o) v s = if v.cells.length = n then wrC s b o v.cells (s.get b) else none := by
  simp only [st, writeCells_get]
theorem cells_agg (c : List AV) : AV.cells (.agg c) = c := (fun h => h) rfl
theorem cells_int (k : IntKind) (n : Int) : AV.cells (.int k n) = [.int k n] := (fun h => h) rfl
theorem cells_bool (b : Bool) : AV.cells (.bool b) = [.bool b] := (fun h => h) rfl
theorem cells_str (b : List UInt8) : AV.cells (.str b) = [.str b] := (fun h => h) rfl
theorem cells_fz (b : List AV) : AV.cells (.fz b) = [.fz b] := (fun h => h) rfl
theorem cells_nils : AV.cells .nils = [.nils] := (fun h => h) rfl
theorem cells_ptr (b o : Nat) : AV.cells (.ptr b o) = [.ptr b o] := (fun h => h) rfl
theorem cells_fp (c : List AV) (o : Nat) : AV.cells (.fp c o) = [.fp c o] := (fun h => h) rfl
theorem cells_sl (b o n : Nat) (c : Option Nat) (z : Nat) : AV.cells (.sl b o n c z) = [.sl b o n c z] := (fun h => h) rfl
theorem cells_fn (f : Fn) (x y : List AV) : AV.cells (.fn f x y) = [.fn f x y] := (fun h => h) rfl
theorem lay_nil (o : Nat) (l : List AV) : lay o [] l = some l := by cases o <;> cases l <;> rfl
theorem lay_zero (v : AV) (vs : List AV) (x : AV) (l : List AV) : lay 0 (v :: vs) (x :: l) = (lay 0 vs l).map (v :: ·) := by
  simp only [lay]; cases lay 0 vs l <;> rfl
theorem lay_succ (o : Nat) (v : AV) (vs : List AV) (x : AV) (l : List AV) : lay (o + 1) (v :: vs) (x :: l) = (lay o (v :: vs) l).map (x :: ·) := by
  simp only [lay]; cases lay o (v :: vs) l <;> rfl
theorem grab_zero (o : Nat) (l : List AV) : grab 0 o l = some [] := by cases o <;> cases l <;> rfl
theorem grab_head (n : Nat) (x : AV) (l : List AV) : grab (n + 1) 0 (x :: l) = (grab n 0 l).map (x :: ·) := by
  simp only [grab]; cases grab n 0 l <;> rfl
theorem grab_tail (n o : Nat) (x : AV) (l : List AV) : grab (n + 1) (o + 1) (x :: l) = grab (n + 1) o l := (fun h => h) rfl
theorem noAgg_int (k : IntKind) (n : Int) : noAgg (.int k n) = true := (fun h => h) rfl
theorem noAgg_bool (b : Bool) : noAgg (.bool b) = true := (fun h => h) rfl
theorem noAgg_str (b : List UInt8) : noAgg (.str b) = true := (fun h => h) rfl
theorem noAgg_fz (b : List AV) : noAgg (.fz b) = true := (fun h => h) rfl
theorem noAgg_nils : noAgg .nils = true := (fun h => h) rfl
theorem noAgg_ptr (b o : Nat) : noAgg (.ptr b o) = true := (fun h => h) rfl
theorem noAgg_fp (c : List AV) (o : Nat) : noAgg (.fp c o) = true := (fun h => h) rfl
theorem noAgg_sl (b o n : Nat) (c : Option Nat) (z : Nat) : noAgg (.sl b o n c z) = true := (fun h => h) rfl
theorem noAgg_fn (f : Fn) (x y : List AV) : noAgg (.fn f x y) = true := (fun h => h) rfl
theorem ixp_ptr (l n b o : Nat) (k : IntKind) (i : Int) : ixRP l n (.ptr b o) (.int k i) = if 0 ≤ i ∧ i.toNat < l then some (.ptr b (o + i.toNat * n)) else none := by
  simp only [ixRP]; congr 1; apply propext; omega
theorem ixp_fp (l n : Nat) (c : List AV) (o : Nat) (k : IntKind) (i : Int) : ixRP l n (.fp c o) (.int k i) = if 0 ≤ i ∧ i.toNat < l then some (.fp c (o + i.toNat * n)) else none := by
  simp only [ixRP]; congr 1; apply propext; omega
theorem ixa_sl (n b o len : Nat) (c : Option Nat) (z : Nat) (k : IntKind) (i : Int) : ixRA n (.sl b o len c z) (.int k i) = if 0 ≤ i ∧ i.toNat < len then some (.ptr b (o + i.toNat * n)) else none := by
  simp only [ixRA]; congr 1; apply propext; omega
def ixF (n : Nat) (x : Option AV) : Option AV := match x with
  | some x => if x.cells.length = n ∧ n ≠ 0 then some (.fp x.cells 0) else none
  | none => none
theorem ixF_some (n : Nat) (x : AV) : ixF n (some x) = if x.cells.length = n ∧ n ≠ 0 then some (.fp x.cells 0) else none := (fun h => h) rfl
theorem ixa_fz (n : Nat) (es : List AV) (k : IntKind) (i : Int) : ixRA n (.fz es) (.int k i) = if 0 ≤ i then ixF n es[i.toNat]? else none := by
  simp only [ixRA, ixF]; rfl
theorem ixs_str (b : List UInt8) (k : IntKind) (i : Int) : ixRS (.str b) (.int k i) = if 0 ≤ i then (b[i.toNat]?).map (fun c => AV.int .u8 c.toNat) else none := by
  simp only [ixRS]
  split
  · cases b[i.toNat]? <;> rfl
  · rfl

/-! ### Ends -/

/-- what a body comes to -/
noncomputable def finB (rs : List ResultVar) (x : Fl) : Option (AV × St) := match x with
  | some (.exit _, _, _) => none
  | some (_, e, s) => match resultsL X e s rs with
    | some [v] => some (v, s)
    | some vs => some (.tup vs, s)
    | none => none
  | none => none

def frzB (x : Option (AV × St)) : Option AV := match x with
  | some (v, s') => frz X s' frzDepth v
  | none => none

/-- what a call in a state of its own comes to -/
noncomputable def finP (rs : List ResultVar) (x : Fl) : Option AV := frzB X (finB X rs x)

def rsK (s : St) (x : Option (List AV)) : Option (AV × St) := match x with
  | some [v] => some (v, s)
  | some vs => some (.tup vs, s)
  | none => none
theorem rsK_one (s : St) (v : AV) : rsK s (some [v]) = some (v, s) := (fun h => h) rfl
theorem rsK_two (s : St) (v u : AV) (l : List AV) : rsK s (some (v :: u :: l)) = some (.tup (v :: u :: l), s) := (fun h => h) rfl
theorem rsK_zero (s : St) : rsK s (some []) = some (.tup [], s) := (fun h => h) rfl
theorem finB_ret (rs : List ResultVar) (e : Env) (s : St) : finB X rs (some (.ret, e, s)) = rsK s (resultsL X e s rs) := by
  simp only [finB, rsK]
theorem finB_norm (rs : List ResultVar) (e : Env) (s : St) : finB X rs (some (.norm, e, s)) = rsK s (resultsL X e s rs) := by
  simp only [finB, rsK]
theorem finP_ret (rs : List ResultVar) (e : Env) (s : St) : finP X rs (some (.ret, e, s)) = frzB X (rsK s (resultsL X e s rs)) := by
  simp only [finP, finB_ret]
theorem finP_norm (rs : List ResultVar) (e : Env) (s : St) : finP X rs (some (.norm, e, s)) = frzB X (rsK s (resultsL X e s rs)) := by
  simp only [finP, finB_norm]
theorem frzB_some (v : AV) (s : St) : frzB X (some (v, s)) = frz X s 4000 v := (fun h => h) rfl
def resK (v : Option AV) (x : Option (List AV)) : Option (List AV) := match v, x with
  | some v, some vs => some (v :: vs)
  | _, _ => none
theorem resK_some (v : AV) (vs : List AV) : resK (some v) (some vs) = some (v :: vs) := (fun h => h) rfl
theorem res_nil (e : Env) (s : St) : resultsL X e s [] = some [] := (fun h => h) rfl
theorem res_tmp (e : Env) (s : St) (t : Nat) (l : List ResultVar) : resultsL X e s (.tmp t :: l) = resK (some (Env.get e t)) (resultsL X e s l) := by
  simp only [resultsL, resultA, resK]; rfl
theorem res_cell (e : Env) (s : St) (a : Nat) (t : TypeId) (l : List ResultVar) : resultsL X e s (.cell a t :: l) = resK (loadA X t (Env.get e a) s) (resultsL X e s l) := by
  simp only [resultsL, resultA, resK]; rfl
theorem loadA_n {t : TypeId} {n : Nat} (ht : isAggT X t = some true) (hn : size X t = some n) (a : AV) (s : St) : loadA X t a s = ldn n a s := by
  cases a with
  | ptr b o =>
    simp only [loadA, ldn, ht, hn]
    cases s.cells b with
    | none => rfl
    | some c => cases grab n o c <;> rfl
  | fp c o =>
    simp only [loadA, ldn, ht, hn]
    cases grab n o c <;> rfl
  | _ => rfl
theorem frz_int (s : St) (d : Nat) (k : IntKind) (n : Int) : frz X s (d + 1) (.int k n) = some (.int k n) := (fun h => h) rfl
theorem frz_bool (s : St) (d : Nat) (b : Bool) : frz X s (d + 1) (.bool b) = some (.bool b) := (fun h => h) rfl
theorem frz_str (s : St) (d : Nat) (b : List UInt8) : frz X s (d + 1) (.str b) = some (.str b) := (fun h => h) rfl
theorem frz_nils (s : St) (d : Nat) : frz X s (d + 1) .nils = some .nils := (fun h => h) rfl
theorem frz_fz (s : St) (d : Nat) (l : List AV) : frz X s (d + 1) (.fz l) = some (.fz l) := (fun h => h) rfl
theorem frz_fp (s : St) (d : Nat) (l : List AV) (o : Nat) : frz X s (d + 1) (.fp l o) = some (.fp l o) := (fun h => h) rfl
theorem frz_nilp (s : St) (d : Nat) : frz X s (d + 1) .nilp = some .nilp := (fun h => h) rfl
theorem frz_nili (s : St) (d : Nat) : frz X s (d + 1) .nili = some .nili := (fun h => h) rfl
def aggK (x : Option (List AV)) : Option AV := x.map .agg
def tupK (x : Option (List AV)) : Option AV := x.map .tup
theorem aggK_some (l : List AV) : aggK (some l) = some (.agg l) := (fun h => h) rfl
theorem tupK_some (l : List AV) : tupK (some l) = some (.tup l) := (fun h => h) rfl
theorem frz_agg (s : St) (d : Nat) (l : List AV) : frz X s (d + 1) (.agg l) = aggK (mapO (frz X s d) l) := by
  simp only [frz, aggK]; cases mapO (frz X s d) l <;> rfl
theorem frz_tup (s : St) (d : Nat) (l : List AV) : frz X s (d + 1) (.tup l) = tupK (mapO (frz X s d) l) := by
  simp only [frz, tupK]; cases mapO (frz X s d) l <;> rfl
theorem mapO_nil (f : AV → Option AV) : mapO f [] = some [] := (fun h => h) rfl
theorem mapO_cons (f : AV → Option AV) (x : AV) (l : List AV) : mapO f (x :: l) = resK (f x) (mapO f l) := by
  simp only [mapO, resK]; rfl
theorem some_cond {α : Type} (p : Bool) (x y : α) : (bif p then some x else some y) = some (bif p then x else y) := by cases p <;> rfl

/-- into a function -/
theorem callB_go [Stat] {f : FuncId} {fn : Func} {c : Code} {r : RC} {rs : List ResultVar} (hf : X.fn f = some fn) (hb : fn.body = some c) (hrs : fn.results.toList = rs) (hr : rc X c = r) {args : List AV} {s : St} {x : AV × St}
    (h : go X (finB X rs) [] r (bindArgs 0 args .nil) s = some x) : callB X (execL X) f args s = some x := by
  unfold callB
  rw [hf]
  simp only [hb]
  have h : finB X rs (den X r (bindArgs 0 args .nil) s) = some x := h
  rw [← hr] at h
  unfold finB at h
  split at h
  · cases h
  · rename_i o e' s' hne hd
    rw [den_sound c _ _ _ hd]
    have hres : resultsA X fn e' s' = (match resultsL X e' s' rs with | some [v] => some v | some vs => some (.tup vs) | none => none) := by
      unfold resultsA; rw [hrs]; rfl
    cases o with
    | exit i => exact absurd rfl (hne i)
    | norm =>
      simp only [hres]
      split at h <;> rename_i hx <;> simp only [hx] <;> first | (cases h; rfl) | exact h
    | ret =>
      simp only [hres]
      split at h <;> rename_i hx <;> simp only [hx] <;> first | (cases h; rfl) | exact h
  · cases h

/-- a call in a state of its own -/
theorem cal_pure [Stat] {f : FuncId} {fn : Func} {c : Code} {r : RC} {rs : List ResultVar} (hx : X.ext f = none) (hp : X.pure f = true) (hf : X.fn f = some fn) (hb : fn.body = some c) (hrs : fn.results.toList = rs) (hr : rc X c = r) {args : List AV} (hst : stills args = true) {v : AV}
    (h : go X (finP X rs) [] r (bindArgs 0 args .nil) (ownSt X) = some v) (s : St) : cal X f args s = some (v, s) := by
  have h : frzB X (finB X rs (den X r (bindArgs 0 args .nil) (ownSt X))) = some v := h
  cases hd : finB X rs (den X r (bindArgs 0 args .nil) (ownSt X)) with
  | none => rw [hd] at h; simp [frzB] at h
  | some x =>
    rw [hd] at h
    have := callB_go X hf hb hrs hr (args := args) (s := ownSt X) (x := x) hd
    unfold cal callF
    rw [hx]
    simp only [hp, if_true, callP, frzArgs, hst, callQ, this]
    simp only [frzB] at h
    rw [h]

theorem calV_pure [Stat] {f : FuncId} {fn : Func} {c : Code} {r : RC} {rs : List ResultVar} (hx : X.ext f = none) (hp : X.pure f = true) (hf : X.fn f = some fn) (hb : fn.body = some c) (hrs : fn.results.toList = rs) (hr : rc X c = r) {args : List AV} (hst : stills args = true) {v : AV}
    (h : go X (finP X rs) [] r (bindArgs 0 args .nil) (ownSt X) = some v) : calV X f args = some v := calV_of (cal_pure X hx hp hf hb hrs hr hst h)

end
theorem c_true {α : Type} (x y : α) : (bif true then x else y) = x := (fun h => h) rfl
theorem c_false {α : Type} (x y : α) : (bif false then x else y) = y := (fun h => h) rfl
theorem nth_zero {α : Type} (x : α) (l : List α) : (x :: l)[0]? = some x := (fun h => h) rfl
theorem nth_succ {α : Type} (x : α) (l : List α) (n : Nat) : (x :: l)[n + 1]? = l[n]? := (fun h => h) rfl
theorem len_cons {α : Type} (x : α) (l : List α) : (x :: l).length = l.length + 1 := (fun h => h) rfl
theorem len_nil {α : Type} : ([] : List α).length = 0 := (fun h => h) rfl
theorem map_sm {α β : Type} (f : α → β) (x : α) : (some x).map f = some (f x) := (fun h => h) rfl
theorem map_nn {α β : Type} (f : α → β) : (none : Option α).map f = none := (fun h => h) rfl
theorem all_cons' {α : Type} (p : α → Bool) (x : α) (l : List α) : (x :: l).all p = (p x && l.all p) := (fun h => h) rfl
theorem all_nil' {α : Type} (p : α → Bool) : ([] : List α).all p = true := (fun h => h) rfl
theorem dec_false {h : Decidable False} : @decide False h = false := by cases h with | isFalse _ => rfl | isTrue h => exact h.elim
theorem dec_true {h : Decidable True} : @decide True h = true := by cases h with | isFalse h => exact (h trivial).elim | isTrue _ => rfl
theorem b_or_true (p : Bool) : (p || true) = true := by cases p <;> rfl
theorem b_and_true (p : Bool) : (p && true) = p := by cases p <;> rfl
theorem b_true_and (p : Bool) : (true && p) = p := by cases p <;> rfl
theorem b_not_true : (!true) = false := (fun h => h) rfl
theorem b_not_false : (!false) = true := (fun h => h) rfl
theorem n_mul_zero (n : Nat) : n * 0 = 0 := (fun h => h) rfl
theorem n_add_zero (n : Nat) : n + 0 = n := (fun h => h) rfl
theorem i_toNat (n : Nat) : ((n : Int)).toNat = n := (fun h => h) rfl

attribute [go_sem ↓] br_true br_false stuck_eq go_seq go_block go_condT go_condV go_loop go_exit go_ret go_skip go_ops go_drw goN_nil goN_sq goN_bk goN_lp goX_nil goX_sq goX_bk goX_lp goO_nil goO_cons goO_consG goD_nil goD_cons goD_consG bndG_some bndD_some0 bndD_some1 noneR_nil noneR_cons0 noneR_cons1 gateR_true gateR_false want_none want_some evO_t evO_v set_get setDst_some setDst_none bind_nil bind_cons rop_mov rop_pick rop_al rop_al_at rop_box rop_box_at rop_ld1 rop_ldn rop_st rop_fa rop_bin rop_ext rop_call rop_callv rop_un rop_lenS rop_lenL rop_lenM rop_ixs rop_ixa rop_ixp rop_sls rop_sll rop_fd1 rop_fdn rop_bld rop_bsl rop_bsl_at rop_app rop_mkf fill_nil fill_cons evOo_none evOo_some gate_mov gate_pick gate_ld1 gate_ldn gate_fa gate_bin gate_ext gate_un gate_lenS gate_lenL gate_lenM gate_ixs gate_ixa gate_ixp gate_sls gate_sll gate_fd1 gate_fdn gate_bld gate_mkf gate_call rop_raw evOs_nil evOs_cons cells_get cell_get get_new get_put next_new next_put own_next own_get writeCells_get st_ptr finB_ret finB_norm finP_ret finP_norm frzB_some res_nil res_tmp res_cell frz_int frz_bool frz_str frz_nils frz_fz frz_fp frz_nilp frz_nili frz_agg frz_tup c_true c_false
attribute [go_sem] dec_false dec_true ne_eq not_false_eq_true br_some br_self cndG_bool cndT_bool gateV_some gateC_some callK_some cond_not cond_same cond_bool_true cond_bool_false gBool_true gBool_false gBool_cond someAgg_some bslK_some layK_some lenS_str lenL_nils lenL_sl lenL_fz un_not fd1_agg pureO_v unitO_v pick_b bool_cond int_cond ext_tup fa_ptr fa_fp ld1_ptr ld1_fp bin_lss bin_leq bin_gtr bin_geq bin_eql bin_neq bin_add bin_sub bin_mul bin_seql bin_sneq cellsOf_some cellOf_some grabK_some ldnK_some ldn_ptr ldn_fp layP_some wrC_cells cells_agg cells_int cells_bool cells_str cells_fz cells_nils cells_ptr cells_fp cells_sl cells_fn lay_nil lay_zero lay_succ grab_zero grab_head grab_tail noAgg_int noAgg_bool noAgg_str noAgg_fz noAgg_nils noAgg_ptr noAgg_fp noAgg_sl noAgg_fn ixp_ptr ixp_fp ixa_sl ixF_some ixa_fz ixs_str rsK_one rsK_two rsK_zero resK_some aggK_some tupK_some mapO_nil mapO_cons some_cond nth_zero nth_succ len_cons len_nil map_sm map_nn b_or_true b_and_true b_true_and b_not_true b_not_false n_mul_zero n_add_zero i_toNat all_cons' all_nil' Nat.reduceEqDiff Nat.reduceAdd Nat.reduceMul Bool.not_not Nat.zero_le decide_true Bool.and_self Int.reduceLT Int.reduceLE Int.reduceToNat Nat.zero_mul Nat.zero_add and_self true_and and_true Nat.reduceLT Nat.reduceLeDiff Int.natCast_nonneg Nat.lt_add_one

end Go.Am
set_option linter.unusedSimpArgs false
set_option linter.unusedVariables false
set_option linter.unusedSectionVars false
namespace Go.Am
open Go
/-! # Reading: operations that are left as they are; loops; calls with what stands in memory -/

section
variable (X : Cx) (ex : Ex) (e : Env) (s : St)
theorem eval_tmp (t : Nat) : eval X e (.tmp t) = some (Env.get e t) := (fun h => h) rfl
theorem eval_int (k : IntKind) (n : Int) : eval X e (.const (.int k n)) = some (.int k n) := (fun h => h) rfl
theorem eval_bool (b : Bool) : eval X e (.const (.bool b)) = some (.bool b) := (fun h => h) rfl

def nilC (v : Option AV) (s : St) : Option (AV × St) := match v with
  | some (.ptr b o) => some (.ptr b o, s)
  | some (.fp c o) => some (.fp c o, s)
  | some (.fn (.func f) x y) => some (.fn (.func f) x y, s)
  | some (.fn (.yield f) x y) => some (.fn (.yield f) x y, s)
  | _ => none
theorem opA_nilCheck (x : Operand) : opA X ex e (.nilCheck x) s = nilC (eval X e x) s := by
  unfold nilC
  simp only [opA]
  rfl
theorem nilC_ptr (b o : Nat) : nilC (some (.ptr b o)) s = some (.ptr b o, s) := (fun h => h) rfl
theorem nilC_fp (c : List AV) (o : Nat) : nilC (some (.fp c o)) s = some (.fp c o, s) := (fun h => h) rfl
theorem nilC_fn (f : FuncId) (x y : List AV) : nilC (some (.fn (.func f) x y)) s = some (.fn (.func f) x y, s) := (fun h => h) rfl

/-- an integer made one of another kind -/
def convT (a b : Option TypeDesc) (n : Int) (s : St) (r : Option (AV × St)) : Option (AV × St) := match a, b with
  | some _, some (.int k) => some (.int k (k.wrap n), s)
  | _, _ => r
def convI (a b : Option TypeDesc) (v : Option AV) (s : St) (r : Option (AV × St)) : Option (AV × St) := match v with
  | some (.int _ n) => convT a b n s r
  | _ => r
theorem opA_convert (a b : TypeId) (x : Operand) : opA X ex e (.convert a b x) s = convI (X.und a) (X.und b) (eval X e x) s (opA X ex e (.convert a b x) s) := by
  unfold convI
  split
  · rename_i j n h3
    unfold convT
    split
    · rename_i d k h1 h2
      simp only [opA, h3, convA, h1, h2]
    · rfl
  · rfl
theorem convI_int (d : TypeDesc) (k j : IntKind) (n : Int) (r : Option (AV × St)) : convI (some d) (some (.int k)) (some (.int j n)) s r = some (.int k (k.wrap n), s) := (fun h => h) rfl

theorem opA_min2 (c : Call) (hc : c.callee = .builtin .min) (x y : Operand) (ha : c.args = #[x, y]) {k j : IntKind} {n m : Int} (hx : eval X e x = some (.int k n)) (hy : eval X e y = some (.int j m)) : opA X ex e (.call c) s = some (.int k (min n m), s) := by
  have h : (if m < n then m else n) = min n m := by omega
  simp only [opA, hc, ha, evals, hx, hy, builtinA, minA, h]
theorem opA_max2 (c : Call) (hc : c.callee = .builtin .max) (x y : Operand) (ha : c.args = #[x, y]) {k j : IntKind} {n m : Int} (hx : eval X e x = some (.int k n)) (hy : eval X e y = some (.int j m)) : opA X ex e (.call c) s = some (.int k (max n m), s) := by
  have h : (if m > n then m else n) = max n m := by omega
  simp only [opA, hc, ha, evals, hx, hy, builtinA, maxA, h]
def mm2 (f : Int → Int → Int) (v u : Option AV) (s : St) (r : Option (AV × St)) : Option (AV × St) := match v, u with
  | some (.int k n), some (.int _ m) => some (.int k (f n m), s)
  | _, _ => r
theorem mm2_int (f : Int → Int → Int) (k j : IntKind) (n m : Int) (r : Option (AV × St)) : mm2 f (some (.int k n)) (some (.int j m)) s r = some (.int k (f n m), s) := (fun h => h) rfl
theorem opA_min (x y : Operand) (ts : Array TypeId) : opA X ex e (.call { callee := .builtin .min, args := #[x, y], argTypes := ts }) s = mm2 min (eval X e x) (eval X e y) s (opA X ex e (.call { callee := .builtin .min, args := #[x, y], argTypes := ts }) s) := by
  unfold mm2
  split
  · rename_i h1 h2
    exact opA_min2 X ex e s _ rfl x y rfl h1 h2
  · rfl
theorem opA_max (x y : Operand) (ts : Array TypeId) : opA X ex e (.call { callee := .builtin .max, args := #[x, y], argTypes := ts }) s = mm2 max (eval X e x) (eval X e y) s (opA X ex e (.call { callee := .builtin .max, args := #[x, y], argTypes := ts }) s) := by
  unfold mm2
  split
  · rename_i h1 h2
    exact opA_max2 X ex e s _ rfl x y rfl h1 h2
  · rfl

/-! ### A loop: what holds ahead of each round gives what comes of it -/

variable {β : Type} (fin : Fl → β) (ks : List K)
theorem loop_rule [Stat] {b : RC} {σ : Type} (m : σ → Nat) (I : σ → Env → St → Prop) (R : σ → β)
    (h : ∀ (L : RC) (x : σ) (e : Env) (s : St), I x e s → (∀ (y : σ) (e' : Env) (s' : St), m y < m x → I y e' s' → goL X fin ks L e' s' = R y) → go X fin (.lp L :: ks) b e s = R x)
    (x : σ) {e : Env} {s : St} (hI : I x e s) : goL X fin ks b e s = R x := by
  have key : ∀ (n : Nat) (x : σ) (e : Env) (s : St), m x < n → I x e s → goL X fin ks b e s = R x := by
    intro n
    induction n with
    | zero => intro x e s hn; omega
    | succ n ih =>
      intro x e s hn hI
      rw [goL_eq]
      exact h b x e s hI (fun y e' s' hm hI' => ih y e' s' (by omega) hI')
  exact key _ x e s (Nat.lt_succ_self _) hI

/-! ### Calls in a state of their own, of what stands in memory -/

/-- what is written out of a value, where nothing of it was written out before, is the value itself where it lies nowhere -/
noncomputable def calZ (f : FuncId) (us : Option (List AV)) (s : St) : Option (AV × St) := match us with
  | some us => match callQ X (execL X) f us false with
    | some v => some (v, s)
    | none => none
  | none => none
theorem cal_calZ {f : FuncId} {args : List AV} (hx : X.ext f = none) (hp : X.pure f = true) (hst : stills args = false) : callK X (calV X f args) f args s = calZ X f (mapO (frz X s 4000) args) s := by
  rw [← callK_eq]
  unfold cal callF
  rw [hx]
  simp only [hp, if_true, callP, frzArgs, hst, Bool.false_eq_true, if_false, frzDepth, calZ]
  rfl
theorem calZ_some {f : FuncId} {us : List AV} {v : AV} (h : callQ X (execL X) f us false = some v) : calZ X f (some us) s = some (v, s) := by
  simp only [calZ, h]
/-- by the machine's own run -/
theorem callQ_run {n : Nat} {f : FuncId} {us : List AV} {st : Bool} {v : AV} (h : callQ X (exec X n) f us st = some v) : callQ X (execL X) f us st = some v := by
  exact (tame_callQ (X := X) f us st).mono _ _ (exec_leL n) v h
end

@[congr] theorem convI_congr {a a' b b' : Option TypeDesc} {v v' : Option AV} {s : St} {r : Option (AV × St)} (h1 : a = a') (h2 : b = b') (h3 : v = v') : convI a b v s r = convI a' b' v' s r := by rw [h1, h2, h3]
@[congr] theorem mm2_congr {f : Int → Int → Int} {v v' u u' : Option AV} {s : St} {r : Option (AV × St)} (h1 : v = v') (h2 : u = u') : mm2 f v u s r = mm2 f v' u' s r := by rw [h1, h2]

/-! ### What is written out -/
section
variable (X : Cx) (s : St)
theorem still_bool (b : Bool) : still (.bool b) = true := by simp [still]
theorem still_int (k : IntKind) (n : Int) : still (.int k n) = true := by simp [still]
theorem still_str (l : List UInt8) : still (.str l) = true := by simp [still]
theorem still_nils : still .nils = true := by simp [still]
theorem still_nilp : still .nilp = true := by simp [still]
theorem still_nilfn : still .nilfn = true := by simp [still]
theorem still_nili : still .nili = true := by simp [still]
theorem still_fz (l : List AV) : still (.fz l) = true := by simp [still]
theorem still_fp (l : List AV) (o : Nat) : still (.fp l o) = true := by simp [still]
theorem still_fm (l k : List AV) : still (.fm l k) = true := by simp [still]
theorem still_ptr (b o : Nat) : still (.ptr b o) = false := by simp [still]
theorem still_sl (b o n : Nat) (c : Option Nat) (z : Nat) : still (.sl b o n c z) = false := by simp [still]
theorem still_agg (l : List AV) : still (.agg l) = stills l := by simp [still]
theorem still_tup (l : List AV) : still (.tup l) = stills l := by simp [still]
theorem still_fn (f : FuncId) (x y : List AV) : still (.fn (.func f) x y) = (stills x && stills y) := by simp [still]
theorem stills_nil : stills [] = true := by simp [stills]
theorem stills_cons (x : AV) (l : List AV) : stills (x :: l) = (still x && stills l) := by simp [stills]
theorem b_and_false (p : Bool) : (p && false) = false := by cases p <;> rfl
theorem b_false_and (p : Bool) : (false && p) = false := (fun h => h) rfl

def fzK (x : Option (List AV)) : Option AV := x.map .fz
theorem fzK_some (l : List AV) : fzK (some l) = some (.fz l) := (fun h => h) rfl
def fpK (o : Nat) (x : Option (List AV)) : Option AV := x.map fun c => .fp c o
theorem fpK_some (o : Nat) (l : List AV) : fpK o (some l) = some (.fp l o) := (fun h => h) rfl
def fnK (f : FuncId) (x y : Option (List AV)) : Option AV := match x, y with
  | some x, some y => some (.fn (.func f) x y)
  | _, _ => none
theorem fnK_some (f : FuncId) (x y : List AV) : fnK f (some x) (some y) = some (.fn (.func f) x y) := (fun h => h) rfl
def frzT (d len esz : Nat) (r : Option (List AV)) (ag : Option Bool) (n : Option Nat) : Option AV := match r, ag, n with
  | some r, some ag, some n => if esz = n ∧ n ≠ 0 ∧ (ag = false → n = 1 ∧ r.all noAgg = true) then fzK (mapO (frz X s d) (chunksA ag n len r)) else none
  | _, _, _ => none
def frzS (d o len esz : Nat) (x : Option Blk) : Option AV := match x with
  | some (.cells c e false _ _) => frzT X s d len esz (grab (len * esz) o c) (isAggT X e) (size X e)
  | _ => none
def frzP (d o : Nat) (x : Option Blk) : Option AV := match x with
  | some (.cells c _ false _ _) => fpK o (mapO (frz X s d) c)
  | _ => none
theorem frz_sl (d b o len : Nat) (cap : Option Nat) (esz : Nat) : frz X s (d + 1) (.sl b o len cap esz) = frzS X s d o len esz (s.get b) := by
  simp only [frz]
  unfold frzS
  split
  · rename_i c e lo hi hg
    simp only [hg]
    unfold frzT
    split
    · rename_i r ag n h1 h2 h3
      simp only [h1, h2, h3, fzK]
      split
      · cases mapO (frz X s d) (chunksA ag n len r) <;> rfl
      · rfl
    · rename_i hno
      split
      · rename_i r ag n h1 h2 h3; exact absurd h3 (hno _ _ _ h1 h2)
      · rfl
  · rename_i hno
    split
    · rename_i c e lo hi hg; exact absurd hg (hno _ _ _ _)
    · rfl
theorem frzS_cells (d o len esz : Nat) (c : List AV) (e : TypeId) (lo hi : Nat) : frzS X s d o len esz (some (.cells c e false lo hi)) = frzT X s d len esz (grab (len * esz) o c) (isAggT X e) (size X e) := (fun h => h) rfl
theorem frzT_one (d len : Nat) (r : List AV) : frzT X s d len 1 (some r) (some false) (some 1) = if r.all noAgg = true then fzK (mapO (frz X s d) (chunksA false 1 len r)) else none := by
  simp only [frzT]
  congr 1
  simp
theorem frzT_agg (d len n : Nat) (r : List AV) : frzT X s d len (n + 1) (some r) (some true) (some (n + 1)) = fzK (mapO (frz X s d) (chunksA true (n + 1) len r)) := by
  simp only [frzT]
  rw [if_pos]
  simp
theorem frz_ptr (d b o : Nat) : frz X s (d + 1) (.ptr b o) = frzP X s d o (s.get b) := by
  simp only [frz]
  unfold frzP
  split
  · rename_i c e lo hi hg
    simp only [hg, fpK]
    cases mapO (frz X s d) c <;> rfl
  · rename_i hno
    split
    · rename_i c e lo hi hg; exact absurd hg (hno _ _ _ _)
    · rfl
theorem frzP_cells (d o : Nat) (c : List AV) (e : TypeId) (lo hi : Nat) : frzP X s d o (some (.cells c e false lo hi)) = fpK o (mapO (frz X s d) c) := (fun h => h) rfl
theorem frz_fn (d : Nat) (f : FuncId) (x y : List AV) : frz X s (d + 1) (.fn (.func f) x y) = fnK f (mapO (frz X s d) x) (mapO (frz X s d) y) := by
  simp only [frz, fnK]; rfl
theorem frz_nilfn (d : Nat) : frz X s (d + 1) .nilfn = some .nilfn := (fun h => h) rfl
theorem frz_nilm (d : Nat) : frz X s (d + 1) .nilm = some .nilm := (fun h => h) rfl
theorem frz_fm (d : Nat) (k l : List AV) : frz X s (d + 1) (.fm k l) = some (.fm k l) := (fun h => h) rfl
theorem chunks_zero (ag : Bool) (n : Nat) (l : List AV) : chunksA ag n 0 l = [] := (fun h => h) rfl
theorem chunks_one (k : Nat) (x : AV) (l : List AV) : chunksA false 1 (k + 1) (x :: l) = x :: chunksA false 1 k l := (fun h => h) rfl
theorem chunks_agg (n k : Nat) (l : List AV) : chunksA true n (k + 1) l = .agg (l.take n) :: chunksA true n k (l.drop n) := by
  simp only [chunksA]
theorem chunks_all : ∀ l : List AV, chunksA false 1 l.length l = l
  | [] => rfl
  | x :: l => by
    show x :: chunksA false 1 l.length l = _
    rw [chunks_all l]
theorem grab_all : ∀ l : List AV, grab l.length 0 l = some l
  | [] => rfl
  | x :: l => by
    show grab (l.length + 1) 0 (x :: l) = _
    simp only [grab, grab_all l]
end
attribute [go_sem ↓] eval_tmp eval_int eval_bool frz_sl frz_ptr frz_fn frz_nilfn frz_nilm frz_fm opA_nilCheck opA_convert opA_min opA_max chunks_zero chunks_one
attribute [go_sem] nilC_ptr nilC_fp nilC_fn convI_int mm2_int fzK_some fpK_some fnK_some frzS_cells frzT_one frzT_agg frzP_cells chunks_agg still_bool still_int still_str still_nils still_nilp still_nilfn still_nili still_fz still_fp still_fm still_ptr still_sl still_agg still_tup still_fn stills_nil stills_cons b_and_false b_false_and List.take_succ_cons List.take_zero List.drop_succ_cons List.drop_zero
end Go.Am
set_option linter.unusedSimpArgs false
set_option linter.unusedVariables false
set_option linter.unusedSectionVars false
namespace Go.Am
open Go
/-! # Calls whose outcome is known -/
mutual
theorem same_eq : ∀ (a b : AV), same a b = true → a = b
  | .bool a, b, h => by cases b <;> simp [same] at h; rw [h]
  | .int k a, b, h => by cases b <;> simp [same] at h; rw [h.1, h.2]
  | .flt k a, b, h => by cases b <;> simp [same] at h; rw [h.1, h.2]
  | .str a, b, h => by cases b <;> simp [same] at h; rw [h]
  | .nilp, b, h => by cases b <;> simp [same] at h; rfl
  | .ptr a b, c, h => by cases c <;> simp [same] at h; rw [h.1, h.2]
  | .nils, b, h => by cases b <;> simp [same] at h; rfl
  | .sl a b c d e, x, h => by cases x <;> simp [same] at h; obtain ⟨⟨⟨⟨h1, h2⟩, h3⟩, h4⟩, h5⟩ := h; rw [h1, h2, h3, h4, h5]
  | .nilm, b, h => by cases b <;> simp [same] at h; rfl
  | .map a, b, h => by cases b <;> simp [same] at h; rw [h]
  | .nilch, b, h => by cases b <;> simp [same] at h; rfl
  | .chan a, b, h => by cases b <;> simp [same] at h; rw [h]
  | .nilfn, b, h => by cases b <;> simp [same] at h; rfl
  | .fn f x y, b, h => by
    cases b <;> simp [same] at h
    rw [h.1.1, sames_eq' _ _ h.1.2, sames_eq' _ _ h.2]
  | .nili, b, h => by cases b <;> simp [same] at h; rfl
  | .iface t x, b, h => by cases b <;> simp [same] at h; rw [h.1, same_eq _ _ h.2]
  | .agg a, b, h => by cases b <;> simp [same] at h; rw [sames_eq' _ _ h]
  | .tup a, b, h => by cases b <;> simp [same] at h; rw [sames_eq' _ _ h]
  | .fz a, b, h => by cases b <;> simp [same] at h; rw [sames_eq' _ _ h]
  | .fp a o, b, h => by cases b <;> simp [same] at h; rw [h.1, sames_eq' _ _ h.2]
  | .fm a b, c, h => by cases c <;> simp [same] at h; rw [sames_eq' _ _ h.1, sames_eq' _ _ h.2]
theorem sames_eq' : ∀ (a b : List AV), sames a b = true → a = b
  | [], b, h => by cases b <;> simp [sames] at h; rfl
  | x :: a, b, h => by
    cases b with
    | nil => simp [sames] at h
    | cons y b =>
      simp [sames] at h
      rw [same_eq _ _ h.1, sames_eq' _ _ h.2]
end

/-- a row of known calls: the arguments, what comes back for arguments that lie nowhere, and for those that lie in memory -/
abbrev Memo := List (List AV × Option AV × Option AV)
def memoF (args : List AV) (st : Bool) : Memo → Option AV
  | [] => none
  | (k, vt, vf) :: l => bif sames args k then (bif st then vt else vf) else memoF args st l
def memoA (X : Cx) (m : Memo) (args : List AV) (s : St) : Option (AV × St) := match frzArgs X s args with
  | some args' => match memoF args' (stills args) m with
    | some v => some (v, s)
    | none => none
  | none => none

theorem memoF_spec {args : List AV} {st : Bool} {v : AV} : ∀ {m : Memo}, memoF args st m = some v → ∃ e ∈ m, e.1 = args ∧ (bif st then e.2.1 else e.2.2) = some v
  | [], h => by simp [memoF] at h
  | (k, vt, vf) :: l, h => by
    simp only [memoF] at h
    cases hs : sames args k with
    | true => rw [hs] at h; exact ⟨_, List.mem_cons_self .., (sames_eq' _ _ hs).symm, h⟩
    | false =>
      rw [hs] at h
      obtain ⟨e, he, h1⟩ := memoF_spec h
      exact ⟨e, List.mem_cons_of_mem _ he, h1⟩

section
variable [Stat]
variable {X : Cx} {P : Program}
theorem memo_ok (hX : Full X P) (hD : DrawOk X P) {f : FuncId} (hext : X.ext f = none) (hp : X.pure f = true) {m : Memo} (h : ∀ e ∈ m, ∀ st v, (bif st then e.2.1 else e.2.2) = some v → ∃ n, callQ X (exec X n) f e.1 st = some v) : FnOk X P f (memoA X m) := by
  intro args s v s' σ w us h0 H F G hv
  unfold memoA at h0
  split at h0
  · rename_i args' hargs
    split at h0
    · rename_i v0 hm
      cases h0
      obtain ⟨e, he, rfl, h1⟩ := memoF_spec hm
      obtain ⟨n, hn⟩ := h e he _ _ h1
      have : callF X (exec X n) f args s = some (v, s) := by
        unfold callF
        rw [hext]
        simp only [hp, if_true, callP, hargs, hn]
      exact callF_ok hX (exec_sound hX hD n) f args s v s σ w us this H F G hv
    · cases h0
  · cases h0

/-- the same machine, to what is told from outside -/
theorem FnOk.congr {X Y : Cx} {f : FuncId} {g : List AV → St → Option (AV × St)} (h1 : X.glob = Y.glob) (h2 : X.gbase = Y.gbase) (h : FnOk X P f g) : FnOk Y P f g := by
  intro args s v s' σ w us h0 H F G hv
  refine h args s v s' σ w us h0 H F ?_ hv
  unfold GlobOk at G ⊢
  rw [h1, h2]; exact G
end
end Go.Am
set_option linter.unusedSimpArgs false
set_option linter.unusedVariables false
namespace Go.Am
open Go
/-! # What was looked at for calls in the state at hand holds for calls in a state of their own too -/
/-- Y is X with some calls run in a state of their own -/
structure Under (W X : Cx) : Prop where
  und : W.und = X.und
  np : ∀ f, W.pure f = false

section
variable {W X : Cx}
theorem cls_under (h : Under W X) (o : Op) : cls W o = cls X o ∨ (cls W o = .w ∧ cls X o = .q) := by
  have hu := h.und
  cases o <;> try exact .inl rfl
  case convert s d x =>
    left
    simp only [cls, hu]
  case call c =>
    obtain ⟨callee, args, ts⟩ := c
    cases callee with
    | builtin b => exact .inl rfl
    | invoke r m => exact .inl rfl
    | value f =>
      cases f with
      | func f =>
        have e1 : cls W (.call { callee := .value (.func f), args := args, argTypes := ts }) = .w := by
          simp only [cls, h.np, Bool.false_and, Bool.false_eq_true, if_false]
        have e2 : cls X (.call { callee := .value (.func f), args := args, argTypes := ts }) = .w ∨ cls X (.call { callee := .value (.func f), args := args, argTypes := ts }) = .q := by
          simp only [cls]
          split <;> simp
        rcases e2 with e2 | e2
        · exact .inl (by rw [e1, e2])
        · exact .inr ⟨e1, e2⟩
      | _ => exact .inl rfl
theorem pa_under (h : Under W X) (o : Op) : (match cls W o with | .p => true | .a => true | _ => false) = (match cls X o with | .p => true | .a => true | _ => false) := by
  rcases cls_under h o with e | ⟨e1, e2⟩
  · rw [e]
  · rw [e1, e2]
theorem lateAt_under (h : Under W X) (ops : Array Oper) (i : Nat) : lateAt W ops i = lateAt X ops i := by
  unfold lateAt
  cases ops[i]? with
  | none => rfl
  | some o =>
    simp only
    congr 2
    funext k
    cases ops[k]? with
    | none => rfl
    | some ok => exact congrArg (fun b => (k == i || bef ops k i || (isStore ok.op || b))) (pa_under h ok.op)
theorem late_under (h : Under W X) (ops : Array Oper) (i : Nat) : late W ops i = late X ops i := by
  unfold late lateReg
  have : lateAt W ops = lateAt X ops := funext (lateAt_under h ops)
  rw [this]
theorem pairOk_under (h : Under W X) (ops : Array Oper) (i j : Nat) (oi oj : Oper) (hp : pairOk W ops i j oi oj = true) : pairOk X ops i j oi oj = true := by
  unfold pairOk at hp ⊢
  rw [Bool.or_eq_true] at hp ⊢
  rcases hp with hp | hp
  · exact .inl hp
  · right
    rw [Bool.and_eq_true] at hp ⊢
    refine ⟨hp.1, ?_⟩
    have hp := hp.2
    rw [late_under h, late_under h] at hp
    rcases cls_under h oi.op with e | ⟨e1, e2⟩ <;> rcases cls_under h oj.op with e' | ⟨e1', e2'⟩
    · rw [e, e'] at hp; exact hp
    · rw [e, e1'] at hp; rw [e2']
      cases hc : cls X oi.op <;> rfl
    · simp only [e2]
    · simp only [e2]
theorem okD_under (h : Under W X) (ops : Array Oper) (hp : okD W ops = true) : okD X ops = true := by
  unfold okD at hp ⊢
  rw [List.all_eq_true] at hp ⊢
  intro j hj
  have := hp j hj
  revert this
  cases ops[j]? with
  | none => exact fun h => h
  | some oj =>
    simp only
    intro this
    rw [Bool.and_eq_true] at this ⊢
    refine ⟨this.1, ?_⟩
    have this := this.2
    rw [List.all_eq_true] at this ⊢
    intro i hi
    have := this i hi
    revert this
    cases ops[i]? with
    | none => exact fun h => h
    | some oi => exact fun this => pairOk_under h ops i j oi oj this
theorem okC_under (h : Under W X) : ∀ (n : Nat) (c : Code), okC W n c = true → okC X n c = true := by
  intro n c
  induction c with
  | region id ops d =>
    intro hc
    simp only [okC, Bool.and_eq_true, Bool.or_eq_true] at hc ⊢
    exact ⟨hc.1, hc.2.imp (fun x => x) (okD_under h ops)⟩
  | seq a b iha ihb => intro hc; simp only [okC, Bool.and_eq_true] at hc ⊢; exact ⟨iha hc.1, ihb hc.2⟩
  | cond c a b iha ihb => intro hc; simp only [okC, Bool.and_eq_true] at hc ⊢; exact ⟨iha hc.1, ihb hc.2⟩
  | block i b ih => intro hc; simp only [okC] at hc ⊢; exact ih hc
  | loop b ih => intro hc; simp only [okC] at hc ⊢; exact ih hc
  | scope b ih => intro hc; simp only [okC] at hc ⊢; exact ih hc
  | rangeFunc f ps a b iha ihb =>
    intro hc
    simp only [okC, Bool.and_eq_true] at hc ⊢
    exact ⟨⟨⟨⟨hc.1.1.1.1, iha hc.1.1.1.2⟩, ihb hc.1.1.2⟩, hc.1.2⟩, hc.2⟩
  | _ => intro hc; simp only [okC] at hc ⊢
end
end Go.Am
set_option linter.unusedSimpArgs false
set_option linter.unusedVariables false
set_option linter.unusedSectionVars false
namespace Go.Am
open Go
/-! # Runs whose way is not fixed: a range over a map -/
section
variable [Stat]
variable {X : Cx} {P : Program}

theorem Goes.mono {F : Fence} {n : Nat} {c : Code} {Q Q' : Exit → Act → World → Prop} {a : Act} {w : World} (h : Goes F n P c Q a w) (hq : ∀ e a' w', Q e a' w' → Q' e a' w') : Goes F n P c Q' a w := by
  cases c with
  | loop b =>
    intro b' k cs hro hb hr
    obtain ⟨e, a', w', h1, h2⟩ := h b' k cs hro hb hr
    exact ⟨e, a', w', hq _ _ _ h1, h2⟩
  | _ => exact wpIn_mono (c := _) h hq

/-- the code, begun in this state, ends in one of which Q speaks, however it is drawn -/
def GoR (X : Cx) (P : Program) (c : Code) (e : Env) (s : St) (Q : Out → Env → St → Prop) : Prop :=
  ∀ r n0 a w σ, Cok X r a.tmps.size c → Inv X σ s w n0 e a → Goes (FW r) 0 P c (fun en a' w' => ∃ out e' s', Q out e' s' ∧ Post X σ s w n0 a out e' s' en a' w') a w

theorem GoR.det (hX : Full X P) (hD : DrawOk X P) {n : Nat} {c : Code} {e e' : Env} {s s' : St} {out : Out} {Q : Out → Env → St → Prop} (h : exec X n c e s = some (out, e', s')) (hq : Q out e' s') : GoR X P c e s Q :=
  fun r n0 a w σ hok I => (exec_sound hX hD n c e s out e' s' h r n0 a w σ hok I).mono fun _ _ _ hp => ⟨_, _, _, hq, hp⟩

theorem GoR.mono {c : Code} {e : Env} {s : St} {Q Q' : Out → Env → St → Prop} (h : GoR X P c e s Q) (hq : ∀ out e' s', Q out e' s' → Q' out e' s') : GoR X P c e s Q' :=
  fun r n0 a w σ hok I => (h r n0 a w σ hok I).mono fun _ _ _ ⟨o, e', s', h1, h2⟩ => ⟨o, e', s', hq _ _ _ h1, h2⟩

theorem GoR.seq {x y : Code} {e : Env} {s : St} {Q1 Q : Out → Env → St → Prop} (h : GoR X P x e s Q1) (h1 : ∀ e1 s1, Q1 .norm e1 s1 → GoR X P y e1 s1 Q) (h2 : ∀ out e1 s1, out ≠ .norm → Q1 out e1 s1 → Q out e1 s1) : GoR X P (.seq x y) e s Q := by
  intro r n0 a w σ hok I
  have hokx : Cok X r a.tmps.size x := by
    obtain ⟨n, h1, h2, h3⟩ := hok
    simp only [okC, Bool.and_eq_true] at h2
    exact ⟨n, h1, h2.1, fun h => by have := h3 h; simp only [noRF, Bool.and_eq_true] at this; exact this.1⟩
  have hoky : ∀ m, m = a.tmps.size → Cok X r m y := by
    rintro m rfl
    obtain ⟨n, h1, h2, h3⟩ := hok
    simp only [okC, Bool.and_eq_true] at h2
    exact ⟨n, h1, h2.2, fun h => by have := h3 h; simp only [noRF, Bool.and_eq_true] at this; exact this.2⟩
  show Code.wpIn _ _ _ _ _ _ _
  refine wpIn_seq (wpIn_mono (h r n0 a w σ hokx I).wpIn ?_)
  rintro en a1 w1 ⟨out, e1, s1, hq1, hx, σ1, g1, i1, hs1⟩
  cases out with
  | norm =>
    cases en <;> simp only [exRel] at hx
    refine wpIn_mono (h1 e1 s1 hq1 r n0 a1 w1 σ1 (hoky _ hs1) i1).wpIn ?_
    rintro en2 a2 w2 ⟨o2, e2, s2, hq2, hq3, hq4⟩
    exact ⟨o2, e2, s2, hq2, hq3, hq4.trans g1 hs1⟩
  | exit i => cases en <;> simp only [exRel] at hx; exact ⟨_, _, _, h2 _ _ _ (by simp) hq1, hx, σ1, g1, i1, hs1⟩
  | ret => cases en <;> simp only [exRel] at hx; exact ⟨_, _, _, h2 _ _ _ (by simp) hq1, hx, σ1, g1, i1, hs1⟩

theorem GoR.block {id : Nat} {b : Code} {e : Env} {s : St} {Q1 Q : Out → Env → St → Prop} (h : GoR X P b e s Q1) (h1 : ∀ e1 s1, Q1 .norm e1 s1 → Q .norm e1 s1) (h2 : ∀ i e1 s1, Q1 (.exit i) e1 s1 → Q (if i = id then .norm else .exit i) e1 s1) (h3 : ∀ e1 s1, Q1 .ret e1 s1 → Q .ret e1 s1) : GoR X P (.block id b) e s Q := by
  intro r n0 a w σ hok I
  have hokb : Cok X r a.tmps.size b := by
    obtain ⟨n, h1, h2, h3⟩ := hok
    exact ⟨n, h1, by simpa [okC] using h2, fun h => by simpa [noRF] using h3 h⟩
  show Code.wpIn _ _ _ _ _ _ _
  refine wpIn_block (wpIn_mono (h r n0 a w σ hokb I).wpIn ?_)
  rintro en a1 w1 ⟨out, e1, s1, hq1, hx, hA⟩
  cases out with
  | norm => cases en <;> simp only [exRel] at hx; exact ⟨_, _, _, h1 _ _ hq1, trivial, hA⟩
  | exit i =>
    cases en <;> simp only [exRel] at hx
    subst hx
    have := h2 _ _ _ hq1
    by_cases hid : i = id
    · simp only [hid, if_true] at this
      simp only [Exit.inBlock, hid, if_true]
      exact ⟨_, _, _, this, trivial, hA⟩
    · simp only [hid, if_false] at this
      simp only [Exit.inBlock, hid, if_false]
      exact ⟨_, _, _, this, rfl, hA⟩
  | ret => cases en <;> simp only [exRel] at hx; exact ⟨_, _, _, h3 _ _ hq1, trivial, hA⟩

theorem GoR.loop {b : Code} {e : Env} {s : St} {Q1 Q : Out → Env → St → Prop} (h : GoR X P b e s Q1) (h1 : ∀ e1 s1, Q1 .norm e1 s1 → GoR X P (.loop b) e1 s1 Q) (h2 : ∀ out e1 s1, out ≠ .norm → Q1 out e1 s1 → Q out e1 s1) : GoR X P (.loop b) e s Q := by
  intro r n0 a w σ hok I
  have hokb : ∀ a' : Act, a'.tmps.size = a.tmps.size → Cok X r a'.tmps.size b := fun a' ha' => by
    obtain ⟨n, h1, h2, h3⟩ := hok
    exact ⟨n, by rw [ha']; exact h1, by simpa [okC] using h2, fun h => by simpa [noRF] using h3 h⟩
  show LoopRuns (FW r) 0 P b _ a w
  refine loopRuns_of (wpIn_mono (h r n0 a w σ (hokb a rfl) I).wpIn ?_)
  rintro en a1 w1 ⟨out, e1, s1, hq1, hx, σ1, g1, i1, hs1⟩
  cases out with
  | norm =>
    cases en <;> simp only [exRel] at hx
    have h3 : LoopRuns (FW r) 0 P b _ a1 w1 := h1 e1 s1 hq1 r n0 a1 w1 σ1 (by rw [hs1]; exact hok) i1
    show LoopRuns (FW r) 0 P b _ a1 w1
    intro b' k cs hro hb hr
    obtain ⟨e2, a2, w2, ⟨o, e3, s3, q1, q2, q3⟩, harr⟩ := h3 b' k cs hro hb hr
    exact ⟨e2, a2, w2, ⟨o, e3, s3, q1, q2, q3.trans g1 hs1⟩, harr⟩
  | exit i => cases en <;> simp only [exRel] at hx; exact ⟨_, _, _, h2 _ _ _ (by simp) hq1, hx, σ1, g1, i1, hs1⟩
  | ret => cases en <;> simp only [exRel] at hx; exact ⟨_, _, _, h2 _ _ _ (by simp) hq1, hx, σ1, g1, i1, hs1⟩

theorem GoR.cond {c : Operand} {x y : Code} {e : Env} {s : St} {Q : Out → Env → St → Prop} {b : Bool} (hc : eval X e c = some (.bool b)) (h : GoR X P (if b then x else y) e s Q) : GoR X P (.cond c x y) e s Q := by
  intro r n0 a w σ hok I
  have hok2 : Cok X r a.tmps.size x ∧ Cok X r a.tmps.size y := by
    obtain ⟨n, h1, h2, h3⟩ := hok
    simp only [okC, Bool.and_eq_true] at h2
    exact ⟨⟨n, h1, h2.1, fun h => by have := h3 h; simp only [noRF, Bool.and_eq_true] at this; exact this.1⟩,
      ⟨n, h1, h2.2, fun h => by have := h3 h; simp only [noRF, Bool.and_eq_true] at this; exact this.2⟩⟩
  have hb := vrel_bool (eval_rel I.glob I.env hc)
  show Code.wpIn _ _ _ _ _ _ _
  cases b with
  | true => exact wpIn_cond_true (by rw [eval_eq_rho]; exact hb) (h r n0 a w σ hok2.1 I).wpIn
  | false => exact wpIn_cond_false (by rw [eval_eq_rho]; exact hb) (h r n0 a w σ hok2.2 I).wpIn

theorem GoR.scope {b : Code} {e : Env} {s : St} {Q : Out → Env → St → Prop} (h : GoR X P b e s Q) : GoR X P (.scope b) e s Q := by
  intro r n0 a w σ hok I
  have hokb : Cok X r a.tmps.size b := by
    obtain ⟨n, h1, h2, h3⟩ := hok
    exact ⟨n, h1, by simpa [okC] using h2, fun h => by simpa [noRF] using h3 h⟩
  show Code.wpIn _ _ _ _ _ _ _
  refine wpIn_scope (wpIn_mono (h r n0 a w σ hokb I).wpIn ?_)
  rintro en a1 w1 ⟨out, e1, s1, hq, hx, hA⟩
  cases en with
  | goto l => cases out <;> simp only [exRel] at hx
  | _ => exact ⟨_, _, _, hq, hx, hA⟩

/-- the step of a loop over a map -/
theorem GoR.next (hX : Full X P) {id : Nat} {ops : Array Oper} {o : Oper} {l : List Oper} {it : Operand} {r : Nat} {e : Env} {s : St} {Q : Out → Env → St → Prop} (hops : ops.toList = o :: l) (hop : o.op = .next it false) (hg : o.guard = none)
    (hit : eval X e it = some (.ptr r 0)) (hne : nextA r s ≠ []) (h : ∀ x ∈ nextA r s, ∃ e' s', opsS X ops l (setDst e o.dst x.1) x.2 = some (e', s') ∧ Q .norm e' s') : GoR X P (.region id ops false) e s Q := by
  intro rr n0 a w σ hok I
  have hdst : ∀ o ∈ ops.toList, dstOk a.tmps.size o.dst := by
    obtain ⟨n, h1, h2, _⟩ := hok
    simp only [okC, Bool.and_eq_true, List.all_eq_true] at h2
    intro o ho t ht
    have := h2.1 o ho
    rw [ht] at this
    simp only [decide_eq_true_eq] at this
    exact Nat.lt_of_lt_of_le this h1
  have hsz : 0 < ops.size := by rw [← Array.length_toList, hops]; simp
  have ho : ops[0]? = some o := by rw [← Array.getElem?_toList, hops]; rfl
  show Code.wpIn _ _ _ _ _ _ _
  intro b k cs hro hb hr
  obtain ⟨x, hx, σ1, u, w1, g1, g2, g3⟩ := nextA_run (P := P) (ty := o.type) I.hr (eval_rel I.glob I.env hit) hne
  obtain ⟨e1, s1, h1, hq⟩ := h x hx
  obtain ⟨τ, gτ, Iτ, hs⟩ := I.put g3 (hdst o (by rw [hops]; simp)) g2
  have hd : ops.toList.drop 1 = l := by rw [hops]; rfl
  have hrest : OpsGo (FW rr) 0 P ops (fun en a' w' => ∃ out e' s', Q out e' s' ∧ Post X σ s w n0 a out e' s' en a' w') (List.range' 1 (ops.size - 1)) (a.put o.dst u) w1 :=
    opsS_sound hX (out := (e1, s1)) (ops.size - 1) 1 _ _ _ _ τ (by omega) (by rw [hd]; exact h1) (fun o ho => by rw [hs]; exact hdst o ho) Iτ fun a' w' hA => ⟨.norm, e1, s1, hq, trivial, hA.trans gτ hs⟩
  have hst : OpsGo (FW rr) 0 P ops (fun en a' w' => ∃ out e' s', Q out e' s' ∧ Post X σ s w n0 a out e' s' en a' w') (0 :: List.range' 1 (ops.size - 1)) a w := by
    refine .step ho (fun b k cs hro => step_value (nx := .value u) (u := u) ho ?_ ?_ (.inl rfl)) hrest
    · unfold Region.wanted; rw [hg]
    · rw [Oper.semAt_eq _ _ _ (fun c hc => by rw [hop] at hc; cases hc), eval_eq_rho]
      obtain ⟨d, p, ty, q1, q2, q3⟩ := o
      simp only at hop
      subst hop
      simp only [execOp]
      simp only [Sem.run_bind, g1, Result.andThen_ok, Sem.run_pure]
  have hrng : List.range ops.size = 0 :: List.range' 1 (ops.size - 1) := by
    rw [List.range_eq_range']
    obtain ⟨m, hm⟩ : ∃ m, ops.size = m + 1 := ⟨ops.size - 1, by omega⟩
    rw [hm, List.range'_succ]; simp
  rw [← hrng] at hst
  obtain ⟨e2, a2, w2, hq2, harr⟩ := hst b k cs hro hb hr
  exact ⟨e2, a2, w2, hq2, .of_steps (.one (fenced_calm hb hr rfl) stepR_region) harr⟩

theorem leaves_marksR (hX : CxOk X P) {F : Fence} {n : Nat} {σ0 σ : Sg} {s0 s : St} {w0 : World} {e : Env} {fn : Func} {v : AV} {tmps : Array Value} {R : Ending → World → Prop} (E : erel σ e tmps) (hres : resultsA X fn e s = some v)
    (hk : ∀ u w', vrel σ v u → Good σ0 s0 w0 σ s w' → R (.returned u) w') :
    ∀ (rs : List Nat) (w : World), Good σ0 s0 w0 σ s w → rs.Nodup → (∀ r ∈ rs, w0.heap.size ≤ r ∧ w.heap[r]? = some (.deferred (some [])) ∧ (∀ i p, σ i = some p → p.b ≠ r) ∧ σ.fz r = none) →
      LeavesInM F n P fn tmps R (rs.map fun r => ({ target := .collected r, args := #[] } : Deferred)) .returning w
  | [], w, g, _, _ => by
    obtain ⟨u, h1, h2⟩ := results_run (P := P) hX g.hr E hres
    exact ⟨u, h1, hk u w h2 g⟩
  | r :: rs, w, g, hn, hm => by
    obtain ⟨h1, h2, h3, h4⟩ := hm r (List.mem_cons_self ..)
    refine ⟨by simp, .inl ⟨r, w.putObj r (.deferred none), rfl, run_takeDeferred h2, ?_⟩⟩
    rw [List.nodup_cons] at hn
    refine leaves_marksR hX E hres hk rs _ (g.unmark h1 h3 h4 _) hn.2 fun r' hr' => ?_
    obtain ⟨g1, g2, g3⟩ := hm r' (List.mem_cons_of_mem _ hr')
    refine ⟨g1, ?_, g3⟩
    show (w.heap.setIfInBounds r _)[r']? = _
    rw [Array.getElem?_setIfInBounds, if_neg (fun h : r = r' => hn.1 (by rw [h]; exact hr'))]
    exact g2

/-- a body whose way is not fixed -/
theorem callR_enter (hX : Full X P) {f : FuncId} {fn : Func} {c : Code} {args : List AV} {s : St} {R : AV → St → Prop} (hfn : X.fn f = some fn) (hb : fn.body = some c)
    (h : GoR X P c (bindArgs 0 args .nil) s fun out e' s' => (out = .norm ∨ out = .ret) ∧ ∃ v, resultsA X fn e' s' = some v ∧ R v s') {σ : Sg} {w : World} {us : Array Value}
    (H : HR σ s w) (F : Fresh σ s) (G : GlobOk X σ) (hv : vrels σ args us.toList) :
    (callFunc f us).run P w = .ok (.enter f us) w ∧ Calls P f us w fun en w' => ∃ v s' u σ', R v s' ∧ en = .returned u ∧ vrel σ' v u ∧ Good σ s w σ' s' w' := by
  have hf := hX.fn f fn hfn
  refine ⟨?_, ?_⟩
  · have hnm : ¬ fn.name = "runtime.NumGoroutine" := by have := hX.nm f fn hfn; simpa using this
    simp [callFunc, Sem.run_bind, Result.andThen, hf, hnm, hb]
  · refine callsIn_wide.1 (callsIn_of_wp_marks (F := FW none) (n := 0) hf hb trivial ?_)
    have I : Inv X σ s w w.heap.size (bindArgs 0 args .nil) { tmps := us ++ Array.replicate (fn.ntmps - us.size) Go.undef, defers := [] } :=
      ⟨H, F, G, enter_rel hv _, DF.nil _ _ _, Nat.le_refl _⟩
    have hok : Cok X none (us ++ Array.replicate (fn.ntmps - us.size) Go.undef).size c := ⟨fn.ntmps, by simp; omega, hX.fok f fn c hfn hb, by simp⟩
    refine wpIn_mono (h none _ _ w σ hok I).wpIn ?_
    rintro en a' w' ⟨out, e1, s1, ⟨hout, v, hres, hR⟩, hx, σ', g, i', _⟩
    have hl : LeavesInM (FW none) 0 P fn a'.tmps (fun en w' => ∃ v s' u σ', R v s' ∧ en = .returned u ∧ vrel σ' v u ∧ Good σ s w σ' s' w') a'.defers .returning w' := by
      obtain ⟨rs, hrs, hn, hm⟩ := i'.df
      rw [hrs]
      exact leaves_marksR hX.toCxOk i'.env hres (fun u w'' h1 h2 => ⟨v, s1, u, σ', hR, rfl, h1, h2⟩) rs w' g hn hm
    rcases hout with rfl | rfl <;> cases en <;> simp only [exRel] at hx
    · exact hl
    · exact hl

theorem flats_get : ∀ {l : List AV}, flats l = true → ∀ (i : Nat) (a : AV), l[i]? = some a → flat a = true
  | [], _, i, a, h => by simp at h
  | x :: l, h, i, a, e => by
    simp only [flats, Bool.and_eq_true] at h
    cases i with
    | zero => simp at e; rw [← e]; exact h.1
    | succ i => exact flats_get h.2 i a (by simpa using e)

/-- back from a state of its own, with one row of flat cells as a new block -/
theorem own_row {σ σ0 σ1 : Sg} {s t t' : St} {w w' : World} (H : HR σ s w) (F : Fresh σ s) (g : Good σ0 t w σ1 t' w') (hno : ∀ c, ¬ Owns σ0 t c) {b : Nat} {p : Pl} {cs : List AV} {el : TypeId} {lo hi : Nat} (hp : σ1 b = some p)
    (hb : t'.look b = some (.cells cs el false lo hi)) (hnew : w.heap.size ≤ p.b) (hflat : flats cs = true) : Good σ s w (σ.add s.next p) (s.new (.cells cs el false lo hi)) w' := by
  have hf : σ s.next = none := F _ (Nat.le_refl _)
  have hle : Sg.le σ (σ.add s.next p) := Sg.le_add hf
  have keep : ∀ c, c < w.heap.size → w'.heap[c]? = w.heap[c]? := fun c hc => g.ext.keep c hc (hno c)
  have hlook : ∀ i, (s.new (.cells cs el false lo hi)).look i = if s.next = i then some (.cells cs el false lo hi) else s.look i := fun i => St.look_new s i _ (by simp)
  have old : ∀ i q, (σ.add s.next p) i = some q → i ≠ s.next → σ i = some q := fun i q hq hne => by rw [Sg.add_ne _ _ hne] at hq; exact hq
  have own : ∀ c, c < w.heap.size → Owns (σ.add s.next p) (s.new (.cells cs el false lo hi)) c → Owns σ s c := by
    rintro c hc ⟨i, q, bl, hq, hl, ho, he⟩
    by_cases hi' : i = s.next
    · subst hi'
      rw [Sg.add_self] at hq; cases hq
      omega
    · rw [hlook, if_neg (fun e => hi' e.symm)] at hl
      exact ⟨i, q, bl, old i q hq hi', hl, ho, he⟩
  refine ⟨⟨fun i q hq => ?_, fun i q bl hq hl => ?_, fun i j q q' bl bl' hq hq' hl hl' he => ?_, fun c o hc => ?_⟩, ⟨hle, fun c o hc => .inl hc, g.ext.size, fun c hc _ => keep c hc, own, g.ext.os, g.ext.tape, g.ext.output, g.ext.drawn⟩, fun i hi' => ?_, by rw [St.next_new]; omega, fun i hi' hl => ?_, fun i q hq hn => ?_, rfl⟩
  · by_cases e : i = s.next
    · subst e; rw [Sg.add_self] at hq; cases hq; exact g.hr.lt _ _ hp
    · exact Nat.lt_of_lt_of_le (H.lt i q (old i q hq e)) g.ext.size
  · by_cases e : i = s.next
    · subst e
      rw [Sg.add_self] at hq; cases hq
      rw [hlook, if_pos rfl] at hl; cases hl
      obtain ⟨o, ho, hbr⟩ := g.hr.blk _ _ _ hp hb
      refine ⟨o, ho, ?_⟩
      cases o <;> simp only [BR] at hbr ⊢
      obtain ⟨h1, h2, h3, h4, h5⟩ := hbr
      refine ⟨h1, h2, h3, fun j a ha => ?_, h5⟩
      obtain ⟨v, hv, hr⟩ := h4 j a ha
      exact ⟨v, hv, flat_rel (flats_get hflat j a ha) hr⟩
    · rw [hlook, if_neg (fun e' => e e'.symm)] at hl
      have hq' := old i q hq e
      obtain ⟨o, ho, hbr⟩ := H.blk i q bl hq' hl
      exact ⟨o, by rw [keep _ (H.lt i q hq')]; exact ho, hbr.mono hle⟩
  · by_cases e : i = s.next
    · by_cases e' : j = s.next
      · rw [e, e']
      · subst e
        rw [Sg.add_self] at hq; cases hq
        have := H.lt j q' (old j q' hq' e')
        omega
    · by_cases e' : j = s.next
      · subst e'
        rw [Sg.add_self] at hq'; cases hq'
        have := H.lt i q (old i q hq e)
        omega
      · rw [hlook, if_neg (fun x => e x.symm)] at hl
        rw [hlook, if_neg (fun x => e' x.symm)] at hl'
        exact H.inj i j q q' bl bl' (old i q hq e) (old j q' hq' e') hl hl' he
  · obtain ⟨k1, k2⟩ := H.fz c o hc
    have hlt : c < w.heap.size := (Array.getElem?_eq_some_iff.1 k1).1
    exact ⟨by rw [keep c hlt]; exact k1, fun ho => k2 (own c hlt ho)⟩
  · rw [St.next_new] at hi'
    exact Sg.add_ne _ _ (by omega)
  · rw [hlook, if_neg (by omega)]; exact hl
  · by_cases e : i = s.next
    · subst e; rw [Sg.add_self] at hq; cases hq; exact .inl hnew
    · rw [Sg.add_ne _ _ e, hn] at hq; cases hq

/-- what a call hands back that makes nothing but one row of flat cells -/
inductive RowR where
  | flat (v : AV)
  | row (len : Nat) (cap : Option Nat) (esz : Nat) (er : AV) (cs : List AV) (el : TypeId)

def rowG (G : List AV → Option RowR) (args : List AV) (s : St) : Option (AV × St) := match mapO (frz X s frzDepth) args with
  | some fargs => match G fargs with
    | some (.flat v) => if flat v then some (v, s) else none
    | some (.row len cap esz er cs el) => if flat er && flats cs then some (.tup [.sl s.next 0 len cap esz, er], s.new (.cells cs el false 0 0)) else none
    | none => none
  | none => none

def RowIs : RowR → AV → St → Prop
  | .flat v, v', _ => v' = v
  | .row len cap esz er cs el, v', s' => ∃ b, v' = .tup [.sl b 0 len cap esz, er] ∧ X.glob ≤ b ∧ s'.get b = some (.cells cs el false 0 0)

/-- Such a call with what lies in memory frozen, and its one row of flat cells handed back as a new row. -/
theorem callR_row (hX : Full X P) {f : FuncId} {fn : Func} {c : Code} (hfn : X.fn f = some fn) (hb : fn.body = some c) {G : List AV → Option RowR}
    (h : ∀ fargs r, G fargs = some r → GoR X P c (bindArgs 0 fargs .nil) (ownSt X) fun out e' s' => (out = .norm ∨ out = .ret) ∧ ∃ v, resultsA X fn e' s' = some v ∧ RowIs (X := X) r v s') : FnOk X P f (rowG (X := X) G) := by
  intro args s v s' σ w us h0 H F G0 hv
  have hg : ∀ c o, σ.fz c = some o → w.heap[c]? = some o := fun c o hc => (H.fz c o hc).1
  unfold rowG at h0
  split at h0
  · rename_i fargs hargs'
    obtain ⟨a1, a2, a3, a4⟩ := own_hr (X := X) G0 H.lt hg (fun c => w.heap[c]?) hg (fun _ _ h => h) hX.gb
    have hargs : vrels (σ.low X.glob fun c => w.heap[c]?) fargs us.toList := by
      have := mapO_rel (τ := (σ.low X.glob fun c => w.heap[c]?).bare) (frz_rel (X := X) H hg (fun i p b o _ _ _ ho => ho) _) hargs' hv
      exact vrels.mono (Sg.bare_le _) _ _ this
    have run : ∀ r, G fargs = some r → (∀ v1 s1 u σ1 w', RowIs (X := X) r v1 s1 → vrel σ1 v1 u → Good (σ.low X.glob fun c => w.heap[c]?) (ownSt X) w σ1 s1 w' → ∃ σ', vrel σ' v u ∧ Good σ s w σ' s' w') →
        FnPost P (fun u w' => ∃ σ', vrel σ' v u ∧ Good σ s w σ' s' w') ((callFunc f us).run P w) := by
      intro r hr hk
      obtain ⟨c1, c2⟩ := callR_enter hX hfn hb (h fargs r hr) a1 a2 a3 hargs
      rw [c1]
      refine Calls.mono c2 ?_
      rintro en w' ⟨v1, s1, u, σ1, hR, rfl, hu, g⟩
      obtain ⟨σ', k1, k2⟩ := hk v1 s1 u σ1 w' hR hu g
      exact ⟨u, rfl, σ', k1, k2⟩
    split at h0
    · rename_i v0 hG
      split at h0
      · rename_i hfl
        cases h0
        refine run _ hG fun v1 s1 u σ1 w' hR hu g => ?_
        have hR : v1 = v := hR
        subst hR
        exact ⟨σ, flat_rel hfl hu, own_good H g a4 rfl (fun _ _ h => h) (fun _ _ h => .inl h)⟩
      · cases h0
    · rename_i len cap esz er cs el hG
      split at h0
      · rename_i hfl
        simp only [Bool.and_eq_true] at hfl
        cases h0
        refine run _ hG fun v1 s1 u σ1 w' hR hu g => ?_
        obtain ⟨b, rfl, hge, hget⟩ := hR
        obtain ⟨us', rfl, hus⟩ := vrel_tup hu
        simp only [vrels] at hus
        obtain ⟨u1, y1, e1, hu1, u2, y2, rfl, hu2, rfl⟩ := hus
        obtain ⟨a, k, rfl, hlen, ⟨p, hp, hat, hn⟩, hcap, hrm⟩ := vrel_sl hu1
        have hlow : (σ.low X.glob fun c => w.heap[c]?) b = none := by
          show (if b < X.glob then σ b else none) = none
          rw [if_neg (by omega)]
        have hnew : w.heap.size ≤ p.b := by
          rcases g.news b p hp hlow with hk | hk
          · exact hk
          · exact absurd hk (a4 _)
        refine ⟨σ.add s.next p, ?_, own_row H F g a4 hp (St.look_some hget (by simp)) hnew hfl.2⟩
        simp only [vrel]
        refine ⟨us', rfl, ?_⟩
        rw [e1]
        simp only [vrels, vrel]
        exact ⟨_, _, rfl, ⟨a, k, rfl, ⟨hlen, ⟨p, Sg.add_self _ _ _, hat, hn⟩, hcap, hrm⟩⟩, _, _, rfl, flat_rel hfl.1 hu2, rfl⟩
      · cases h0
    · cases h0
  · cases h0

end
end Go.Am
