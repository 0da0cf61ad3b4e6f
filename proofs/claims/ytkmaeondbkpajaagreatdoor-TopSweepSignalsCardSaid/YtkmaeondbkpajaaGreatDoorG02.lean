/- A part of the proof of a statement of this seat: the machine on which the program is read, and what it computes; for every input. -/
import Derived.Test.YtkmaeondbkpajaaGreatDoorG01
set_option linter.all false
namespace Go.Am
open Go
theorem rJ {α:Type}:∀(f:Nat) (t:Tr α) (k:Nat) (x:α),k<f->Tr.get t k=some x->Tr.Qc f t k x=t:=by
 intro f
 induction f with
 |zero=>intro t k x h;omega
 |succ f ih =>
  intro t k x hk h
  cases t with
  |nil=>simp[Tr.get] at h
  |n v l r =>
   cases k with
   |zero =>
    simp only[Tr.get] at h;simp only[Tr.Qc,h]
   |succ k =>
    simp only[Tr.get] at h;simp only[Tr.Qc]
    cases hb:Nat.beq (k%2) 0 with
    |true =>
     simp only[hb,cond_true] at h ⊢;rw[ih l (k / 2) x (by omega) h]
    |false =>
     simp only[hb,cond_false] at h ⊢;rw[ih r (k / 2) x (by omega) h]
theorem Ay (e:Env)(k:Nat)(p:Bool)(h:Env.get e k=.bool p):Tr.set e k (.bool p)=e:=by
 unfold Env.get at h
 cases hg:Tr.get e k with
 |none=>rw[hg] at h;cases h
 |some v =>
  rw[hg] at h;have h:v=.bool p:=h;rw[h] at hg;exact rJ _ _ _ _ (by omega) hg
inductive K where
 |sq (b:RC)
 |bk (id:Nat)
 |lp (b:RC)
def O' (v:AV)(b:Bool):Bool:=match v with
 |.bool p=>p==b
 |_=>false
def br {β:Type}(p:Bool)(x y:β):β:=bif p then x else y
theorem Xt {β:Type}(x y:β):br true x y=x:=(fun h=>h) rfl
theorem YU {β:Type}(x y:β):br false x y=y:=(fun h=>h) rfl
theorem fZ {β:Type}(p:Bool)(x y:β):br p (some x) (some y)=some (br p x y):=by cases p <;> rfl
section
variable (X:Cx){β:Type}
noncomputable def pop (fin:Fl->β):List K->Fl->β
 |[],x=>fin x
 |.sq b::ks,x=>pop fin ks (match x with
  |some (.norm,e,s)=>den X b e s
  |r=>r)
 |.bk id::ks,x=>pop fin ks (match x with
  |some (.exit i,e,s)=>if i=id then some (.norm,e,s) else some (.exit i,e,s)
  |r=>r)
 |.lp b::ks,x=>pop fin ks (match x with
  |some (.norm,e,s)=>NS (den X b) e s
  |r=>r)
noncomputable def go (fin:Fl->β)(ks:List K)(c:RC)(e:Env)(s:St):β:=pop X fin ks (den X c e s)
noncomputable def SC (fin:Fl->β)(ks:List K)(b:RC)(e:Env)(s:St):β:=pop X fin ks (NS (den X b) e s)
noncomputable def goN (fin:Fl->β)(ks:List K)(e:Env)(s:St):β:=pop X fin ks (some (.norm,e,s))
noncomputable def jw (fin:Fl->β)(ks:List K)(i:Nat)(e:Env)(s:St):β:=pop X fin ks (some (.exit i,e,s))
noncomputable def cR (fin:Fl->β)(ks:List K)(base:Nat)(l:List RO)(e:Env)(s:St):β:=pop X fin ks (match Ax X base l e s with
 |some (e,s)=>some (.norm,e,s)
 |none=>none)
noncomputable def Gp (fin:Fl->β)(ks:List K)(base:Nat)(l:List RO)(e:Env)(s:St):β:=pop X fin ks (match Ra X base l e s with
 |some (e,s)=>some (.norm,e,s)
 |none=>none)
noncomputable def stuck (fin:Fl->β)(ks:List K):β:=pop X fin ks none
noncomputable def mP (fin:Fl->β)(ks:List K)(v:AV)(n:Nat)(a b:RC)(e:Env)(s:St):β:=match v with
 |.bool p=>br p (go X fin ks a (Tr.set e n (.bool true)) s) (go X fin ks b (Tr.set e n (.bool false)) s)
 |_=>stuck X fin ks
noncomputable def xm (fin:Fl->β)(ks:List K)(base:Nat)(x:Option (AV×St))(d:Option Nat)(l:List RO)(e:Env):β:=match x with
 |some (v,s)=>cR X fin ks base l (YA e d v) s
 |none=>stuck X fin ks
noncomputable def Aw (fin:Fl->β)(ks:List K)(base:Nat)(x:Option (AV×St))(d:Option Nat)(w:Bool)(l:List RO)(e:Env):β:=match x with
 |some (v,s)=>bif !w||WA base s l then Gp X fin ks base l (YA e d v) s else stuck X fin ks
 |none=>stuck X fin ks
noncomputable def Vf (p:Bool)(base:Nat)(at_:Option Nat)(e:Env)(s:St)(op:N8):Option (AV×St):=bif p then WU X base at_ e s op else some (undef,s)
def Uk (p:Bool)(x:Option AV)(s:St):Option (AV×St):=bif p then Zm x s else some (undef,s)
noncomputable def Zw (f:FuncId)(args:List AV):Option AV:=open Classical in if h:∃v,∀s,SH X f args s=some (v,s) then some (Classical.choose h) else none
noncomputable def XR (x:Option AV)(f:FuncId)(args:List AV)(s:St):Option (AV×St):=match x with
 |some v=>some (v,s)
 |none=>SH X f args s
noncomputable def FO (p:Bool)(x:Option AV)(f:FuncId)(args:List AV)(s:St):Option (AV×St):=bif p then XR X x f args s else some (undef,s)
variable (fin:Fl->β)(ks:List K)
theorem LW:∀ks:List K,pop X fin ks none=fin none
 |[]=>rfl
 |.sq b::ks=>LW ks
 |.bk id::ks=>LW ks
 |.lp b::ks=>LW ks
theorem Jn (e:Env)(s:St):∀ks:List K,pop X fin ks (some (.ret,e,s))=fin (some (.ret,e,s))
 |[]=>rfl
 |.sq b::ks=>Jn e s ks
 |.bk id::ks=>Jn e s ks
 |.lp b::ks=>Jn e s ks
theorem mO:stuck X fin ks=fin none:=LW X fin ks
variable (e:Env)(s:St)
theorem aaV (a b:RC):go X fin ks (.seq a b) e s=go X fin (.sq b::ks) a e s:=(fun h=>h) rfl
theorem mM (id:Nat)(b:RC):go X fin ks (.block id b) e s=go X fin (.bk id::ks) b e s:=(fun h=>h) rfl
theorem mL (n:Nat)(a b:RC):go X fin ks (.cond (.t n) a b) e s=mP X fin ks (Env.get e n) n a b e s:=by
 simp only[go,den,mP,XP]
 cases h:Env.get e n <;> try rfl
 rename_i p
 cases p
 ·rw[Ay e n false h];rfl
 ·rw[Ay e n true h];rfl
theorem rI (n:Nat)(p:Bool)(a b:RC):mP X fin ks (.bool p) n a b e s=br p (go X fin ks a (Tr.set e n (.bool true)) s) (go X fin ks b (Tr.set e n (.bool false)) s):=(fun h=>h) rfl
theorem go_loop (b:RC):go X fin ks (.loop b) e s=SC X fin ks b e s:=(fun h=>h) rfl
theorem fY (i:Nat):go X fin ks (.exit i) e s=jw X fin ks i e s:=(fun h=>h) rfl
theorem go_ret:go X fin ks .ret e s=fin (some (.ret,e,s)):=Jn X fin e s ks
theorem go_skip:go X fin ks .skip e s=goN X fin ks e s:=(fun h=>h) rfl
theorem aaW (l:List RO):go X fin ks (.ops l) e s=cR X fin ks 0 l e s:=(fun h=>h) rfl
theorem pE (n:Nat)(l:List RO):go X fin ks (.Sf n l) e s=bif WA s.next s l then Gp X fin ks s.next l e { s with next:=s.next+n } else stuck X fin ks:=by
 simp only[go,den]
 cases WA s.next s l <;> rfl
theorem aaX (b:RC):goN X fin (.sq b::ks) e s=go X fin ks b e s:=(fun h=>h) rfl
theorem aaY (id:Nat):goN X fin (.bk id::ks) e s=goN X fin ks e s:=(fun h=>h) rfl
theorem aaZ (b:RC):goN X fin (.lp b::ks) e s=SC X fin ks b e s:=(fun h=>h) rfl
theorem aa0 (i:Nat)(b:RC):jw X fin (.sq b::ks) i e s=jw X fin ks i e s:=(fun h=>h) rfl
theorem aa1 (i id:Nat):jw X fin (.bk id::ks) i e s=if i=id then goN X fin ks e s else jw X fin ks i e s:=by
 simp only[jw,pop,goN]
 split <;> rfl
theorem aa2 (i:Nat)(b:RC):jw X fin (.lp b::ks) i e s=jw X fin ks i e s:=(fun h=>h) rfl
theorem n_ [Stat] (b:RC):SC X fin ks b e s=go X fin (.lp b::ks) b e s:=by
 simp only[SC,go,pop];rw[mK]
 all_goals rfl
theorem fX (base:Nat):cR X fin ks base [] e s=goN X fin ks e s:=(fun h=>h) rfl
theorem mJ (base:Nat)(d:Option Nat)(a:Option Nat)(w:Bool)(op:N8)(l:List RO) :
  cR X fin ks base (⟨d,none,a,w,op⟩::l) e s=xm X fin ks base (WU X base a e s op) d l e:=by
 simp only[cR,Ax,xm,SL,cond_true]
 cases WU X base a e s op <;> rfl
theorem rH (base:Nat)(d:Option Nat)(t:Nat)(b:Bool)(a:Option Nat)(w:Bool)(op:N8)(l:List RO) :
  cR X fin ks base (⟨d,some (t,b),a,w,op⟩::l) e s=xm X fin ks base (Vf X (O' (Env.get e t) b) base a e s op) d l e:=by
 simp only[cR,Ax,xm,Vf];have:SL e (some (t,b))=O' (Env.get e t) b:=rfl;rw[this]
 cases (bif O' (Env.get e t) b then WU X base a e s op else some (undef,s)) <;> rfl
theorem fW (base:Nat):Gp X fin ks base [] e s=goN X fin ks e s:=(fun h=>h) rfl
theorem mI (base:Nat)(d:Option Nat)(a:Option Nat)(w:Bool)(op:N8)(l:List RO) :
  Gp X fin ks base (⟨d,none,a,w,op⟩::l) e s=Aw X fin ks base (WU X base a e s op) d w l e:=by
 simp only[Gp,Ra,Aw,SL,cond_true]
 cases WU X base a e s op with
 |none=>rfl
 |some x =>
  simp only
  cases w <;> cases WA base x.2 l <;> rfl
theorem rG (base:Nat)(d:Option Nat)(t:Nat)(b:Bool)(a:Option Nat)(w:Bool)(op:N8)(l:List RO) :
  Gp X fin ks base (⟨d,some (t,b),a,w,op⟩::l) e s=Aw X fin ks base (Vf X (O' (Env.get e t) b) base a e s op) d w l e:=by
 simp only[Gp,Ra,Aw,Vf];have:SL e (some (t,b))=O' (Env.get e t) b:=rfl;rw[this]
 cases (bif O' (Env.get e t) b then WU X base a e s op else some (undef,s)) with
 |none=>rfl
 |some x =>
  simp only
  cases w <;> cases WA base x.2 l <;> rfl
theorem rF (base:Nat)(v:AV)(d:Option Nat)(l:List RO):xm X fin ks base (some (v,s)) d l e=cR X fin ks base l (YA e d v) s:=(fun h=>h) rfl
theorem xl (base:Nat)(v:AV)(d:Option Nat)(l:List RO):Aw X fin ks base (some (v,s)) d false l e=Gp X fin ks base l (YA e d v) s:=(fun h=>h) rfl
theorem xk (base:Nat)(v:AV)(d:Option Nat)(l:List RO):Aw X fin ks base (some (v,s)) d true l e=bif WA base s l then Gp X fin ks base l (YA e d v) s else stuck X fin ks:=(fun h=>h) rfl
theorem rE (base:Nat):WA base s []=true:=(fun h=>h) rfl
theorem Av (base:Nat)(d:Option Nat)(g:Option (Nat×Bool))(w:Bool)(op:N8)(l:List RO):WA base s (⟨d,g,none,w,op⟩::l)=WA base s l:=by
 simp[WA]
theorem Au (base i:Nat)(d:Option Nat)(g:Option (Nat×Bool))(w:Bool)(op:N8)(l:List RO):WA base s (⟨d,g,some i,w,op⟩::l)=((s.get (base+i)).isNone&&WA base s l):=by
 simp[WA]
end
@[congr] theorem aa3 {X:Cx} {β:Type} {fin:Fl->β} {ks:List K} {base:Nat} {x x':Option (AV×St)} {d:Option Nat} {l:List RO} {e:Env} (h:x=x'):xm X fin ks base x d l e=xm X fin ks base x' d l e:=by rw[h]
@[congr] theorem aa4 {X:Cx} {β:Type} {fin:Fl->β} {ks:List K} {base:Nat} {x x':Option (AV×St)} {d:Option Nat} {w:Bool} {l:List RO} {e:Env} (h:x=x'):Aw X fin ks base x d w l e=Aw X fin ks base x' d w l e:=by rw[h]
@[congr] theorem aa5 {X:Cx} {β:Type} {fin:Fl->β} {ks:List K} {v v':AV} {n:Nat} {a b:RC} {e:Env} {s:St} (h:v=v'):mP X fin ks v n a b e s=mP X fin ks v' n a b e s:=by rw[h]
@[congr] theorem cQ {X:Cx} {p p':Bool} {base:Nat} {at_:Option Nat} {e:Env} {s:St} {op:N8} (h:p=p'):Vf X p base at_ e s op=Vf X p' base at_ e s op:=by rw[h]
@[congr] theorem cP {p p':Bool} {x x':Option AV} {s:St} (h:p=p') (hx:p'=true->x=x'):Uk p x s=Uk p' x' s:=by
 subst h
 cases p
 ·rfl
 ·rw[hx rfl]
@[congr] theorem cM {X:Cx} {p p':Bool} {x x':Option AV} {f:FuncId} {args:List AV} {s:St} (h:p=p') (hx:p'=true->x=x'):FO X p x f args s=FO X p' x' f args s:=by
 subst h
 cases p
 ·rfl
 ·rw[hx rfl]
@[congr] theorem cL {X:Cx} {x x':Option AV} {f:FuncId} {args:List AV} {s:St} (h:x=x'):XR X x f args s=XR X x' f args s:=by rw[h]
theorem xj (X:Cx)(base:Nat)(at_:Option Nat)(e:Env)(s:St)(op:N8):Vf X true base at_ e s op=WU X base at_ e s op:=(fun h=>h) rfl
theorem At (X:Cx)(base:Nat)(at_:Option Nat)(e:Env)(s:St)(op:N8):Vf X false base at_ e s op=some (undef,s):=(fun h=>h) rfl
theorem xi (p:Bool)(v:AV)(s:St):Uk p (some v) s=some (bif p then v else undef,s):=by cases p <;> rfl
theorem xh (X:Cx)(p:Bool)(v:AV)(f:FuncId)(args:List AV)(s:St):FO X p (some v) f args s=some (bif p then v else undef,s):=by cases p <;> rfl
theorem Vy (X:Cx)(v:AV)(f:FuncId)(args:List AV)(s:St):XR X (some v) f args s=some (v,s):=(fun h=>h) rfl
theorem uG {X:Cx}{f:FuncId}{args:List AV}{v:AV}(h:∀s,SH X f args s=some (v,s)):Zw X f args=some v:=by
 unfold Zw;have hx:∃v,∀s,SH X f args s=some (v,s):=⟨v,h⟩;rw[dif_pos hx];have h1:=Classical.choose_spec hx (Yl X);rw[h (Yl X)] at h1
 cases h1;rfl
theorem Df {X:Cx}{f:FuncId}{args:List AV}{v:AV}(h:Zw X f args=some v)(s:St):SH X f args s=some (v,s):=by
 unfold Zw at h
 split at h
 ·rename_i hx
  cases h
  exact Classical.choose_spec hx s
 ·cases h
theorem XL (X:Cx)(f:FuncId)(args:List AV)(s:St):SH X f args s=XR X (Zw X f args) f args s:=by
 unfold XR
 split
 ·rename_i v h;exact Df h s
 ·rfl
theorem cond_not {α:Type}(p:Bool)(x y z:α):(bif p then x else bif !p then y else z)=bif p then x else y:=by cases p <;> rfl
theorem rD {α:Type}(p:Bool)(x y z:α):(bif p then (bif p then x else y) else z)=bif p then x else z:=by cases p <;> rfl
theorem Hu (p q:Bool):(bif p then true else q)=(p||q):=by cases p <;> rfl
theorem JU (p q:Bool):(bif p then q else false)=(p&&q):=by cases p <;> rfl
section
variable (X:Cx)
theorem xg (p:Bool):O' (.bool p) true=p:=by cases p <;> rfl
theorem As (p:Bool):O' (.bool p) false=!p:=by cases p <;> rfl
theorem xe (p q b:Bool):O' (bif p then .bool q else undef) b=(p&&O' (.bool q) b):=by cases p <;> rfl
theorem aeh (e:Env)(n:Nat):XP e (.t n)=Env.get e n:=(fun h=>h) rfl
theorem aei (e:Env)(a:AV):XP e (.v a)=a:=(fun h=>h) rfl
theorem fV (e:Env)(k j:Nat)(x:AV):Env.get (Tr.set e k x) j=if k=j then x else Env.get e j:=Env.Tl e k j x
theorem Ar (e:Env)(d:Nat)(v:AV):YA e (some d) v=Tr.set e d v:=(fun h=>h) rfl
theorem Aq (e:Env)(v:AV):YA e none v=e:=(fun h=>h) rfl
theorem mH (i:Nat)(e:Env):Zc i [] e=e:=(fun h=>h) rfl
theorem rC (i:Nat)(v:AV)(l:List AV)(e:Env):Zc i (v::l) e=Zc (i+1) l (Tr.set e i v):=(fun h=>h) rfl
variable (base:Nat)(at_:Option Nat)(e:Env)(s:St)
theorem fU (x:W_):WU X base at_ e s (.Qb x)=some (XP e x,s):=(fun h=>h) rfl
theorem mG (c a b:W_):WU X base at_ e s (.pick c a b)=Zm (Ao (XP e c) (XP e a) (XP e b)) s:=(fun h=>h) rfl
theorem aa6 (z:List AV)(t:TypeId):WU X base none e s (.al z t)=some (.ptr s.next 0,s.new (.cells z t false 0 0)):=(fun h=>h) rfl
theorem rB (i:Nat)(z:List AV)(t:TypeId):WU X base (some i) e s (.al z t)=some (.ptr (base+i) 0,s.put (base+i) (.cells z t false 0 0)):=(fun h=>h) rfl
theorem fT (t:TypeId)(x:W_):WU X base none e s (.box t x)=some (.ptr s.next 0,s.new (.cells (XP e x).cells t false 0 0)):=(fun h=>h) rfl
theorem xd (i:Nat)(t:TypeId)(x:W_):WU X base (some i) e s (.box t x)=some (.ptr (base+i) 0,s.put (base+i) (.cells (XP e x).cells t false 0 0)):=(fun h=>h) rfl
theorem fS (x:W_):WU X base at_ e s (.TB x)=Zm (TB (XP e x) s) s:=(fun h=>h) rfl
theorem fR (n:Nat)(x:W_):WU X base at_ e s (.P7 n x)=Zm (P7 n (XP e x) s) s:=(fun h=>h) rfl
theorem aa7 (n:Nat)(a x:W_):WU X base at_ e s (.st n a x)=PE (st n (XP e a) (XP e x) s):=(fun h=>h) rfl
theorem aa8 (o:Nat)(x:W_):WU X base at_ e s (.fa o x)=Zm (faR o (XP e x)) s:=(fun h=>h) rfl
theorem fQ (op:BinOp)(t:TypeId)(cst:Bool)(x y:W_):WU X base at_ e s (.bin op t cst x y)=Zm (WO X op t cst (XP e x) (XP e y)) s:=(fun h=>h) rfl
theorem fP (x:W_)(i:Nat):WU X base at_ e s (.ext x i)=Zm (fO (XP e x) i) s:=(fun h=>h) rfl
theorem mF (f:FuncId)(args:List W_):WU X base at_ e s (.call f args)=XR X (Zw X f (O_ e args)) f (O_ e args) s:=XL X f (O_ e args) s
theorem rA (f:W_)(args:List W_):WU X base at_ e s (.Ks f args)=MN X (XP e f) (O_ e args) s:=(fun h=>h) rfl
theorem aa9 (op:UnOp)(x:W_):WU X base at_ e s (.un op x)=Zm (unA op (XP e x)) s:=(fun h=>h) rfl
theorem mE (x:W_):WU X base at_ e s (.xS x)=Zm (An (XP e x)) s:=(fun h=>h) rfl
theorem mD (x:W_):WU X base at_ e s (.TK x)=Zm (SZ (XP e x)) s:=(fun h=>h) rfl
theorem fN (x i:W_):WU X base at_ e s (.pX x i)=Zm (rz (XP e x) (XP e i)) s:=(fun h=>h) rfl
theorem fM (n:Nat)(x i:W_):WU X base at_ e s (.Ff n x i)=Zm (UC n (XP e x) (XP e i)) s:=(fun h=>h) rfl
theorem fL (l n:Nat)(x i:W_):WU X base at_ e s (.ixp l n x i)=Zm (Al l n (XP e x) (XP e i)) s:=(fun h=>h) rfl
theorem fK (x:W_)(lo hi:Option W_):WU X base at_ e s (.sls x lo hi)=Zm (xI (XP e x) (O9 e lo) (O9 e hi)) s:=(fun h=>h) rfl
theorem fJ (n:Nat)(x:W_)(lo hi:Option W_):WU X base at_ e s (.cW n x lo hi)=Zm (Ht n (XP e x) (O9 e lo) (O9 e hi)) s:=(fun h=>h) rfl
theorem fI (o:Nat)(x:W_):WU X base at_ e s (.fd1 o x)=Zm (fH o (XP e x)) s:=(fun h=>h) rfl
def ug (x:Option (List AV)):Option AV:=x.map .agg
theorem CS (c:List AV):ug (some c)=some (.agg c):=(fun h=>h) rfl
theorem fG (z:List AV)(ps:List (Nat×Nat×W_)):WU X base at_ e s (.N_ z ps)=Zm (ug (Sn e z ps)) s:=(fun h=>h) rfl
def mC (x:Option (List AV))(k:List AV->Option (AV×St)):Option (AV×St):=match x with
 |some c=>k c
 |none=>none
theorem ry (c:List AV)(k:List AV->Option (AV×St)):mC (some c) k=k c:=(fun h=>h) rfl
theorem fF (t:TypeId)(n len:Nat)(z:List AV)(ps:List (Nat×Nat×W_)):WU X base none e s (.SE t n len z ps)=mC (Sn e z ps) fun c=>some (.sl s.next 0 len (some len) n,s.new (.cells c t false 0 0)):=by
 simp only[WU,mC];rfl
theorem xa (i:Nat)(t:TypeId)(n len:Nat)(z:List AV)(ps:List (Nat×Nat×W_)):WU X base (some i) e s (.SE t n len z ps)=mC (Sn e z ps) fun c=>some (.sl (base+i) 0 len (some len) n,s.put (base+i) (.cells c t false 0 0)):=by
 simp only[WU,mC];rfl
theorem fE (t:TypeId)(n b:Nat)(d x:W_):WU X base at_ e s (.app t n b d x)=ru t n b (XP e d) (XP e x) s:=(fun h=>h) rfl
theorem fD (f:FuncId)(a b:List W_):WU X base at_ e s (.aE f a b)=some (.fn (.func f) (O_ e a) (O_ e b),s):=(fun h=>h) rfl
theorem mB (z:List AV):Sn e z []=some z:=(fun h=>h) rfl
def aa_ (x:Option (List AV))(k:List AV->Option (List AV)):Option (List AV):=match x with
 |some c=>k c
 |none=>none
theorem rr (c:List AV)(k:List AV->Option (List AV)):aa_ (some c) k=k c:=(fun h=>h) rfl
theorem rq (z:List AV)(off n:Nat)(x:W_)(l:List (Nat×Nat×W_)):Sn e z ((off,n,x)::l)=if (XP e x).cells.length=n/\off+n<=z.length then aa_ (lay off (XP e x).cells z) (fun c=>Sn e c l) else none:=by
 simp only[Sn,aa_];rfl
theorem mA (l:List UInt8):An (.str l)=some (.int .i64 l.length):=(fun h=>h) rfl
theorem rn:SZ .ZM=some (.int .i64 0):=(fun h=>h) rfl
theorem fC (b o n:Nat)(c:Option Nat)(z:Nat):SZ (.sl b o n c z)=some (.int .i64 n):=(fun h=>h) rfl
theorem fB (es:List AV):SZ (.fz es)=some (.int .i64 es.length):=(fun h=>h) rfl
theorem aa' (p:Bool):unA .not (.bool p)=some (.bool !p):=(fun h=>h) rfl
theorem rm:O9 e none=none:=(fun h=>h) rfl
theorem rl (x:W_):O9 e (some x)=some (XP e x):=(fun h=>h) rfl
theorem fy (o:Nat)(c:List AV):fH o (.agg c)=c[o]? := (fun h=>h) rfl
theorem mz (p:Bool)(x:W_):Vf X p base at_ e s (.Qb x)=Uk p (some (XP e x)) s:=(fun h=>h) rfl
theorem rk (p:Bool)(c a b:W_):Vf X p base at_ e s (.pick c a b)=Uk p (Ao (XP e c) (XP e a) (XP e b)) s:=(fun h=>h) rfl
theorem my (p:Bool)(x:W_):Vf X p base at_ e s (.TB x)=Uk p (TB (XP e x) s) s:=(fun h=>h) rfl
theorem mu (p:Bool)(n:Nat)(x:W_):Vf X p base at_ e s (.P7 n x)=Uk p (P7 n (XP e x) s) s:=(fun h=>h) rfl
theorem fx (p:Bool)(o:Nat)(x:W_):Vf X p base at_ e s (.fa o x)=Uk p (faR o (XP e x)) s:=(fun h=>h) rfl
theorem mq (p:Bool)(op:BinOp)(t:TypeId)(cst:Bool)(x y:W_):Vf X p base at_ e s (.bin op t cst x y)=Uk p (WO X op t cst (XP e x) (XP e y)) s:=(fun h=>h) rfl
theorem fu (p:Bool)(op:UnOp)(x:W_):Vf X p base at_ e s (.un op x)=Uk p (unA op (XP e x)) s:=(fun h=>h) rfl
theorem rj (p:Bool)(x:W_):Vf X p base at_ e s (.xS x)=Uk p (An (XP e x)) s:=(fun h=>h) rfl
theorem ri (p:Bool)(x:W_):Vf X p base at_ e s (.TK x)=Uk p (SZ (XP e x)) s:=(fun h=>h) rfl
theorem mo (p:Bool)(x i:W_):Vf X p base at_ e s (.pX x i)=Uk p (rz (XP e x) (XP e i)) s:=(fun h=>h) rfl
theorem mn (p:Bool)(n:Nat)(x i:W_):Vf X p base at_ e s (.Ff n x i)=Uk p (UC n (XP e x) (XP e i)) s:=(fun h=>h) rfl
theorem ml (p:Bool)(l n:Nat)(x i:W_):Vf X p base at_ e s (.ixp l n x i)=Uk p (Al l n (XP e x) (XP e i)) s:=(fun h=>h) rfl
theorem mj (p:Bool)(n:Nat)(x:W_)(lo hi:Option W_):Vf X p base at_ e s (.cW n x lo hi)=Uk p (Ht n (XP e x) (O9 e lo) (O9 e hi)) s:=(fun h=>h) rfl
theorem rh (p:Bool)(f:FuncId)(args:List W_):Vf X p base at_ e s (.call f args)=FO X p (Zw X f (O_ e args)) f (O_ e args) s:=by
 cases p
 ·rfl
 ·exact XL X f (O_ e args) s
theorem ft (o:Op):WU X base none e s (.raw o)=YK X (Yo X) e o s:=(fun h=>h) rfl
theorem mh (e:Env):O_ e []=[]:=(fun h=>h) rfl
theorem rf (e:Env)(x:W_)(l:List W_):O_ e (x::l)=XP e x::O_ e l:=(fun h=>h) rfl
theorem fq (v:AV)(s:St):Zm (some v) s=some (v,s):=(fun h=>h) rfl
theorem fk (s:St):PE (some s)=some (undef,s):=(fun h=>h) rfl
theorem abb (p:Bool)(a b:AV):Ao (.bool p) a b=some (bif p then a else b):=(fun h=>h) rfl
theorem re (p a b:Bool):(bif p then AV.bool a else .bool b)=.bool (bif p then a else b):=by cases p <;> rfl
theorem fj (vs:List AV)(i:Nat):fO (.XF vs) i=vs[i]? := (fun h=>h) rfl
theorem abd (o b o':Nat):faR o (.ptr b o')=some (.ptr b (o'+o)):=(fun h=>h) rfl
theorem aej (o:Nat)(c:List AV)(o':Nat):faR o (.fp c o')=some (.fp c (o'+o)):=(fun h=>h) rfl
theorem fh (b o:Nat)(s:St):TB (.ptr b o) s=cell s b o:=(fun h=>h) rfl
theorem abe (c:List AV)(o:Nat)(s:St):TB (.fp c o) s=c[o]? := (fun h=>h) rfl
theorem fg (t:TypeId)(cst:Bool)(k:IntKind)(a b:Int):WO X .lss t cst (.int k a) (.int k b)=some (.bool (decide (a<b))):=by simp[WO,Pp]
theorem ff (t:TypeId)(cst:Bool)(k:IntKind)(a b:Int):WO X .leq t cst (.int k a) (.int k b)=some (.bool (decide (a<=b))):=by simp[WO,Pp]
theorem fe (t:TypeId)(cst:Bool)(k:IntKind)(a b:Int):WO X .gtr t cst (.int k a) (.int k b)=some (.bool (decide (a>b))):=by simp[WO,Pp]
theorem fc (t:TypeId)(cst:Bool)(k:IntKind)(a b:Int):WO X .geq t cst (.int k a) (.int k b)=some (.bool (decide (a>=b))):=by simp[WO,Pp]
theorem fb (t:TypeId)(cst:Bool)(k:IntKind)(a b:Int):WO X .eql t cst (.int k a) (.int k b)=some (.bool (a==b)):=by simp[WO,Pp]
theorem eZ (t:TypeId)(cst:Bool)(k:IntKind)(a b:Int):WO X .neq t cst (.int k a) (.int k b)=some (.bool (a != b)):=by simp[WO,Pp]
theorem eY (t:TypeId)(cst:Bool)(k:IntKind)(a b:Int):WO X .add t cst (.int k a) (.int k b)=some (.int k (k.wrap (a+b))):=by simp[WO,Pp]
theorem eX (t:TypeId)(cst:Bool)(k:IntKind)(a b:Int):WO X .sub t cst (.int k a) (.int k b)=some (.int k (k.wrap (a-b))):=by simp[WO,Pp]
theorem eW (t:TypeId)(cst:Bool)(k:IntKind)(a b:Int):WO X .mul t cst (.int k a) (.int k b)=some (.int k (k.wrap (a*b))):=by simp[WO,Pp]
theorem mg (t:TypeId)(cst:Bool)(a b:List UInt8):WO X .eql t cst (.str a) (.str b)=some (.bool (a==b)):=by simp[WO,nV]
theorem mf (t:TypeId)(cst:Bool)(a b:List UInt8):WO X .neq t cst (.str a) (.str b)=some (.bool (!(a==b))):=by simp[WO,nV]
def cellsOf (b:Option Vr):Option (List AV):=match b with
 |some (.cells c _ _ _ _)=>some c
 |_=>none
def cellOf (b:Option Vr)(o:Nat):Option AV:=match b with
 |some (.cells c _ _ _ _)=>c[o]?
 |_=>none
theorem K3 (s:St)(b:Nat):s.cells b=cellsOf (s.get b):=by unfold St.cells cellsOf;rfl
theorem me (s:St)(b o:Nat):cell s b o=cellOf (s.get b) o:=by
 unfold cell St.cells cellOf
 cases s.get b with
 |none=>rfl
 |some x=>cases x <;> rfl
theorem LV (c:List AV)(t:TypeId)(r:Bool)(lo hi:Nat):cellsOf (some (.cells c t r lo hi))=some c:=(fun h=>h) rfl
theorem Ak (c:List AV)(t:TypeId)(r:Bool)(lo hi o:Nat):cellOf (some (.cells c t r lo hi)) o=c[o]? := (fun h=>h) rfl
theorem ZY (s:St)(j:Nat)(x:Vr):(s.new x).get j=if s.next=j then some x else s.get j:=St.ZY s j x
theorem Z0 (s:St)(k j:Nat)(x:Vr):(s.put k x).get j=if k=j then some x else s.get j:=St.Z0 s k j x
theorem Z' (s:St)(x:Vr):(s.new x).next=s.next+1:=(fun h=>h) rfl
theorem Z_ (s:St)(k:Nat)(x:Vr):(s.put k x).next=s.next:=(fun h=>h) rfl
theorem IX (X:Cx):(Yl X).next=X.glob:=(fun h=>h) rfl
theorem D0 (X:Cx)(j:Nat):(Yl X).get j=X.Na j:=by
 unfold Yl St.get;rfl
def Et (x:Option (List AV)):Option AV:=match x with
 |some r=>some (.agg r)
 |none=>none
theorem IU (r:List AV):Et (some r)=some (.agg r):=(fun h=>h) rfl
def abf (n o:Nat)(x:Option (List AV)):Option AV:=match x with
 |some c=>Et (XE n o c)
 |none=>none
theorem rb (n o:Nat)(c:List AV):abf n o (some c)=Et (XE n o c):=(fun h=>h) rfl
theorem eV (n b o:Nat)(s:St):P7 n (.ptr b o) s=abf n o (cellsOf (s.get b)):=by
 rw[<-K3];simp only[P7,abf,Et];rfl
theorem abg (n:Nat)(c:List AV)(o:Nat)(s:St):P7 n (.fp c o) s=Et (XE n o c):=by
 simp only[P7,Et];rfl
def eU (x:Option (List AV))(k:List AV->Option St):Option St:=match x with
 |some c=>k c
 |none=>none
theorem ra (c:List AV)(k:List AV->Option St):eU (some c) k=k c:=(fun h=>h) rfl
def wrC (s:St)(b o:Nat)(vs:List AV)(x:Option Vr):Option St:=match x with
 |some (.cells c e false PQ QO)=>if (o+vs.length<=PQ||QO<=o)&&vs.all Zx then eU (lay o vs c) fun c'=>some (s.put b (.cells c' e false PQ QO)) else none
 |_=>none
theorem q_ (s:St)(b o:Nat)(vs c:List AV)(e:TypeId)(PQ QO:Nat) :
  wrC s b o vs (some (.cells c e false PQ QO))=if (o+vs.length<=PQ||QO<=o)&&vs.all Zx then eU (lay o vs c) fun c'=>some (s.put b (.cells c' e false PQ QO)) else none:=rfl
theorem O8 (s:St)(b o:Nat)(vs:List AV):Xo s b o vs=wrC s b o vs (s.get b):=by
 unfold Xo wrC eU;rfl
theorem abh (n b o:Nat)(v:AV)(s:St):st n (.ptr b o) v s=if v.cells.length=n then wrC s b o v.cells (s.get b) else none:=by
 simp only[st,O8]
theorem RJ (c:List AV):AV.cells (.agg c)=c:=(fun h=>h) rfl
theorem qZ (k:IntKind)(n:Int):AV.cells (.int k n)=[.int k n]:=(fun h=>h) rfl
theorem w_ (b:Bool):AV.cells (.bool b)=[.bool b]:=(fun h=>h) rfl
theorem qY (b:List UInt8):AV.cells (.str b)=[.str b]:=(fun h=>h) rfl
theorem mc (b:List AV):AV.cells (.fz b)=[.fz b]:=(fun h=>h) rfl
theorem l9 (b o n:Nat)(c:Option Nat)(z:Nat):AV.cells (.sl b o n c z)=[.sl b o n c z]:=(fun h=>h) rfl
theorem uH (o:Nat)(l:List AV):lay o [] l=some l:=by cases o <;> cases l <;> rfl
theorem AX (v:AV)(vs:List AV)(x:AV)(l:List AV):lay 0 (v::vs) (x::l)=(lay 0 vs l).map (v::·):=by
 simp only[lay];cases lay 0 vs l <;> rfl
theorem AW (o:Nat)(v:AV)(vs:List AV)(x:AV)(l:List AV):lay (o+1) (v::vs) (x::l)=(lay o (v::vs) l).map (x::·):=by
 simp only[lay];cases lay o (v::vs) l <;> rfl
theorem Lq (o:Nat)(l:List AV):XE 0 o l=some []:=by cases o <;> cases l <;> rfl
theorem Lr (n:Nat)(x:AV)(l:List AV):XE (n+1) 0 (x::l)=(XE n 0 l).map (x::·):=by
 simp only[XE];cases XE n 0 l <;> rfl
theorem Es (n o:Nat)(x:AV)(l:List AV):XE (n+1) (o+1) (x::l)=XE (n+1) o l:=(fun h=>h) rfl
theorem qW (k:IntKind)(n:Int):Zx (.int k n)=true:=(fun h=>h) rfl
theorem w9 (b:Bool):Zx (.bool b)=true:=(fun h=>h) rfl
theorem qV (b:List UInt8):Zx (.str b)=true:=(fun h=>h) rfl
theorem l8 (b:List AV):Zx (.fz b)=true:=(fun h=>h) rfl
theorem w8:Zx .ZM=true:=(fun h=>h) rfl
theorem lZ (b o n:Nat)(c:Option Nat)(z:Nat):Zx (.sl b o n c z)=true:=(fun h=>h) rfl
theorem eT (l n b o:Nat)(k:IntKind)(i:Int):Al l n (.ptr b o) (.int k i)=if 0<=i/\i.toNat<l then some (.ptr b (o+i.toNat*n)) else none:=by
 simp only[Al];congr 1;apply propext;omega
theorem abi (l n:Nat)(c:List AV)(o:Nat)(k:IntKind)(i:Int):Al l n (.fp c o) (.int k i)=if 0<=i/\i.toNat<l then some (.fp c (o+i.toNat*n)) else none:=by
 simp only[Al];congr 1;apply propext;omega
theorem abj (n b o len:Nat)(c:Option Nat)(z:Nat)(k:IntKind)(i:Int):UC n (.sl b o len c z) (.int k i)=if 0<=i/\i.toNat<len then some (.ptr b (o+i.toNat*n)) else none:=by
 simp only[UC];congr 1;apply propext;omega
def ixF (n:Nat)(x:Option AV):Option AV:=match x with
 |some x=>if x.cells.length=n/\n≠0 then some (.fp x.cells 0) else none
 |none=>none
theorem lY (n:Nat)(x:AV):ixF n (some x)=if x.cells.length=n/\n≠0 then some (.fp x.cells 0) else none:=(fun h=>h) rfl
theorem lX (n:Nat)(es:List AV)(k:IntKind)(i:Int):UC n (.fz es) (.int k i)=if 0<=i then ixF n es[i.toNat]? else none:=by
 simp only[UC,ixF];rfl
theorem eS (b:List UInt8)(k:IntKind)(i:Int):rz (.str b) (.int k i)=if 0<=i then (b[i.toNat]?).map (fun c=>AV.int .u8 c.toNat) else none:=by
 simp only[rz]
 split
 ·cases b[i.toNat]? <;> rfl
 ·rfl
noncomputable def Rs (rs:List ResultVar)(x:Fl):Option (AV×St):=match x with
 |some (.exit _,_,_)=>none
 |some (_,e,s)=>match Xz X e s rs with
  |some [v]=>some (v,s)
  |some vs=>some (.XF vs,s)
  |none=>none
 |none=>none
def qU (x:Option (AV×St)):Option AV:=match x with
 |some (v,s')=>Yc X s' U2 v
 |none=>none
noncomputable def Oe (rs:List ResultVar)(x:Fl):Option AV:=qU X (Rs X rs x)
def rsK (s:St)(x:Option (List AV)):Option (AV×St):=match x with
 |some [v]=>some (v,s)
 |some vs=>some (.XF vs,s)
 |none=>none
theorem eR (s:St)(v:AV):rsK s (some [v])=some (v,s):=(fun h=>h) rfl
theorem eQ (s:St)(v u:AV)(l:List AV):rsK s (some (v::u::l))=some (.XF (v::u::l),s):=(fun h=>h) rfl
theorem Aj (rs:List ResultVar)(e:Env)(s:St):Rs X rs (some (.ret,e,s))=rsK s (Xz X e s rs):=by
 simp only[Rs,rsK]
theorem lW (rs:List ResultVar)(e:Env)(s:St):Oe X rs (some (.ret,e,s))=qU X (rsK s (Xz X e s rs)):=by
 simp only[Oe,Aj]
theorem qT (v:AV)(s:St):qU X (some (v,s))=Yc X s 40 v:=(fun h=>h) rfl
def w7 (v:Option AV)(x:Option (List AV)):Option (List AV):=match v,x with
 |some v,some vs=>some (v::vs)
 |_,_=>none
theorem Rn (v:AV)(vs:List AV):w7 (some v) (some vs)=some (v::vs):=(fun h=>h) rfl
theorem eP (e:Env)(s:St):Xz X e s []=some []:=(fun h=>h) rfl
theorem eO (e:Env)(s:St)(t:Nat)(l:List ResultVar):Xz X e s (.tmp t::l)=w7 (some (Env.get e t)) (Xz X e s l):=by
 simp only[Xz,OA,w7];rfl
theorem lV (e:Env)(s:St)(a:Nat)(t:TypeId)(l:List ResultVar):Xz X e s (.cell a t::l)=w7 (Vb X t (Env.get e a) s) (Xz X e s l):=by
 simp only[Xz,OA,w7];rfl
theorem OP {t:TypeId}{n:Nat}(ht:YB X t=some true)(hn:size X t=some n)(a:AV)(s:St):Vb X t a s=P7 n a s:=by
 cases a with
 |ptr b o =>
  simp only[Vb,P7,ht,hn]
  cases s.cells b with
  |none=>rfl
  |some c=>cases XE n o c <;> rfl
 |fp c o =>
  simp only[Vb,P7,ht,hn]
  cases XE n o c <;> rfl
 |_=>rfl
theorem Ml (s:St)(d:Nat)(k:IntKind)(n:Int):Yc X s (d+1) (.int k n)=some (.int k n):=(fun h=>h) rfl
theorem lU (s:St)(d:Nat)(b:Bool):Yc X s (d+1) (.bool b)=some (.bool b):=(fun h=>h) rfl
theorem Dh (s:St)(d:Nat)(b:List UInt8):Yc X s (d+1) (.str b)=some (.str b):=(fun h=>h) rfl
theorem lT (s:St)(d:Nat):Yc X s (d+1) .ZM=some .ZM:=(fun h=>h) rfl
theorem HD (s:St)(d:Nat)(l:List AV):Yc X s (d+1) (.fz l)=some (.fz l):=(fun h=>h) rfl
def abk (x:Option (List AV)):Option AV:=x.map .agg
def abl (x:Option (List AV)):Option AV:=x.map .XF
theorem Rm (l:List AV):abk (some l)=some (.agg l):=(fun h=>h) rfl
theorem qS (l:List AV):abl (some l)=some (.XF l):=(fun h=>h) rfl
theorem WK (s:St)(d:Nat)(l:List AV):Yc X s (d+1) (.agg l)=abk (YT (Yc X s d) l):=by
 simp only[Yc,abk];cases YT (Yc X s d) l <;> rfl
theorem eN (s:St)(d:Nat)(l:List AV):Yc X s (d+1) (.XF l)=abl (YT (Yc X s d) l):=by
 simp only[Yc,abl];cases YT (Yc X s d) l <;> rfl
theorem Us (f:AV->Option AV):YT f []=some []:=(fun h=>h) rfl
theorem Yf (f:AV->Option AV)(x:AV)(l:List AV):YT f (x::l)=w7 (f x) (YT f l):=by
 simp only[YT,w7];rfl
theorem Ma [Stat] {f:FuncId}{fn:Func}{c:Code}{r:RC}{rs:List ResultVar}(hf:X.fn f=some fn)(hb:fn.body=some c)(FB:fn.results.toList=rs)(hr:rc X c=r){args:List AV}{s:St}{x:AV×St}
  (h:go X (Rs X rs) [] r (Zc 0 args .nil) s=some x):Po X (Yo X) f args s=some x:=by
 unfold Po;rw[hf];simp only[hb];have h:Rs X rs (den X r (Zc 0 args .nil) s)=some x:=h;rw[<-hr] at h;unfold Rs at h
 split at h
 ·cases h
 ·rename_i o e' s' Zv hd;rw[qR c _ _ _ hd];have Hs:U1 X fn e' s'=(match Xz X e' s' rs with|some [v]=>some v|some vs=>some (.XF vs)|none=>none):=by
   unfold U1;rw[FB];rfl
  cases o with
  |exit i=>exact absurd rfl (Zv i)
  |norm =>
   simp only[Hs]
   split at h <;> rename_i hx <;> simp only[hx] <;> first|(cases h;rfl)|exact h
  |ret =>
   simp only[Hs]
   split at h <;> rename_i hx <;> simp only[hx] <;> first|(cases h;rfl)|exact h
 ·cases h
theorem lS [Stat] {f:FuncId}{fn:Func}{c:Code}{r:RC}{rs:List ResultVar}(hx:X.ext f=none)(hp:X.pure f=true)(hf:X.fn f=some fn)(hb:fn.body=some c)(FB:fn.results.toList=rs)(hr:rc X c=r){args:List AV}(WY:ZO args=true){v:AV}
  (h:go X (Oe X rs) [] r (Zc 0 args .nil) (Yl X)=some v)(s:St):SH X f args s=some (v,s):=by
 have h:qU X (Rs X rs (den X r (Zc 0 args .nil) (Yl X)))=some v:=h
 cases hd:Rs X rs (den X r (Zc 0 args .nil) (Yl X)) with
 |none=>rw[hd] at h;simp[qU] at h
 |some x =>
  rw[hd] at h;have:=Ma X hf hb FB hr (args:=args) (s:=Yl X) (x:=x) hd;unfold SH UG;rw[hx];simp only[hp,if_true,PA,VF,WY,UN,this];simp only[qU] at h;rw[h]
theorem rV [Stat] {f:FuncId}{fn:Func}{c:Code}{r:RC}{rs:List ResultVar}(hx:X.ext f=none)(hp:X.pure f=true)(hf:X.fn f=some fn)(hb:fn.body=some c)(FB:fn.results.toList=rs)(hr:rc X c=r){args:List AV}(WY:ZO args=true){v:AV}
  (h:go X (Oe X rs) [] r (Zc 0 args .nil) (Yl X)=some v):Zw X f args=some v:=uG (lS X hx hp hf hb FB hr WY h)
end
theorem abm {α:Type}(x y:α):(bif true then x else y)=x:=(fun h=>h) rfl
theorem eM {α:Type}(x y:α):(bif false then x else y)=y:=(fun h=>h) rfl
theorem lR {α:Type}(x:α)(l:List α):(x::l)[0]? = some x:=(fun h=>h) rfl
theorem lQ {α:Type}(x:α)(l:List α)(n:Nat):(x::l)[n+1]? = l[n]? := (fun h=>h) rfl
theorem lP {α:Type}(x:α)(l:List α):(x::l).length=l.length+1:=(fun h=>h) rfl
theorem len_nil {α:Type}:([]:List α).length=0:=(fun h=>h) rfl
theorem abn {α β:Type}(f:α->β)(x:α):(some x).map f=some (f x):=(fun h=>h) rfl
theorem qQ {α:Type}(p:α->Bool)(x:α)(l:List α):(x::l).all p=(p x&&l.all p):=(fun h=>h) rfl
theorem lO {α:Type}(p:α->Bool):([]:List α).all p=true:=(fun h=>h) rfl
theorem qP {h:Decidable False}:@decide False h=false:=by cases h with|isFalse _=>rfl|isTrue h=>exact h.elim
theorem lM {h:Decidable True}:@decide True h=true:=by cases h with|isFalse h=>exact (h trivial).elim|isTrue _=>rfl
theorem qO (p:Bool):(p||true)=true:=by cases p <;> rfl
theorem wZ (p:Bool):(p&&true)=p:=by cases p <;> rfl
theorem wY (p:Bool):(true&&p)=p:=by cases p <;> rfl
theorem wX:(!true)=false:=(fun h=>h) rfl
theorem Ai:(!false)=true:=(fun h=>h) rfl
theorem wW (n:Nat):n+0=n:=(fun h=>h) rfl
theorem uB (n:Nat):((n:Int)).toNat=n:=(fun h=>h) rfl
attribute [go_sem ↓] Xt YU mO aaV mM mL go_loop fY go_ret go_skip aaW pE aaX aaY aaZ aa0 aa1 aa2 fX mJ rH fW mI rG rF xl xk rE Av Au xj At aeh aei fV Ar Aq mH rC fU mG aa6 rB fT xd fS fR aa7 aa8 fQ fP mF rA aa9 mE mD fN fM fL fK fJ fI fG fF xa fE fD mB rq rm rl mz rk my mu fx mq fu rj ri mo mn ml mj rh ft mh rf K3 me ZY Z0 Z' Z_ IX D0 O8 abh Aj lW qT eP eO lV Ml lU Dh lT HD WK eN abm eM
attribute [go_sem] qP lM ne_eq not_false_eq_true fZ rI xi xh Vy cond_not rD Hu JU xg As xe CS ry rr mA rn fC fB aa' fy fq fk abb re fj abd aej fh abe fg ff fe fc fb eZ eY eX eW mg mf LV Ak IU rb eV abg ra q_ RJ qZ w_ qY mc l9 uH AX AW Lq Lr Es qW w9 qV l8 w8 lZ eT abi abj lY lX eS eR eQ Rn Rm qS Us Yf lR lQ lP len_nil abn qO wZ wY wX Ai wW uB qQ lO Nat.reduceEqDiff Nat.reduceAdd Nat.reduceMul Bool.not_not aji decide_true Bool.and_self Int.reduceLT Int.reduceLE Int.reduceToNat Nat.zero_mul ajr and_self true_and and_true Nat.reduceLT Nat.reduceLeDiff Int.natCast_nonneg Nat.lt_add_one
theorem ag' {α:Sort _}{c:Prop} [Decidable c] {a b:α}(h:c):ite c a b=a:=if_pos h
theorem aha {α:Sort _}{c:Prop} [Decidable c] {a b:α}(h:¬c):ite c a b=b:=if_neg h
attribute [go_sem ↓] ag' aha
end Go.Am
namespace Go.Am
open Go
section
variable (X:Cx)(ex:Ex)(e:Env)(s:St)
theorem oh (t:Nat):eval X e (.tmp t)=some (Env.get e t):=(fun h=>h) rfl
theorem og (k:IntKind)(n:Int):eval X e (.const (.int k n))=some (.int k n):=(fun h=>h) rfl
def gR (v:Option AV)(s:St):Option (AV×St):=match v with
 |some (.ptr b o)=>some (.ptr b o,s)
 |some (.fp c o)=>some (.fp c o,s)
 |some (.fn (.func f) x y)=>some (.fn (.func f) x y,s)
 |some (.fn (.yield f) x y)=>some (.fn (.yield f) x y,s)
 |_=>none
theorem Dd (x:Operand):YK X ex e (.nilCheck x) s=gR (eval X e x) s:=by
 unfold gR;simp only[YK];rfl
theorem oe (b o:Nat):gR (some (.ptr b o)) s=some (.ptr b o,s):=(fun h=>h) rfl
theorem gQ (c:List AV)(o:Nat):gR (some (.fp c o)) s=some (.fp c o,s):=(fun h=>h) rfl
def dj (a b:Option TypeDesc)(n:Int)(s:St)(r:Option (AV×St)):Option (AV×St):=match a,b with
 |some _,some (.int k)=>some (.int k (k.wrap n),s)
 |_,_=>r
def Bd (a b:Option TypeDesc)(v:Option AV)(s:St)(r:Option (AV×St)):Option (AV×St):=match v with
 |some (.int _ n)=>dj a b n s r
 |_=>r
theorem Bb (a b:TypeId)(x:Operand):YK X ex e (.convert a b x) s=Bd (X.Zj a) (X.Zj b) (eval X e x) s (YK X ex e (.convert a b x) s):=by
 unfold Bd
 split
 ·rename_i j n h3;unfold dj
  split
  ·rename_i d k h1 h2;simp only[YK,h3,Tv,h1,h2]
  ·rfl
 ·rfl
theorem sr (d:TypeDesc)(k j:IntKind)(n:Int)(r:Option (AV×St)):Bd (some d) (some (.int k)) (some (.int j n)) s r=some (.int k (k.wrap n),s):=(fun h=>h) rfl
theorem od (c:Call)(hc:c.callee=.builtin .min)(x y:Operand)(ha:c.args=#[x,y]){k j:IntKind}{n m:Int}(hx:eval X e x=some (.int k n))(hy:eval X e y=some (.int j m)):YK X ex e (.call c) s=some (.int k (min n m),s):=by
 have h:(if m<n then m else n)=min n m:=by omega
 simp only[YK,hc,ha,Wz,hx,hy,Yr,sn,h]
theorem oc (c:Call)(hc:c.callee=.builtin .max)(x y:Operand)(ha:c.args=#[x,y]){k j:IntKind}{n m:Int}(hx:eval X e x=some (.int k n))(hy:eval X e y=some (.int j m)):YK X ex e (.call c) s=some (.int k (max n m),s):=by
 have h:(if m>n then m else n)=max n m:=by omega
 simp only[YK,hc,ha,Wz,hx,hy,Yr,xO,h]
def mm2 (f:Int->Int->Int)(v u:Option AV)(s:St)(r:Option (AV×St)):Option (AV×St):=match v,u with
 |some (.int k n),some (.int _ m)=>some (.int k (f n m),s)
 |_,_=>r
theorem gP (f:Int->Int->Int)(k j:IntKind)(n m:Int)(r:Option (AV×St)):mm2 f (some (.int k n)) (some (.int j m)) s r=some (.int k (f n m),s):=(fun h=>h) rfl
theorem JE (x y:Operand)(ts:Array TypeId):YK X ex e (.call { callee:=.builtin .min,args:=#[x,y],argTypes:=ts }) s=mm2 min (eval X e x) (eval X e y) s (YK X ex e (.call { callee:=.builtin .min,args:=#[x,y],argTypes:=ts }) s):=by
 unfold mm2
 split
 ·rename_i h1 h2;exact od X ex e s _ rfl x y rfl h1 h2
 ·rfl
theorem gO (x y:Operand)(ts:Array TypeId):YK X ex e (.call { callee:=.builtin .max,args:=#[x,y],argTypes:=ts }) s=mm2 max (eval X e x) (eval X e y) s (YK X ex e (.call { callee:=.builtin .max,args:=#[x,y],argTypes:=ts }) s):=by
 unfold mm2
 split
 ·rename_i h1 h2;exact oc X ex e s _ rfl x y rfl h1 h2
 ·rfl
variable {β:Type}(fin:Fl->β)(ks:List K)
theorem sI [Stat] {b:RC}{σ:Type}(m:σ->Nat)(I:σ->Env->St->Prop)(R:σ->β)
  (h:∀(L:RC) (x:σ) (e:Env) (s:St),I x e s->(∀(y:σ) (e':Env) (s':St),m y<m x->I y e' s'->SC X fin ks L e' s'=R y)->go X fin (.lp L::ks) b e s=R x)
  (x:σ){e:Env}{s:St}(hI:I x e s):SC X fin ks b e s=R x:=by
 have key:∀(n:Nat) (x:σ) (e:Env) (s:St),m x<n->I x e s->SC X fin ks b e s=R x:=by
  intro n
  induction n with
  |zero=>intro x e s hn;omega
  |succ n ih =>
   intro x e s hn hI;rw[n_];exact h b x e s hI (fun y e' s' hm vS=>ih y e' s' (by omega) vS)
 exact key _ x e s (Nat.lt_succ_self _) hI
noncomputable def Tq (f:FuncId)(us:Option (List AV))(s:St):Option (AV×St):=match us with
 |some us=>match UN X (Yo X) f us false with
  |some v=>some (v,s)
  |none=>none
 |none=>none
theorem nZ {f:FuncId}{args:List AV}(hx:X.ext f=none)(hp:X.pure f=true)(WY:ZO args=false):XR X (Zw X f args) f args s=Tq X f (YT (Yc X s 40) args) s:=by
 rw[<-XL];unfold SH UG;rw[hx];simp only[hp,if_true,PA,VF,WY,ajn,if_false,U2,Tq];rfl
theorem Ri {f:FuncId}{us:List AV}{v:AV}(h:UN X (Yo X) f us false=some v):Tq X f (some us) s=some (v,s):=by
 simp only[Tq,h]
theorem RQ {n:Nat}{f:FuncId}{us:List AV}{st:Bool}{v:AV}(h:UN X (exec X n) f us st=some v):UN X (Yo X) f us st=some v:=by
 exact (HZ (X:=X) f us st).mono _ _ (Ba n) v h
end
@[congr] theorem di {a a' b b':Option TypeDesc} {v v':Option AV} {s:St} {r:Option (AV×St)} (h1:a=a') (h2:b=b') (h3:v=v'):Bd a b v s r=Bd a' b' v' s r:=by rw[h1,h2,h3]
@[congr] theorem acd {f:Int->Int->Int} {v v' u u':Option AV} {s:St} {r:Option (AV×St)} (h1:v=v') (h2:u=u'):mm2 f v u s r=mm2 f v' u' s r:=by rw[h1,h2]
section
variable (X:Cx)(s:St)
theorem sk (l:List UInt8):still (.str l)=true:=by simp[still]
theorem sj (b o:Nat):still (.ptr b o)=false:=by simp[still]
theorem nY (b o n:Nat)(c:Option Nat)(z:Nat):still (.sl b o n c z)=false:=by simp[still]
theorem xN:ZO []=true:=by simp[ZO]
theorem A' (x:AV)(l:List AV):ZO (x::l)=(still x&&ZO l):=by simp[ZO]
theorem A_ (p:Bool):(p&&false)=false:=by cases p <;> rfl
theorem A9 (p:Bool):(false&&p)=false:=(fun h=>h) rfl
def fzK (x:Option (List AV)):Option AV:=x.map .fz
theorem SQ (l:List AV):fzK (some l)=some (.fz l):=(fun h=>h) rfl
def fpK (o:Nat)(x:Option (List AV)):Option AV:=x.map fun c=>.fp c o
theorem nX (o:Nat)(l:List AV):fpK o (some l)=some (.fp l o):=(fun h=>h) rfl
def fnK (f:FuncId)(x y:Option (List AV)):Option AV:=match x,y with
 |some x,some y=>some (.fn (.func f) x y)
 |_,_=>none
theorem nW (f:FuncId)(x y:List AV):fnK f (some x) (some y)=some (.fn (.func f) x y):=(fun h=>h) rfl
def A8 (d len Wa:Nat)(r:Option (List AV))(ag:Option Bool)(n:Option Nat):Option AV:=match r,ag,n with
 |some r,some ag,some n=>if Wa=n/\n≠0/\(ag=false->n=1/\r.all Zx=true) then fzK (YT (Yc X s d) (Xs ag n len r)) else none
 |_,_,_=>none
def gN (d o len Wa:Nat)(x:Option Vr):Option AV:=match x with
 |some (.cells c e false _ _)=>A8 X s d len Wa (XE (len*Wa) o c) (YB X e) (size X e)
 |_=>none
def gM (d o:Nat)(x:Option Vr):Option AV:=match x with
 |some (.cells c _ false _ _)=>fpK o (YT (Yc X s d) c)
 |_=>none
theorem QF (d b o len:Nat)(cap:Option Nat)(Wa:Nat):Yc X s (d+1) (.sl b o len cap Wa)=gN X s d o len Wa (s.get b):=by
 simp only[Yc];unfold gN
 split
 ·rename_i c e lo hi hg;simp only[hg];unfold A8
  split
  ·rename_i r ag n h1 h2 h3;simp only[h1,h2,h3,fzK]
   split
   ·cases YT (Yc X s d) (Xs ag n len r) <;> rfl
   ·rfl
  ·rename_i Tb
   split
   ·rename_i r ag n h1 h2 h3;exact absurd h3 (Tb _ _ _ h1 h2)
   ·rfl
 ·rename_i Tb
  split
  ·rename_i c e lo hi hg;exact absurd hg (Tb _ _ _ _)
  ·rfl
theorem UQ (d o len Wa:Nat)(c:List AV)(e:TypeId)(lo hi:Nat):gN X s d o len Wa (some (.cells c e false lo hi))=A8 X s d len Wa (XE (len*Wa) o c) (YB X e) (size X e):=(fun h=>h) rfl
theorem Rh (d len:Nat)(r:List AV):A8 X s d len 1 (some r) (some false) (some 1)=if r.all Zx=true then fzK (YT (Yc X s d) (Xs false 1 len r)) else none:=by
 simp only[A8]
 congr 1
 simp
theorem A7 (d len n:Nat)(r:List AV):A8 X s d len (n+1) (some r) (some true) (some (n+1))=fzK (YT (Yc X s d) (Xs true (n+1) len r)):=by
 simp only[A8];rw[if_pos];simp
theorem uS (d b o:Nat):Yc X s (d+1) (.ptr b o)=gM X s d o (s.get b):=by
 simp only[Yc];unfold gM
 split
 ·rename_i c e lo hi hg;simp only[hg,fpK]
  cases YT (Yc X s d) c <;> rfl
 ·rename_i Tb
  split
  ·rename_i c e lo hi hg;exact absurd hg (Tb _ _ _ _)
  ·rfl
theorem xM (d o:Nat)(c:List AV)(e:TypeId)(lo hi:Nat):gM X s d o (some (.cells c e false lo hi))=fpK o (YT (Yc X s d) c):=(fun h=>h) rfl
theorem aai (d:Nat)(f:FuncId)(x y:List AV):Yc X s (d+1) (.fn (.func f) x y)=fnK f (YT (Yc X s d) x) (YT (Yc X s d) y):=by
 simp only[Yc,fnK];rfl
theorem A6 (ag:Bool)(n:Nat)(l:List AV):Xs ag n 0 l=[]:=(fun h=>h) rfl
theorem xL (k:Nat)(x:AV)(l:List AV):Xs false 1 (k+1) (x::l)=x::Xs false 1 k l:=(fun h=>h) rfl
theorem HY (n k:Nat)(l:List AV):Xs true n (k+1) l=.agg (l.take n)::Xs true n k (l.drop n):=by
 simp only[Xs]
theorem Vt:∀l:List AV,Xs false 1 l.length l=l
 |[]=>rfl
 |x::l=>by
  show x::Xs false 1 l.length l=_;rw[Vt l]
theorem Wi:∀l:List AV,XE l.length 0 l=some l
 |[]=>rfl
 |x::l=>by
  show XE (l.length+1) 0 (x::l)=_;simp only[XE,Wi l]
end
attribute [go_sem ↓] oh og QF uS aai Dd Bb JE gO A6 xL
attribute [go_sem] oe gQ sr gP SQ nX nW UQ Rh A7 xM HY sk sj nY xN A' A_ A9 List.take_succ_cons List.take_zero List.drop_succ_cons ajS
end Go.Am
