/- A part of the proof. -/
import Derived.Test.YtkmaeondbkpajaaGreatDoorE01
set_option linter.all false
namespace Go.Am
open Go
variable {β:Type}{v:AV}{args:List AV}{f:FuncId}
def kO {α:Type}:∀(f:Nat) (t:Tr α) (k:Nat) (x:α),k<f->Tr.get t k=some x->Tr.OC f t k x=t:=by
 intro f
 induction f with
 |zero=>intro t k x h;omega
 |succ f ih =>
  intro t k x hk h
  cases t with
  |nil=>simp[Tr.get] at h
  |n v l r =>
   cases k with
   |zero =>
    simp only[Tr.get] at h;simp only[Tr.OC,h]
   |succ k =>
    simp only[Tr.get] at h;simp only[Tr.OC]
    cases hb:Nat.beq (k%2) 0 with
    |true =>
     simp only[hb,cond_true] at h ⊢;rw[ih l (k / 2) x J h]
    |false =>
     simp only[hb,cond_false] at h ⊢;rw[ih r (k / 2) x J h]
def wB (e:Env)(k:Nat)(p:Bool)(h:e.get k=.bool p):Tr.set e k (.bool p)=e:=by
 unfold Env.get at h
 cases hg:Tr.get e k with
 |none=>rw[hg] at h;cases h
 |some v =>
  rw[hg] at h;have h:v=.bool p:=h;rw[h] at hg;exact kO _ _ _ _ J hg
inductive K where
 |sq (b:RC)
 |bk (id:Nat)
 |lp (b:RC)
def L2 (v:AV)(b:Bool):Bool:=match v with
 |.bool p=>p==b
 |_=>false
def br (p:Bool)(x y:β):β:=bif p then x else y
def Yd (x y:β):br true x y=x:=(λh=>h) rfl
def Zp (x y:β):br false x y=y:=(λh=>h) rfl
def abw (p:Bool)(x y:β):br p (some x) (some y)=some (br p x y):=by cases p <;> rfl
section
variable (X:Cx){β:Type}
noncomputable def pop (fin:Fl->β):List K->Fl->β
 |[],x=>fin x
 |.sq b::ks,x=>pop fin ks (match x with
  |some (.norm,e,s)=>den X b e s
  |r=>r)
 |.bk id::ks,x=>pop fin ks (match x with
  |some (.exit i,e,s)=>if i=id then some (.norm,e,s) else some (.exit i,e,s)
  |r=>r)
 |.lp b::ks,x=>pop fin ks (match x with
  |some (.norm,e,s)=>LZ (den X b) e s
  |r=>r)
noncomputable def go (fin:Fl->β)(ks:List K)(c:RC)(e:Env)(s:St):β:=pop X fin ks (den X c e s)
noncomputable def SJ (fin:Fl->β)(ks:List K)(b:RC)(e:Env)(s:St):β:=pop X fin ks (LZ (den X b) e s)
noncomputable def goN (fin:Fl->β)(ks:List K)(e:Env)(s:St):β:=pop X fin ks (some (.norm,e,s))
noncomputable def gH (fin:Fl->β)(ks:List K)(i:Nat)(e:Env)(s:St):β:=pop X fin ks (some (.exit i,e,s))
noncomputable def goO (fin:Fl->β)(ks:List K)(base:Nat)(l:List RO)(e:Env)(s:St):β:=pop X fin ks (match wA X base l e s with
 |some (e,s)=>some (.norm,e,s)
 |none=>none)
noncomputable def DK (fin:Fl->β)(ks:List K)(base:Nat)(l:List RO)(e:Env)(s:St):β:=pop X fin ks (match PA X base l e s with
 |some (e,s)=>some (.norm,e,s)
 |none=>none)
noncomputable def stuck (fin:Fl->β)(ks:List K):β:=pop X fin ks none
noncomputable def dH (fin:Fl->β)(ks:List K)(v:AV)(n:Nat)(a b:RC)(e:Env)(s:St):β:=match v with
 |.bool p=>br p (go X fin ks a (Tr.set e n (.bool true)) s) (go X fin ks b (Tr.set e n (.bool false)) s)
 |_=>stuck X fin ks
noncomputable def rT (fin:Fl->β)(ks:List K)(base:Nat)(x:Option (AV×St))(d:Option Nat)(l:List RO)(e:Env):β:=match x with
 |some (v,s)=>goO X fin ks base l (Ye e d v) s
 |none=>stuck X fin ks
noncomputable def wz (fin:Fl->β)(ks:List K)(base:Nat)(x:Option (AV×St))(d:Option Nat)(w:Bool)(l:List RO)(e:Env):β:=match x with
 |some (v,s)=>bif !w||VO base s l then DK X fin ks base l (Ye e d v) s else stuck X fin ks
 |none=>stuck X fin ks
noncomputable def Uy (p:Bool)(base:Nat)(at_:Option Nat)(e:Env)(s:St)(op:Mm):Option (AV×St):=bif p then Ws X base at_ e s op else some (undef,s)
def Tx (p:Bool)(x:Option AV)(s:St):Option (AV×St):=bif p then Zh x s else some (undef,s)
noncomputable def ZE (f:FuncId)(args:List AV):Option AV:=open Classical in if h:∃v,∀s,UN X f args s=some (v,s) then some (Classical.choose h) else none
noncomputable def Yx (x:Option AV)(f:FuncId)(args:List AV)(s:St):Option (AV×St):=match x with
 |some v=>some (v,s)
 |none=>UN X f args s
noncomputable def QX (p:Bool)(x:Option AV)(f:FuncId)(args:List AV)(s:St):Option (AV×St):=bif p then Yx X x f args s else some (undef,s)
variable (fin:Fl->β)(ks:List K)
def JP:∀ks:List K,pop X fin ks none=fin none
 |[]=>rfl
 |.sq b::ks=>JP ks
 |.bk id::ks=>JP ks
 |.lp b::ks=>JP ks
def Gx (e:Env)(s:St):∀ks:List K,pop X fin ks (some (.ret,e,s))=fin (some (.ret,e,s))
 |[]=>rfl
 |.sq b::ks=>Gx e s ks
 |.bk id::ks=>Gx e s ks
 |.lp b::ks=>Gx e s ks
def dG:stuck X fin ks=fin none:=JP X fin ks
variable (e:Env)(s:St)
def afd (a b:RC):go X fin ks (.seq a b) e s=go X fin (.sq b::ks) a e s:=(λh=>h) rfl
def dF (id:Nat)(b:RC):go X fin ks (.block id b) e s=go X fin (.bk id::ks) b e s:=(λh=>h) rfl
def dD (n:Nat)(a b:RC):go X fin ks (.cond (.t n) a b) e s=dH X fin ks (e.get n) n a b e s:=by
 simp only[go,den,dH,Xp]
 cases h:e.get n <;> try rfl
 rename_i p
 cases p
 ·rw[wB e n false h];rfl
 ·rw[wB e n true h];rfl
def kN (n:Nat)(p:Bool)(a b:RC):dH X fin ks (.bool p) n a b e s=br p (go X fin ks a (Tr.set e n (.bool true)) s) (go X fin ks b (Tr.set e n (.bool false)) s):=(λh=>h) rfl
def go_loop (b:RC):go X fin ks (.loop b) e s=SJ X fin ks b e s:=(λh=>h) rfl
def abx (i:Nat):go X fin ks (.exit i) e s=gH X fin ks i e s:=(λh=>h) rfl
def go_ret:go X fin ks .ret e s=fin (some (.ret,e,s)):=Gx X fin e s ks
def go_skip:go X fin ks .skip e s=goN X fin ks e s:=(λh=>h) rfl
def afe (l:List RO):go X fin ks (.ops l) e s=goO X fin ks 0 l e s:=(λh=>h) rfl
def il (n:Nat)(l:List RO):go X fin ks (.Uu n l) e s=bif VO s.next s l then DK X fin ks s.next l e { s with next:=s.next+n } else stuck X fin ks:=by
 simp only[go,den]
 cases VO s.next s l <;> rfl
def aby:goN X fin [] e s=fin (some (.norm,e,s)):=(λh=>h) rfl
def aff (b:RC):goN X fin (.sq b::ks) e s=go X fin ks b e s:=(λh=>h) rfl
def afg (id:Nat):goN X fin (.bk id::ks) e s=goN X fin ks e s:=(λh=>h) rfl
def afh (b:RC):goN X fin (.lp b::ks) e s=SJ X fin ks b e s:=(λh=>h) rfl
def afi (i:Nat)(b:RC):gH X fin (.sq b::ks) i e s=gH X fin ks i e s:=(λh=>h) rfl
def afj (i id:Nat):gH X fin (.bk id::ks) i e s=if i=id then goN X fin ks e s else gH X fin ks i e s:=by
 simp only[gH,pop,goN]
 split <;> rfl
def afk (i:Nat)(b:RC):gH X fin (.lp b::ks) i e s=gH X fin ks i e s:=(λh=>h) rfl
def Qx [Stat] (b:RC):SJ X fin ks b e s=go X fin (.lp b::ks) b e s:=by
 simp only[SJ,go,pop];rw[dC]
 all_goals rfl
def abz (base:Nat):goO X fin ks base [] e s=goN X fin ks e s:=(λh=>h) rfl
def dB (base:Nat)(d:Option Nat)(a:Option Nat)(w:Bool)(op:Mm)(l:List RO) :
  goO X fin ks base (⟨d,none,a,w,op⟩::l) e s=rT X fin ks base (Ws X base a e s op) d l e:=by
 simp only[goO,wA,rT,Re,cond_true]
 cases Ws X base a e s op <;> rfl
def kM (base:Nat)(d:Option Nat)(t:Nat)(b:Bool)(a:Option Nat)(w:Bool)(op:Mm)(l:List RO) :
  goO X fin ks base (⟨d,some (t,b),a,w,op⟩::l) e s=rT X fin ks base (Uy X (L2 (e.get t) b) base a e s op) d l e:=by
 simp only[goO,wA,rT,Uy];have:Re e (some (t,b))=L2 (e.get t) b:=rfl;rw[this]
 cases (bif L2 (e.get t) b then Ws X base a e s op else some (undef,s)) <;> rfl
def abA (base:Nat):DK X fin ks base [] e s=goN X fin ks e s:=(λh=>h) rfl
def dA (base:Nat)(d:Option Nat)(a:Option Nat)(w:Bool)(op:Mm)(l:List RO) :
  DK X fin ks base (⟨d,none,a,w,op⟩::l) e s=wz X fin ks base (Ws X base a e s op) d w l e:=by
 simp only[DK,PA,wz,Re,cond_true]
 cases Ws X base a e s op with
 |none=>rfl
 |some x =>
  simp only
  cases w <;> cases VO base x.2 l <;> rfl
def kL (base:Nat)(d:Option Nat)(t:Nat)(b:Bool)(a:Option Nat)(w:Bool)(op:Mm)(l:List RO) :
  DK X fin ks base (⟨d,some (t,b),a,w,op⟩::l) e s=wz X fin ks base (Uy X (L2 (e.get t) b) base a e s op) d w l e:=by
 simp only[DK,PA,wz,Uy];have:Re e (some (t,b))=L2 (e.get t) b:=rfl;rw[this]
 cases (bif L2 (e.get t) b then Ws X base a e s op else some (undef,s)) with
 |none=>rfl
 |some x =>
  simp only
  cases w <;> cases VO base x.2 l <;> rfl
def kK (base:Nat)(v:AV)(d:Option Nat)(l:List RO):rT X fin ks base (some (v,s)) d l e=goO X fin ks base l (Ye e d v) s:=(λh=>h) rfl
def rS (base:Nat)(v:AV)(d:Option Nat)(l:List RO):wz X fin ks base (some (v,s)) d false l e=DK X fin ks base l (Ye e d v) s:=(λh=>h) rfl
def rR (base:Nat)(v:AV)(d:Option Nat)(l:List RO):wz X fin ks base (some (v,s)) d true l e=bif VO base s l then DK X fin ks base l (Ye e d v) s else stuck X fin ks:=(λh=>h) rfl
def kJ (base:Nat):VO base s []=true:=(λh=>h) rfl
def wy (base:Nat)(d:Option Nat)(g:Option (Nat×Bool))(w:Bool)(op:Mm)(l:List RO):VO base s (⟨d,g,none,w,op⟩::l)=VO base s l:=by
 simp[VO]
def wx (base i:Nat)(d:Option Nat)(g:Option (Nat×Bool))(w:Bool)(op:Mm)(l:List RO):VO base s (⟨d,g,some i,w,op⟩::l)=((s.get (base+i)).isNone&&VO base s l):=by
 simp[VO]
end
@[congr] theorem afl {X:Cx} {β:Type} {fin:Fl->β} {ks:List K} {base:Nat} {x x':Option (AV×St)} {d:Option Nat} {l:List RO} {e:Env} (h:x=x'):rT X fin ks base x d l e=rT X fin ks base x' d l e:=by rw[h]
@[congr] theorem afm {X:Cx} {β:Type} {fin:Fl->β} {ks:List K} {base:Nat} {x x':Option (AV×St)} {d:Option Nat} {w:Bool} {l:List RO} {e:Env} (h:x=x'):wz X fin ks base x d w l e=wz X fin ks base x' d w l e:=by rw[h]
@[congr] theorem afn {X:Cx} {β:Type} {fin:Fl->β} {ks:List K} {v v':AV} {n:Nat} {a b:RC} {e:Env} {s:St} (h:v=v'):dH X fin ks v n a b e s=dH X fin ks v' n a b e s:=by rw[h]
@[congr] theorem adn {X:Cx} {p p':Bool} {base:Nat} {at_:Option Nat} {e:Env} {s:St} {op:Mm} (h:p=p'):Uy X p base at_ e s op=Uy X p' base at_ e s op:=by rw[h]
@[congr] theorem ado {p p':Bool} {x x':Option AV} {s:St} (h:p=p') (hx:p'=true->x=x'):Tx p x s=Tx p' x' s:=by
 subst h
 cases p
 ·rfl
 ·rw[hx rfl]
@[congr] theorem adp {X:Cx} {p p':Bool} {x x':Option AV} {f:FuncId} {args:List AV} {s:St} (h:p=p') (hx:p'=true->x=x'):QX X p x f args s=QX X p' x' f args s:=by
 subst h
 cases p
 ·rfl
 ·rw[hx rfl]
@[congr] theorem adq {X:Cx} {x x':Option AV} {f:FuncId} {args:List AV} {s:St} (h:x=x'):Yx X x f args s=Yx X x' f args s:=by rw[h]
def rQ (X:Cx)(base:Nat)(at_:Option Nat)(e:Env)(s:St)(op:Mm):Uy X true base at_ e s op=Ws X base at_ e s op:=(λh=>h) rfl
def wq (X:Cx)(base:Nat)(at_:Option Nat)(e:Env)(s:St)(op:Mm):Uy X false base at_ e s op=some (undef,s):=(λh=>h) rfl
def rP (p:Bool)(v:AV)(s:St):Tx p (some v) s=some (bif p then v else undef,s):=by cases p <;> rfl
def rO (X:Cx)(p:Bool)(v:AV)(f:FuncId)(args:List AV)(s:St):QX X p (some v) f args s=some (bif p then v else undef,s):=by cases p <;> rfl
def UO (X:Cx)(v:AV)(f:FuncId)(args:List AV)(s:St):Yx X (some v) f args s=some (v,s):=(λh=>h) rfl
def oU {X:Cx}(h:∀s,UN X f args s=some (v,s)):ZE X f args=some v:=by
 unfold ZE;have hx:∃v,∀s,UN X f args s=some (v,s):=⟨v,h⟩;rw[dif_pos hx];have h1:=Classical.choose_spec hx (Ym X);rw[h (Ym X)] at h1
 cases h1;rfl
def Ai {X:Cx}(h:ZE X f args=some v)(s:St):UN X f args s=some (v,s):=by
 unfold ZE at h
 split at h
 ·rename_i hx
  cases h
  exact Classical.choose_spec hx s
 ·cases h
def YJ (X:Cx)(f:FuncId)(args:List AV)(s:St):UN X f args s=Yx X (ZE X f args) f args s:=by
 unfold Yx
 split
 ·rename_i v h;exact Ai h s
 ·rfl
def cond_not {α:Type}(p:Bool)(x y z:α):(bif p then x else bif !p then y else z)=bif p then x else y:=by cases p <;> rfl
def kI {α:Type}(p:Bool)(x y z:α):(bif p then (bif p then x else y) else z)=bif p then x else z:=by cases p <;> rfl
def EE (p q:Bool):(bif p then true else q)=(p||q):=by cases p <;> rfl
def Hb (p q:Bool):(bif p then q else false)=(p&&q):=by cases p <;> rfl
section
variable (X:Cx)
def rN (p:Bool):L2 (.bool p) true=p:=by cases p <;> rfl
def wo (p:Bool):L2 (.bool p) false=!p:=by cases p <;> rfl
def rM (p q b:Bool):L2 (bif p then .bool q else undef) b=(p&&L2 (.bool q) b):=by cases p <;> rfl
def ajb (e:Env)(n:Nat):Xp e (.t n)=e.get n:=(λh=>h) rfl
def ajc (e:Env)(a:AV):Xp e (.v a)=a:=(λh=>h) rfl
def abB (e:Env)(k j:Nat)(x:AV):Env.get (Tr.set e k x) j=if k=j then x else e.get j:=Env.Sh e k j x
def wk (e:Env)(d:Nat)(v:AV):Ye e (some d) v=Tr.set e d v:=(λh=>h) rfl
def wh (e:Env)(v:AV):Ye e none v=e:=(λh=>h) rfl
def dz (i:Nat)(e:Env):Zr i [] e=e:=(λh=>h) rfl
def kH (i:Nat)(v:AV)(l:List AV)(e:Env):Zr i (v::l) e=Zr (i+1) l (Tr.set e i v):=(λh=>h) rfl
variable (base:Nat)(at_:Option Nat)(e:Env)(s:St)
def abC (x:Wv):Ws X base at_ e s (.Qq x)=some (Xp e x,s):=(λh=>h) rfl
def dy (c a b:Wv):Ws X base at_ e s (.pick c a b)=Zh (wg (Xp e c) (Xp e a) (Xp e b)) s:=(λh=>h) rfl
def afo (z:List AV)(t:TypeId):Ws X base none e s (.al z t)=some (.ptr s.next 0,s.new (.cells z t false 0 0)):=(λh=>h) rfl
def kG (i:Nat)(z:List AV)(t:TypeId):Ws X base (some i) e s (.al z t)=some (.ptr (base+i) 0,s.put (base+i) (.cells z t false 0 0)):=(λh=>h) rfl
def abD (t:TypeId)(x:Wv):Ws X base none e s (.box t x)=some (.ptr s.next 0,s.new (.cells (Xp e x).cells t false 0 0)):=(λh=>h) rfl
def rL (i:Nat)(t:TypeId)(x:Wv):Ws X base (some i) e s (.box t x)=some (.ptr (base+i) 0,s.put (base+i) (.cells (Xp e x).cells t false 0 0)):=(λh=>h) rfl
def abE (x:Wv):Ws X base at_ e s (.Sr x)=Zh (Sr (Xp e x) s) s:=(λh=>h) rfl
def abF (n:Nat)(x:Wv):Ws X base at_ e s (.Mx n x)=Zh (Mx n (Xp e x) s) s:=(λh=>h) rfl
def afp (n:Nat)(a x:Wv):Ws X base at_ e s (.st n a x)=NP (st n (Xp e a) (Xp e x) s):=(λh=>h) rfl
def afq (o:Nat)(x:Wv):Ws X base at_ e s (.fa o x)=Zh (faR o (Xp e x)) s:=(λh=>h) rfl
def abG (op:BinOp)(t:TypeId)(cst:Bool)(x y:Wv):Ws X base at_ e s (.bin op t cst x y)=Zh (Xj X op t cst (Xp e x) (Xp e y)) s:=(λh=>h) rfl
def abH (x:Wv)(i:Nat):Ws X base at_ e s (.ext x i)=Zh (abI (Xp e x) i) s:=(λh=>h) rfl
def dx (f:FuncId)(args:List Wv):Ws X base at_ e s (.call f args)=Yx X (ZE X f (Nq e args)) f (Nq e args) s:=YJ X f (Nq e args) s
def kF (f:Wv)(args:List Wv):Ws X base at_ e s (.Rg f args)=Kx X (Xp e f) (Nq e args) s:=(λh=>h) rfl
def afr (op:UnOp)(x:Wv):Ws X base at_ e s (.un op x)=Zh (unA op (Xp e x)) s:=(λh=>h) rfl
def dw (x:Wv):Ws X base at_ e s (.sS x)=Zh (wa (Xp e x)) s:=(λh=>h) rfl
def du (x:Wv):Ws X base at_ e s (.QE x)=Zh (U1 (Xp e x)) s:=(λh=>h) rfl
def abJ (x i:Wv):Ws X base at_ e s (.iS x i)=Zh (kE (Xp e x) (Xp e i)) s:=(λh=>h) rfl
def abK (n:Nat)(x i:Wv):Ws X base at_ e s (.FI n x i)=Zh (UJ n (Xp e x) (Xp e i)) s:=(λh=>h) rfl
def abL (l n:Nat)(x i:Wv):Ws X base at_ e s (.eL l n x i)=Zh (v9 l n (Xp e x) (Xp e i)) s:=(λh=>h) rfl
def abM (x:Wv)(lo hi:Option Wv):Ws X base at_ e s (.sls x lo hi)=Zh (sy (Xp e x) (Lq e lo) (Lq e hi)) s:=(λh=>h) rfl
def abN (n:Nat)(x:Wv)(lo hi:Option Wv):Ws X base at_ e s (.sll n x lo hi)=Zh (Dh n (Xp e x) (Lq e lo) (Lq e hi)) s:=(λh=>h) rfl
def abO (o:Nat)(x:Wv):Ws X base at_ e s (.fd1 o x)=Zh (abP o (Xp e x)) s:=(λh=>h) rfl
def zQ (x:Option (List AV)):Option AV:=x.map .agg
def zP (c:List AV):zQ (some c)=some (.agg c):=(λh=>h) rfl
def abQ (z:List AV)(ps:List (Nat×Nat×Wv)):Ws X base at_ e s (.RR z ps)=Zh (zQ (Rd e z ps)) s:=(λh=>h) rfl
def dt (x:Option (List AV))(k:List AV->Option (AV×St)):Option (AV×St):=match x with
 |some c=>k c
 |none=>none
def kD (c:List AV)(k:List AV->Option (AV×St)):dt (some c) k=k c:=(λh=>h) rfl
def abR (t:TypeId)(n len:Nat)(z:List AV)(ps:List (Nat×Nat×Wv)):Ws X base none e s (.Uc t n len z ps)=dt (Rd e z ps) λc=>some (.sl s.next 0 len (some len) n,s.new (.cells c t false 0 0)):=by
 simp only[Ws,dt];rfl
def rK (i:Nat)(t:TypeId)(n len:Nat)(z:List AV)(ps:List (Nat×Nat×Wv)):Ws X base (some i) e s (.Uc t n len z ps)=dt (Rd e z ps) λc=>some (.sl (base+i) 0 len (some len) n,s.put (base+i) (.cells c t false 0 0)):=by
 simp only[Ws,dt];rfl
def abS (t:TypeId)(n b:Nat)(d x:Wv):Ws X base at_ e s (.app t n b d x)=kC t n b (Xp e d) (Xp e x) s:=(λh=>h) rfl
def abT (f:FuncId)(a b:List Wv):Ws X base at_ e s (.mkf f a b)=some (.fn (.func f) (Nq e a) (Nq e b),s):=(λh=>h) rfl
def dr (z:List AV):Rd e z []=some z:=(λh=>h) rfl
def afs (x:Option (List AV))(k:List AV->Option (List AV)):Option (List AV):=match x with
 |some c=>k c
 |none=>none
def kB (c:List AV)(k:List AV->Option (List AV)):afs (some c) k=k c:=(λh=>h) rfl
def kz (z:List AV)(off n:Nat)(x:Wv)(l:List (Nat×Nat×Wv)):Rd e z ((off,n,x)::l)=if (Xp e x).cells.length=n/\off+n<=z.length then afs (lay off (Xp e x).cells z) (λc=>Rd e c l) else none:=by
 simp only[Rd,afs];rfl
def dq (l:List UInt8):wa (.str l)=some (.int .i64 l.length):=(λh=>h) rfl
def ky:U1 .ZQ=some (.int .i64 0):=(λh=>h) rfl
def abU (b o n:Nat)(c:Option Nat)(z:Nat):U1 (.sl b o n c z)=some (.int .i64 n):=(λh=>h) rfl
def abV (es:List AV):U1 (.fz es)=some (.int .i64 es.length):=(λh=>h) rfl
def aft (p:Bool):unA .not (.bool p)=some (.bool !p):=(λh=>h) rfl
def ku:Lq e none=none:=(λh=>h) rfl
def kr (x:Wv):Lq e (some x)=some (Xp e x):=(λh=>h) rfl
def abW (o:Nat)(c:List AV):abP o (.agg c)=c[o]? := (λh=>h) rfl
def dn (p:Bool)(x:Wv):Uy X p base at_ e s (.Qq x)=Tx p (some (Xp e x)) s:=(λh=>h) rfl
def kq (p:Bool)(c a b:Wv):Uy X p base at_ e s (.pick c a b)=Tx p (wg (Xp e c) (Xp e a) (Xp e b)) s:=(λh=>h) rfl
def dm (p:Bool)(x:Wv):Uy X p base at_ e s (.Sr x)=Tx p (Sr (Xp e x) s) s:=(λh=>h) rfl
def dk (p:Bool)(n:Nat)(x:Wv):Uy X p base at_ e s (.Mx n x)=Tx p (Mx n (Xp e x) s) s:=(λh=>h) rfl
def abX (p:Bool)(o:Nat)(x:Wv):Uy X p base at_ e s (.fa o x)=Tx p (faR o (Xp e x)) s:=(λh=>h) rfl
def dj (p:Bool)(op:BinOp)(t:TypeId)(cst:Bool)(x y:Wv):Uy X p base at_ e s (.bin op t cst x y)=Tx p (Xj X op t cst (Xp e x) (Xp e y)) s:=(λh=>h) rfl
def abY (p:Bool)(op:UnOp)(x:Wv):Uy X p base at_ e s (.un op x)=Tx p (unA op (Xp e x)) s:=(λh=>h) rfl
def ko (p:Bool)(x:Wv):Uy X p base at_ e s (.sS x)=Tx p (wa (Xp e x)) s:=(λh=>h) rfl
def kj (p:Bool)(x:Wv):Uy X p base at_ e s (.QE x)=Tx p (U1 (Xp e x)) s:=(λh=>h) rfl
def di (p:Bool)(x i:Wv):Uy X p base at_ e s (.iS x i)=Tx p (kE (Xp e x) (Xp e i)) s:=(λh=>h) rfl
def dh (p:Bool)(n:Nat)(x i:Wv):Uy X p base at_ e s (.FI n x i)=Tx p (UJ n (Xp e x) (Xp e i)) s:=(λh=>h) rfl
def dc (p:Bool)(l n:Nat)(x i:Wv):Uy X p base at_ e s (.eL l n x i)=Tx p (v9 l n (Xp e x) (Xp e i)) s:=(λh=>h) rfl
def db (p:Bool)(z:List AV)(ps:List (Nat×Nat×Wv)):Uy X p base at_ e s (.RR z ps)=Tx p (zQ (Rd e z ps)) s:=(λh=>h) rfl
def ki (p:Bool)(f:FuncId)(args:List Wv):Uy X p base at_ e s (.call f args)=QX X p (ZE X f (Nq e args)) f (Nq e args) s:=by
 cases p
 ·rfl
 ·exact YJ X f (Nq e args) s
def abZ (o:Op):Ws X base none e s (.raw o)=Yn X (X0 X) e o s:=(λh=>h) rfl
def da (e:Env):Nq e []=[]:=(λh=>h) rfl
def kg (e:Env)(x:Wv)(l:List Wv):Nq e (x::l)=Xp e x::Nq e l:=(λh=>h) rfl
def ab0 (v:AV)(s:St):Zh (some v) s=some (v,s):=(λh=>h) rfl
def ab1 (s:St):NP (some s)=some (undef,s):=(λh=>h) rfl
def afu (p:Bool)(a b:AV):wg (.bool p) a b=some (bif p then a else b):=(λh=>h) rfl
def kd (p a b:Bool):(bif p then AV.bool a else .bool b)=.bool (bif p then a else b):=by cases p <;> rfl
def ab2 (vs:List AV)(i:Nat):abI (.XQ vs) i=vs[i]? := (λh=>h) rfl
def afv (o b o':Nat):faR o (.ptr b o')=some (.ptr b (o'+o)):=(λh=>h) rfl
def ajd (o:Nat)(c:List AV)(o':Nat):faR o (.fp c o')=some (.fp c (o'+o)):=(λh=>h) rfl
def ab3 (b o:Nat)(s:St):Sr (.ptr b o) s=cell s b o:=(λh=>h) rfl
def afw (c:List AV)(o:Nat)(s:St):Sr (.fp c o) s=c[o]? := (λh=>h) rfl
def ab4 (t:TypeId)(cst:Bool)(k:IntKind)(a b:Int):Xj X .lss t cst (.int k a) (.int k b)=some (.bool (decide (a<b))):=by simp[Xj,Oj]
def ab5 (t:TypeId)(cst:Bool)(k:IntKind)(a b:Int):Xj X .leq t cst (.int k a) (.int k b)=some (.bool (decide (a<=b))):=by simp[Xj,Oj]
def ab6 (t:TypeId)(cst:Bool)(k:IntKind)(a b:Int):Xj X .gtr t cst (.int k a) (.int k b)=some (.bool (decide (a>b))):=by simp[Xj,Oj]
def ab7 (t:TypeId)(cst:Bool)(k:IntKind)(a b:Int):Xj X .geq t cst (.int k a) (.int k b)=some (.bool (decide (a>=b))):=by simp[Xj,Oj]
def ab8 (t:TypeId)(cst:Bool)(k:IntKind)(a b:Int):Xj X .eql t cst (.int k a) (.int k b)=some (.bool (a==b)):=by simp[Xj,Oj]
def ab9 (t:TypeId)(cst:Bool)(k:IntKind)(a b:Int):Xj X .neq t cst (.int k a) (.int k b)=some (.bool (a != b)):=by simp[Xj,Oj]
def ab_ (t:TypeId)(cst:Bool)(k:IntKind)(a b:Int):Xj X .add t cst (.int k a) (.int k b)=some (.int k (k.wrap (a+b))):=by simp[Xj,Oj]
def ab' (t:TypeId)(cst:Bool)(k:IntKind)(a b:Int):Xj X .sub t cst (.int k a) (.int k b)=some (.int k (k.wrap (a-b))):=by simp[Xj,Oj]
def aca (t:TypeId)(cst:Bool)(k:IntKind)(a b:Int):Xj X .mul t cst (.int k a) (.int k b)=some (.int k (k.wrap (a*b))):=by simp[Xj,Oj]
def c_ (t:TypeId)(cst:Bool)(a b:List UInt8):Xj X .eql t cst (.str a) (.str b)=some (.bool (a==b)):=by simp[Xj,fc]
def c9 (t:TypeId)(cst:Bool)(a b:List UInt8):Xj X .neq t cst (.str a) (.str b)=some (.bool (!(a==b))):=by simp[Xj,fc]
def cellsOf (b:Option Uf):Option (List AV):=match b with
 |some (.cells c _ _ _ _)=>some c
 |_=>none
def cellOf (b:Option Uf)(o:Nat):Option AV:=match b with
 |some (.cells c _ _ _ _)=>c[o]?
 |_=>none
def IE (s:St)(b:Nat):s.cells b=cellsOf (s.get b):=by unfold St.cells cellsOf;rfl
def c8 (s:St)(b o:Nat):cell s b o=cellOf (s.get b) o:=by
 unfold cell St.cells cellOf
 cases s.get b with
 |none=>rfl
 |some x=>cases x <;> rfl
def zO (c:List AV)(t:TypeId)(r:Bool)(lo hi:Nat):cellsOf (some (.cells c t r lo hi))=some c:=(λh=>h) rfl
def vZ (c:List AV)(t:TypeId)(r:Bool)(lo hi o:Nat):cellOf (some (.cells c t r lo hi)) o=c[o]? := (λh=>h) rfl
def Z5 (s:St)(j:Nat)(x:Uf):(s.new x).get j=if s.next=j then some x else s.get j:=St.Z5 s j x
def Z7 (s:St)(k j:Nat)(x:Uf):(s.put k x).get j=if k=j then some x else s.get j:=St.Z7 s k j x
def Z' (s:St)(x:Uf):(s.new x).next=s.next+1:=(λh=>h) rfl
def Z_ (s:St)(k:Nat)(x:Uf):(s.put k x).next=s.next:=(λh=>h) rfl
def Gf (X:Cx):(Ym X).next=X.glob:=(λh=>h) rfl
def Ba (X:Cx)(j:Nat):(Ym X).get j=X.K0 j:=by
 unfold Ym St.get;rfl
def BJ (x:Option (List AV)):Option AV:=match x with
 |some r=>some (.agg r)
 |none=>none
def F8 (r:List AV):BJ (some r)=some (.agg r):=(λh=>h) rfl
def afx (n o:Nat)(x:Option (List AV)):Option AV:=match x with
 |some c=>BJ (Xi n o c)
 |none=>none
def ka (n o:Nat)(c:List AV):afx n o (some c)=BJ (Xi n o c):=(λh=>h) rfl
def acb (n b o:Nat)(s:St):Mx n (.ptr b o) s=afx n o (cellsOf (s.get b)):=by
 rw[<-IE];simp only[Mx,afx,BJ];rfl
def afy (n:Nat)(c:List AV)(o:Nat)(s:St):Mx n (.fp c o) s=BJ (Xi n o c):=by
 simp only[Mx,BJ];rfl
def acd (x:Option (List AV))(k:List AV->Option St):Option St:=match x with
 |some c=>k c
 |none=>none
def j_ (c:List AV)(k:List AV->Option St):acd (some c) k=k c:=(λh=>h) rfl
def wrC (s:St)(b o:Nat)(vs:List AV)(x:Option Uf):Option St:=match x with
 |some (.cells c e false N3 O_)=>if (o+vs.length<=N3||O_<=o)&&vs.all Zu then acd (lay o vs c) λc'=>some (s.put b (.cells c' e false N3 O_)) else none
 |_=>none
def j8 (s:St)(b o:Nat)(vs c:List AV)(e:TypeId)(N3 O_:Nat) :
  wrC s b o vs (some (.cells c e false N3 O_))=if (o+vs.length<=N3||O_<=o)&&vs.all Zu then acd (lay o vs c) λc'=>some (s.put b (.cells c' e false N3 O_)) else none:=rfl
def Np (s:St)(b o:Nat)(vs:List AV):WX s b o vs=wrC s b o vs (s.get b):=by
 unfold WX wrC acd;rfl
def afz (n b o:Nat)(v:AV)(s:St):st n (.ptr b o) v s=if v.cells.length=n then wrC s b o v.cells (s.get b) else none:=by
 simp only[st,Np]
def Qi (c:List AV):AV.cells (.agg c)=c:=(λh=>h) rfl
def j7 (k:IntKind)(n:Int):AV.cells (.int k n)=[.int k n]:=(λh=>h) rfl
def rJ (b:Bool):AV.cells (.bool b)=[.bool b]:=(λh=>h) rfl
def j6 (b:List UInt8):AV.cells (.str b)=[.str b]:=(λh=>h) rfl
def cZ (b:List AV):AV.cells (.fz b)=[.fz b]:=(λh=>h) rfl
def cY (b o n:Nat)(c:Option Nat)(z:Nat):AV.cells (.sl b o n c z)=[.sl b o n c z]:=(λh=>h) rfl
def oV (o:Nat)(l:List AV):lay o [] l=some l:=by cases o <;> cases l <;> rfl
def w_ (v:AV)(vs:List AV)(x:AV)(l:List AV):lay 0 (v::vs) (x::l)=(lay 0 vs l).map (v::·):=by
 simp only[lay];cases lay 0 vs l <;> rfl
def w9 (o:Nat)(v:AV)(vs:List AV)(x:AV)(l:List AV):lay (o+1) (v::vs) (x::l)=(lay o (v::vs) l).map (x::·):=by
 simp only[lay];cases lay o (v::vs) l <;> rfl
def UH (o:Nat)(l:List AV):Xi 0 o l=some []:=by cases o <;> cases l <;> rfl
def UI (n:Nat)(x:AV)(l:List AV):Xi (n+1) 0 (x::l)=(Xi n 0 l).map (x::·):=by
 simp only[Xi];cases Xi n 0 l <;> rfl
def BH (n o:Nat)(x:AV)(l:List AV):Xi (n+1) (o+1) (x::l)=Xi (n+1) o l:=(λh=>h) rfl
def j5 (k:IntKind)(n:Int):Zu (.int k n)=true:=(λh=>h) rfl
def rI (b:Bool):Zu (.bool b)=true:=(λh=>h) rfl
def j0 (b:List UInt8):Zu (.str b)=true:=(λh=>h) rfl
def cX (b:List AV):Zu (.fz b)=true:=(λh=>h) rfl
def rH:Zu .ZQ=true:=(λh=>h) rfl
def cW (b o n:Nat)(c:Option Nat)(z:Nat):Zu (.sl b o n c z)=true:=(λh=>h) rfl
def ace (l n b o:Nat)(k:IntKind)(i:Int):v9 l n (.ptr b o) (.int k i)=if 0<=i/\i.toNat<l then some (.ptr b (o+i.toNat*n)) else none:=by
 simp only[v9];congr 1;apply propext;omega
def afA (l n:Nat)(c:List AV)(o:Nat)(k:IntKind)(i:Int):v9 l n (.fp c o) (.int k i)=if 0<=i/\i.toNat<l then some (.fp c (o+i.toNat*n)) else none:=by
 simp only[v9];congr 1;apply propext;omega
def afB (n b o len:Nat)(c:Option Nat)(z:Nat)(k:IntKind)(i:Int):UJ n (.sl b o len c z) (.int k i)=if 0<=i/\i.toNat<len then some (.ptr b (o+i.toNat*n)) else none:=by
 simp only[UJ];congr 1;apply propext;omega
def ixF (n:Nat)(x:Option AV):Option AV:=match x with
 |some x=>if x.cells.length=n/\n≠0 then some (.fp x.cells 0) else none
 |none=>none
def cV (n:Nat)(x:AV):ixF n (some x)=if x.cells.length=n/\n≠0 then some (.fp x.cells 0) else none:=(λh=>h) rfl
def cU (n:Nat)(es:List AV)(k:IntKind)(i:Int):UJ n (.fz es) (.int k i)=if 0<=i then ixF n es[i.toNat]? else none:=by
 simp only[UJ,ixF];rfl
def acf (b:List UInt8)(k:IntKind)(i:Int):kE (.str b) (.int k i)=if 0<=i then (b[i.toNat]?).map (λc=>AV.int .u8 c.toNat) else none:=by
 simp only[kE]
 split
 ·cases b[i.toNat]? <;> rfl
 ·rfl
noncomputable def Us (rs:List ResultVar)(x:Fl):Option (AV×St):=match x with
 |some (.exit _,_,_)=>none
 |some (_,e,s)=>match Xr X e s rs with
  |some [v]=>some (v,s)
  |some vs=>some (.XQ vs,s)
  |none=>none
 |none=>none
def zN (x:Option (AV×St)):Option AV:=match x with
 |some (v,s')=>Ya X s' Ui v
 |none=>none
noncomputable def U7 (rs:List ResultVar)(x:Fl):Option AV:=zN X (Us X rs x)
def rsK (s:St)(x:Option (List AV)):Option (AV×St):=match x with
 |some [v]=>some (v,s)
 |some vs=>some (.XQ vs,s)
 |none=>none
def acg (s:St)(v:AV):rsK s (some [v])=some (v,s):=(λh=>h) rfl
def ach (s:St)(v u:AV)(l:List AV):rsK s (some (v::u::l))=some (.XQ (v::u::l),s):=(λh=>h) rfl
def cR (s:St):rsK s (some [])=some (.XQ [],s):=(λh=>h) rfl
def vY (rs:List ResultVar)(e:Env)(s:St):Us X rs (some (.ret,e,s))=rsK s (Xr X e s rs):=by
 simp only[Us,rsK]
def jZ (rs:List ResultVar)(e:Env)(s:St):Us X rs (some (.norm,e,s))=rsK s (Xr X e s rs):=by
 simp only[Us,rsK]
def cQ (rs:List ResultVar)(e:Env)(s:St):U7 X rs (some (.ret,e,s))=zN X (rsK s (Xr X e s rs)):=by
 simp only[U7,vY]
def jY (v:AV)(s:St):zN X (some (v,s))=Ya X s 40 v:=(λh=>h) rfl
def rG (v:Option AV)(x:Option (List AV)):Option (List AV):=match v,x with
 |some v,some vs=>some (v::vs)
 |_,_=>none
def PT (v:AV)(vs:List AV):rG (some v) (some vs)=some (v::vs):=(λh=>h) rfl
def aci (e:Env)(s:St):Xr X e s []=some []:=(λh=>h) rfl
def acj (e:Env)(s:St)(t:Nat)(l:List ResultVar):Xr X e s (.tmp t::l)=rG (some (e.get t)) (Xr X e s l):=by
 simp only[Xr,ML,rG];rfl
def cP (e:Env)(s:St)(a:Nat)(t:TypeId)(l:List ResultVar):Xr X e s (.cell a t::l)=rG (UA X t (e.get a) s) (Xr X e s l):=by
 simp only[Xr,ML,rG];rfl
def Pj {t:TypeId}{n:Nat}(ht:Ys X t=some true)(hn:size X t=some n)(a:AV)(s:St):UA X t a s=Mx n a s:=by
 cases a with
 |ptr b o =>
  simp only[UA,Mx,ht,hn]
  cases s.cells b with
  |none=>rfl
  |some c=>cases Xi n o c <;> rfl
 |fp c o =>
  simp only[UA,Mx,ht,hn]
  cases Xi n o c <;> rfl
 |_=>rfl
def Kf (s:St)(d:Nat)(k:IntKind)(n:Int):Ya X s (d+1) (.int k n)=some (.int k n):=(λh=>h) rfl
def cM (s:St)(d:Nat)(b:Bool):Ya X s (d+1) (.bool b)=some (.bool b):=(λh=>h) rfl
def Ak (s:St)(d:Nat)(b:List UInt8):Ya X s (d+1) (.str b)=some (.str b):=(λh=>h) rfl
def cL (s:St)(d:Nat):Ya X s (d+1) .ZQ=some .ZQ:=(λh=>h) rfl
def ER (s:St)(d:Nat)(l:List AV):Ya X s (d+1) (.fz l)=some (.fz l):=(λh=>h) rfl
def afC (x:Option (List AV)):Option AV:=x.map .agg
def afD (x:Option (List AV)):Option AV:=x.map .XQ
def PS (l:List AV):afC (some l)=some (.agg l):=(λh=>h) rfl
def jX (l:List AV):afD (some l)=some (.XQ l):=(λh=>h) rfl
def Wt (s:St)(d:Nat)(l:List AV):Ya X s (d+1) (.agg l)=afC (YS (Ya X s d) l):=by
 simp only[Ya,afC];cases YS (Ya X s d) l <;> rfl
def pq (s:St)(d:Nat)(l:List AV):Ya X s (d+1) (.XQ l)=afD (YS (Ya X s d) l):=by
 simp only[Ya,afD];cases YS (Ya X s d) l <;> rfl
def TJ (f:AV->Option AV):YS f []=some []:=(λh=>h) rfl
def XT (f:AV->Option AV)(x:AV)(l:List AV):YS f (x::l)=rG (f x) (YS f l):=by
 simp only[YS,rG];rfl
def NA [Stat] {fn:Func}{c:Code}{r:RC}{rs:List ResultVar}(hf:X.fn f=some fn)(hb:fn.body=some c)(CJ:fn.results.toList=rs)(hr:rc X c=r){s:St}{x:AV×St}
  (h:go X (Us X rs) [] r (Zr 0 args .nil) s=some x):ND X (X0 X) f args s=some x:=by
 unfold ND;rw[hf];simp only[hb];have h:Us X rs (den X r (Zr 0 args .nil) s)=some x:=h;rw[<-hr] at h;unfold Us at h
 split at h
 ·cases h
 ·rename_i o e' s' ZB hd;rw[jW c _ _ _ hd];have ED:Uh X fn e' s'=(match Xr X e' s' rs with|some [v]=>some v|some vs=>some (.XQ vs)|none=>none):=by
   unfold Uh;rw[CJ];rfl
  cases o with
  |exit i=>exact absurd rfl (ZB i)
  |norm =>
   simp only[ED]
   split at h <;> rename_i hx <;> simp only[hx] <;> first|(cases h;rfl)|exact h
  |ret =>
   simp only[ED]
   split at h <;> rename_i hx <;> simp only[hx] <;> first|(cases h;rfl)|exact h
 ·cases h
def cK [Stat] {fn:Func}{c:Code}{r:RC}{rs:List ResultVar}(hx:X.ext f=none)(hp:X.pure f=true)(hf:X.fn f=some fn)(hb:fn.body=some c)(CJ:fn.results.toList=rs)(hr:rc X c=r)(W_:ZT args=true)
  (h:go X (U7 X rs) [] r (Zr 0 args .nil) (Ym X)=some v)(s:St):UN X f args s=some (v,s):=by
 have h:zN X (Us X rs (den X r (Zr 0 args .nil) (Ym X)))=some v:=h
 cases hd:Us X rs (den X r (Zr 0 args .nil) (Ym X)) with
 |none=>rw[hd] at h;simp[zN] at h
 |some x =>
  rw[hd] at h;have:=NA X hf hb CJ hr (args:=args) (s:=Ym X) (x:=x) hd;unfold UN TY;rw[hx];simp only[hp,if_true,NL,U2,W_,X7,this];simp only[zN] at h;rw[h]
def lG [Stat] {fn:Func}{c:Code}{r:RC}{rs:List ResultVar}(hx:X.ext f=none)(hp:X.pure f=true)(hf:X.fn f=some fn)(hb:fn.body=some c)(CJ:fn.results.toList=rs)(hr:rc X c=r)(W_:ZT args=true)
  (h:go X (U7 X rs) [] r (Zr 0 args .nil) (Ym X)=some v):ZE X f args=some v:=oU (cK X hx hp hf hb CJ hr W_ h)
end
def afE {α:Type}(x y:α):(bif true then x else y)=x:=(λh=>h) rfl
def ack {α:Type}(x y:α):(bif false then x else y)=y:=(λh=>h) rfl
def cJ {α:Type}(x:α)(l:List α):(x::l)[0]? = some x:=(λh=>h) rfl
def cI {α:Type}(x:α)(l:List α)(n:Nat):(x::l)[n+1]? = l[n]? := (λh=>h) rfl
def cH {α:Type}(x:α)(l:List α):(x::l).length=l.length+1:=(λh=>h) rfl
def len_nil {α:Type}:([]:List α).length=0:=(λh=>h) rfl
def afF {α β:Type}(f:α->β)(x:α):(some x).map f=some (f x):=(λh=>h) rfl
def jV {α:Type}(p:α->Bool)(x:α)(l:List α):(x::l).all p=(p x&&l.all p):=(λh=>h) rfl
def cG {α:Type}(p:α->Bool):([]:List α).all p=true:=(λh=>h) rfl
def jU {h:Decidable False}:@decide False h=false:=by cases h with|isFalse _=>rfl|isTrue h=>exact h.elim
def cE {h:Decidable True}:@decide True h=true:=by cases h with|isFalse h=>exact (h trivial).elim|isTrue _=>rfl
def jT (p:Bool):(p||true)=true:=by cases p <;> rfl
def rF (p:Bool):(p&&true)=p:=by cases p <;> rfl
def rE (p:Bool):(true&&p)=p:=by cases p <;> rfl
def rD:(!true)=false:=(λh=>h) rfl
def vX:(!false)=true:=(λh=>h) rfl
def rC (n:Nat):n+0=n:=(λh=>h) rfl
def oO (n:Nat):((n:Int)).toNat=n:=(λh=>h) rfl
attribute [go_sem ↓] Yd Zp dG afd dF dD go_loop abx go_ret go_skip afe il aby aff afg afh afi afj afk abz dB kM abA dA kL kK rS rR kJ wy wx rQ wq ajb ajc abB wk wh dz kH abC dy afo kG abD rL abE abF afp afq abG abH dx kF afr dw du abJ abK abL abM abN abO abQ abR rK abS abT dr kz ku kr dn kq dm dk abX dj abY ko kj di dh dc db ki abZ da kg IE c8 Z5 Z7 Z' Z_ Gf Ba Np afz vY jZ cQ jY aci acj cP Kf cM Ak cL ER Wt pq afE ack
attribute [go_sem] jU cE ne_eq not_false_eq_true abw kN rP rO UO cond_not kI EE Hb rN wo rM zP kD kB dq ky abU abV aft abW ab0 ab1 afu kd ab2 afv ajd ab3 afw ab4 ab5 ab6 ab7 ab8 ab9 ab_ ab' aca c_ c9 zO vZ F8 ka acb afy j_ j8 Qi j7 rJ j6 cZ cY oV w_ w9 UH UI BH j5 rI j0 cX rH cW ace afA afB cV cU acf acg ach cR PT PS jX TJ XT cJ cI cH len_nil afF jT rF rE rD vX rC oO jV cG Nat.reduceEqDiff Nat.reduceAdd Nat.reduceMul Bool.not_not apW decide_true Bool.and_self Int.reduceLT Int.reduceLE Int.reduceToNat Nat.zero_mul ap4 and_self true_and and_true Nat.reduceLT Nat.reduceLeDiff Int.natCast_nonneg Nat.lt_add_one
def anw {α:Sort _}{c:Prop} [Decidable c] {a b:α}(h:c):ite c a b=a:=Of h
def anx {α:Sort _}{c:Prop} [Decidable c] {a b:α}(h:¬c):ite c a b=b:=O3 h
attribute [go_sem ↓] anw anx
end Go.Am
namespace Go.Am
open Go
variable {v:AV}{f:FuncId}
section
variable (X:Cx)(ex:Ex)(e:Env)(s:St)
def fx (t:Nat):eval X e (.tmp t)=some (e.get t):=(λh=>h) rfl
def fu (k:IntKind)(n:Int):eval X e (.const (.int k n))=some (.int k n):=(λh=>h) rfl
def lZ (b:Bool):eval X e (.const (.bool b))=some (.bool b):=(λh=>h) rfl
def aa3 (v:Option AV)(s:St):Option (AV×St):=match v with
 |some (.ptr b o)=>some (.ptr b o,s)
 |some (.fp c o)=>some (.fp c o,s)
 |some (.fn (.func f) x y)=>some (.fn (.func f) x y,s)
 |some (.fn (.yield f) x y)=>some (.fn (.yield f) x y,s)
 |_=>none
def Ag (x:Operand):Yn X ex e (.nilCheck x) s=aa3 (eval X e x) s:=by
 unfold aa3;simp only[Yn];rfl
def ft (b o:Nat):aa3 (some (.ptr b o)) s=some (.ptr b o,s):=(λh=>h) rfl
def aa4 (c:List AV)(o:Nat):aa3 (some (.fp c o)) s=some (.fp c o,s):=(λh=>h) rfl
def adb (a b:Option TypeDesc)(n:Int)(s:St)(r:Option (AV×St)):Option (AV×St):=match a,b with
 |some _,some (.int k)=>some (.int k (k.wrap n),s)
 |_,_=>r
def xt (a b:Option TypeDesc)(v:Option AV)(s:St)(r:Option (AV×St)):Option (AV×St):=match v with
 |some (.int _ n)=>adb a b n s r
 |_=>r
def xr (a b:TypeId)(x:Operand):Yn X ex e (.convert a b x) s=xt (X.Zd a) (X.Zd b) (eval X e x) s (Yn X ex e (.convert a b x) s):=by
 unfold xt
 split
 ·rename_i j n h3;unfold adb
  split
  ·rename_i d k h1 h2;simp only[Yn,h3,Rw,h1,h2]
  ·rfl
 ·rfl
def lY (d:TypeDesc)(k j:IntKind)(n:Int)(r:Option (AV×St)):xt (some d) (some (.int k)) (some (.int j n)) s r=some (.int k (k.wrap n),s):=(λh=>h) rfl
def fq (c:Call)(hc:c.callee=.builtin .min)(x y:Operand)(ha:c.args=#[x,y]){k j:IntKind}{n m:Int}(hx:eval X e x=some (.int k n))(hy:eval X e y=some (.int j m)):Yn X ex e (.call c) s=some (.int k (min n m),s):=by
 have h:(if m<n then m else n)=min n m:=J;simp only[Yn,hc,ha,Vx,hx,hy,XX,lX,h]
def fk (c:Call)(hc:c.callee=.builtin .max)(x y:Operand)(ha:c.args=#[x,y]){k j:IntKind}{n m:Int}(hx:eval X e x=some (.int k n))(hy:eval X e y=some (.int j m)):Yn X ex e (.call c) s=some (.int k (max n m),s):=by
 have h:(if m>n then m else n)=max n m:=J;simp only[Yn,hc,ha,Vx,hx,hy,XX,lW,h]
def mm2 (f:Int->Int->Int)(v u:Option AV)(s:St)(r:Option (AV×St)):Option (AV×St):=match v,u with
 |some (.int k n),some (.int _ m)=>some (.int k (f n m),s)
 |_,_=>r
def aa5 (f:Int->Int->Int)(k j:IntKind)(n m:Int)(r:Option (AV×St)):mm2 f (some (.int k n)) (some (.int j m)) s r=some (.int k (f n m),s):=(λh=>h) rfl
def GU (x y:Operand)(ts:Array TypeId):Yn X ex e (.call { callee:=.builtin .min,args:=#[x,y],argTypes:=ts }) s=mm2 min (eval X e x) (eval X e y) s (Yn X ex e (.call { callee:=.builtin .min,args:=#[x,y],argTypes:=ts }) s):=by
 unfold mm2
 split
 ·rename_i h1 h2;exact fq X ex e s _ rfl x y rfl h1 h2
 ·rfl
def aa6 (x y:Operand)(ts:Array TypeId):Yn X ex e (.call { callee:=.builtin .max,args:=#[x,y],argTypes:=ts }) s=mm2 max (eval X e x) (eval X e y) s (Yn X ex e (.call { callee:=.builtin .max,args:=#[x,y],argTypes:=ts }) s):=by
 unfold mm2
 split
 ·rename_i h1 h2;exact fk X ex e s _ rfl x y rfl h1 h2
 ·rfl
variable {β:Type}(fin:Fl->β)(ks:List K)
def my [Stat] {b:RC}{σ:Type}(m:σ->Nat)(I:σ->Env->St->Prop)(R:σ->β)
  (h:∀(L:RC) (x:σ) (e:Env) (s:St),I x e s->(∀(y:σ) (e':Env) (s':St),m y<m x->I y e' s'->SJ X fin ks L e' s'=R y)->go X fin (.lp L::ks) b e s=R x)
  (x:σ){e:Env}{s:St}(hI:I x e s):SJ X fin ks b e s=R x:=by
 have key:∀(n:Nat) (x:σ) (e:Env) (s:St),m x<n->I x e s->SJ X fin ks b e s=R x:=by
  intro n
  induction n with
  |zero=>intro x e s hn;omega
  |succ n ih =>
   intro x e s hn hI;rw[Qx];exact h b x e s hI (λy e' s' hm qh=>ih y e' s' J qh)
 exact key _ x e s (Nat.lt_succ_self _) hI
noncomputable def UX (f:FuncId)(us:Option (List AV))(s:St):Option (AV×St):=match us with
 |some us=>match X7 X (X0 X) f us false with
  |some v=>some (v,s)
  |none=>none
 |none=>none
def fj {args:List AV}(hx:X.ext f=none)(hp:X.pure f=true)(W_:ZT args=false):Yx X (ZE X f args) f args s=UX X f (YS (Ya X s 40) args) s:=by
 rw[<-YJ];unfold UN TY;rw[hx];simp only[hp,if_true,NL,U2,W_,aqa,if_false,Ui,UX];rfl
def XM {us:List AV}(h:X7 X (X0 X) f us false=some v):UX X f (some us) s=some (v,s):=by
 simp only[UX,h]
def YZ {n:Nat}{us:List AV}{st:Bool}(h:X7 X (exec X n) f us st=some v):X7 X (X0 X) f us st=some v:=by
 exact (Fq (X:=X) f us st).mono _ _ (xq n) v h
end
@[congr] theorem ade {a a' b b':Option TypeDesc} {v v':Option AV} {s:St} {r:Option (AV×St)} (h1:a=a') (h2:b=b') (h3:v=v'):xt a b v s r=xt a' b' v' s r:=by rw[h1,h2,h3]
@[congr] theorem agD {f:Int->Int->Int} {v v' u u':Option AV} {s:St} {r:Option (AV×St)} (h1:v=v') (h2:u=u'):mm2 f v u s r=mm2 f v' u' s r:=by rw[h1,h2]
section
variable (X:Cx)(s:St)
def lV (k:IntKind)(n:Int):still (.int k n)=true:=by simp[still]
def lU (l:List UInt8):still (.str l)=true:=by simp[still]
def sL:still .ZQ=true:=by simp[still]
def fh (l:List AV):still (.fz l)=true:=by simp[still]
def lT (b o:Nat):still (.ptr b o)=false:=by simp[still]
def fg (b o n:Nat)(c:Option Nat)(z:Nat):still (.sl b o n c z)=false:=by simp[still]
def lS (l:List AV):still (.agg l)=ZT l:=by simp[still]
def sK:ZT []=true:=by simp[ZT]
def xp (x:AV)(l:List AV):ZT (x::l)=(still x&&ZT l):=by simp[ZT]
def xn (p:Bool):(p&&false)=false:=by cases p <;> rfl
def xm (p:Bool):(false&&p)=false:=(λh=>h) rfl
def fzK (x:Option (List AV)):Option AV:=x.map .fz
def S9 (l:List AV):fzK (some l)=some (.fz l):=(λh=>h) rfl
def fpK (o:Nat)(x:Option (List AV)):Option AV:=x.map λc=>.fp c o
def ff (o:Nat)(l:List AV):fpK o (some l)=some (.fp l o):=(λh=>h) rfl
def fnK (f:FuncId)(x y:Option (List AV)):Option AV:=match x,y with
 |some x,some y=>some (.fn (.func f) x y)
 |_,_=>none
def fe (f:FuncId)(x y:List AV):fnK f (some x) (some y)=some (.fn (.func f) x y):=(λh=>h) rfl
def xl (d len Vl:Nat)(r:Option (List AV))(ag:Option Bool)(n:Option Nat):Option AV:=match r,ag,n with
 |some r,some ag,some n=>if Vl=n/\n≠0/\(ag=false->n=1/\r.all Zu=true) then fzK (YS (Ya X s d) (Xk ag n len r)) else none
 |_,_,_=>none
def aa7 (d o len Vl:Nat)(x:Option Uf):Option AV:=match x with
 |some (.cells c e false _ _)=>xl X s d len Vl (Xi (len*Vl) o c) (Ys X e) (size X e)
 |_=>none
def aa8 (d o:Nat)(x:Option Uf):Option AV:=match x with
 |some (.cells c _ false _ _)=>fpK o (YS (Ya X s d) c)
 |_=>none
def Uw (d b o len:Nat)(cap:Option Nat)(Vl:Nat):Ya X s (d+1) (.sl b o len cap Vl)=aa7 X s d o len Vl (s.get b):=by
 simp only[Ya];unfold aa7
 split
 ·rename_i c e lo hi hg;simp only[hg];unfold xl
  split
  ·rename_i r ag n h1 h2 h3;simp only[h1,h2,h3,fzK]
   split
   ·cases YS (Ya X s d) (Xk ag n len r) <;> rfl
   ·rfl
  ·rename_i RW
   split
   ·rename_i r ag n h1 h2 h3;exact absurd h3 (RW _ _ _ h1 h2)
   ·rfl
 ·rename_i RW
  split
  ·rename_i c e lo hi hg;exact absurd hg (RW _ _ _ _)
  ·rfl
def Xo (d o len Vl:Nat)(c:List AV)(e:TypeId)(lo hi:Nat):aa7 X s d o len Vl (some (.cells c e false lo hi))=xl X s d len Vl (Xi (len*Vl) o c) (Ys X e) (size X e):=(λh=>h) rfl
def U0 (d len:Nat)(r:List AV):xl X s d len 1 (some r) (some false) (some 1)=if r.all Zu=true then fzK (YS (Ya X s d) (Xk false 1 len r)) else none:=by
 simp only[xl]
 congr 1
 simp
def Gd (d len n:Nat)(r:List AV):xl X s d len (n+1) (some r) (some true) (some (n+1))=fzK (YS (Ya X s d) (Xk true (n+1) len r)):=by
 simp only[xl];rw[Of];simp
def pa (d b o:Nat):Ya X s (d+1) (.ptr b o)=aa8 X s d o (s.get b):=by
 simp only[Ya];unfold aa8
 split
 ·rename_i c e lo hi hg;simp only[hg,fpK]
  cases YS (Ya X s d) c <;> rfl
 ·rename_i RW
  split
  ·rename_i c e lo hi hg;exact absurd hg (RW _ _ _ _)
  ·rfl
def sJ (d o:Nat)(c:List AV)(e:TypeId)(lo hi:Nat):aa8 X s d o (some (.cells c e false lo hi))=fpK o (YS (Ya X s d) c):=(λh=>h) rfl
def aev (d:Nat)(f:FuncId)(x y:List AV):Ya X s (d+1) (.fn (.func f) x y)=fnK f (YS (Ya X s d) x) (YS (Ya X s d) y):=by
 simp only[Ya,fnK];rfl
def xk (ag:Bool)(n:Nat)(l:List AV):Xk ag n 0 l=[]:=(λh=>h) rfl
def sI (k:Nat)(x:AV)(l:List AV):Xk false 1 (k+1) (x::l)=x::Xk false 1 k l:=(λh=>h) rfl
def LQ (n k:Nat)(l:List AV):Xk true n (k+1) l=.agg (l.take n)::Xk true n k (l.drop n):=by
 simp only[Xk]
def UK:∀l:List AV,Xk false 1 l.length l=l
 |[]=>rfl
 |x::l=>by
  show x::Xk false 1 l.length l=_;rw[UK l]
def VA:∀l:List AV,Xi l.length 0 l=some l
 |[]=>rfl
 |x::l=>by
  show Xi (l.length+1) 0 (x::l)=_;simp only[Xi,VA l]
end
attribute [go_sem ↓] fx fu lZ Uw pa aev Ag xr GU aa6 xk sI
attribute [go_sem] ft aa4 lY aa5 S9 ff fe Xo U0 Gd sJ LQ lV lU sL fh lT fg lS sK xp xn xm List.take_succ_cons List.take_zero aq5 aqy
end Go.Am
