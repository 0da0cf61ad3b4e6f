/- A part of the proof of a statement of this seat: the machine on which the program is read, and what it computes; for every input. -/
import Derived.Test.YtkmaeondbkpajaaGreatDoorN01
set_option linter.all false
namespace Go.Am
open Go
theorem zj {α:Type}:∀(f:Nat) (t:Tr α) (k:Nat) (x:α),k<f->Tr.get t k=some x->Tr.RS f t k x=t:=by
 intro f
 induction f with
 |zero=>intro t k x h;omega
 |succ f ih =>
  intro t k x hk h
  cases t with
  |nil=>simp[Tr.get] at h
  |n v l r =>
   cases k with
   |zero =>
    simp only[Tr.get] at h;simp only[Tr.RS,h]
   |succ k =>
    simp only[Tr.get] at h;simp only[Tr.RS]
    cases hb:Nat.beq (k%2) 0 with
    |true =>
     simp only[hb,cond_true] at h ⊢;rw[ih l (k / 2) x (by omega) h]
    |false =>
     simp only[hb,cond_false] at h ⊢;rw[ih r (k / 2) x (by omega) h]
theorem EW (e:Env)(k:Nat)(p:Bool)(h:Env.get e k=.bool p):Tr.set e k (.bool p)=e:=by
 unfold Env.get at h
 cases hg:Tr.get e k with
 |none=>rw[hg] at h;cases h
 |some v =>
  rw[hg] at h;have h:v=.bool p:=h;rw[h] at hg;exact zj _ _ _ _ (by omega) hg
inductive K where
 |sq (b:RC)
 |bk (id:Nat)
 |lp (b:RC)
def OB (v:AV)(b:Bool):Bool:=match v with
 |.bool p=>p==b
 |_=>false
def br {β:Type}(p:Bool)(x y:β):β:=bif p then x else y
theorem WJ {β:Type}(x y:β):br true x y=x:=(fun h=>h) rfl
theorem Zh {β:Type}(x y:β):br false x y=y:=(fun h=>h) rfl
theorem qh {β:Type}(p:Bool)(x y:β):br p (some x) (some y)=some (br p x y):=by cases p <;> rfl
section
variable (X:Cx){β:Type}
noncomputable def pop (fin:Fl->β):List K->Fl->β
 |[],x=>fin x
 |.sq b::ks,x=>pop fin ks (match x with
  |some (.norm,e,s)=>den X b e s
  |r=>r)
 |.bk id::ks,x=>pop fin ks (match x with
  |some (.exit i,e,s)=>if i=id then some (.norm,e,s) else some (.exit i,e,s)
  |r=>r)
 |.lp b::ks,x=>pop fin ks (match x with
  |some (.norm,e,s)=>PX (den X b) e s
  |r=>r)
noncomputable def go (fin:Fl->β)(ks:List K)(c:RC)(e:Env)(s:St):β:=pop X fin ks (den X c e s)
noncomputable def Vx (fin:Fl->β)(ks:List K)(b:RC)(e:Env)(s:St):β:=pop X fin ks (PX (den X b) e s)
noncomputable def goN (fin:Fl->β)(ks:List K)(e:Env)(s:St):β:=pop X fin ks (some (.norm,e,s))
noncomputable def qg (fin:Fl->β)(ks:List K)(i:Nat)(e:Env)(s:St):β:=pop X fin ks (some (.exit i,e,s))
noncomputable def mW (fin:Fl->β)(ks:List K)(base:Nat)(l:List RO)(e:Env)(s:St):β:=pop X fin ks (match EV X base l e s with
 |some (e,s)=>some (.norm,e,s)
 |none=>none)
noncomputable def Jw (fin:Fl->β)(ks:List K)(base:Nat)(l:List RO)(e:Env)(s:St):β:=pop X fin ks (match SD X base l e s with
 |some (e,s)=>some (.norm,e,s)
 |none=>none)
noncomputable def stuck (fin:Fl->β)(ks:List K):β:=pop X fin ks none
noncomputable def vd (fin:Fl->β)(ks:List K)(v:AV)(n:Nat)(a b:RC)(e:Env)(s:St):β:=match v with
 |.bool p=>br p (go X fin ks a (Tr.set e n (.bool true)) s) (go X fin ks b (Tr.set e n (.bool false)) s)
 |_=>stuck X fin ks
noncomputable def CS (fin:Fl->β)(ks:List K)(base:Nat)(x:Option (AV×St))(d:Option Nat)(l:List RO)(e:Env):β:=match x with
 |some (v,s)=>mW X fin ks base l (Y8 e d v) s
 |none=>stuck X fin ks
noncomputable def EU (fin:Fl->β)(ks:List K)(base:Nat)(x:Option (AV×St))(d:Option Nat)(w:Bool)(l:List RO)(e:Env):β:=match x with
 |some (v,s)=>bif !w||XM base s l then Jw X fin ks base l (Y8 e d v) s else stuck X fin ks
 |none=>stuck X fin ks
noncomputable def VE (p:Bool)(base:Nat)(at_:Option Nat)(e:Env)(s:St)(op:Sk):Option (AV×St):=bif p then Xu X base at_ e s op else some (undef,s)
def Ug (p:Bool)(x:Option AV)(s:St):Option (AV×St):=bif p then ZA x s else some (undef,s)
noncomputable def Zv (f:FuncId)(args:List AV):Option AV:=open Classical in if h:∃v,∀s,WW X f args s=some (v,s) then some (Classical.choose h) else none
noncomputable def YX (x:Option AV)(f:FuncId)(args:List AV)(s:St):Option (AV×St):=match x with
 |some v=>some (v,s)
 |none=>WW X f args s
noncomputable def S1 (p:Bool)(x:Option AV)(f:FuncId)(args:List AV)(s:St):Option (AV×St):=bif p then YX X x f args s else some (undef,s)
variable (fin:Fl->β)(ks:List K)
theorem NV:∀ks:List K,pop X fin ks none=fin none
 |[]=>rfl
 |.sq b::ks=>NV ks
 |.bk id::ks=>NV ks
 |.lp b::ks=>NV ks
theorem Lh (e:Env)(s:St):∀ks:List K,pop X fin ks (some (.ret,e,s))=fin (some (.ret,e,s))
 |[]=>rfl
 |.sq b::ks=>Lh e s ks
 |.bk id::ks=>Lh e s ks
 |.lp b::ks=>Lh e s ks
theorem vb:stuck X fin ks=fin none:=NV X fin ks
variable (e:Env)(s:St)
theorem jH (a b:RC):go X fin ks (.seq a b) e s=go X fin (.sq b::ks) a e s:=(fun h=>h) rfl
theorem va (id:Nat)(b:RC):go X fin ks (.block id b) e s=go X fin (.bk id::ks) b e s:=(fun h=>h) rfl
theorem u_ (n:Nat)(a b:RC):go X fin ks (.cond (.t n) a b) e s=vd X fin ks (Env.get e n) n a b e s:=by
 simp only[go,den,vd,Yg]
 cases h:Env.get e n <;> try rfl
 rename_i p
 cases p
 ·rw[EW e n false h];rfl
 ·rw[EW e n true h];rfl
theorem zi (n:Nat)(p:Bool)(a b:RC):vd X fin ks (.bool p) n a b e s=br p (go X fin ks a (Tr.set e n (.bool true)) s) (go X fin ks b (Tr.set e n (.bool false)) s):=(fun h=>h) rfl
theorem go_loop (b:RC):go X fin ks (.loop b) e s=Vx X fin ks b e s:=(fun h=>h) rfl
theorem qf (i:Nat):go X fin ks (.exit i) e s=qg X fin ks i e s:=(fun h=>h) rfl
theorem go_ret:go X fin ks .ret e s=fin (some (.ret,e,s)):=Lh X fin e s ks
theorem go_skip:go X fin ks .skip e s=goN X fin ks e s:=(fun h=>h) rfl
theorem jG (l:List RO):go X fin ks (.ops l) e s=mW X fin ks 0 l e s:=(fun h=>h) rfl
theorem xw (n:Nat)(l:List RO):go X fin ks (.Wq n l) e s=bif XM s.next s l then Jw X fin ks s.next l e { s with next:=s.next+n } else stuck X fin ks:=by
 simp only[go,den]
 cases XM s.next s l <;> rfl
theorem qe:goN X fin [] e s=fin (some (.norm,e,s)):=(fun h=>h) rfl
theorem jF (b:RC):goN X fin (.sq b::ks) e s=go X fin ks b e s:=(fun h=>h) rfl
theorem jE (id:Nat):goN X fin (.bk id::ks) e s=goN X fin ks e s:=(fun h=>h) rfl
theorem jD (b:RC):goN X fin (.lp b::ks) e s=Vx X fin ks b e s:=(fun h=>h) rfl
theorem jC (i:Nat)(b:RC):qg X fin (.sq b::ks) i e s=qg X fin ks i e s:=(fun h=>h) rfl
theorem jB (i id:Nat):qg X fin (.bk id::ks) i e s=if i=id then goN X fin ks e s else qg X fin ks i e s:=by
 simp only[qg,pop,goN]
 split <;> rfl
theorem jA (i:Nat)(b:RC):qg X fin (.lp b::ks) i e s=qg X fin ks i e s:=(fun h=>h) rfl
theorem Rd [Stat] (b:RC):Vx X fin ks b e s=go X fin (.lp b::ks) b e s:=by
 simp only[Vx,go,pop];rw[u7]
 all_goals rfl
theorem qc (base:Nat):mW X fin ks base [] e s=goN X fin ks e s:=(fun h=>h) rfl
theorem u6 (base:Nat)(d:Option Nat)(a:Option Nat)(w:Bool)(op:Sk)(l:List RO) :
  mW X fin ks base (⟨d,none,a,w,op⟩::l) e s=CS X fin ks base (Xu X base a e s op) d l e:=by
 simp only[mW,EV,CS,TR,cond_true]
 cases Xu X base a e s op <;> rfl
theorem zh (base:Nat)(d:Option Nat)(t:Nat)(b:Bool)(a:Option Nat)(w:Bool)(op:Sk)(l:List RO) :
  mW X fin ks base (⟨d,some (t,b),a,w,op⟩::l) e s=CS X fin ks base (VE X (OB (Env.get e t) b) base a e s op) d l e:=by
 simp only[mW,EV,CS,VE];have:TR e (some (t,b))=OB (Env.get e t) b:=rfl;rw[this]
 cases (bif OB (Env.get e t) b then Xu X base a e s op else some (undef,s)) <;> rfl
theorem qa (base:Nat):Jw X fin ks base [] e s=goN X fin ks e s:=(fun h=>h) rfl
theorem uZ (base:Nat)(d:Option Nat)(a:Option Nat)(w:Bool)(op:Sk)(l:List RO) :
  Jw X fin ks base (⟨d,none,a,w,op⟩::l) e s=EU X fin ks base (Xu X base a e s op) d w l e:=by
 simp only[Jw,SD,EU,TR,cond_true]
 cases Xu X base a e s op with
 |none=>rfl
 |some x =>
  simp only
  cases w <;> cases XM base x.2 l <;> rfl
theorem zg (base:Nat)(d:Option Nat)(t:Nat)(b:Bool)(a:Option Nat)(w:Bool)(op:Sk)(l:List RO) :
  Jw X fin ks base (⟨d,some (t,b),a,w,op⟩::l) e s=EU X fin ks base (VE X (OB (Env.get e t) b) base a e s op) d w l e:=by
 simp only[Jw,SD,EU,VE];have:TR e (some (t,b))=OB (Env.get e t) b:=rfl;rw[this]
 cases (bif OB (Env.get e t) b then Xu X base a e s op else some (undef,s)) with
 |none=>rfl
 |some x =>
  simp only
  cases w <;> cases XM base x.2 l <;> rfl
theorem zf (base:Nat)(v:AV)(d:Option Nat)(l:List RO):CS X fin ks base (some (v,s)) d l e=mW X fin ks base l (Y8 e d v) s:=(fun h=>h) rfl
theorem CQ (base:Nat)(v:AV)(d:Option Nat)(l:List RO):EU X fin ks base (some (v,s)) d false l e=Jw X fin ks base l (Y8 e d v) s:=(fun h=>h) rfl
theorem CP (base:Nat)(v:AV)(d:Option Nat)(l:List RO):EU X fin ks base (some (v,s)) d true l e=bif XM base s l then Jw X fin ks base l (Y8 e d v) s else stuck X fin ks:=(fun h=>h) rfl
theorem ze (base:Nat):XM base s []=true:=(fun h=>h) rfl
theorem ET (base:Nat)(d:Option Nat)(g:Option (Nat×Bool))(w:Bool)(op:Sk)(l:List RO):XM base s (⟨d,g,none,w,op⟩::l)=XM base s l:=by
 simp[XM]
theorem ES (base i:Nat)(d:Option Nat)(g:Option (Nat×Bool))(w:Bool)(op:Sk)(l:List RO):XM base s (⟨d,g,some i,w,op⟩::l)=((s.get (base+i)).isNone&&XM base s l):=by
 simp[XM]
end
@[congr] theorem jz {X:Cx} {β:Type} {fin:Fl->β} {ks:List K} {base:Nat} {x x':Option (AV×St)} {d:Option Nat} {l:List RO} {e:Env} (h:x=x'):CS X fin ks base x d l e=CS X fin ks base x' d l e:=by rw[h]
@[congr] theorem jy {X:Cx} {β:Type} {fin:Fl->β} {ks:List K} {base:Nat} {x x':Option (AV×St)} {d:Option Nat} {w:Bool} {l:List RO} {e:Env} (h:x=x'):EU X fin ks base x d w l e=EU X fin ks base x' d w l e:=by rw[h]
@[congr] theorem jx {X:Cx} {β:Type} {fin:Fl->β} {ks:List K} {v v':AV} {n:Nat} {a b:RC} {e:Env} {s:St} (h:v=v'):vd X fin ks v n a b e s=vd X fin ks v' n a b e s:=by rw[h]
@[congr] theorem mV {X:Cx} {p p':Bool} {base:Nat} {at_:Option Nat} {e:Env} {s:St} {op:Sk} (h:p=p'):VE X p base at_ e s op=VE X p' base at_ e s op:=by rw[h]
@[congr] theorem mU {p p':Bool} {x x':Option AV} {s:St} (h:p=p') (hx:p'=true->x=x'):Ug p x s=Ug p' x' s:=by
 subst h
 cases p
 ·rfl
 ·rw[hx rfl]
@[congr] theorem mT {X:Cx} {p p':Bool} {x x':Option AV} {f:FuncId} {args:List AV} {s:St} (h:p=p') (hx:p'=true->x=x'):S1 X p x f args s=S1 X p' x' f args s:=by
 subst h
 cases p
 ·rfl
 ·rw[hx rfl]
@[congr] theorem mS {X:Cx} {x x':Option AV} {f:FuncId} {args:List AV} {s:St} (h:x=x'):YX X x f args s=YX X x' f args s:=by rw[h]
theorem CO (X:Cx)(base:Nat)(at_:Option Nat)(e:Env)(s:St)(op:Sk):VE X true base at_ e s op=Xu X base at_ e s op:=(fun h=>h) rfl
theorem ER (X:Cx)(base:Nat)(at_:Option Nat)(e:Env)(s:St)(op:Sk):VE X false base at_ e s op=some (undef,s):=(fun h=>h) rfl
theorem CN (p:Bool)(v:AV)(s:St):Ug p (some v) s=some (bif p then v else undef,s):=by cases p <;> rfl
theorem CM (X:Cx)(p:Bool)(v:AV)(f:FuncId)(args:List AV)(s:St):S1 X p (some v) f args s=some (bif p then v else undef,s):=by cases p <;> rfl
theorem Kn (X:Cx)(v:AV)(f:FuncId)(args:List AV)(s:St):YX X (some v) f args s=some (v,s):=(fun h=>h) rfl
theorem A1 {X:Cx}{f:FuncId}{args:List AV}{v:AV}(h:∀s,WW X f args s=some (v,s)):Zv X f args=some v:=by
 unfold Zv;have hx:∃v,∀s,WW X f args s=some (v,s):=⟨v,h⟩;rw[dif_pos hx];have h1:=Classical.choose_spec hx (YH X);rw[h (YH X)] at h1
 cases h1;rfl
theorem G_ {X:Cx}{f:FuncId}{args:List AV}{v:AV}(h:Zv X f args=some v)(s:St):WW X f args s=some (v,s):=by
 unfold Zv at h
 split at h
 ·rename_i hx
  cases h
  exact Classical.choose_spec hx s
 ·cases h
theorem Zu (X:Cx)(f:FuncId)(args:List AV)(s:St):WW X f args s=YX X (Zv X f args) f args s:=by
 unfold YX
 split
 ·rename_i v h;exact G_ h s
 ·rfl
theorem cond_not {α:Type}(p:Bool)(x y z:α):(bif p then x else bif !p then y else z)=bif p then x else y:=by cases p <;> rfl
theorem Ke (p q:Bool):(bif p then true else q)=(p||q):=by cases p <;> rfl
section
variable (X:Cx)
theorem CL (p:Bool):OB (.bool p) true=p:=by cases p <;> rfl
theorem EP (p:Bool):OB (.bool p) false=!p:=by cases p <;> rfl
theorem aC (e:Env)(n:Nat):Yg e (.t n)=Env.get e n:=(fun h=>h) rfl
theorem aB (e:Env)(a:AV):Yg e (.v a)=a:=(fun h=>h) rfl
theorem p_ (e:Env)(k j:Nat)(x:AV):Env.get (Tr.set e k x) j=if k=j then x else Env.get e j:=Env.Ux e k j x
theorem EO (e:Env)(d:Nat)(v:AV):Y8 e (some d) v=Tr.set e d v:=(fun h=>h) rfl
theorem EN (e:Env)(v:AV):Y8 e none v=e:=(fun h=>h) rfl
theorem uY (i:Nat)(e:Env):ZM i [] e=e:=(fun h=>h) rfl
theorem zd (i:Nat)(v:AV)(l:List AV)(e:Env):ZM i (v::l) e=ZM (i+1) l (Tr.set e i v):=(fun h=>h) rfl
variable (base:Nat)(at_:Option Nat)(e:Env)(s:St)
theorem pZ (x:XU):Xu X base at_ e s (.Z1 x)=some (Yg e x,s):=(fun h=>h) rfl
theorem uX (c a b:XU):Xu X base at_ e s (.pick c a b)=ZA (AH (Yg e c) (Yg e a) (Yg e b)) s:=(fun h=>h) rfl
theorem jw (z:List AV)(t:TypeId):Xu X base none e s (.al z t)=some (.ptr s.next 0,s.new (.cells z t false 0 0)):=(fun h=>h) rfl
theorem zb (i:Nat)(z:List AV)(t:TypeId):Xu X base (some i) e s (.al z t)=some (.ptr (base+i) 0,s.put (base+i) (.cells z t false 0 0)):=(fun h=>h) rfl
theorem pY (t:TypeId)(x:XU):Xu X base none e s (.box t x)=some (.ptr s.next 0,s.new (.cells (Yg e x).cells t false 0 0)):=(fun h=>h) rfl
theorem CK (i:Nat)(t:TypeId)(x:XU):Xu X base (some i) e s (.box t x)=some (.ptr (base+i) 0,s.put (base+i) (.cells (Yg e x).cells t false 0 0)):=(fun h=>h) rfl
theorem pX (x:XU):Xu X base at_ e s (.Zk x)=ZA (Zk (Yg e x) s) s:=(fun h=>h) rfl
theorem pW (n:Nat)(x:XU):Xu X base at_ e s (.UL n x)=ZA (UL n (Yg e x) s) s:=(fun h=>h) rfl
theorem jv (n:Nat)(a x:XU):Xu X base at_ e s (.st n a x)=Ro (st n (Yg e a) (Yg e x) s):=(fun h=>h) rfl
theorem ju (o:Nat)(x:XU):Xu X base at_ e s (.fa o x)=ZA (fG o (Yg e x)) s:=(fun h=>h) rfl
theorem pV (op:BinOp)(t:TypeId)(cst:Bool)(x y:XU):Xu X base at_ e s (.bin op t cst x y)=ZA (X_ X op t cst (Yg e x) (Yg e y)) s:=(fun h=>h) rfl
theorem pU (x:XU)(i:Nat):Xu X base at_ e s (.ext x i)=ZA (pT (Yg e x) i) s:=(fun h=>h) rfl
theorem uW (f:FuncId)(args:List XU):Xu X base at_ e s (.call f args)=YX X (Zv X f (QZ e args)) f (QZ e args) s:=Zu X f (QZ e args) s
theorem za (f:XU)(args:List XU):Xu X base at_ e s (.VW f args)=G4 X (Yg e f) (QZ e args) s:=(fun h=>h) rfl
theorem jt (op:UnOp)(x:XU):Xu X base at_ e s (.un op x)=ZA (kF op (Yg e x)) s:=(fun h=>h) rfl
theorem uV (x:XU):Xu X base at_ e s (.pS x)=ZA (AG (Yg e x)) s:=(fun h=>h) rfl
theorem uU (x:XU):Xu X base at_ e s (.Zf x)=ZA (U7 (Yg e x)) s:=(fun h=>h) rfl
theorem pR (n:Nat)(x i:XU):Xu X base at_ e s (.XV n x i)=ZA (UT n (Yg e x) (Yg e i)) s:=(fun h=>h) rfl
theorem pQ (l n:Nat)(x i:XU):Xu X base at_ e s (.xV l n x i)=ZA (y_ l n (Yg e x) (Yg e i)) s:=(fun h=>h) rfl
theorem pP (n:Nat)(x:XU)(lo hi:Option XU):Xu X base at_ e s (.fK n x lo hi)=ZA (EM n (Yg e x) (MX e lo) (MX e hi)) s:=(fun h=>h) rfl
def GO (x:Option (List AV)):Option AV:=x.map .agg
theorem GN (c:List AV):GO (some c)=some (.agg c):=(fun h=>h) rfl
theorem pO (z:List AV)(ps:List (Nat×Nat×XU)):Xu X base at_ e s (.JE z ps)=ZA (GO (TQ e z ps)) s:=(fun h=>h) rfl
def uT (x:Option (List AV))(k:List AV->Option (AV×St)):Option (AV×St):=match x with
 |some c=>k c
 |none=>none
theorem yZ (c:List AV)(k:List AV->Option (AV×St)):uT (some c) k=k c:=(fun h=>h) rfl
theorem pN (t:TypeId)(n len:Nat)(z:List AV)(ps:List (Nat×Nat×XU)):Xu X base none e s (.VC t n len z ps)=uT (TQ e z ps) fun c=>some (.sl s.next 0 len (some len) n,s.new (.cells c t false 0 0)):=by
 simp only[Xu,uT];rfl
theorem CJ (i:Nat)(t:TypeId)(n len:Nat)(z:List AV)(ps:List (Nat×Nat×XU)):Xu X base (some i) e s (.VC t n len z ps)=uT (TQ e z ps) fun c=>some (.sl (base+i) 0 len (some len) n,s.put (base+i) (.cells c t false 0 0)):=by
 simp only[Xu,uT];rfl
theorem pM (t:TypeId)(n b:Nat)(d x:XU):Xu X base at_ e s (.app t n b d x)=yY t n b (Yg e d) (Yg e x) s:=(fun h=>h) rfl
theorem pL (f:FuncId)(a b:List XU):Xu X base at_ e s (.gg f a b)=some (.fn (.func f) (QZ e a) (QZ e b),s):=(fun h=>h) rfl
theorem uR (z:List AV):TQ e z []=some z:=(fun h=>h) rfl
def jq (x:Option (List AV))(k:List AV->Option (List AV)):Option (List AV):=match x with
 |some c=>k c
 |none=>none
theorem yX (c:List AV)(k:List AV->Option (List AV)):jq (some c) k=k c:=(fun h=>h) rfl
theorem yW (z:List AV)(off n:Nat)(x:XU)(l:List (Nat×Nat×XU)):TQ e z ((off,n,x)::l)=if (Yg e x).cells.length=n/\off+n<=z.length then jq (lay off (Yg e x).cells z) (fun c=>TQ e c l) else none:=by
 simp only[TQ,jq];rfl
theorem uQ (l:List UInt8):AG (.str l)=some (.int .i64 l.length):=(fun h=>h) rfl
theorem yV:U7 .ZR=some (.int .i64 0):=(fun h=>h) rfl
theorem pK (b o n:Nat)(c:Option Nat)(z:Nat):U7 (.sl b o n c z)=some (.int .i64 n):=(fun h=>h) rfl
theorem pJ (es:List AV):U7 (.fz es)=some (.int .i64 es.length):=(fun h=>h) rfl
theorem jo (p:Bool):kF .not (.bool p)=some (.bool !p):=(fun h=>h) rfl
theorem yU:MX e none=none:=(fun h=>h) rfl
theorem yT (x:XU):MX e (some x)=some (Yg e x):=(fun h=>h) rfl
theorem uO (p:Bool)(x:XU):VE X p base at_ e s (.Z1 x)=Ug p (some (Yg e x)) s:=(fun h=>h) rfl
theorem uN (p:Bool)(x:XU):VE X p base at_ e s (.Zk x)=Ug p (Zk (Yg e x) s) s:=(fun h=>h) rfl
theorem uM (p:Bool)(n:Nat)(x:XU):VE X p base at_ e s (.UL n x)=Ug p (UL n (Yg e x) s) s:=(fun h=>h) rfl
theorem pI (p:Bool)(o:Nat)(x:XU):VE X p base at_ e s (.fa o x)=Ug p (fG o (Yg e x)) s:=(fun h=>h) rfl
theorem uL (p:Bool)(op:BinOp)(t:TypeId)(cst:Bool)(x y:XU):VE X p base at_ e s (.bin op t cst x y)=Ug p (X_ X op t cst (Yg e x) (Yg e y)) s:=(fun h=>h) rfl
theorem pH (p:Bool)(op:UnOp)(x:XU):VE X p base at_ e s (.un op x)=Ug p (kF op (Yg e x)) s:=(fun h=>h) rfl
theorem yS (p:Bool)(x:XU):VE X p base at_ e s (.Zf x)=Ug p (U7 (Yg e x)) s:=(fun h=>h) rfl
theorem uK (p:Bool)(n:Nat)(x i:XU):VE X p base at_ e s (.XV n x i)=Ug p (UT n (Yg e x) (Yg e i)) s:=(fun h=>h) rfl
theorem uJ (p:Bool)(l n:Nat)(x i:XU):VE X p base at_ e s (.xV l n x i)=Ug p (y_ l n (Yg e x) (Yg e i)) s:=(fun h=>h) rfl
theorem uI (p:Bool)(z:List AV)(ps:List (Nat×Nat×XU)):VE X p base at_ e s (.JE z ps)=Ug p (GO (TQ e z ps)) s:=(fun h=>h) rfl
theorem yR (p:Bool)(f:FuncId)(args:List XU):VE X p base at_ e s (.call f args)=S1 X p (Zv X f (QZ e args)) f (QZ e args) s:=by
 cases p
 ·rfl
 ·exact Zu X f (QZ e args) s
theorem pG (o:Op):Xu X base none e s (.raw o)=Zb X (Y0 X) e o s:=(fun h=>h) rfl
theorem uH (e:Env):QZ e []=[]:=(fun h=>h) rfl
theorem yQ (e:Env)(x:XU)(l:List XU):QZ e (x::l)=Yg e x::QZ e l:=(fun h=>h) rfl
theorem pF (v:AV)(s:St):ZA (some v) s=some (v,s):=(fun h=>h) rfl
theorem pE (s:St):Ro (some s)=some (undef,s):=(fun h=>h) rfl
theorem jn (p:Bool)(a b:AV):AH (.bool p) a b=some (bif p then a else b):=(fun h=>h) rfl
theorem yP (p a b:Bool):(bif p then AV.bool a else .bool b)=.bool (bif p then a else b):=by cases p <;> rfl
theorem pD (vs:List AV)(i:Nat):pT (.X' vs) i=vs[i]? := (fun h=>h) rfl
theorem jm (o b o':Nat):fG o (.ptr b o')=some (.ptr b (o'+o)):=(fun h=>h) rfl
theorem aA (o:Nat)(c:List AV)(o':Nat):fG o (.fp c o')=some (.fp c (o'+o)):=(fun h=>h) rfl
theorem pC (b o:Nat)(s:St):Zk (.ptr b o) s=cell s b o:=(fun h=>h) rfl
theorem jl (c:List AV)(o:Nat)(s:St):Zk (.fp c o) s=c[o]? := (fun h=>h) rfl
theorem pB (t:TypeId)(cst:Bool)(k:IntKind)(a b:Int):X_ X .lss t cst (.int k a) (.int k b)=some (.bool (decide (a<b))):=by simp[X_,RH]
theorem pA (t:TypeId)(cst:Bool)(k:IntKind)(a b:Int):X_ X .leq t cst (.int k a) (.int k b)=some (.bool (decide (a<=b))):=by simp[X_,RH]
theorem pz (t:TypeId)(cst:Bool)(k:IntKind)(a b:Int):X_ X .gtr t cst (.int k a) (.int k b)=some (.bool (decide (a>b))):=by simp[X_,RH]
theorem py (t:TypeId)(cst:Bool)(k:IntKind)(a b:Int):X_ X .geq t cst (.int k a) (.int k b)=some (.bool (decide (a>=b))):=by simp[X_,RH]
theorem px (t:TypeId)(cst:Bool)(k:IntKind)(a b:Int):X_ X .eql t cst (.int k a) (.int k b)=some (.bool (a==b)):=by simp[X_,RH]
theorem pq (t:TypeId)(cst:Bool)(k:IntKind)(a b:Int):X_ X .neq t cst (.int k a) (.int k b)=some (.bool (a != b)):=by simp[X_,RH]
theorem po (t:TypeId)(cst:Bool)(k:IntKind)(a b:Int):X_ X .add t cst (.int k a) (.int k b)=some (.int k (k.wrap (a+b))):=by simp[X_,RH]
theorem pn (t:TypeId)(cst:Bool)(k:IntKind)(a b:Int):X_ X .sub t cst (.int k a) (.int k b)=some (.int k (k.wrap (a-b))):=by simp[X_,RH]
theorem pk (t:TypeId)(cst:Bool)(k:IntKind)(a b:Int):X_ X .mul t cst (.int k a) (.int k b)=some (.int k (k.wrap (a*b))):=by simp[X_,RH]
def cellsOf (b:Option UK):Option (List AV):=match b with
 |some (.cells c _ _ _ _)=>some c
 |_=>none
def cellOf (b:Option UK)(o:Nat):Option AV:=match b with
 |some (.cells c _ _ _ _)=>c[o]?
 |_=>none
theorem MW (s:St)(b:Nat):s.cells b=cellsOf (s.get b):=by unfold St.cells cellsOf;rfl
theorem uG (s:St)(b o:Nat):cell s b o=cellOf (s.get b) o:=by
 unfold cell St.cells cellOf
 cases s.get b with
 |none=>rfl
 |some x=>cases x <;> rfl
theorem GM (c:List AV)(t:TypeId)(r:Bool)(lo hi:Nat):cellsOf (some (.cells c t r lo hi))=some c:=(fun h=>h) rfl
theorem EL (c:List AV)(t:TypeId)(r:Bool)(lo hi o:Nat):cellOf (some (.cells c t r lo hi)) o=c[o]? := (fun h=>h) rfl
theorem ZZ (s:St)(j:Nat)(x:UK):(s.new x).get j=if s.next=j then some x else s.get j:=St.ZZ s j x
theorem Z7 (s:St)(k j:Nat)(x:UK):(s.put k x).get j=if k=j then some x else s.get j:=St.Z7 s k j x
theorem Z' (s:St)(x:UK):(s.new x).next=s.next+1:=(fun h=>h) rfl
theorem Z9 (s:St)(k:Nat)(x:UK):(s.put k x).next=s.next:=(fun h=>h) rfl
theorem K6 (X:Cx):(YH X).next=X.glob:=(fun h=>h) rfl
theorem HJ (X:Cx)(j:Nat):(YH X).get j=X.O_ j:=by
 unfold YH St.get;rfl
def Ii (x:Option (List AV)):Option AV:=match x with
 |some r=>some (.agg r)
 |none=>none
theorem CH (r:List AV):Ii (some r)=some (.agg r):=(fun h=>h) rfl
def jk (n o:Nat)(x:Option (List AV)):Option AV:=match x with
 |some c=>Ii (YB n o c)
 |none=>none
theorem yO (n o:Nat)(c:List AV):jk n o (some c)=Ii (YB n o c):=(fun h=>h) rfl
theorem pj (n b o:Nat)(s:St):UL n (.ptr b o) s=jk n o (cellsOf (s.get b)):=by
 rw[<-MW];simp only[UL,jk,Ii];rfl
theorem jj (n:Nat)(c:List AV)(o:Nat)(s:St):UL n (.fp c o) s=Ii (YB n o c):=by
 simp only[UL,Ii];rfl
def ph (x:Option (List AV))(k:List AV->Option St):Option St:=match x with
 |some c=>k c
 |none=>none
theorem yN (c:List AV)(k:List AV->Option St):ph (some c) k=k c:=(fun h=>h) rfl
def wrC (s:St)(b o:Nat)(vs:List AV)(x:Option UK):Option St:=match x with
 |some (.cells c e false RA Ss)=>if (o+vs.length<=RA||Ss<=o)&&vs.all Zw then ph (lay o vs c) fun c'=>some (s.put b (.cells c' e false RA Ss)) else none
 |_=>none
theorem yM (s:St)(b o:Nat)(vs c:List AV)(e:TypeId)(RA Ss:Nat) :
  wrC s b o vs (some (.cells c e false RA Ss))=if (o+vs.length<=RA||Ss<=o)&&vs.all Zw then ph (lay o vs c) fun c'=>some (s.put b (.cells c' e false RA Ss)) else none:=rfl
theorem QY (s:St)(b o:Nat)(vs:List AV):Yi s b o vs=wrC s b o vs (s.get b):=by
 unfold Yi wrC ph;rfl
theorem ji (n b o:Nat)(v:AV)(s:St):st n (.ptr b o) v s=if v.cells.length=n then wrC s b o v.cells (s.get b) else none:=by
 simp only[st,QY]
theorem Ih (c:List AV):AV.cells (.agg c)=c:=(fun h=>h) rfl
theorem yL (k:IntKind)(n:Int):AV.cells (.int k n)=[.int k n]:=(fun h=>h) rfl
theorem CG (b:Bool):AV.cells (.bool b)=[.bool b]:=(fun h=>h) rfl
theorem yK (b:List UInt8):AV.cells (.str b)=[.str b]:=(fun h=>h) rfl
theorem uF (b o n:Nat)(c:Option Nat)(z:Nat):AV.cells (.sl b o n c z)=[.sl b o n c z]:=(fun h=>h) rfl
theorem GZ (o:Nat)(l:List AV):lay o [] l=some l:=by cases o <;> cases l <;> rfl
theorem Oh (v:AV)(vs:List AV)(x:AV)(l:List AV):lay 0 (v::vs) (x::l)=(lay 0 vs l).map (v::·):=by
 simp only[lay];cases lay 0 vs l <;> rfl
theorem Og (o:Nat)(v:AV)(vs:List AV)(x:AV)(l:List AV):lay (o+1) (v::vs) (x::l)=(lay o (v::vs) l).map (x::·):=by
 simp only[lay];cases lay o (v::vs) l <;> rfl
theorem Wh (o:Nat)(l:List AV):YB 0 o l=some []:=by cases o <;> cases l <;> rfl
theorem Wi (n:Nat)(x:AV)(l:List AV):YB (n+1) 0 (x::l)=(YB n 0 l).map (x::·):=by
 simp only[YB];cases YB n 0 l <;> rfl
theorem Ig (n o:Nat)(x:AV)(l:List AV):YB (n+1) (o+1) (x::l)=YB (n+1) o l:=(fun h=>h) rfl
theorem yJ (k:IntKind)(n:Int):Zw (.int k n)=true:=(fun h=>h) rfl
theorem CF (b:Bool):Zw (.bool b)=true:=(fun h=>h) rfl
theorem uE (b:List AV):Zw (.fz b)=true:=(fun h=>h) rfl
theorem CD:Zw .ZR=true:=(fun h=>h) rfl
theorem uD (b o n:Nat)(c:Option Nat)(z:Nat):Zw (.sl b o n c z)=true:=(fun h=>h) rfl
theorem pg (l n b o:Nat)(k:IntKind)(i:Int):y_ l n (.ptr b o) (.int k i)=if 0<=i/\i.toNat<l then some (.ptr b (o+i.toNat*n)) else none:=by
 simp only[y_];congr 1;apply propext;omega
theorem jh (n b o len:Nat)(c:Option Nat)(z:Nat)(k:IntKind)(i:Int):UT n (.sl b o len c z) (.int k i)=if 0<=i/\i.toNat<len then some (.ptr b (o+i.toNat*n)) else none:=by
 simp only[UT];congr 1;apply propext;omega
def ixF (n:Nat)(x:Option AV):Option AV:=match x with
 |some x=>if x.cells.length=n/\n≠0 then some (.fp x.cells 0) else none
 |none=>none
theorem uC (n:Nat)(x:AV):ixF n (some x)=if x.cells.length=n/\n≠0 then some (.fp x.cells 0) else none:=(fun h=>h) rfl
theorem uz (n:Nat)(es:List AV)(k:IntKind)(i:Int):UT n (.fz es) (.int k i)=if 0<=i then ixF n es[i.toNat]? else none:=by
 simp only[UT,ixF];rfl
noncomputable def XZ (rs:List ResultVar)(x:Fl):Option (AV×St):=match x with
 |some (.exit _,_,_)=>none
 |some (_,e,s)=>match Yy X e s rs with
  |some [v]=>some (v,s)
  |some vs=>some (.X' vs,s)
  |none=>none
 |none=>none
def GX (x:Option (AV×St)):Option AV:=match x with
 |some (v,s')=>YG X s' T4 v
 |none=>none
noncomputable def VZ (rs:List ResultVar)(x:Fl):Option AV:=GX X (XZ X rs x)
def mR (s:St)(x:Option (List AV)):Option (AV×St):=match x with
 |some [v]=>some (v,s)
 |some vs=>some (.X' vs,s)
 |none=>none
theorem pf (s:St)(v:AV):mR s (some [v])=some (v,s):=(fun h=>h) rfl
theorem pd (s:St)(v u:AV)(l:List AV):mR s (some (v::u::l))=some (.X' (v::u::l),s):=(fun h=>h) rfl
theorem uy (s:St):mR s (some [])=some (.X' [],s):=(fun h=>h) rfl
theorem EK (rs:List ResultVar)(e:Env)(s:St):XZ X rs (some (.ret,e,s))=mR s (Yy X e s rs):=by
 simp only[XZ,mR]
theorem yI (rs:List ResultVar)(e:Env)(s:St):XZ X rs (some (.norm,e,s))=mR s (Yy X e s rs):=by
 simp only[XZ,mR]
theorem ux (rs:List ResultVar)(e:Env)(s:St):VZ X rs (some (.ret,e,s))=GX X (mR s (Yy X e s rs)):=by
 simp only[VZ,EK]
theorem yH (v:AV)(s:St):GX X (some (v,s))=YG X s 40 v:=(fun h=>h) rfl
def CB (v:Option AV)(x:Option (List AV)):Option (List AV):=match v,x with
 |some v,some vs=>some (v::vs)
 |_,_=>none
theorem yG (v:AV)(vs:List AV):CB (some v) (some vs)=some (v::vs):=(fun h=>h) rfl
theorem pc (e:Env)(s:St):Yy X e s []=some []:=(fun h=>h) rfl
theorem pa (e:Env)(s:St)(t:Nat)(l:List ResultVar):Yy X e s (.tmp t::l)=CB (some (Env.get e t)) (Yy X e s l):=by
 simp only[Yy,Qt,CB];rfl
theorem uw (e:Env)(s:St)(a:Nat)(t:TypeId)(l:List ResultVar):Yy X e s (.cell a t::l)=CB (Vd X t (Env.get e a) s) (Yy X e s l):=by
 simp only[Yy,Qt,CB];rfl
theorem BO {t:TypeId}{n:Nat}(ht:YZ X t=some true)(hn:size X t=some n)(a:AV)(s:St):Vd X t a s=UL n a s:=by
 cases a with
 |ptr b o =>
  simp only[Vd,UL,ht,hn]
  cases s.cells b with
  |none=>rfl
  |some c=>cases YB n o c <;> rfl
 |fp c o =>
  simp only[Vd,UL,ht,hn]
  cases YB n o c <;> rfl
 |_=>rfl
theorem o_ (s:St)(d:Nat)(k:IntKind)(n:Int):YG X s (d+1) (.int k n)=some (.int k n):=(fun h=>h) rfl
theorem uv (s:St)(d:Nat)(b:Bool):YG X s (d+1) (.bool b)=some (.bool b):=(fun h=>h) rfl
theorem o9 (s:St)(d:Nat)(b:List UInt8):YG X s (d+1) (.str b)=some (.str b):=(fun h=>h) rfl
theorem uu (s:St)(d:Nat):YG X s (d+1) .ZR=some .ZR:=(fun h=>h) rfl
theorem jg (s:St)(d:Nat)(l:List AV):YG X s (d+1) (.fz l)=some (.fz l):=(fun h=>h) rfl
def jf (x:Option (List AV)):Option AV:=x.map .agg
def je (x:Option (List AV)):Option AV:=x.map .X'
theorem yF (l:List AV):jf (some l)=some (.agg l):=(fun h=>h) rfl
theorem yE (l:List AV):je (some l)=some (.X' l):=(fun h=>h) rfl
theorem HD (s:St)(d:Nat)(l:List AV):YG X s (d+1) (.agg l)=jf (Zg (YG X s d) l):=by
 simp only[YG,jf];cases Zg (YG X s d) l <;> rfl
theorem Bf (s:St)(d:Nat)(l:List AV):YG X s (d+1) (.X' l)=je (Zg (YG X s d) l):=by
 simp only[YG,je];cases Zg (YG X s d) l <;> rfl
theorem ur (f:AV->Option AV):Zg f []=some []:=(fun h=>h) rfl
theorem Ie (f:AV->Option AV)(x:AV)(l:List AV):Zg f (x::l)=CB (f x) (Zg f l):=by
 simp only[Zg,CB];rfl
theorem Km [Stat] {f:FuncId}{fn:Func}{c:Code}{r:RC}{rs:List ResultVar}(hf:X.fn f=some fn)(hb:fn.body=some c)(xS:fn.results.toList=rs)(hr:rc X c=r){args:List AV}{s:St}{x:AV×St}
  (h:go X (XZ X rs) [] r (ZM 0 args .nil) s=some x):P7 X (Y0 X) f args s=some x:=by
 unfold P7;rw[hf];simp only[hb];have h:XZ X rs (den X r (ZM 0 args .nil) s)=some x:=h;rw[<-hr] at h;unfold XZ at h
 split at h
 ·cases h
 ·rename_i o e' s' ZQ hd;rw[yD c _ _ _ hd];have Kc:Wu X fn e' s'=(match Yy X e' s' rs with|some [v]=>some v|some vs=>some (.X' vs)|none=>none):=by
   unfold Wu;rw[xS];rfl
  cases o with
  |exit i=>exact absurd rfl (ZQ i)
  |norm =>
   simp only[Kc]
   split at h <;> rename_i hx <;> simp only[hx] <;> first|(cases h;rfl)|exact h
  |ret =>
   simp only[Kc]
   split at h <;> rename_i hx <;> simp only[hx] <;> first|(cases h;rfl)|exact h
 ·cases h
theorem uq [Stat] {f:FuncId}{fn:Func}{c:Code}{r:RC}{rs:List ResultVar}(hx:X.ext f=none)(hp:X.pure f=true)(hf:X.fn f=some fn)(hb:fn.body=some c)(xS:fn.results.toList=rs)(hr:rc X c=r){args:List AV}(Xg:ZK args=true){v:AV}
  (h:go X (VZ X rs) [] r (ZM 0 args .nil) (YH X)=some v)(s:St):WW X f args s=some (v,s):=by
 have h:GX X (XZ X rs (den X r (ZM 0 args .nil) (YH X)))=some v:=h
 cases hd:XZ X rs (den X r (ZM 0 args .nil) (YH X)) with
 |none=>rw[hd] at h;simp[GX] at h
 |some x =>
  rw[hd] at h;have:=Km X hf hb xS hr (args:=args) (s:=YH X) (x:=x) hd;unfold WW Wa;rw[hx];simp only[hp,if_true,Rm,Yb,Xg,YV,this];simp only[GX] at h;rw[h]
theorem zq [Stat] {f:FuncId}{fn:Func}{c:Code}{r:RC}{rs:List ResultVar}(hx:X.ext f=none)(hp:X.pure f=true)(hf:X.fn f=some fn)(hb:fn.body=some c)(xS:fn.results.toList=rs)(hr:rc X c=r){args:List AV}(Xg:ZK args=true){v:AV}
  (h:go X (VZ X rs) [] r (ZM 0 args .nil) (YH X)=some v):Zv X f args=some v:=A1 (uq X hx hp hf hb xS hr Xg h)
end
theorem jd {α:Type}(x y:α):(bif true then x else y)=x:=(fun h=>h) rfl
theorem o8 {α:Type}(x y:α):(bif false then x else y)=y:=(fun h=>h) rfl
theorem uk {α:Type}(x:α)(l:List α):(x::l)[0]? = some x:=(fun h=>h) rfl
theorem ui {α:Type}(x:α)(l:List α)(n:Nat):(x::l)[n+1]? = l[n]? := (fun h=>h) rfl
theorem uh {α:Type}(x:α)(l:List α):(x::l).length=l.length+1:=(fun h=>h) rfl
theorem len_nil {α:Type}:([]:List α).length=0:=(fun h=>h) rfl
theorem ja {α β:Type}(f:α->β)(x:α):(some x).map f=some (f x):=(fun h=>h) rfl
theorem yC {α:Type}(p:α->Bool)(x:α)(l:List α):(x::l).all p=(p x&&l.all p):=(fun h=>h) rfl
theorem ug {α:Type}(p:α->Bool):([]:List α).all p=true:=(fun h=>h) rfl
theorem yB {h:Decidable False}:@decide False h=false:=by cases h with|isFalse _=>rfl|isTrue h=>exact h.elim
theorem uf {h:Decidable True}:@decide True h=true:=by cases h with|isFalse h=>exact (h trivial).elim|isTrue _=>rfl
theorem yA (p:Bool):(p||true)=true:=by cases p <;> rfl
theorem CA (p:Bool):(p&&true)=p:=by cases p <;> rfl
theorem Cz:(!true)=false:=(fun h=>h) rfl
theorem EJ:(!false)=true:=(fun h=>h) rfl
theorem Cy (n:Nat):n+0=n:=(fun h=>h) rfl
theorem o6 (n:Nat):((n:Int)).toNat=n:=(fun h=>h) rfl
attribute [go_sem ↓] WJ Zh vb jH va u_ go_loop qf go_ret go_skip jG xw qe jF jE jD jC jB jA qc u6 zh qa uZ zg zf CQ CP ze ET ES CO ER aC aB p_ EO EN uY zd pZ uX jw zb pY CK pX pW jv ju pV pU uW za jt uV uU pR pQ pP pO pN CJ pM pL uR yW yU yT uO uN uM pI uL pH yS uK uJ uI yR pG uH yQ MW uG ZZ Z7 Z' Z9 K6 HJ QY ji EK yI ux yH pc pa uw o_ uv o9 uu jg HD Bf jd o8
attribute [go_sem] yB uf ne_eq not_false_eq_true qh zi CN CM Kn cond_not Ke CL EP GN yZ yX uQ yV pK pJ jo pF pE jn yP pD jm aA pC jl pB pA pz py px pq po pn pk GM EL CH yO pj jj yN yM Ih yL CG yK uF GZ Oh Og Wh Wi Ig yJ CF uE CD uD pg jh uC uz pf pd uy yG yF yE ur Ie uk ui uh len_nil ja yA CA Cz EJ Cy o6 yC ug Nat.reduceEqDiff Nat.reduceAdd Nat.reduceMul Bool.not_not ae5 decide_true Bool.and_self Int.reduceLT Int.reduceLE Int.reduceToNat Nat.zero_mul ad4 and_self true_and and_true Nat.reduceLT Nat.reduceLeDiff Int.natCast_nonneg Nat.lt_add_one
theorem ac8 {α:Sort _}{c:Prop} [Decidable c] {a b:α}(h:c):ite c a b=a:=if_pos h
theorem ac9 {α:Sort _}{c:Prop} [Decidable c] {a b:α}(h:¬c):ite c a b=b:=if_neg h
attribute [go_sem ↓] ac8 ac9
end Go.Am
namespace Go.Am
open Go
section
variable (X:Cx)(ex:Ex)(e:Env)(s:St)
theorem wC (t:Nat):eval X e (.tmp t)=some (Env.get e t):=(fun h=>h) rfl
theorem wB (k:IntKind)(n:Int):eval X e (.const (.int k n))=some (.int k n):=(fun h=>h) rfl
theorem zG (b:Bool):eval X e (.const (.bool b))=some (.bool b):=(fun h=>h) rfl
def kJ (v:Option AV)(s:St):Option (AV×St):=match v with
 |some (.ptr b o)=>some (.ptr b o,s)
 |some (.fp c o)=>some (.fp c o,s)
 |some (.fn (.func f) x y)=>some (.fn (.func f) x y,s)
 |some (.fn (.yield f) x y)=>some (.fn (.yield f) x y,s)
 |_=>none
theorem G9 (x:Operand):Zb X ex e (.nilCheck x) s=kJ (eval X e x) s:=by
 unfold kJ;simp only[Zb];rfl
theorem wA (b o:Nat):kJ (some (.ptr b o)) s=some (.ptr b o,s):=(fun h=>h) rfl
def nz (a b:Option TypeDesc)(n:Int)(s:St)(r:Option (AV×St)):Option (AV×St):=match a,b with
 |some _,some (.int k)=>some (.int k (k.wrap n),s)
 |_,_=>r
def Ft (a b:Option TypeDesc)(v:Option AV)(s:St)(r:Option (AV×St)):Option (AV×St):=match v with
 |some (.int _ n)=>nz a b n s r
 |_=>r
theorem Fs (a b:TypeId)(x:Operand):Zb X ex e (.convert a b x) s=Ft (X.Zt a) (X.Zt b) (eval X e x) s (Zb X ex e (.convert a b x) s):=by
 unfold Ft
 split
 ·rename_i j n h3;unfold nz
  split
  ·rename_i d k h1 h2;simp only[Zb,h3,T9,h1,h2]
  ·rfl
 ·rfl
theorem zF (d:TypeDesc)(k j:IntKind)(n:Int)(r:Option (AV×St)):Ft (some d) (some (.int k)) (some (.int j n)) s r=some (.int k (k.wrap n),s):=(fun h=>h) rfl
theorem wz (c:Call)(hc:c.callee=.builtin .max)(x y:Operand)(ha:c.args=#[x,y]){k j:IntKind}{n m:Int}(hx:eval X e x=some (.int k n))(hy:eval X e y=some (.int j m)):Zb X ex e (.call c) s=some (.int k (max n m),s):=by
 have h:(if m>n then m else n)=max n m:=by omega
 simp only[Zb,hc,ha,WR,hx,hy,YT,zE,h]
def dc (f:Int->Int->Int)(v u:Option AV)(s:St)(r:Option (AV×St)):Option (AV×St):=match v,u with
 |some (.int k n),some (.int _ m)=>some (.int k (f n m),s)
 |_,_=>r
theorem qL (f:Int->Int->Int)(k j:IntKind)(n m:Int)(r:Option (AV×St)):dc f (some (.int k n)) (some (.int j m)) s r=some (.int k (f n m),s):=(fun h=>h) rfl
theorem qK (x y:Operand)(ts:Array TypeId):Zb X ex e (.call { callee:=.builtin .max,args:=#[x,y],argTypes:=ts }) s=dc max (eval X e x) (eval X e y) s (Zb X ex e (.call { callee:=.builtin .max,args:=#[x,y],argTypes:=ts }) s):=by
 unfold dc
 split
 ·rename_i h1 h2;exact wz X ex e s _ rfl x y rfl h1 h2
 ·rfl
variable {β:Type}(fin:Fl->β)(ks:List K)
theorem zN [Stat] {b:RC}{σ:Type}(m:σ->Nat)(I:σ->Env->St->Prop)(R:σ->β)
  (h:∀(L:RC) (x:σ) (e:Env) (s:St),I x e s->(∀(y:σ) (e':Env) (s':St),m y<m x->I y e' s'->Vx X fin ks L e' s'=R y)->go X fin (.lp L::ks) b e s=R x)
  (x:σ){e:Env}{s:St}(hI:I x e s):Vx X fin ks b e s=R x:=by
 have key:∀(n:Nat) (x:σ) (e:Env) (s:St),m x<n->I x e s->Vx X fin ks b e s=R x:=by
  intro n
  induction n with
  |zero=>intro x e s hn;omega
  |succ n ih =>
   intro x e s hn hI;rw[Rd];exact h b x e s hI (fun y e' s' hm eJ=>ih y e' s' (by omega) eJ)
 exact key _ x e s (Nat.lt_succ_self _) hI
noncomputable def UC (f:FuncId)(us:Option (List AV))(s:St):Option (AV×St):=match us with
 |some us=>match YV X (Y0 X) f us false with
  |some v=>some (v,s)
  |none=>none
 |none=>none
theorem wy {f:FuncId}{args:List AV}(hx:X.ext f=none)(hp:X.pure f=true)(Xg:ZK args=false):YX X (Zv X f args) f args s=UC X f (Zg (YG X s 40) args) s:=by
 rw[<-Zu];unfold WW Wa;rw[hx];simp only[hp,if_true,Rm,Yb,Xg,ae1,if_false,T4,UC];rfl
theorem Yk {f:FuncId}{us:List AV}{v:AV}(h:YV X (Y0 X) f us false=some v):UC X f (some us) s=some (v,s):=by
 simp only[UC,h]
theorem Zo {n:Nat}{f:FuncId}{us:List AV}{st:Bool}{v:AV}(h:YV X (exec X n) f us st=some v):YV X (Y0 X) f us st=some v:=by
 exact (KA (X:=X) f us st).mono _ _ (Fq n) v h
end
@[congr] theorem ny {a a' b b':Option TypeDesc} {v v':Option AV} {s:St} {r:Option (AV×St)} (h1:a=a') (h2:b=b') (h3:v=v'):Ft a b v s r=Ft a' b' v' s r:=by rw[h1,h2,h3]
@[congr] theorem fR {f:Int->Int->Int} {v v' u u':Option AV} {s:St} {r:Option (AV×St)} (h1:v=v') (h2:u=u'):dc f v u s r=dc f v' u' s r:=by rw[h1,h2]
section
variable (X:Cx)(s:St)
theorem zD (k:IntKind)(n:Int):still (.int k n)=true:=by simp[still]
theorem zC (l:List UInt8):still (.str l)=true:=by simp[still]
theorem Dm:still .ZR=true:=by simp[still]
theorem wx (l:List AV):still (.fz l)=true:=by simp[still]
theorem wo (b o n:Nat)(c:Option Nat)(z:Nat):still (.sl b o n c z)=false:=by simp[still]
theorem zB (l:List AV):still (.agg l)=ZK l:=by simp[still]
theorem Dl:ZK []=true:=by simp[ZK]
theorem Fp (x:AV)(l:List AV):ZK (x::l)=(still x&&ZK l):=by simp[ZK]
theorem Fo (p:Bool):(p&&false)=false:=by cases p <;> rfl
def fQ (x:Option (List AV)):Option AV:=x.map .fz
theorem VT (l:List AV):fQ (some l)=some (.fz l):=(fun h=>h) rfl
def db (o:Nat)(x:Option (List AV)):Option AV:=x.map fun c=>.fp c o
theorem wk (o:Nat)(l:List AV):db o (some l)=some (.fp l o):=(fun h=>h) rfl
def fnK (f:FuncId)(x y:Option (List AV)):Option AV:=match x,y with
 |some x,some y=>some (.fn (.func f) x y)
 |_,_=>none
theorem wh (f:FuncId)(x y:List AV):fnK f (some x) (some y)=some (.fn (.func f) x y):=(fun h=>h) rfl
def Fm (d len Xo:Nat)(r:Option (List AV))(ag:Option Bool)(n:Option Nat):Option AV:=match r,ag,n with
 |some r,some ag,some n=>if Xo=n/\n≠0/\(ag=false->n=1/\r.all Zw=true) then fQ (Zg (YG X s d) (Ys ag n len r)) else none
 |_,_,_=>none
def qJ (d o len Xo:Nat)(x:Option UK):Option AV:=match x with
 |some (.cells c e false _ _)=>Fm X s d len Xo (YB (len*Xo) o c) (YZ X e) (size X e)
 |_=>none
def qI (d o:Nat)(x:Option UK):Option AV:=match x with
 |some (.cells c _ false _ _)=>db o (Zg (YG X s d) c)
 |_=>none
theorem WQ (d b o len:Nat)(cap:Option Nat)(Xo:Nat):YG X s (d+1) (.sl b o len cap Xo)=qJ X s d o len Xo (s.get b):=by
 simp only[YG];unfold qJ
 split
 ·rename_i c e lo hi hg;simp only[hg];unfold Fm
  split
  ·rename_i r ag n h1 h2 h3;simp only[h1,h2,h3,fQ]
   split
   ·cases Zg (YG X s d) (Ys ag n len r) <;> rfl
   ·rfl
  ·rename_i TL
   split
   ·rename_i r ag n h1 h2 h3;exact absurd h3 (TL _ _ _ h1 h2)
   ·rfl
 ·rename_i TL
  split
  ·rename_i c e lo hi hg;exact absurd hg (TL _ _ _ _)
  ·rfl
theorem YI (d o len Xo:Nat)(c:List AV)(e:TypeId)(lo hi:Nat):qJ X s d o len Xo (some (.cells c e false lo hi))=Fm X s d len Xo (YB (len*Xo) o c) (YZ X e) (size X e):=(fun h=>h) rfl
theorem Xj (d len:Nat)(r:List AV):Fm X s d len 1 (some r) (some false) (some 1)=if r.all Zw=true then fQ (Zg (YG X s d) (Ys false 1 len r)) else none:=by
 simp only[Fm]
 congr 1
 simp
theorem K4 (d len n:Nat)(r:List AV):Fm X s d len (n+1) (some r) (some true) (some (n+1))=fQ (Zg (YG X s d) (Ys true (n+1) len r)):=by
 simp only[Fm];rw[if_pos];simp
theorem A9 (d b o:Nat):YG X s (d+1) (.ptr b o)=qI X s d o (s.get b):=by
 simp only[YG];unfold qI
 split
 ·rename_i c e lo hi hg;simp only[hg,db]
  cases Zg (YG X s d) c <;> rfl
 ·rename_i TL
  split
  ·rename_i c e lo hi hg;exact absurd hg (TL _ _ _ _)
  ·rfl
theorem Dk (d o:Nat)(c:List AV)(e:TypeId)(lo hi:Nat):qI X s d o (some (.cells c e false lo hi))=db o (Zg (YG X s d) c):=(fun h=>h) rfl
theorem kI (d:Nat)(f:FuncId)(x y:List AV):YG X s (d+1) (.fn (.func f) x y)=fnK f (Zg (YG X s d) x) (Zg (YG X s d) y):=by
 simp only[YG,fnK];rfl
theorem Fk (ag:Bool)(n:Nat)(l:List AV):Ys ag n 0 l=[]:=(fun h=>h) rfl
theorem Dj (k:Nat)(x:AV)(l:List AV):Ys false 1 (k+1) (x::l)=x::Ys false 1 k l:=(fun h=>h) rfl
theorem PR (n k:Nat)(l:List AV):Ys true n (k+1) l=.agg (l.take n)::Ys true n k (l.drop n):=by
 simp only[Ys]
theorem Yw:∀l:List AV,Ys false 1 l.length l=l
 |[]=>rfl
 |x::l=>by
  show x::Ys false 1 l.length l=_;rw[Yw l]
theorem XG:∀l:List AV,YB l.length 0 l=some l
 |[]=>rfl
 |x::l=>by
  show YB (l.length+1) 0 (x::l)=_;simp only[YB,XG l]
end
attribute [go_sem ↓] wC wB zG WQ A9 kI G9 Fs qK Fk Dj
attribute [go_sem] wA zF qL VT wk wh YI Xj K4 Dk PR zD zC Dm wx wo zB Dl Fp Fo List.take_succ_cons List.take_zero List.drop_succ_cons afJ
end Go.Am
