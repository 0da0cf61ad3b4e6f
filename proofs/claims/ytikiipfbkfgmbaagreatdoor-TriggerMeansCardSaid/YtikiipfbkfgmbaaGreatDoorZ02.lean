/- A part of the proof of a statement of this seat: the machine on which the program is read, and what it computes; for every input. -/
import Derived.Test.YtikiipfbkfgmbaaGreatDoorZ01
set_option linter.all false
namespace Go.Am
open Go
theorem pW {α:Type}:∀(f:Nat) (t:Tr α) (k:Nat) (x:α),k<f->Tr.get t k=some x->Tr.OZ f t k x=t:=by
 intro f
 induction f with
 |zero=>intro t k x h;omega
 |succ f ih =>
  intro t k x hk h
  cases t with
  |nil=>simp[Tr.get] at h
  |n v l r =>
   cases k with
   |zero =>
    simp only[Tr.get] at h;simp only[Tr.OZ,h]
   |succ k =>
    simp only[Tr.get] at h;simp only[Tr.OZ]
    cases hb:Nat.beq (k%2) 0 with
    |true =>
     simp only[hb,cond_true] at h ⊢;rw[ih l (k / 2) x (by omega) h]
    |false =>
     simp only[hb,cond_false] at h ⊢;rw[ih r (k / 2) x (by omega) h]
theorem yT (e:Env)(k:Nat)(p:Bool)(h:Env.get e k=.bool p):Tr.set e k (.bool p)=e:=by
 unfold Env.get at h
 cases hg:Tr.get e k with
 |none=>rw[hg] at h;cases h
 |some v =>
  rw[hg] at h;have h:v=.bool p:=h;rw[h] at hg;exact pW _ _ _ _ (by omega) hg
inductive K where
 |sq (b:RC)
 |bk (id:Nat)
 |lp (b:RC)
def MI (v:AV)(b:Bool):Bool:=match v with
 |.bool p=>p==b
 |_=>false
def br {β:Type}(p:Bool)(x y:β):β:=bif p then x else y
theorem Xo {β:Type}(x y:β):br true x y=x:=(fun h=>h) rfl
theorem Xv {β:Type}(x y:β):br false x y=y:=(fun h=>h) rfl
theorem dC {β:Type}(p:Bool)(x y:β):br p (some x) (some y)=some (br p x y):=by cases p <;> rfl
section
variable (X:Cx){β:Type}
noncomputable def pop (fin:Fl->β):List K->Fl->β
 |[],x=>fin x
 |.sq b::ks,x=>pop fin ks (match x with
  |some (.norm,e,s)=>den X b e s
  |r=>r)
 |.bk id::ks,x=>pop fin ks (match x with
  |some (.exit i,e,s)=>if i=id then some (.norm,e,s) else some (.exit i,e,s)
  |r=>r)
 |.lp b::ks,x=>pop fin ks (match x with
  |some (.norm,e,s)=>MH (den X b) e s
  |r=>r)
noncomputable def go (fin:Fl->β)(ks:List K)(c:RC)(e:Env)(s:St):β:=pop X fin ks (den X c e s)
noncomputable def SD (fin:Fl->β)(ks:List K)(b:RC)(e:Env)(s:St):β:=pop X fin ks (MH (den X b) e s)
noncomputable def goN (fin:Fl->β)(ks:List K)(e:Env)(s:St):β:=pop X fin ks (some (.norm,e,s))
noncomputable def fX (fin:Fl->β)(ks:List K)(i:Nat)(e:Env)(s:St):β:=pop X fin ks (some (.exit i,e,s))
noncomputable def Vm (fin:Fl->β)(ks:List K)(base:Nat)(l:List RO)(e:Env)(s:St):β:=pop X fin ks (match yS X base l e s with
 |some (e,s)=>some (.norm,e,s)
 |none=>none)
noncomputable def ES (fin:Fl->β)(ks:List K)(base:Nat)(l:List RO)(e:Env)(s:St):β:=pop X fin ks (match P_ X base l e s with
 |some (e,s)=>some (.norm,e,s)
 |none=>none)
noncomputable def stuck (fin:Fl->β)(ks:List K):β:=pop X fin ks none
noncomputable def j7 (fin:Fl->β)(ks:List K)(v:AV)(n:Nat)(a b:RC)(e:Env)(s:St):β:=match v with
 |.bool p=>br p (go X fin ks a (Tr.set e n (.bool true)) s) (go X fin ks b (Tr.set e n (.bool false)) s)
 |_=>stuck X fin ks
noncomputable def vg (fin:Fl->β)(ks:List K)(base:Nat)(x:Option (AV×St))(d:Option Nat)(l:List RO)(e:Env):β:=match x with
 |some (v,s)=>Vm X fin ks base l (Yt e d v) s
 |none=>stuck X fin ks
noncomputable def yQ (fin:Fl->β)(ks:List K)(base:Nat)(x:Option (AV×St))(d:Option Nat)(w:Bool)(l:List RO)(e:Env):β:=match x with
 |some (v,s)=>bif !w||Wm base s l then ES X fin ks base l (Yt e d v) s else stuck X fin ks
 |none=>stuck X fin ks
noncomputable def Uh (p:Bool)(base:Nat)(at_:Option Nat)(e:Env)(s:St)(op:MN):Option (AV×St):=bif p then WG X base at_ e s op else some (undef,s)
def SJ (p:Bool)(x:Option AV)(s:St):Option (AV×St):=bif p then Zm x s else some (undef,s)
noncomputable def ZE (f:FuncId)(args:List AV):Option AV:=open Classical in if h:∃v,∀s,Rl X f args s=some (v,s) then some (Classical.choose h) else none
noncomputable def X6 (x:Option AV)(f:FuncId)(args:List AV)(s:St):Option (AV×St):=match x with
 |some v=>some (v,s)
 |none=>Rl X f args s
noncomputable def OU (p:Bool)(x:Option AV)(f:FuncId)(args:List AV)(s:St):Option (AV×St):=bif p then X6 X x f args s else some (undef,s)
variable (fin:Fl->β)(ks:List K)
theorem KI:∀ks:List K,pop X fin ks none=fin none
 |[]=>rfl
 |.sq b::ks=>KI ks
 |.bk id::ks=>KI ks
 |.lp b::ks=>KI ks
theorem Hr (e:Env)(s:St):∀ks:List K,pop X fin ks (some (.ret,e,s))=fin (some (.ret,e,s))
 |[]=>rfl
 |.sq b::ks=>Hr e s ks
 |.bk id::ks=>Hr e s ks
 |.lp b::ks=>Hr e s ks
theorem j6:stuck X fin ks=fin none:=KI X fin ks
variable (e:Env)(s:St)
theorem ab1 (a b:RC):go X fin ks (.seq a b) e s=go X fin (.sq b::ks) a e s:=(fun h=>h) rfl
theorem j5 (id:Nat)(b:RC):go X fin ks (.block id b) e s=go X fin (.bk id::ks) b e s:=(fun h=>h) rfl
theorem j3 (n:Nat)(a b:RC):go X fin ks (.cond (.t n) a b) e s=j7 X fin ks (Env.get e n) n a b e s:=by
 simp only[go,den,j7,XE]
 cases h:Env.get e n <;> try rfl
 rename_i p
 cases p
 ·rw[yT e n false h];rfl
 ·rw[yT e n true h];rfl
theorem pV (n:Nat)(p:Bool)(a b:RC):j7 X fin ks (.bool p) n a b e s=br p (go X fin ks a (Tr.set e n (.bool true)) s) (go X fin ks b (Tr.set e n (.bool false)) s):=(fun h=>h) rfl
theorem go_loop (b:RC):go X fin ks (.loop b) e s=SD X fin ks b e s:=(fun h=>h) rfl
theorem dB (i:Nat):go X fin ks (.exit i) e s=fX X fin ks i e s:=(fun h=>h) rfl
theorem go_ret:go X fin ks .ret e s=fin (some (.ret,e,s)):=Hr X fin e s ks
theorem go_skip:go X fin ks .skip e s=goN X fin ks e s:=(fun h=>h) rfl
theorem ab2 (l:List RO):go X fin ks (.ops l) e s=Vm X fin ks 0 l e s:=(fun h=>h) rfl
theorem nF (n:Nat)(l:List RO):go X fin ks (.TP n l) e s=bif Wm s.next s l then ES X fin ks s.next l e { s with next:=s.next+n } else stuck X fin ks:=by
 simp only[go,den]
 cases Wm s.next s l <;> rfl
theorem ab3 (b:RC):goN X fin (.sq b::ks) e s=go X fin ks b e s:=(fun h=>h) rfl
theorem ab4 (id:Nat):goN X fin (.bk id::ks) e s=goN X fin ks e s:=(fun h=>h) rfl
theorem ab5 (b:RC):goN X fin (.lp b::ks) e s=SD X fin ks b e s:=(fun h=>h) rfl
theorem ab6 (i:Nat)(b:RC):fX X fin (.sq b::ks) i e s=fX X fin ks i e s:=(fun h=>h) rfl
theorem ab7 (i id:Nat):fX X fin (.bk id::ks) i e s=if i=id then goN X fin ks e s else fX X fin ks i e s:=by
 simp only[fX,pop,goN]
 split <;> rfl
theorem ab8 (i:Nat)(b:RC):fX X fin (.lp b::ks) i e s=fX X fin ks i e s:=(fun h=>h) rfl
theorem lL [Stat] (b:RC):SD X fin ks b e s=go X fin (.lp b::ks) b e s:=by
 simp only[SD,go,pop];rw[j0]
 all_goals rfl
theorem dA (base:Nat):Vm X fin ks base [] e s=goN X fin ks e s:=(fun h=>h) rfl
theorem jZ (base:Nat)(d:Option Nat)(a:Option Nat)(w:Bool)(op:MN)(l:List RO) :
  Vm X fin ks base (⟨d,none,a,w,op⟩::l) e s=vg X fin ks base (WG X base a e s op) d l e:=by
 simp only[Vm,yS,vg,Rt,cond_true]
 cases WG X base a e s op <;> rfl
theorem pU (base:Nat)(d:Option Nat)(t:Nat)(b:Bool)(a:Option Nat)(w:Bool)(op:MN)(l:List RO) :
  Vm X fin ks base (⟨d,some (t,b),a,w,op⟩::l) e s=vg X fin ks base (Uh X (MI (Env.get e t) b) base a e s op) d l e:=by
 simp only[Vm,yS,vg,Uh];have:Rt e (some (t,b))=MI (Env.get e t) b:=rfl;rw[this]
 cases (bif MI (Env.get e t) b then WG X base a e s op else some (undef,s)) <;> rfl
theorem dz (base:Nat):ES X fin ks base [] e s=goN X fin ks e s:=(fun h=>h) rfl
theorem jY (base:Nat)(d:Option Nat)(a:Option Nat)(w:Bool)(op:MN)(l:List RO) :
  ES X fin ks base (⟨d,none,a,w,op⟩::l) e s=yQ X fin ks base (WG X base a e s op) d w l e:=by
 simp only[ES,P_,yQ,Rt,cond_true]
 cases WG X base a e s op with
 |none=>rfl
 |some x =>
  simp only
  cases w <;> cases Wm base x.2 l <;> rfl
theorem pT (base:Nat)(d:Option Nat)(t:Nat)(b:Bool)(a:Option Nat)(w:Bool)(op:MN)(l:List RO) :
  ES X fin ks base (⟨d,some (t,b),a,w,op⟩::l) e s=yQ X fin ks base (Uh X (MI (Env.get e t) b) base a e s op) d w l e:=by
 simp only[ES,P_,yQ,Uh];have:Rt e (some (t,b))=MI (Env.get e t) b:=rfl;rw[this]
 cases (bif MI (Env.get e t) b then WG X base a e s op else some (undef,s)) with
 |none=>rfl
 |some x =>
  simp only
  cases w <;> cases Wm base x.2 l <;> rfl
theorem pS (base:Nat)(v:AV)(d:Option Nat)(l:List RO):vg X fin ks base (some (v,s)) d l e=Vm X fin ks base l (Yt e d v) s:=(fun h=>h) rfl
theorem vd (base:Nat)(v:AV)(d:Option Nat)(l:List RO):yQ X fin ks base (some (v,s)) d false l e=ES X fin ks base l (Yt e d v) s:=(fun h=>h) rfl
theorem vb (base:Nat)(v:AV)(d:Option Nat)(l:List RO):yQ X fin ks base (some (v,s)) d true l e=bif Wm base s l then ES X fin ks base l (Yt e d v) s else stuck X fin ks:=(fun h=>h) rfl
theorem pR (base:Nat):Wm base s []=true:=(fun h=>h) rfl
theorem yP (base:Nat)(d:Option Nat)(g:Option (Nat×Bool))(w:Bool)(op:MN)(l:List RO):Wm base s (⟨d,g,none,w,op⟩::l)=Wm base s l:=by
 simp[Wm]
theorem yO (base i:Nat)(d:Option Nat)(g:Option (Nat×Bool))(w:Bool)(op:MN)(l:List RO):Wm base s (⟨d,g,some i,w,op⟩::l)=((s.get (base+i)).isNone&&Wm base s l):=by
 simp[Wm]
end
@[congr] theorem ab9 {X:Cx} {β:Type} {fin:Fl->β} {ks:List K} {base:Nat} {x x':Option (AV×St)} {d:Option Nat} {l:List RO} {e:Env} (h:x=x'):vg X fin ks base x d l e=vg X fin ks base x' d l e:=by rw[h]
@[congr] theorem ab_ {X:Cx} {β:Type} {fin:Fl->β} {ks:List K} {base:Nat} {x x':Option (AV×St)} {d:Option Nat} {w:Bool} {l:List RO} {e:Env} (h:x=x'):yQ X fin ks base x d w l e=yQ X fin ks base x' d w l e:=by rw[h]
@[congr] theorem ab' {X:Cx} {β:Type} {fin:Fl->β} {ks:List K} {v v':AV} {n:Nat} {a b:RC} {e:Env} {s:St} (h:v=v'):j7 X fin ks v n a b e s=j7 X fin ks v' n a b e s:=by rw[h]
@[congr] theorem aao {X:Cx} {p p':Bool} {base:Nat} {at_:Option Nat} {e:Env} {s:St} {op:MN} (h:p=p'):Uh X p base at_ e s op=Uh X p' base at_ e s op:=by rw[h]
@[congr] theorem aap {p p':Bool} {x x':Option AV} {s:St} (h:p=p') (hx:p'=true->x=x'):SJ p x s=SJ p' x' s:=by
 subst h
 cases p
 ·rfl
 ·rw[hx rfl]
@[congr] theorem aaq {X:Cx} {p p':Bool} {x x':Option AV} {f:FuncId} {args:List AV} {s:St} (h:p=p') (hx:p'=true->x=x'):OU X p x f args s=OU X p' x' f args s:=by
 subst h
 cases p
 ·rfl
 ·rw[hx rfl]
@[congr] theorem aar {X:Cx} {x x':Option AV} {f:FuncId} {args:List AV} {s:St} (h:x=x'):X6 X x f args s=X6 X x' f args s:=by rw[h]
theorem va (X:Cx)(base:Nat)(at_:Option Nat)(e:Env)(s:St)(op:MN):Uh X true base at_ e s op=WG X base at_ e s op:=(fun h=>h) rfl
theorem u_ (p:Bool)(v:AV)(s:St):SJ p (some v) s=some (bif p then v else undef,s):=by cases p <;> rfl
theorem u7 (X:Cx)(p:Bool)(v:AV)(f:FuncId)(args:List AV)(s:St):OU X p (some v) f args s=some (bif p then v else undef,s):=by cases p <;> rfl
theorem U8 (X:Cx)(v:AV)(f:FuncId)(args:List AV)(s:St):X6 X (some v) f args s=some (v,s):=(fun h=>h) rfl
theorem sL {X:Cx}{f:FuncId}{args:List AV}{v:AV}(h:∀s,Rl X f args s=some (v,s)):ZE X f args=some v:=by
 unfold ZE;have hx:∃v,∀s,Rl X f args s=some (v,s):=⟨v,h⟩;rw[dif_pos hx];have h1:=Classical.choose_spec hx (X8 X);rw[h (X8 X)] at h1
 cases h1;rfl
theorem B4 {X:Cx}{f:FuncId}{args:List AV}{v:AV}(h:ZE X f args=some v)(s:St):Rl X f args s=some (v,s):=by
 unfold ZE at h
 split at h
 ·rename_i hx
  cases h
  exact Classical.choose_spec hx s
 ·cases h
theorem XI (X:Cx)(f:FuncId)(args:List AV)(s:St):Rl X f args s=X6 X (ZE X f args) f args s:=by
 unfold X6
 split
 ·rename_i v h;exact B4 h s
 ·rfl
theorem cond_not {α:Type}(p:Bool)(x y z:α):(bif p then x else bif !p then y else z)=bif p then x else y:=by cases p <;> rfl
theorem pQ {α:Type}(p:Bool)(x y z:α):(bif p then (bif p then x else y) else z)=bif p then x else z:=by cases p <;> rfl
theorem FZ (p q:Bool):(bif p then true else q)=(p||q):=by cases p <;> rfl
theorem Ii (p q:Bool):(bif p then q else false)=(p&&q):=by cases p <;> rfl
section
variable (X:Cx)
theorem u0 (p:Bool):MI (.bool p) true=p:=by cases p <;> rfl
theorem yN (p:Bool):MI (.bool p) false=!p:=by cases p <;> rfl
theorem uZ (p q b:Bool):MI (bif p then .bool q else undef) b=(p&&MI (.bool q) b):=by cases p <;> rfl
theorem afE (e:Env)(n:Nat):XE e (.t n)=Env.get e n:=(fun h=>h) rfl
theorem afF (e:Env)(a:AV):XE e (.v a)=a:=(fun h=>h) rfl
theorem dy (e:Env)(k j:Nat)(x:AV):Env.get (Tr.set e k x) j=if k=j then x else Env.get e j:=Env.Sz e k j x
theorem yM (e:Env)(d:Nat)(v:AV):Yt e (some d) v=Tr.set e d v:=(fun h=>h) rfl
theorem yL (e:Env)(v:AV):Yt e none v=e:=(fun h=>h) rfl
theorem jX (i:Nat)(e:Env):YX i [] e=e:=(fun h=>h) rfl
theorem pP (i:Nat)(v:AV)(l:List AV)(e:Env):YX i (v::l) e=YX (i+1) l (Tr.set e i v):=(fun h=>h) rfl
variable (base:Nat)(at_:Option Nat)(e:Env)(s:St)
theorem dx (x:WB):WG X base at_ e s (.O9 x)=some (XE e x,s):=(fun h=>h) rfl
theorem jW (c a b:WB):WG X base at_ e s (.pick c a b)=Zm (yK (XE e c) (XE e a) (XE e b)) s:=(fun h=>h) rfl
theorem aca (z:List AV)(t:TypeId):WG X base none e s (.al z t)=some (.ptr s.next 0,s.new (.cells z t false 0 0)):=(fun h=>h) rfl
theorem pO (i:Nat)(z:List AV)(t:TypeId):WG X base (some i) e s (.al z t)=some (.ptr (base+i) 0,s.put (base+i) (.cells z t false 0 0)):=(fun h=>h) rfl
theorem dw (t:TypeId)(x:WB):WG X base none e s (.box t x)=some (.ptr s.next 0,s.new (.cells (XE e x).cells t false 0 0)):=(fun h=>h) rfl
theorem uY (i:Nat)(t:TypeId)(x:WB):WG X base (some i) e s (.box t x)=some (.ptr (base+i) 0,s.put (base+i) (.cells (XE e x).cells t false 0 0)):=(fun h=>h) rfl
theorem du (x:WB):WG X base at_ e s (.SL x)=Zm (SL (XE e x) s) s:=(fun h=>h) rfl
theorem dt (n:Nat)(x:WB):WG X base at_ e s (.NQ n x)=Zm (NQ n (XE e x) s) s:=(fun h=>h) rfl
theorem acb (n:Nat)(a x:WB):WG X base at_ e s (.st n a x)=OA (st n (XE e a) (XE e x) s):=(fun h=>h) rfl
theorem acd (o:Nat)(x:WB):WG X base at_ e s (.fa o x)=Zm (faR o (XE e x)) s:=(fun h=>h) rfl
theorem dr (op:BinOp)(t:TypeId)(cst:Bool)(x y:WB):WG X base at_ e s (.bin op t cst x y)=Zm (Wg X op t cst (XE e x) (XE e y)) s:=(fun h=>h) rfl
theorem dq (x:WB)(i:Nat):WG X base at_ e s (.ext x i)=Zm (dp (XE e x) i) s:=(fun h=>h) rfl
theorem jV (f:FuncId)(args:List WB):WG X base at_ e s (.call f args)=X6 X (ZE X f (N' e args)) f (N' e args) s:=XI X f (N' e args) s
theorem pN (f:WB)(args:List WB):WG X base at_ e s (.IU f args)=GR X (XE e f) (N' e args) s:=(fun h=>h) rfl
theorem ace (op:UnOp)(x:WB):WG X base at_ e s (.un op x)=Zm (o0 op (XE e x)) s:=(fun h=>h) rfl
theorem jU (x:WB):WG X base at_ e s (.wk x)=Zm (yJ (XE e x)) s:=(fun h=>h) rfl
theorem jT (x:WB):WG X base at_ e s (.SW x)=Zm (Ti (XE e x)) s:=(fun h=>h) rfl
theorem dn (x i:WB):WG X base at_ e s (.sZ x i)=Zm (pM (XE e x) (XE e i)) s:=(fun h=>h) rfl
theorem dm (n:Nat)(x i:WB):WG X base at_ e s (.Jb n x i)=Zm (Ud n (XE e x) (XE e i)) s:=(fun h=>h) rfl
theorem dk (l n:Nat)(x i:WB):WG X base at_ e s (.aw l n x i)=Zm (yI l n (XE e x) (XE e i)) s:=(fun h=>h) rfl
theorem dj (x:WB)(lo hi:Option WB):WG X base at_ e s (.sls x lo hi)=Zm (vK (XE e x) (L8 e lo) (L8 e hi)) s:=(fun h=>h) rfl
theorem di (n:Nat)(x:WB)(lo hi:Option WB):WG X base at_ e s (.sll n x lo hi)=Zm (Es n (XE e x) (L8 e lo) (L8 e hi)) s:=(fun h=>h) rfl
theorem dh (o:Nat)(x:WB):WG X base at_ e s (.fd1 o x)=Zm (dc o (XE e x)) s:=(fun h=>h) rfl
def sk (x:Option (List AV)):Option AV:=x.map .agg
theorem BB (c:List AV):sk (some c)=some (.agg c):=(fun h=>h) rfl
theorem db (z:List AV)(ps:List (Nat×Nat×WB)):WG X base at_ e s (.On z ps)=Zm (sk (QZ e z ps)) s:=(fun h=>h) rfl
def jS (x:Option (List AV))(k:List AV->Option (AV×St)):Option (AV×St):=match x with
 |some c=>k c
 |none=>none
theorem pL (c:List AV)(k:List AV->Option (AV×St)):jS (some c) k=k c:=(fun h=>h) rfl
theorem da (t:TypeId)(n len:Nat)(z:List AV)(ps:List (Nat×Nat×WB)):WG X base none e s (.U3 t n len z ps)=jS (QZ e z ps) fun c=>some (.sl s.next 0 len (some len) n,s.new (.cells c t false 0 0)):=by
 simp only[WG,jS];rfl
theorem uX (i:Nat)(t:TypeId)(n len:Nat)(z:List AV)(ps:List (Nat×Nat×WB)):WG X base (some i) e s (.U3 t n len z ps)=jS (QZ e z ps) fun c=>some (.sl (base+i) 0 len (some len) n,s.put (base+i) (.cells c t false 0 0)):=by
 simp only[WG,jS];rfl
theorem c_ (t:TypeId)(n b:Nat)(d x:WB):WG X base at_ e s (.app t n b d x)=pK t n b (XE e d) (XE e x) s:=(fun h=>h) rfl
theorem c9 (f:FuncId)(a b:List WB):WG X base at_ e s (.mkf f a b)=some (.fn (.func f) (N' e a) (N' e b),s):=(fun h=>h) rfl
theorem jR (z:List AV):QZ e z []=some z:=(fun h=>h) rfl
def acf (x:Option (List AV))(k:List AV->Option (List AV)):Option (List AV):=match x with
 |some c=>k c
 |none=>none
theorem pJ (c:List AV)(k:List AV->Option (List AV)):acf (some c) k=k c:=(fun h=>h) rfl
theorem pI (z:List AV)(off n:Nat)(x:WB)(l:List (Nat×Nat×WB)):QZ e z ((off,n,x)::l)=if (XE e x).cells.length=n/\off+n<=z.length then acf (lay off (XE e x).cells z) (fun c=>QZ e c l) else none:=by
 simp only[QZ,acf];rfl
theorem jQ (l:List UInt8):yJ (.str l)=some (.int .i64 l.length):=(fun h=>h) rfl
theorem pH:Ti .ZW=some (.int .i64 0):=(fun h=>h) rfl
theorem c8 (b o n:Nat)(c:Option Nat)(z:Nat):Ti (.sl b o n c z)=some (.int .i64 n):=(fun h=>h) rfl
theorem cZ (es:List AV):Ti (.fz es)=some (.int .i64 es.length):=(fun h=>h) rfl
theorem acg (p:Bool):o0 .not (.bool p)=some (.bool !p):=(fun h=>h) rfl
theorem pG:L8 e none=none:=(fun h=>h) rfl
theorem pF (x:WB):L8 e (some x)=some (XE e x):=(fun h=>h) rfl
theorem cY (o:Nat)(c:List AV):dc o (.agg c)=c[o]? := (fun h=>h) rfl
theorem jP (p:Bool)(x:WB):Uh X p base at_ e s (.O9 x)=SJ p (some (XE e x)) s:=(fun h=>h) rfl
theorem pE (p:Bool)(c a b:WB):Uh X p base at_ e s (.pick c a b)=SJ p (yK (XE e c) (XE e a) (XE e b)) s:=(fun h=>h) rfl
theorem jO (p:Bool)(x:WB):Uh X p base at_ e s (.SL x)=SJ p (SL (XE e x) s) s:=(fun h=>h) rfl
theorem jN (p:Bool)(n:Nat)(x:WB):Uh X p base at_ e s (.NQ n x)=SJ p (NQ n (XE e x) s) s:=(fun h=>h) rfl
theorem cX (p:Bool)(o:Nat)(x:WB):Uh X p base at_ e s (.fa o x)=SJ p (faR o (XE e x)) s:=(fun h=>h) rfl
theorem jM (p:Bool)(op:BinOp)(t:TypeId)(cst:Bool)(x y:WB):Uh X p base at_ e s (.bin op t cst x y)=SJ p (Wg X op t cst (XE e x) (XE e y)) s:=(fun h=>h) rfl
theorem cW (p:Bool)(op:UnOp)(x:WB):Uh X p base at_ e s (.un op x)=SJ p (o0 op (XE e x)) s:=(fun h=>h) rfl
theorem pD (p:Bool)(x:WB):Uh X p base at_ e s (.wk x)=SJ p (yJ (XE e x)) s:=(fun h=>h) rfl
theorem pC (p:Bool)(x:WB):Uh X p base at_ e s (.SW x)=SJ p (Ti (XE e x)) s:=(fun h=>h) rfl
theorem jL (p:Bool)(x i:WB):Uh X p base at_ e s (.sZ x i)=SJ p (pM (XE e x) (XE e i)) s:=(fun h=>h) rfl
theorem jK (p:Bool)(n:Nat)(x i:WB):Uh X p base at_ e s (.Jb n x i)=SJ p (Ud n (XE e x) (XE e i)) s:=(fun h=>h) rfl
theorem jJ (p:Bool)(l n:Nat)(x i:WB):Uh X p base at_ e s (.aw l n x i)=SJ p (yI l n (XE e x) (XE e i)) s:=(fun h=>h) rfl
theorem amO (p:Bool)(n:Nat)(x:WB)(lo hi:Option WB):Uh X p base at_ e s (.sll n x lo hi)=SJ p (Es n (XE e x) (L8 e lo) (L8 e hi)) s:=(fun h=>h) rfl
theorem pB (p:Bool)(f:FuncId)(args:List WB):Uh X p base at_ e s (.call f args)=OU X p (ZE X f (N' e args)) f (N' e args) s:=by
 cases p
 ·rfl
 ·exact XI X f (N' e args) s
theorem cV (o:Op):WG X base none e s (.raw o)=YI X (Yf X) e o s:=(fun h=>h) rfl
theorem jI (e:Env):N' e []=[]:=(fun h=>h) rfl
theorem pA (e:Env)(x:WB)(l:List WB):N' e (x::l)=XE e x::N' e l:=(fun h=>h) rfl
theorem cU (v:AV)(s:St):Zm (some v) s=some (v,s):=(fun h=>h) rfl
theorem cR (s:St):OA (some s)=some (undef,s):=(fun h=>h) rfl
theorem ach (p:Bool)(a b:AV):yK (.bool p) a b=some (bif p then a else b):=(fun h=>h) rfl
theorem pz (p a b:Bool):(bif p then AV.bool a else .bool b)=.bool (bif p then a else b):=by cases p <;> rfl
theorem cQ (vs:List AV)(i:Nat):dp (.XU vs) i=vs[i]? := (fun h=>h) rfl
theorem aci (o b o':Nat):faR o (.ptr b o')=some (.ptr b (o'+o)):=(fun h=>h) rfl
theorem afG (o:Nat)(c:List AV)(o':Nat):faR o (.fp c o')=some (.fp c (o'+o)):=(fun h=>h) rfl
theorem cP (b o:Nat)(s:St):SL (.ptr b o) s=cell s b o:=(fun h=>h) rfl
theorem acj (c:List AV)(o:Nat)(s:St):SL (.fp c o) s=c[o]? := (fun h=>h) rfl
theorem cM (t:TypeId)(cst:Bool)(k:IntKind)(a b:Int):Wg X .lss t cst (.int k a) (.int k b)=some (.bool (decide (a<b))):=by simp[Wg,Mc]
theorem cL (t:TypeId)(cst:Bool)(k:IntKind)(a b:Int):Wg X .leq t cst (.int k a) (.int k b)=some (.bool (decide (a<=b))):=by simp[Wg,Mc]
theorem cK (t:TypeId)(cst:Bool)(k:IntKind)(a b:Int):Wg X .gtr t cst (.int k a) (.int k b)=some (.bool (decide (a>b))):=by simp[Wg,Mc]
theorem cJ (t:TypeId)(cst:Bool)(k:IntKind)(a b:Int):Wg X .geq t cst (.int k a) (.int k b)=some (.bool (decide (a>=b))):=by simp[Wg,Mc]
theorem cI (t:TypeId)(cst:Bool)(k:IntKind)(a b:Int):Wg X .eql t cst (.int k a) (.int k b)=some (.bool (a==b)):=by simp[Wg,Mc]
theorem cH (t:TypeId)(cst:Bool)(k:IntKind)(a b:Int):Wg X .neq t cst (.int k a) (.int k b)=some (.bool (a != b)):=by simp[Wg,Mc]
theorem cG (t:TypeId)(cst:Bool)(k:IntKind)(a b:Int):Wg X .add t cst (.int k a) (.int k b)=some (.int k (k.wrap (a+b))):=by simp[Wg,Mc]
theorem cE (t:TypeId)(cst:Bool)(k:IntKind)(a b:Int):Wg X .sub t cst (.int k a) (.int k b)=some (.int k (k.wrap (a-b))):=by simp[Wg,Mc]
theorem cD (t:TypeId)(cst:Bool)(k:IntKind)(a b:Int):Wg X .mul t cst (.int k a) (.int k b)=some (.int k (k.wrap (a*b))):=by simp[Wg,Mc]
theorem jH (t:TypeId)(cst:Bool)(a b:List UInt8):Wg X .eql t cst (.str a) (.str b)=some (.bool (a==b)):=by simp[Wg,lF]
theorem jG (t:TypeId)(cst:Bool)(a b:List UInt8):Wg X .neq t cst (.str a) (.str b)=some (.bool (!(a==b))):=by simp[Wg,lF]
def cellsOf (b:Option Uy):Option (List AV):=match b with
 |some (.cells c _ _ _ _)=>some c
 |_=>none
def cellOf (b:Option Uy)(o:Nat):Option AV:=match b with
 |some (.cells c _ _ _ _)=>c[o]?
 |_=>none
theorem Nl (s:St)(b:Nat):s.cells b=cellsOf (s.get b):=by unfold St.cells cellsOf;rfl
theorem jF (s:St)(b o:Nat):cell s b o=cellOf (s.get b) o:=by
 unfold cell St.cells cellOf
 cases s.get b with
 |none=>rfl
 |some x=>cases x <;> rfl
theorem BA (c:List AV)(t:TypeId)(r:Bool)(lo hi:Nat):cellsOf (some (.cells c t r lo hi))=some c:=(fun h=>h) rfl
theorem yH (c:List AV)(t:TypeId)(r:Bool)(lo hi o:Nat):cellOf (some (.cells c t r lo hi)) o=c[o]? := (fun h=>h) rfl
theorem Z7 (s:St)(j:Nat)(x:Uy):(s.new x).get j=if s.next=j then some x else s.get j:=St.Z7 s j x
theorem Z9 (s:St)(k j:Nat)(x:Uy):(s.put k x).get j=if k=j then some x else s.get j:=St.Z9 s k j x
theorem Z_ (s:St)(x:Uy):(s.new x).next=s.next+1:=(fun h=>h) rfl
theorem Z' (s:St)(k:Nat)(x:Uy):(s.put k x).next=s.next:=(fun h=>h) rfl
theorem Hf (X:Cx):(X8 X).next=X.glob:=(fun h=>h) rfl
theorem CJ (X:Cx)(j:Nat):(X8 X).get j=X.LK j:=by
 unfold X8 St.get;rfl
def Di (x:Option (List AV)):Option AV:=match x with
 |some r=>some (.agg r)
 |none=>none
theorem G_ (r:List AV):Di (some r)=some (.agg r):=(fun h=>h) rfl
def ack (n o:Nat)(x:Option (List AV)):Option AV:=match x with
 |some c=>Di (XA n o c)
 |none=>none
theorem py (n o:Nat)(c:List AV):ack n o (some c)=Di (XA n o c):=(fun h=>h) rfl
theorem cC (n b o:Nat)(s:St):NQ n (.ptr b o) s=ack n o (cellsOf (s.get b)):=by
 rw[<-Nl];simp only[NQ,ack,Di];rfl
theorem acm (n:Nat)(c:List AV)(o:Nat)(s:St):NQ n (.fp c o) s=Di (XA n o c):=by
 simp only[NQ,Di];rfl
def cB (x:Option (List AV))(k:List AV->Option St):Option St:=match x with
 |some c=>k c
 |none=>none
theorem px (c:List AV)(k:List AV->Option St):cB (some c) k=k c:=(fun h=>h) rfl
def wrC (s:St)(b o:Nat)(vs:List AV)(x:Option Uy):Option St:=match x with
 |some (.cells c e false OM PF)=>if (o+vs.length<=OM||PF<=o)&&vs.all Zz then cB (lay o vs c) fun c'=>some (s.put b (.cells c' e false OM PF)) else none
 |_=>none
theorem pw (s:St)(b o:Nat)(vs c:List AV)(e:TypeId)(OM PF:Nat) :
  wrC s b o vs (some (.cells c e false OM PF))=if (o+vs.length<=OM||PF<=o)&&vs.all Zz then cB (lay o vs c) fun c'=>some (s.put b (.cells c' e false OM PF)) else none:=rfl
theorem N_ (s:St)(b o:Nat)(vs:List AV):Xi s b o vs=wrC s b o vs (s.get b):=by
 unfold Xi wrC cB;rfl
theorem acn (n b o:Nat)(v:AV)(s:St):st n (.ptr b o) v s=if v.cells.length=n then wrC s b o v.cells (s.get b) else none:=by
 simp only[st,N_]
theorem QE (c:List AV):AV.cells (.agg c)=c:=(fun h=>h) rfl
theorem pq (k:IntKind)(n:Int):AV.cells (.int k n)=[.int k n]:=(fun h=>h) rfl
theorem uW (b:Bool):AV.cells (.bool b)=[.bool b]:=(fun h=>h) rfl
theorem po (b:List UInt8):AV.cells (.str b)=[.str b]:=(fun h=>h) rfl
theorem jE (b:List AV):AV.cells (.fz b)=[.fz b]:=(fun h=>h) rfl
theorem jD (b o n:Nat)(c:Option Nat)(z:Nat):AV.cells (.sl b o n c z)=[.sl b o n c z]:=(fun h=>h) rfl
theorem sM (o:Nat)(l:List AV):lay o [] l=some l:=by cases o <;> cases l <;> rfl
theorem zx (v:AV)(vs:List AV)(x:AV)(l:List AV):lay 0 (v::vs) (x::l)=(lay 0 vs l).map (v::·):=by
 simp only[lay];cases lay 0 vs l <;> rfl
theorem zw (o:Nat)(v:AV)(vs:List AV)(x:AV)(l:List AV):lay (o+1) (v::vs) (x::l)=(lay o (v::vs) l).map (x::·):=by
 simp only[lay];cases lay o (v::vs) l <;> rfl
theorem Sq (o:Nat)(l:List AV):XA 0 o l=some []:=by cases o <;> cases l <;> rfl
theorem Sr (n:Nat)(x:AV)(l:List AV):XA (n+1) 0 (x::l)=(XA n 0 l).map (x::·):=by
 simp only[XA];cases XA n 0 l <;> rfl
theorem Dh (n o:Nat)(x:AV)(l:List AV):XA (n+1) (o+1) (x::l)=XA (n+1) o l:=(fun h=>h) rfl
theorem pn (k:IntKind)(n:Int):Zz (.int k n)=true:=(fun h=>h) rfl
theorem uV (b:Bool):Zz (.bool b)=true:=(fun h=>h) rfl
theorem pk (b:List UInt8):Zz (.str b)=true:=(fun h=>h) rfl
theorem jC (b:List AV):Zz (.fz b)=true:=(fun h=>h) rfl
theorem uU:Zz .ZW=true:=(fun h=>h) rfl
theorem jB (b o n:Nat)(c:Option Nat)(z:Nat):Zz (.sl b o n c z)=true:=(fun h=>h) rfl
theorem cA (l n b o:Nat)(k:IntKind)(i:Int):yI l n (.ptr b o) (.int k i)=if 0<=i/\i.toNat<l then some (.ptr b (o+i.toNat*n)) else none:=by
 simp only[yI];congr 1;apply propext;omega
theorem aco (l n:Nat)(c:List AV)(o:Nat)(k:IntKind)(i:Int):yI l n (.fp c o) (.int k i)=if 0<=i/\i.toNat<l then some (.fp c (o+i.toNat*n)) else none:=by
 simp only[yI];congr 1;apply propext;omega
theorem acp (n b o len:Nat)(c:Option Nat)(z:Nat)(k:IntKind)(i:Int):Ud n (.sl b o len c z) (.int k i)=if 0<=i/\i.toNat<len then some (.ptr b (o+i.toNat*n)) else none:=by
 simp only[Ud];congr 1;apply propext;omega
def ixF (n:Nat)(x:Option AV):Option AV:=match x with
 |some x=>if x.cells.length=n/\n≠0 then some (.fp x.cells 0) else none
 |none=>none
theorem jA (n:Nat)(x:AV):ixF n (some x)=if x.cells.length=n/\n≠0 then some (.fp x.cells 0) else none:=(fun h=>h) rfl
theorem jz (n:Nat)(es:List AV)(k:IntKind)(i:Int):Ud n (.fz es) (.int k i)=if 0<=i then ixF n es[i.toNat]? else none:=by
 simp only[Ud,ixF];rfl
theorem cz (b:List UInt8)(k:IntKind)(i:Int):pM (.str b) (.int k i)=if 0<=i then (b[i.toNat]?).map (fun c=>AV.int .u8 c.toNat) else none:=by
 simp only[pM]
 split
 ·cases b[i.toNat]? <;> rfl
 ·rfl
noncomputable def Sx (rs:List ResultVar)(x:Fl):Option (AV×St):=match x with
 |some (.exit _,_,_)=>none
 |some (_,e,s)=>match Xt X e s rs with
  |some [v]=>some (v,s)
  |some vs=>some (.XU vs,s)
  |none=>none
 |none=>none
def pj (x:Option (AV×St)):Option AV:=match x with
 |some (v,s')=>Yn X s' Tc v
 |none=>none
noncomputable def Mt (rs:List ResultVar)(x:Fl):Option AV:=pj X (Sx X rs x)
def rsK (s:St)(x:Option (List AV)):Option (AV×St):=match x with
 |some [v]=>some (v,s)
 |some vs=>some (.XU vs,s)
 |none=>none
theorem cy (s:St)(v:AV):rsK s (some [v])=some (v,s):=(fun h=>h) rfl
theorem cx (s:St)(v u:AV)(l:List AV):rsK s (some (v::u::l))=some (.XU (v::u::l),s):=(fun h=>h) rfl
theorem yG (rs:List ResultVar)(e:Env)(s:St):Sx X rs (some (.ret,e,s))=rsK s (Xt X e s rs):=by
 simp only[Sx,rsK]
theorem jy (rs:List ResultVar)(e:Env)(s:St):Mt X rs (some (.ret,e,s))=pj X (rsK s (Xt X e s rs)):=by
 simp only[Mt,yG]
theorem ph (v:AV)(s:St):pj X (some (v,s))=Yn X s 40 v:=(fun h=>h) rfl
def uT (v:Option AV)(x:Option (List AV)):Option (List AV):=match v,x with
 |some v,some vs=>some (v::vs)
 |_,_=>none
theorem JQ (v:AV)(vs:List AV):uT (some v) (some vs)=some (v::vs):=(fun h=>h) rfl
theorem ct (e:Env)(s:St):Xt X e s []=some []:=(fun h=>h) rfl
theorem cq (e:Env)(s:St)(t:Nat)(l:List ResultVar):Xt X e s (.tmp t::l)=uT (some (Env.get e t)) (Xt X e s l):=by
 simp only[Xt,Nw,uT];rfl
theorem jw (e:Env)(s:St)(a:Nat)(t:TypeId)(l:List ResultVar):Xt X e s (.cell a t::l)=uT (Vc X t (Env.get e a) s) (Xt X e s l):=by
 simp only[Xt,Nw,uT];rfl
theorem Rg {t:TypeId}{n:Nat}(ht:YC X t=some true)(hn:size X t=some n)(a:AV)(s:St):Vc X t a s=NQ n a s:=by
 cases a with
 |ptr b o =>
  simp only[Vc,NQ,ht,hn]
  cases s.cells b with
  |none=>rfl
  |some c=>cases XA n o c <;> rfl
 |fp c o =>
  simp only[Vc,NQ,ht,hn]
  cases XA n o c <;> rfl
 |_=>rfl
theorem HP (s:St)(d:Nat)(k:IntKind)(n:Int):Yn X s (d+1) (.int k n)=some (.int k n):=(fun h=>h) rfl
theorem ju (s:St)(d:Nat)(b:Bool):Yn X s (d+1) (.bool b)=some (.bool b):=(fun h=>h) rfl
theorem B5 (s:St)(d:Nat)(b:List UInt8):Yn X s (d+1) (.str b)=some (.str b):=(fun h=>h) rfl
theorem jq (s:St)(d:Nat):Yn X s (d+1) .ZW=some .ZW:=(fun h=>h) rfl
theorem Bz (s:St)(d:Nat)(l:List AV):Yn X s (d+1) (.fz l)=some (.fz l):=(fun h=>h) rfl
def acq (x:Option (List AV)):Option AV:=x.map .agg
def acr (x:Option (List AV)):Option AV:=x.map .XU
theorem JP (l:List AV):acq (some l)=some (.agg l):=(fun h=>h) rfl
theorem pg (l:List AV):acr (some l)=some (.XU l):=(fun h=>h) rfl
theorem Vi (s:St)(d:Nat)(l:List AV):Yn X s (d+1) (.agg l)=acq (Y' (Yn X s d) l):=by
 simp only[Yn,acq];cases Y' (Yn X s d) l <;> rfl
theorem sj (s:St)(d:Nat)(l:List AV):Yn X s (d+1) (.XU l)=acr (Y' (Yn X s d) l):=by
 simp only[Yn,acr];cases Y' (Yn X s d) l <;> rfl
theorem RF (f:AV->Option AV):Y' f []=some []:=(fun h=>h) rfl
theorem Xn (f:AV->Option AV)(x:AV)(l:List AV):Y' f (x::l)=uT (f x) (Y' f l):=by
 simp only[Y',uT];rfl
theorem KV [Stat] {f:FuncId}{fn:Func}{c:Code}{r:RC}{rs:List ResultVar}(hf:X.fn f=some fn)(hb:fn.body=some c)(D2:fn.results.toList=rs)(hr:rc X c=r){args:List AV}{s:St}{x:AV×St}
  (h:go X (Sx X rs) [] r (YX 0 args .nil) s=some x):Oj X (Yf X) f args s=some x:=by
 unfold Oj;rw[hf];simp only[hb];have h:Sx X rs (den X r (YX 0 args .nil) s)=some x:=h;rw[<-hr] at h;unfold Sx at h
 split at h
 ·cases h
 ·rename_i o e' s' ZC hd;rw[pf c _ _ _ hd];have FY:Uz X fn e' s'=(match Xt X e' s' rs with|some [v]=>some v|some vs=>some (.XU vs)|none=>none):=by
   unfold Uz;rw[D2];rfl
  cases o with
  |exit i=>exact absurd rfl (ZC i)
  |norm =>
   simp only[FY]
   split at h <;> rename_i hx <;> simp only[hx] <;> first|(cases h;rfl)|exact h
  |ret =>
   simp only[FY]
   split at h <;> rename_i hx <;> simp only[hx] <;> first|(cases h;rfl)|exact h
 ·cases h
theorem jo [Stat] {f:FuncId}{fn:Func}{c:Code}{r:RC}{rs:List ResultVar}(hx:X.ext f=none)(hp:X.pure f=true)(hf:X.fn f=some fn)(hb:fn.body=some c)(D2:fn.results.toList=rs)(hr:rc X c=r){args:List AV}(Xz:ZU args=true){v:AV}
  (h:go X (Mt X rs) [] r (YX 0 args .nil) (X8 X)=some v)(s:St):Rl X f args s=some (v,s):=by
 have h:pj X (Sx X rs (den X r (YX 0 args .nil) (X8 X)))=some v:=h
 cases hd:Sx X rs (den X r (YX 0 args .nil) (X8 X)) with
 |none=>rw[hd] at h;simp[pj] at h
 |some x =>
  rw[hd] at h;have:=KV X hf hb D2 hr (args:=args) (s:=X8 X) (x:=x) hd;unfold Rl Uk;rw[hx];simp only[hp,if_true,Ox,Vf,Xz,Yg,this];simp only[pj] at h;rw[h]
theorem ql [Stat] {f:FuncId}{fn:Func}{c:Code}{r:RC}{rs:List ResultVar}(hx:X.ext f=none)(hp:X.pure f=true)(hf:X.fn f=some fn)(hb:fn.body=some c)(D2:fn.results.toList=rs)(hr:rc X c=r){args:List AV}(Xz:ZU args=true){v:AV}
  (h:go X (Mt X rs) [] r (YX 0 args .nil) (X8 X)=some v):ZE X f args=some v:=sL (jo X hx hp hf hb D2 hr Xz h)
end
theorem acs {α:Type}(x y:α):(bif true then x else y)=x:=(fun h=>h) rfl
theorem cp {α:Type}(x y:α):(bif false then x else y)=y:=(fun h=>h) rfl
theorem jn {α:Type}(x:α)(l:List α):(x::l)[0]? = some x:=(fun h=>h) rfl
theorem jm {α:Type}(x:α)(l:List α)(n:Nat):(x::l)[n+1]? = l[n]? := (fun h=>h) rfl
theorem jl {α:Type}(x:α)(l:List α):(x::l).length=l.length+1:=(fun h=>h) rfl
theorem len_nil {α:Type}:([]:List α).length=0:=(fun h=>h) rfl
theorem acu {α β:Type}(f:α->β)(x:α):(some x).map f=some (f x):=(fun h=>h) rfl
theorem pd {α:Type}(p:α->Bool)(x:α)(l:List α):(x::l).all p=(p x&&l.all p):=(fun h=>h) rfl
theorem jk {α:Type}(p:α->Bool):([]:List α).all p=true:=(fun h=>h) rfl
theorem pa {h:Decidable False}:@decide False h=false:=by cases h with|isFalse _=>rfl|isTrue h=>exact h.elim
theorem jj {h:Decidable True}:@decide True h=true:=by cases h with|isFalse h=>exact (h trivial).elim|isTrue _=>rfl
theorem o_ (p:Bool):(p||true)=true:=by cases p <;> rfl
theorem uS (p:Bool):(p&&true)=p:=by cases p <;> rfl
theorem uR (p:Bool):(true&&p)=p:=by cases p <;> rfl
theorem uQ:(!true)=false:=(fun h=>h) rfl
theorem yF:(!false)=true:=(fun h=>h) rfl
theorem FX (n:Nat):n+0=n:=(fun h=>h) rfl
theorem sF (n:Nat):((n:Int)).toNat=n:=(fun h=>h) rfl
attribute [go_sem ↓] Xo Xv j6 ab1 j5 j3 go_loop dB go_ret go_skip ab2 nF ab3 ab4 ab5 ab6 ab7 ab8 dA jZ pU dz jY pT pS vd vb pR yP yO va afE afF dy yM yL jX pP dx jW aca pO dw uY du dt acb acd dr dq jV pN ace jU jT dn dm dk dj di dh db da uX c_ c9 jR pI pG pF jP pE jO jN cX jM cW pD pC jL jK jJ amO pB cV jI pA Nl jF Z7 Z9 Z_ Z' Hf CJ N_ acn yG jy ph ct cq jw HP ju B5 jq Bz Vi sj acs cp
attribute [go_sem] pa jj ne_eq not_false_eq_true dC pV u_ u7 U8 cond_not pQ FZ Ii u0 yN uZ BB pL pJ jQ pH c8 cZ acg cY cU cR ach pz cQ aci afG cP acj cM cL cK cJ cI cH cG cE cD jH jG BA yH G_ py cC acm px pw QE pq uW po jE jD sM zx zw Sq Sr Dh pn uV pk jC uU jB cA aco acp jA jz cz cy cx JQ JP pg RF Xn jn jm jl len_nil acu o_ uS uR uQ yF FX sF pd jk Nat.reduceEqDiff Nat.reduceAdd Nat.reduceMul Bool.not_not aic decide_true Bool.and_self Int.reduceLT Int.reduceLE Int.reduceToNat Nat.zero_mul ald and_self true_and and_true Nat.reduceLT Nat.reduceLeDiff Int.natCast_nonneg Nat.lt_add_one
theorem alI {α:Sort _}{c:Prop} [Decidable c] {a b:α}(h:c):ite c a b=a:=if_pos h
theorem alJ {α:Sort _}{c:Prop} [Decidable c] {a b:α}(h:¬c):ite c a b=b:=if_neg h
attribute [go_sem ↓] alI alJ
end Go.Am
namespace Go.Am
open Go
section
variable (X:Cx)(ex:Ex)(e:Env)(s:St)
theorem lR (t:Nat):eval X e (.tmp t)=some (Env.get e t):=(fun h=>h) rfl
theorem lQ (k:IntKind)(n:Int):eval X e (.const (.int k n))=some (.int k n):=(fun h=>h) rfl
def ej (v:Option AV)(s:St):Option (AV×St):=match v with
 |some (.ptr b o)=>some (.ptr b o,s)
 |some (.fp c o)=>some (.fp c o,s)
 |some (.fn (.func f) x y)=>some (.fn (.func f) x y,s)
 |some (.fn (.yield f) x y)=>some (.fn (.yield f) x y,s)
 |_=>none
theorem BZ (x:Operand):YI X ex e (.nilCheck x) s=ej (eval X e x) s:=by
 unfold ej;simp only[YI];rfl
theorem lP (b o:Nat):ej (some (.ptr b o)) s=some (.ptr b o,s):=(fun h=>h) rfl
theorem eg (c:List AV)(o:Nat):ej (some (.fp c o)) s=some (.fp c o,s):=(fun h=>h) rfl
def aae (a b:Option TypeDesc)(n:Int)(s:St)(r:Option (AV×St)):Option (AV×St):=match a,b with
 |some _,some (.int k)=>some (.int k (k.wrap n),s)
 |_,_=>r
def zI (a b:Option TypeDesc)(v:Option AV)(s:St)(r:Option (AV×St)):Option (AV×St):=match v with
 |some (.int _ n)=>aae a b n s r
 |_=>r
theorem zH (a b:TypeId)(x:Operand):YI X ex e (.convert a b x) s=zI (X.Zd a) (X.Zd b) (eval X e x) s (YI X ex e (.convert a b x) s):=by
 unfold zI
 split
 ·rename_i j n h3;unfold aae
  split
  ·rename_i d k h1 h2;simp only[YI,h3,RP,h1,h2]
  ·rfl
 ·rfl
theorem qH (d:TypeDesc)(k j:IntKind)(n:Int)(r:Option (AV×St)):zI (some d) (some (.int k)) (some (.int j n)) s r=some (.int k (k.wrap n),s):=(fun h=>h) rfl
theorem lO (c:Call)(hc:c.callee=.builtin .min)(x y:Operand)(ha:c.args=#[x,y]){k j:IntKind}{n m:Int}(hx:eval X e x=some (.int k n))(hy:eval X e y=some (.int j m)):YI X ex e (.call c) s=some (.int k (min n m),s):=by
 have h:(if m<n then m else n)=min n m:=by omega
 simp only[YI,hc,ha,Wk,hx,hy,Yj,qG,h]
theorem lM (c:Call)(hc:c.callee=.builtin .max)(x y:Operand)(ha:c.args=#[x,y]){k j:IntKind}{n m:Int}(hx:eval X e x=some (.int k n))(hy:eval X e y=some (.int j m)):YI X ex e (.call c) s=some (.int k (max n m),s):=by
 have h:(if m>n then m else n)=max n m:=by omega
 simp only[YI,hc,ha,Wk,hx,hy,Yj,vZ,h]
def p_ (f:Int->Int->Int)(v u:Option AV)(s:St)(r:Option (AV×St)):Option (AV×St):=match v,u with
 |some (.int k n),some (.int _ m)=>some (.int k (f n m),s)
 |_,_=>r
theorem ef (f:Int->Int->Int)(k j:IntKind)(n m:Int)(r:Option (AV×St)):p_ f (some (.int k n)) (some (.int j m)) s r=some (.int k (f n m),s):=(fun h=>h) rfl
theorem Pw (x y:Operand)(ts:Array TypeId):YI X ex e (.call { callee:=.builtin .min,args:=#[x,y],argTypes:=ts }) s=p_ min (eval X e x) (eval X e y) s (YI X ex e (.call { callee:=.builtin .min,args:=#[x,y],argTypes:=ts }) s):=by
 unfold p_
 split
 ·rename_i h1 h2;exact lO X ex e s _ rfl x y rfl h1 h2
 ·rfl
theorem ec (x y:Operand)(ts:Array TypeId):YI X ex e (.call { callee:=.builtin .max,args:=#[x,y],argTypes:=ts }) s=p_ max (eval X e x) (eval X e y) s (YI X ex e (.call { callee:=.builtin .max,args:=#[x,y],argTypes:=ts }) s):=by
 unfold p_
 split
 ·rename_i h1 h2;exact lM X ex e s _ rfl x y rfl h1 h2
 ·rfl
variable {β:Type}(fin:Fl->β)(ks:List K)
theorem qQ [Stat] {b:RC}{σ:Type}(m:σ->Nat)(I:σ->Env->St->Prop)(R:σ->β)
  (h:∀(L:RC) (x:σ) (e:Env) (s:St),I x e s->(∀(y:σ) (e':Env) (s':St),m y<m x->I y e' s'->SD X fin ks L e' s'=R y)->go X fin (.lp L::ks) b e s=R x)
  (x:σ){e:Env}{s:St}(hI:I x e s):SD X fin ks b e s=R x:=by
 have key:∀(n:Nat) (x:σ) (e:Env) (s:St),m x<n->I x e s->SD X fin ks b e s=R x:=by
  intro n
  induction n with
  |zero=>intro x e s hn;omega
  |succ n ih =>
   intro x e s hn hI;rw[lL];exact h b x e s hI (fun y e' s' hm H'=>ih y e' s' (by omega) H')
 exact key _ x e s (Nat.lt_succ_self _) hI
noncomputable def UR (f:FuncId)(us:Option (List AV))(s:St):Option (AV×St):=match us with
 |some us=>match Yg X (Yf X) f us false with
  |some v=>some (v,s)
  |none=>none
 |none=>none
theorem lK {f:FuncId}{args:List AV}(hx:X.ext f=none)(hp:X.pure f=true)(Xz:ZU args=false):X6 X (ZE X f args) f args s=UR X f (Y' (Yn X s 40) args) s:=by
 rw[<-XI];unfold Rl Uk;rw[hx];simp only[hp,if_true,Ox,Vf,Xz,ali,if_false,Tc,UR];rfl
theorem X0 {f:FuncId}{us:List AV}{v:AV}(h:Yg X (Yf X) f us false=some v):UR X f (some us) s=some (v,s):=by
 simp only[UR,h]
theorem Za {n:Nat}{f:FuncId}{us:List AV}{st:Bool}{v:AV}(h:Yg X (exec X n) f us st=some v):Yg X (Yf X) f us st=some v:=by
 exact (Gs (X:=X) f us st).mono _ _ (zG n) v h
end
@[congr] theorem aaf {a a' b b':Option TypeDesc} {v v':Option AV} {s:St} {r:Option (AV×St)} (h1:a=a') (h2:b=b') (h3:v=v'):zI a b v s r=zI a' b' v' s r:=by rw[h1,h2,h3]
@[congr] theorem adr {f:Int->Int->Int} {v v' u u':Option AV} {s:St} {r:Option (AV×St)} (h1:v=v') (h2:u=u'):p_ f v u s r=p_ f v' u' s r:=by rw[h1,h2]
section
variable (X:Cx)(s:St)
theorem qF (k:IntKind)(n:Int):still (.int k n)=true:=by simp[still]
theorem qD (l:List UInt8):still (.str l)=true:=by simp[still]
theorem vY:still .ZW=true:=by simp[still]
theorem lJ (l:List AV):still (.fz l)=true:=by simp[still]
theorem qC (b o:Nat):still (.ptr b o)=false:=by simp[still]
theorem lI (b o n:Nat)(c:Option Nat)(z:Nat):still (.sl b o n c z)=false:=by simp[still]
theorem qB (l:List AV):still (.agg l)=ZU l:=by simp[still]
theorem vX:ZU []=true:=by simp[ZU]
theorem zF (x:AV)(l:List AV):ZU (x::l)=(still x&&ZU l):=by simp[ZU]
theorem zE (p:Bool):(p&&false)=false:=by cases p <;> rfl
theorem zD (p:Bool):(false&&p)=false:=(fun h=>h) rfl
def fzK (x:Option (List AV)):Option AV:=x.map .fz
theorem Tb (l:List AV):fzK (some l)=some (.fz l):=(fun h=>h) rfl
def fpK (o:Nat)(x:Option (List AV)):Option AV:=x.map fun c=>.fp c o
theorem lH (o:Nat)(l:List AV):fpK o (some l)=some (.fp l o):=(fun h=>h) rfl
def fnK (f:FuncId)(x y:Option (List AV)):Option AV:=match x,y with
 |some x,some y=>some (.fn (.func f) x y)
 |_,_=>none
theorem apk (f:FuncId)(x y:List AV):fnK f (some x) (some y)=some (.fn (.func f) x y):=(fun h=>h) rfl
def zC (d len VH:Nat)(r:Option (List AV))(ag:Option Bool)(n:Option Nat):Option AV:=match r,ag,n with
 |some r,some ag,some n=>if VH=n/\n≠0/\(ag=false->n=1/\r.all Zz=true) then fzK (Y' (Yn X s d) (Xm ag n len r)) else none
 |_,_,_=>none
def lG (d o len VH:Nat)(x:Option Uy):Option AV:=match x with
 |some (.cells c e false _ _)=>zC X s d len VH (XA (len*VH) o c) (YC X e) (size X e)
 |_=>none
def ea (d o:Nat)(x:Option Uy):Option AV:=match x with
 |some (.cells c _ false _ _)=>fpK o (Y' (Yn X s d) c)
 |_=>none
theorem VD (d b o len:Nat)(cap:Option Nat)(VH:Nat):Yn X s (d+1) (.sl b o len cap VH)=lG X s d o len VH (s.get b):=by
 simp only[Yn];unfold lG
 split
 ·rename_i c e lo hi hg;simp only[hg];unfold zC
  split
  ·rename_i r ag n h1 h2 h3;simp only[h1,h2,h3,fzK]
   split
   ·cases Y' (Yn X s d) (Xm ag n len r) <;> rfl
   ·rfl
  ·rename_i SX
   split
   ·rename_i r ag n h1 h2 h3;exact absurd h3 (SX _ _ _ h1 h2)
   ·rfl
 ·rename_i SX
  split
  ·rename_i c e lo hi hg;exact absurd hg (SX _ _ _ _)
  ·rfl
theorem Wo (d o len VH:Nat)(c:List AV)(e:TypeId)(lo hi:Nat):lG X s d o len VH (some (.cells c e false lo hi))=zC X s d len VH (XA (len*VH) o c) (YC X e) (size X e):=(fun h=>h) rfl
theorem TX (d len:Nat)(r:List AV):zC X s d len 1 (some r) (some false) (some 1)=if r.all Zz=true then fzK (Y' (Yn X s d) (Xm false 1 len r)) else none:=by
 simp only[zC]
 congr 1
 simp
theorem zB (d len n:Nat)(r:List AV):zC X s d len (n+1) (some r) (some true) (some (n+1))=fzK (Y' (Yn X s d) (Xm true (n+1) len r)):=by
 simp only[zC];rw[if_pos];simp
theorem sX (d b o:Nat):Yn X s (d+1) (.ptr b o)=ea X s d o (s.get b):=by
 simp only[Yn];unfold ea
 split
 ·rename_i c e lo hi hg;simp only[hg,fpK]
  cases Y' (Yn X s d) c <;> rfl
 ·rename_i SX
  split
  ·rename_i c e lo hi hg;exact absurd hg (SX _ _ _ _)
  ·rfl
theorem vW (d o:Nat)(c:List AV)(e:TypeId)(lo hi:Nat):ea X s d o (some (.cells c e false lo hi))=fpK o (Y' (Yn X s d) c):=(fun h=>h) rfl
theorem anl (d:Nat)(f:FuncId)(x y:List AV):Yn X s (d+1) (.fn (.func f) x y)=fnK f (Y' (Yn X s d) x) (Y' (Yn X s d) y):=by
 simp only[Yn,fnK];rfl
theorem zA (ag:Bool)(n:Nat)(l:List AV):Xm ag n 0 l=[]:=(fun h=>h) rfl
theorem vV (k:Nat)(x:AV)(l:List AV):Xm false 1 (k+1) (x::l)=x::Xm false 1 k l:=(fun h=>h) rfl
theorem Gr (n k:Nat)(l:List AV):Xm true n (k+1) l=.agg (l.take n)::Xm true n k (l.drop n):=by
 simp only[Xm]
theorem VC:∀l:List AV,Xm false 1 l.length l=l
 |[]=>rfl
 |x::l=>by
  show x::Xm false 1 l.length l=_;rw[VC l]
theorem Ws:∀l:List AV,XA l.length 0 l=some l
 |[]=>rfl
 |x::l=>by
  show XA (l.length+1) 0 (x::l)=_;simp only[XA,Ws l]
end
attribute [go_sem ↓] lR lQ VD sX anl BZ zH Pw ec zA vV
attribute [go_sem] lP eg qH ef Tb lH apk Wo TX zB vW Gr qF qD vY lJ qC lI qB vX zF zE zD List.take_succ_cons amF List.drop_succ_cons amd
end Go.Am
