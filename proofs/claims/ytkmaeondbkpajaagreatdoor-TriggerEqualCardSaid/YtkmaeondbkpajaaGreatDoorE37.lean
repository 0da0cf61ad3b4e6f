/- A part of the proof. -/
import Derived.Test.YtkmaeondbkpajaaGreatDoorE36
set_option linter.all false
set_option maxRecDepth 100000
namespace Go.Am
open Go Go.Proofs
variable {H:Type}{enc:TypeId×Value->H}{w:World}{σ:Sg}
def wR (nl:Bool)(l:List AV):fQ nl l=ZU nl l:=by cases nl <;> cases l <;> rfl
def aeu:Tryz.prog.cellsOf 9=1:=It
def ew:Tryz.prog.cellsOf 106=7:=It
def adi:Tryz.prog.cellsOf 109=9:=It
def aiC:Tryz.prog.cellsOf 31=2:=It
def Ue {α:Type}{l:List α}{i:Nat}(h:i<l.length):∃x,l[i]? = some x:=⟨l[i],aaa h⟩
def BS {σ:Sg}:∀(a b:List AV) (x y:List Value),ZZ σ a x->ZZ σ b y->ZZ σ (a++b) (x++y)
 |[],b,x,y,h1,h2=>by
  have h1:x=[]:=h1;subst h1;exact h2
 |a::l,b,x,y,h1,h2=>by
  obtain⟨v,z,rfl,h3,h4⟩:=h1;exact⟨v,z++y,rfl,h3,BS l b z y h4 h2⟩
def abj (hz:∀b o,w.heap[b]? = some o->σ.fz b=some o){base:Nat}{spare:Nat->Bool}{held:Bool}:∀(fuel:Nat) (cs:List Value) (x:DataW H×List MemPlace),DataW.trod enc Tryz.prog w base spare held fuel 106 cs=some x ->
  ∃(c:Z0) (u:Value),ZY σ.bare (Zo c) u/\u.cells.toList=cs:=by
 intro fuel
 induction fuel using Nat.strongRecOn with
 |ind fuel ih =>
 intro cs x h;obtain⟨xs,n,hn,_,hlen,Vt,Dn⟩:=DataW.trod_struct Tryz.underlying106 h;rw[ew] at hlen
 match cs,hlen with
 |[v0,v1,v2,v3,v4,v5,v6],_ =>
  have hx7:xs.length=7:=Vt;have h0:=Dn 0 _ rfl;have h1:=Dn 1 _ rfl;have h2:=Dn 2 _ rfl;have h3:=Dn 3 _ rfl;have h4:=Dn 4 _ rfl;have h5:=Dn 5 _ rfl;have h6:=Dn 6 _ rfl
  try simp only[aeu,aqy,aq5,List.take_succ_cons,List.take_zero] at h0 h1 h2 h3 h4 h5 h6
  obtain⟨x0,e0⟩:=Ue (l:=xs) (i:=0) J;obtain⟨x1,e1⟩:=Ue (l:=xs) (i:=1) J;obtain⟨x2,e2⟩:=Ue (l:=xs) (i:=2) J;obtain⟨x3,e3⟩:=Ue (l:=xs) (i:=3) J;obtain⟨x4,e4⟩:=Ue (l:=xs) (i:=4) J;obtain⟨x5,e5⟩:=Ue (l:=xs) (i:=5) J;obtain⟨x6,e6⟩:=Ue (l:=xs) (i:=6) J;rw[e0] at h0;rw[e1] at h1;rw[e2] at h2;rw[e3] at h3;rw[e4] at h4;rw[e5] at h5;rw[e6] at h6;obtain⟨s0,f0,_,_⟩:=DataW.trod_string Tryz.underlying9 h0;obtain⟨n1,f1,_,_⟩:=DataW.trod_int Tryz.underlying3 h1;obtain⟨n2,f2,_,_⟩:=DataW.trod_int Tryz.underlying3 h2;obtain⟨n3,f3,_,_⟩:=DataW.trod_int Tryz.underlying3 h3;obtain⟨n4,f4,_,_⟩:=DataW.trod_int Tryz.underlying3 h4;obtain⟨s5,f5,_,_⟩:=DataW.trod_string Tryz.underlying9 h5;obtain⟨nl,kids,u6,f6,hr6,_⟩:=open_row hz Zo (k:=7) J Tryz.underlying104 ew h6 λm cs x hm hx=>ih m J cs x hx
  cases f0;cases f1;cases f2;cases f3;cases f4;cases f5;cases f6
  rw[wR,<-Nt] at hr6;refine⟨.mk s0.data.toList n1 n2 n3 n4 s5.data.toList nl kids,.agg #[.string s0,.int .i64 n1,.int .i64 n2,.int .i64 n3,.int .i64 n4,.string s5,v6],?_,rfl⟩;rw[Zo];exact⟨_,rfl,_,_,rfl,⟨s0,rfl,rfl⟩,_,_,rfl,rfl,_,_,rfl,rfl,_,_,rfl,rfl,_,_,rfl,rfl,_,_,rfl,⟨s5,rfl,rfl⟩,_,_,rfl,hr6,rfl⟩
def abk (hz:∀b o,w.heap[b]? = some o->σ.fz b=some o){base:Nat}{spare:Nat->Bool}{held:Bool}(fuel:Nat)(cs:List Value)(x:DataW H×List MemPlace)(h:DataW.trod enc Tryz.prog w base spare held fuel 109 cs=some x) :
  ∃(c:Step) (u:Value),ZY σ.bare (Yy c) u/\u.cells.toList=cs:=by
 obtain⟨xs,n,hn,_,hlen,Vt,Dn⟩:=DataW.trod_struct Tryz.underlying109 h;rw[adi] at hlen
 match cs,hlen with
 |[v0,v1,v2,v3,v4,v5,v6,v7,v8],_ =>
  have hx7:xs.length=3:=Vt;have h0:=Dn 0 _ rfl;have h1:=Dn 1 _ rfl;have h2:=Dn 2 _ rfl
  try simp only[ew,aqy,aq5,List.take_succ_cons,List.take_zero] at h0 h1 h2
  obtain⟨x0,e0⟩:=Ue (l:=xs) (i:=0) J;obtain⟨x1,e1⟩:=Ue (l:=xs) (i:=1) J;obtain⟨x2,e2⟩:=Ue (l:=xs) (i:=2) J;rw[e0] at h0;rw[e1] at h1;rw[e2] at h2;obtain⟨c,u,hu,LB⟩:=abj hz _ _ _ h0;obtain⟨n1,f1,_,_⟩:=DataW.trod_int Tryz.underlying3 h1;obtain⟨n2,f2,_,_⟩:=DataW.trod_int Tryz.underlying3 h2
  cases f1;cases f2
  rw[ZH] at hu;obtain⟨vs,rfl,SH⟩:=hu;have amM:vs.toList=[v0,v1,v2,v3,v4,v5,v6]:=LB;rw[amM] at SH;refine⟨⟨c,n1,n2⟩,.agg #[v0,v1,v2,v3,v4,v5,v6,.int .i64 n1,.int .i64 n2],?_,rfl⟩;have:=BS c.cells [.int .i64 n1,.int .i64 n2] [v0,v1,v2,v3,v4,v5,v6] [.int .i64 n1,.int .i64 n2] SH ⟨_,_,rfl,rfl,_,_,rfl,rfl,rfl⟩;exact⟨_,rfl,this⟩
def oH (hz:∀b o,w.heap[b]? = some o->σ.fz b=some o){base:Nat}{spare:Nat->Bool}{held:Bool}{fuel:Nat}{cs:List Value}{x:DataW H×List MemPlace}(h:DataW.trod enc Tryz.prog w base spare held fuel 31 cs=some x) :
  ∃(p:Prog) (u:Value),ZY σ.bare (XU p) u/\u.cells.toList=cs:=by
 obtain⟨xs,n,hn,_,hlen,Vt,Dn⟩:=DataW.trod_struct Tryz.underlying31 h;rw[aiC] at hlen
 match cs,hlen with
 |[v0,v1],_ =>
  have hx7:xs.length=2:=Vt;have h0:=Dn 0 _ rfl;have h1:=Dn 1 _ rfl
  try simp only[aqy,aq5,List.take_succ_cons,List.take_zero] at h0 h1
  obtain⟨x0,e0⟩:=Ue (l:=xs) (i:=0) J;obtain⟨x1,e1⟩:=Ue (l:=xs) (i:=1) J;rw[e0] at h0;rw[e1] at h1;obtain⟨n0,f0,_,_⟩:=DataW.trod_int Tryz.underlying3 h0;obtain⟨nl,steps,u1,f1,yL,_⟩:=open_row hz Yy (k:=9) J Tryz.underlying29 adi h1 λm cs x hm hx=>abk hz m cs x hx
  cases f0;cases f1
  rw[wR] at yL;exact⟨⟨n0,nl,steps⟩,.agg #[.int .i64 n0,v1],⟨_,rfl,_,_,rfl,rfl,_,_,rfl,yL,rfl⟩,rfl⟩
end Go.Am
