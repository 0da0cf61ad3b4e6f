/- A part of the proof of a statement of this seat: the machine on which the program is read, and what it computes; for every input. -/
import Derived.Test.YtikiipfbkfgmbaaGreatDoorZ42
import Derived.Test.YtikiipfbkfgmbaaGreatDoorZ02
import Derived.Test.YtikiipfbkfgmbaaGreatDoorTie
import Derived.Test.YtikiipfbkfgmbaaGreatDoorCards
import Derived.ProofKit
import Derived.OpenShut
import Derived.LaidMore
import Derived.LaidLaws
import Derived.Lay
import Derived.Below
import Derived.Shelf.Vars
import Derived.SevenTiedAt
import Derived.Stop.Joined
set_option linter.all false
namespace Go.Am
open Go Go.Proofs
set_option maxRecDepth 100000
variable {H:Type}{enc:TypeId×Value->H}{w:World}{σ:Sg}
theorem zi (nl:Bool)(l:List AV):mo nl l=ZG nl l:=by cases nl <;> cases l <;> rfl
theorem amZ:Tryz.prog.cellsOf 3=1:=by kernel_rfl
theorem abv:Tryz.prog.cellsOf 9=1:=by kernel_rfl
theorem kO:Tryz.prog.cellsOf 39=7:=by kernel_rfl
theorem aal:Tryz.prog.cellsOf 90=9:=by kernel_rfl
theorem ae8:Tryz.prog.cellsOf 31=2:=by kernel_rfl
theorem Uw {α:Type}{l:List α}{i:Nat}(h:i<l.length):∃x,l[i]? = some x:=⟨l[i],aaa h⟩
theorem Dr {σ:Sg}:∀(a b:List AV) (x y:List Value),ZZ σ a x->ZZ σ b y->ZZ σ (a++b) (x++y)
 |[],b,x,y,h1,h2=>by
  have h1:x=[]:=h1;subst h1;exact h2
 |a::l,b,x,y,h1,h2=>by
  obtain⟨v,z,rfl,h3,h4⟩:=h1;exact⟨v,z++y,rfl,h3,Dr l b z y h4 h2⟩
theorem dT (hz:∀b o,w.heap[b]? = some o->σ.fz b=some o){base:Nat}{spare:Nat->Bool}{held:Bool}:∀(fuel:Nat) (cs:List Value) (x:DataW H×List MemPlace),DataW.trod enc Tryz.prog w base spare held fuel 39 cs=some x ->
  ∃(c:Z5) (u:Value),ZY σ.bare (Zw c) u/\u.cells.toList=cs:=by
 intro fuel
 induction fuel using Nat.strongRecOn with
 |ind fuel ih =>
 intro cs x h;obtain⟨xs,n,hn,_,hlen,VY,Ew⟩:=DataW.trod_struct Tryz.underlying39 h;rw[kO] at hlen
 match cs,hlen with
 |[v0,v1,v2,v3,v4,v5,v6],_ =>
  have hx7:xs.length=7:=VY;have h0:=Ew 0 _ rfl;have h1:=Ew 1 _ rfl;have h2:=Ew 2 _ rfl;have h3:=Ew 3 _ rfl;have h4:=Ew 4 _ rfl;have h5:=Ew 5 _ rfl;have h6:=Ew 6 _ rfl
  try simp only[amZ,abv,amd,List.drop_succ_cons,List.take_succ_cons,amF] at h0 h1 h2 h3 h4 h5 h6
  obtain⟨x0,e0⟩:=Uw (l:=xs) (i:=0) (by omega);obtain⟨x1,e1⟩:=Uw (l:=xs) (i:=1) (by omega);obtain⟨x2,e2⟩:=Uw (l:=xs) (i:=2) (by omega);obtain⟨x3,e3⟩:=Uw (l:=xs) (i:=3) (by omega);obtain⟨x4,e4⟩:=Uw (l:=xs) (i:=4) (by omega);obtain⟨x5,e5⟩:=Uw (l:=xs) (i:=5) (by omega);obtain⟨x6,e6⟩:=Uw (l:=xs) (i:=6) (by omega);rw[e0] at h0;rw[e1] at h1;rw[e2] at h2;rw[e3] at h3;rw[e4] at h4;rw[e5] at h5;rw[e6] at h6;obtain⟨s0,f0,_,_⟩:=DataW.trod_string Tryz.underlying9 h0;obtain⟨n1,f1,_,_⟩:=DataW.trod_int Tryz.underlying3 h1;obtain⟨n2,f2,_,_⟩:=DataW.trod_int Tryz.underlying3 h2;obtain⟨n3,f3,_,_⟩:=DataW.trod_int Tryz.underlying3 h3;obtain⟨n4,f4,_,_⟩:=DataW.trod_int Tryz.underlying3 h4;obtain⟨s5,f5,_,_⟩:=DataW.trod_string Tryz.underlying9 h5;obtain⟨nl,kids,u6,f6,hr6,_⟩:=open_row hz Zw (k:=7) (by omega) Tryz.underlying37 kO h6 fun m cs x hm hx=>ih m (by omega) cs x hx
  cases f0;cases f1;cases f2;cases f3;cases f4;cases f5;cases f6
  rw[zi,<-Oc] at hr6;refine⟨.mk s0.data.toList n1 n2 n3 n4 s5.data.toList nl kids,.agg #[.string s0,.int .i64 n1,.int .i64 n2,.int .i64 n3,.int .i64 n4,.string s5,v6],?_,rfl⟩;rw[Zw];exact⟨_,rfl,_,_,rfl,⟨s0,rfl,rfl⟩,_,_,rfl,rfl,_,_,rfl,rfl,_,_,rfl,rfl,_,_,rfl,rfl,_,_,rfl,⟨s5,rfl,rfl⟩,_,_,rfl,hr6,rfl⟩
theorem dS (hz:∀b o,w.heap[b]? = some o->σ.fz b=some o){base:Nat}{spare:Nat->Bool}{held:Bool}(fuel:Nat)(cs:List Value)(x:DataW H×List MemPlace)(h:DataW.trod enc Tryz.prog w base spare held fuel 90 cs=some x) :
  ∃(c:Step) (u:Value),ZY σ.bare (YL c) u/\u.cells.toList=cs:=by
 obtain⟨xs,n,hn,_,hlen,VY,Ew⟩:=DataW.trod_struct Tryz.underlying90 h;rw[aal] at hlen
 match cs,hlen with
 |[v0,v1,v2,v3,v4,v5,v6,v7,v8],_ =>
  have hx7:xs.length=3:=VY;have h0:=Ew 0 _ rfl;have h1:=Ew 1 _ rfl;have h2:=Ew 2 _ rfl
  try simp only[amZ,kO,amd,List.drop_succ_cons,List.take_succ_cons,amF] at h0 h1 h2
  obtain⟨x0,e0⟩:=Uw (l:=xs) (i:=0) (by omega);obtain⟨x1,e1⟩:=Uw (l:=xs) (i:=1) (by omega);obtain⟨x2,e2⟩:=Uw (l:=xs) (i:=2) (by omega);rw[e0] at h0;rw[e1] at h1;rw[e2] at h2;obtain⟨c,u,hu,OC⟩:=dT hz _ _ _ h0;obtain⟨n1,f1,_,_⟩:=DataW.trod_int Tryz.underlying3 h1;obtain⟨n2,f2,_,_⟩:=DataW.trod_int Tryz.underlying3 h2
  cases f1;cases f2
  rw[ZV] at hu;obtain⟨vs,rfl,SI⟩:=hu;have aiT:vs.toList=[v0,v1,v2,v3,v4,v5,v6]:=OC;rw[aiT] at SI;refine⟨⟨c,n1,n2⟩,.agg #[v0,v1,v2,v3,v4,v5,v6,.int .i64 n1,.int .i64 n2],?_,rfl⟩;have:=Dr c.cells [.int .i64 n1,.int .i64 n2] [v0,v1,v2,v3,v4,v5,v6] [.int .i64 n1,.int .i64 n2] SI ⟨_,_,rfl,rfl,_,_,rfl,rfl,rfl⟩;exact⟨_,rfl,this⟩
theorem dR (hz:∀b o,w.heap[b]? = some o->σ.fz b=some o){base:Nat}{spare:Nat->Bool}{held:Bool}{fuel:Nat}{cs:List Value}{x:DataW H×List MemPlace}(h:DataW.trod enc Tryz.prog w base spare held fuel 31 cs=some x) :
  ∃(p:Prog) (u:Value),ZY σ.bare (Vw p) u/\u.cells.toList=cs:=by
 obtain⟨xs,n,hn,_,hlen,VY,Ew⟩:=DataW.trod_struct Tryz.underlying31 h;rw[ae8] at hlen
 match cs,hlen with
 |[v0,v1],_ =>
  have hx7:xs.length=2:=VY;have h0:=Ew 0 _ rfl;have h1:=Ew 1 _ rfl
  try simp only[amZ,amd,List.drop_succ_cons,List.take_succ_cons,amF] at h0 h1
  obtain⟨x0,e0⟩:=Uw (l:=xs) (i:=0) (by omega);obtain⟨x1,e1⟩:=Uw (l:=xs) (i:=1) (by omega);rw[e0] at h0;rw[e1] at h1;obtain⟨n0,f0,_,_⟩:=DataW.trod_int Tryz.underlying3 h0;obtain⟨nl,steps,u1,f1,AK,_⟩:=open_row hz YL (k:=9) (by omega) Tryz.underlying29 aal h1 fun m cs x hm hx=>dS hz m cs x hx
  cases f0;cases f1
  rw[zi] at AK;exact⟨⟨n0,nl,steps⟩,.agg #[.int .i64 n0,v1],⟨_,rfl,_,_,rfl,rfl,_,_,rfl,AK,rfl⟩,rfl⟩
end Go.Am
namespace Go.Am
open Go Go.Proofs Go.Proofs.YtikiipfbkfgmbaaGreatDoor Go.RowKit
set_option maxRecDepth 100000
def zN:List (String×DataW Unit):=Rows.triggerProgramsRow.laid
def wa:List Int:=[1,10,100,1000,10000,100000,1000000,10000000,100000000,1000000000,10000000000,100000000000,1000000000000,10000000000000,100000000000000,1000000000000000,10000000000000000,100000000000000000,1000000000000000000,10000000000000000000]
structure DA (W:World)(m:Int):Prop where
 g0:W.heap[0]? = some (.cells #[.int .i64 m] 3)
 g1:∃cs:Array Value,W.heap[1]? = some (.cells cs 332)/\cs.toList=wa.map (.int .u64 ·)
 g2:∃a s,W.heap[2]? = some (.cells #[.iface 347 (.pointer (some a))] 210)/\W.cell? a=some (.string s)/\s.data.toList=[105,110,118,97,108,105,100,32,115,121,110,116,97,120]
 g3:∃a s,W.heap[3]? = some (.cells #[.iface 347 (.pointer (some a))] 210)/\W.cell? a=some (.string s)/\s.data.toList=[118,97,108,117,101,32,111,117,116,32,111,102,32,114,97,110,103,101]
 size:8<=W.heap.size
theorem zM {W:World}(QC:W.ShapedOpen Tryz.prog){g t n:Nat}(hg:g<Tryz.prog.globals.size)(h0:(((begin Tryz.prog (fun _ _=>0) default).world.heap[g]?).bind Obj.row?).map (fun x=>(x.1.size,x.2))=some (n,t)):∃cs,W.heap[g]? = some (.cells cs t)/\cs.size=n:=by
 obtain⟨⟨z,t'⟩,h1,h2⟩:=amB.1 h0
 cases h2
 obtain⟨cs,h3,h4,_⟩:=QC.1 g z _ hg h1;exact⟨cs,h3,h4⟩
noncomputable def aep:String:=(Tryz.prog.typeName? 2 349).getD default
theorem lY (nm:String)(h0:Tryz.prog.typeName? 3 347=some nm)(u:TypeId)(h:Tryz.prog.typeName? 3 u=some nm):u=347:=by
 refine typeName_ptr_named (P:=Tryz.prog) (nm:=aep) (by kernel_rfl) (by kernel_rfl) (by decide +kernel) u ?_;rw[h,<-h0]
 kernel_rfl
theorem Gt {n:String}{g k:Nat}(h:Tryz.prog.globalNamed n=some g)(h':Tryz.prog.globalNamed n=some k):k=g:=Option.some.inj (h'.symm.trans h)
theorem lX:Tryz.prog.cellsOf 349=1:=by kernel_rfl
theorem abr:Tryz.prog.cellsOf 301=1:=by kernel_rfl
theorem abt:Tryz.prog.cellsOf 332=20:=by kernel_rfl
theorem abu {H:Type}{enc:TypeId×Value->H}{W:World}{base:Nat}{sp:Nat->Bool}{held:Bool}{fuel:Nat}{cs:List Value}{zs:List Int}{p:List MemPlace}
  (h:DataW.trod enc Tryz.prog W base sp held fuel 332 cs=some (.agg (zs.map fun z=>.lit (.int .u64 z)),p)):cs=zs.map (.int .u64 ·):=by
 obtain⟨xs,m,_,ex,hlen,hl,Ew⟩:=DataW.trod_array Tryz.underlying332 h;rw[abt] at hlen;have e1:(zs.map fun z=>(DataW.lit (.int .u64 z):DataW H))=xs.map (·.1):=DataW.agg.inj (Prod.mk.inj ex).1;have hzl:zs.length=xs.length:=by have:=congrArg List.length e1;simpa using this
 refine List.ext_getElem? fun i=>?_
 by_cases hi:i<20
 ·have hE:=Ew i hi;rw[abr,ah1,aaa (by omega)] at hE;obtain⟨z,e2,e3,_⟩:=DataW.trod_int Tryz.underlying301 hE;have e4:(zs.map fun z=>(DataW.lit (.int .u64 z):DataW H))[i]? = (xs.map (·.1))[i]? := by rw[e1]
  rw[alV,alV,aaa (by omega:i<xs.length),e3] at e4;obtain⟨z',f_,hzz⟩:=amB.1 e4
  cases hzz
  rw[alV,f_];have h0:((cs.drop i).take 1)[0]? = some (.int .u64 z):=by rw[e2];rfl
  simpa using h0
 ·rw[amm (by omega),amm (by rw[agC,hzl];have:xs.length=20:=hl;omega)]
theorem lW {W:World}(hL:laidMetH Tryz.prog zN W)(QC:W.ShapedOpen Tryz.prog):∃m,DA W m:=by
 rw[MakeChecks.laidMetH_plain _ _ _ (by kernel_rfl)] at hL;obtain⟨ps,⟨_,_,_,_,_,_,_,_,_,_,⟨g7,_,cs7,_,_,_,hg7,_,hv7,_,⟨g1,t1,cs1,f1,p1,q1,lV,ht1,Pd,hd1,⟨_,_,_,_,_,_,_,_,_,_,⟨g3,t3,cs3,f3,p3,q3,hg3,ht3,eX,hd3,⟨g2,t2,cs2,f2,p2,q2,fQ,ht2,Mv,tR,_,e2⟩,e3⟩,e4⟩,e1⟩,e5⟩,e6⟩,_,X5⟩:=hL;obtain rfl:=Gt lV (k:=1) (by kernel_rfl);obtain rfl:=Gt hg3 (k:=3) (by kernel_rfl);obtain rfl:=Gt fQ (k:=2) (by kernel_rfl);obtain rfl:=Option.some.inj ((show (Tryz.prog.globals[1]?).map (·.type)=some 332 by kernel_rfl).symm.trans ht1);obtain rfl:=Option.some.inj ((show (Tryz.prog.globals[3]?).map (·.type)=some 210 by kernel_rfl).symm.trans ht3);obtain rfl:=Option.some.inj ((show (Tryz.prog.globals[2]?).map (·.type)=some 210 by kernel_rfl).symm.trans ht2);obtain⟨c0,k0,z0⟩:=zM (g:=0) (t:=3) (n:=1) QC (of_decide_eq_true (by kernel_rfl)) (by kernel_rfl);obtain⟨c1,k1,z1⟩:=zM (g:=1) (t:=332) (n:=20) QC (of_decide_eq_true (by kernel_rfl)) (by kernel_rfl);obtain⟨c2,k2,z2⟩:=zM (g:=2) (t:=210) (n:=1) QC (of_decide_eq_true (by kernel_rfl)) (by kernel_rfl);obtain⟨c3,k3,z3⟩:=zM (g:=3) (t:=210) (n:=1) QC (of_decide_eq_true (by kernel_rfl)) (by kernel_rfl);obtain⟨c7,k7,z7⟩:=zM (g:=7) (t:=355) (n:=64) QC (of_decide_eq_true (by kernel_rfl)) (by kernel_rfl);obtain⟨m,hm⟩:=cell_of_shapedOpen_int (P:=Tryz.prog) (g:=0) (t:=3) (zero:=#[.int .i64 0]) QC (of_decide_eq_true (by kernel_rfl)) (by kernel_rfl) rfl (by kernel_rfl) (by kernel_rfl) Tryz.underlying3;have same:∀{g:Nat} {c cs:Array Value} {t:TypeId},W.heap[g]? = some (.cells c t)->(∀i,W.cell? ⟨g,i,none⟩=cs[i]?)->c=cs:=fun {g c cs t} hk hc=>by
  refine Array.ext_getElem? fun i=>?_
  rw[<-hc i];simp[World.cell?,hk]
 refine⟨m,?_,⟨c1,k1,?_⟩,?_,?_,?_⟩
 ·have:c0=#[.int .i64 m]:=by
   have h0:c0[0]? = some (.int .i64 m):=by rw[<-hm];simp[World.cell?,k0]
   match c0,z0,h0 with
   |⟨[x]⟩,_,h0=>simp at h0;rw[h0]
  rw[k0,this]
 ·have:=same k1 (World.var?_cell lV Pd);subst this;exact abu (zs:=wa) hd1
 ·have:=same k2 (World.var?_cell fQ Mv);subst this;obtain⟨a,s,MT,zL,hs,_,_⟩:=errorString_of_trod Tryz.underlying210 (lY _ (by kernel_rfl)) Tryz.underlying347 Tryz.underlying349 rfl rfl Tryz.underlying9 lX abv tR (fun u v he=>by
   refine (X5 2 0 ?_).2 u v ?_
   ·rw[e6,e5,e1,e4,e3,e2];have SY:MemPlace.cell 2 0∈MemPlace.row ⟨2,0,none⟩ c2.size:=by
     rw[z2];exact alN.2 ⟨0,by simp,rfl⟩
    simp only[amb];simp[SY]
   ·have:c2[0]? = some (.iface u v):=by
     rw[<-al1,he];rfl
    simpa[World.cell?,k2] using this)
  have:c2=#[.iface 347 (.pointer (some a))]:=Array.eq_one_of_toList MT;subst this;exact⟨a,s,k2,zL,hs⟩
 ·have:=same k3 (World.var?_cell hg3 eX);subst this;obtain⟨a,s,MT,zL,hs,_,_⟩:=errorString_of_trod Tryz.underlying210 (lY _ (by kernel_rfl)) Tryz.underlying347 Tryz.underlying349 rfl rfl Tryz.underlying9 lX abv hd3 (fun u v he=>by
   refine (X5 3 0 ?_).2 u v ?_
   ·rw[e6,e5,e1,e4,e3];have SY:MemPlace.cell 3 0∈MemPlace.row ⟨3,0,none⟩ c3.size:=by
     rw[z3];exact alN.2 ⟨0,by simp,rfl⟩
    simp only[amb];simp[SY]
   ·have:c3[0]? = some (.iface u v):=by
     rw[<-al1,he];rfl
    simpa[World.cell?,k3] using this)
  have:c3=#[.iface 347 (.pointer (some a))]:=Array.eq_one_of_toList MT;subst this;exact⟨a,s,k3,zL,hs⟩
 ·have:=(agz.1 k7).1;omega
end Go.Am
namespace Go.Am
open Go Go.Proofs Go.Proofs.YtikiipfbkfgmbaaGreatDoor Go.RowKit
set_option maxRecDepth 100000
def bsize (W:World)(i:Nat):Nat:=match W.heap[i]? with
 |some (.cells cc _ _)=>cc.size
 |_=>0
def Uo (W:World):Sg:={ m:=fun i=>if i<8 then some ⟨i,0,bsize W i⟩ else none,fz:=fun b=>W.heap[b]? }
theorem rM [Stat] {σ:Sg}{W:World}{i:Nat}{c:List AV}{cc:Array Value}{t:TypeId}(hr:ZZ σ c cc.toList)(hk:W.heap[i]? = some (.cells cc t)):BR σ ⟨i,0,bsize W i⟩ (.cells c t true 0 0) (.cells cc t):=by
 have hs:bsize W i=cc.size:=by unfold bsize;rw[hk]
 have hl:c.length=cc.size:=by rw[hr.length];exact alR
 refine⟨by simp only[hs],by simp only[hs,hl];omega,rfl,fun j a ha=>?_,fun h=>(by cases h),fun _=>⟨rfl,by simp only[hs,hl]⟩⟩;obtain⟨v,h1,h2⟩:=hr.get j a ha;refine⟨v,?_,h2⟩;rw[ald,<-al1];exact h1
theorem E7 {σ:Sg}{k:IntKind}:∀zs:List Int,ZZ σ (zs.map (AV.int k ·)) (zs.map (Value.int k ·))
 |[]=>rfl
 |z::zs=>⟨_,_,rfl,rfl,E7 zs⟩
theorem xN {W:World}{a:Addr}{s:ByteArray}{l:List UInt8}(h:W.cell? a=some (.string s))(hs:s.data.toList=l):ZY (Uo W).bare (.iface 347 (.fp [.str l] 0)) (.iface 347 (.pointer (some a))):=by
 obtain⟨h1,cc,e,fz,h2,h3⟩:=NC h;refine⟨_,rfl,a.block,a.off,[.string s],cc,e,fz,?_,h2,⟨_,_,rfl,⟨s,rfl,hs⟩,rfl⟩,fun i u hu=>?_⟩
 ·cases a;simp only at h1;subst h1;rfl
 ·cases i with
  |zero=>cases hu;exact h3
  |succ i=>simp at hu
variable [Z4]
theorem xM (i:Nat):(X8 U).look i=aJ i:=by
 have:(X8 U).get i=aJ i:=by rw[CJ,LJ]
 unfold St.look;rw[this];unfold aJ
 cases nE i <;> rfl
theorem tY {W:World}(G:DA W Z4.val){i:Nat}{b:Uy}(h:aJ i=some b):i<4/\b.own=false/\∃o,W.heap[i]? = some o/\BR (Uo W).bare ⟨i,0,bsize W i⟩ b o:=by
 match i,h with
 |0,h=>cases h;exact⟨by omega,rfl,_,G.g0,rM ⟨_,_,rfl,rfl,rfl⟩ G.g0⟩
 |1,h =>
  cases h
  obtain⟨cs,h1,h2⟩:=G.g1;exact⟨by omega,rfl,_,h1,rM (by rw[h2];exact E7 wa) h1⟩
 |2,h =>
  cases h
  obtain⟨a,s,h1,h2,h3⟩:=G.g2;exact⟨by omega,rfl,_,h1,rM ⟨_,_,rfl,xN h2 h3,rfl⟩ h1⟩
 |3,h =>
  cases h
  obtain⟨a,s,h1,h2,h3⟩:=G.g3;exact⟨by omega,rfl,_,h1,rM ⟨_,_,rfl,xN h2 h3,rfl⟩ h1⟩
 |n+4,h=>cases h
theorem Hn {W:World}{i:Nat}{p:Pl}(h:Uo W i=some p):i<8/\p=⟨i,0,bsize W i⟩:=by
 have h:(if i<8 then some (⟨i,0,bsize W i⟩:Pl) else none)=some p:=h
 split at h
 ·rename_i hi
  cases h;exact⟨hi,rfl⟩
 ·cases h
theorem rL {W:World}(G:DA W Z4.val)(c:Nat):¬Qr (Uo W) (X8 U) c:=by
 rintro⟨i,p,b,_,h2,h3,_⟩;rw[xM] at h2;rw[(tY G h2).2.1] at h3
 cases h3
theorem hr0 {W:World}(G:DA W Z4.val):HR (Uo W) (X8 U) W where
 lt i p h:=by
  obtain⟨hi,rfl⟩:=Hn h;have:=G.size;show i<_;omega
 E1 i p b h hb:=by
  obtain⟨hi,rfl⟩:=Hn h;rw[xM] at hb;obtain⟨_,_,o,h1,h2⟩:=tY G hb;exact⟨o,h1,h2.mono (Sg.T7 _)⟩
 inj i j p q b c h1 h2 _ _ h5:=by
  obtain⟨_,rfl⟩:=Hn h1;obtain⟨_,rfl⟩:=Hn h2;exact h5
 fz c o h:=⟨h,rL G c⟩
theorem ado {W:World}:Tn (Uo W) (X8 U):=fun i hi=>by
 rw[Hf,He] at hi;show (if i<8 then _ else none)=none;rw[if_neg (by omega)]
theorem ahk {W:World}(G:DA W Z4.val):WD U (Uo W):=fun g hg=>by
 rw[He] at hg;refine⟨bsize W g,if_pos hg,fun b hb=>?_⟩;rw[LJ] at hb;obtain⟨_,h1,o,h2,h3⟩:=tY G hb;exact⟨h1,o,h2,h3⟩
theorem g_ {W:World}(G:DA W Z4.val){f:FuncId}(Lx:U.ext f=none){args:List AV}{us:Array Value}{v:AV}(hv:ZZ (Uo W).bare args us.toList)(h:ZE U f args=some v) :
  Calls Tryz.prog f us W fun e W'=>∃u Yx,e=.returned u/\ZY Yx v u/\Below W.heap.size W W':=by
 have h1:=B4 h (X8 U);obtain⟨n,h2⟩:=oQ h1;refine (aa2 abQ Lx h2 (hr0 G) ado (ahk G) (hv.mono (Sg.T7 _) _ _)).mono ?_;rintro e W' ⟨u,Yx,he,hr,hg⟩;exact⟨u,Yx,he,hr,hg.ext.os,hg.ext.tape,hg.ext.output,hg.ext.size,fun k hk=>hg.ext.keep k hk (rL G k)⟩
end Go.Am
namespace Go.Am
open Go Go.Proofs Go.Proofs.YtikiipfbkfgmbaaGreatDoor Go.RowKit
set_option maxRecDepth 100000
set_option maxHeartbeats 10000000
theorem amN:Tryz.pinned.checked.prog.funcNamed Rows.triggerMeansRow.func=some 8:=by kernel_rfl
theorem inst8:Tryz.f8.isInstance Tryz.pinned.checked.prog Rows.triggerMeansRow.origin Rows.triggerMeansRow.targs:=of_decide_eq_true (by kernel_rfl)
theorem anQ:Tryz.f8.isWrapper Tryz.pinned.checked.prog Rows.triggerMeansRow.wrapper Rows.triggerMeansRow.mainSum:=by unfold Func.isWrapper;first|(rw[if_pos (by decide +kernel)];kernel_rfl)|(rw[if_neg (by decide +kernel)];exact⟨rfl,rfl⟩)
theorem am_:joinedFacts Tryz.pinned.checked.prog 8 Tryz.f8 Rows.triggerMeansSpec Rows.triggerMeansRow=true:=by
 unfold joinedFacts
 repeat' (with_reducible refine Bool.and_eq_true_iff.2 ⟨?_,?_⟩)
 all_goals as_aux_lemma=>kernel_rfl
end Go.Am
namespace Go.Am
open Go Go.Proofs Go.Proofs.YtikiipfbkfgmbaaGreatDoor Go.RowKit
open Go.ChangeShapes Go.WideShapes Go.ChangeAt
set_option maxRecDepth 100000
theorem anP:ownKnob Tryz.prog.godebug=none:=by kernel_rfl
theorem aov:laidOutB Tryz.prog=true:=by kernel_rfl
theorem am8:Tryz.prog.readableRec 31=true:=by kernel_rfl
theorem anu:31<Tryz.prog.types.size:=of_decide_eq_true (by kernel_rfl)
theorem am9:Tryz.prog.readableRec 40=true:=by kernel_rfl
theorem anv:40<Tryz.prog.types.size:=of_decide_eq_true (by kernel_rfl)
theorem amM {v u:Value}{vs:Array Value}(hu:u=.agg vs)(h:v.cells.toList=u.cells.toList)(h2:vs.size=2):v=u:=by
 subst hu;have hc:∀x:Value,([x]:List Value)=vs.toList->False:=fun x hx=>by
  have:=congrArg List.length hx;have h3:vs.toList.length=vs.size:=alR;rw[h3,h2] at this
  cases this
 cases v <;> first
  |(exfalso;exact hc _ h)
  |skip
 rename_i cs;have h:cs.toList=vs.toList:=h;rw[Array.toList_inj.1 h]
theorem aop {H:Type}(enc:TypeId×Value->H)(law:∀[Z4] (p:Prog) (nl:Bool) (l:List Int),ZE U 8 [Vw p,ZG nl (ints l)]=some (.bool true))(W:World)(args:Array Value)(ds gs:List (DataW H))(before:List MemPlace)
  (hW:DataW.Whole enc Tryz.prog Tryz.f8.params.toList Rows.triggerMeansSpec.vars false W args.toList ds gs before)(hL:laidMetH Tryz.prog zN W)(QC:W.ShapedOpen Tryz.prog){b0:Nat}
  (X5:∀(j:Nat) t v,Tryz.f8.params[j]? = some t->args[j]? = some v->Value.okWide Tryz.prog W .any b0 t v) :
  Calls Tryz.prog 8 args W fun e W'=>∃v,e=.returned v/\Rows.triggerMeansSpec.post enc Tryz.prog Tryz.f8 false true false false W args v W':=by
 have rE:=hW;have Yh:=hW.lt;obtain⟨p,q,hA0,hV,rfl,Rk,EG⟩:=hW;have hA:DataW.TrodAll enc Tryz.prog W 0 (fun _=>true) true Tryz.f8.params.toList args.toList ds p:=hA0;rw[Tryz.params8] at hA;obtain⟨v0,v1,d0,d1,p0,p1,rfl,rfl,rfl,h0,h1⟩:=trodAll_two hA;obtain⟨rfl,rfl⟩:=trodVars_none hV;have k1:=X5 1 40 v1 (by rw[Tryz.params8];rfl) rfl;obtain⟨a2,aiq,bN,rfl⟩:=okWide_slice Tryz.underlying40 k1;obtain⟨aoh,hf1⟩:=id h0;obtain⟨aoi,hf2⟩:=id h1;obtain⟨m,G⟩:=lW hL QC
 letI:Z4:=⟨m⟩
 obtain⟨pr,u,hu,OC⟩:=dR (σ:=Uo W) (fun b o h=>h) hf1;have nQ:v0=u:=by
  obtain⟨vs,SI,hr⟩:=id hu;exact amM SI OC.symm (by rw[<-alR,<-hr.length];rfl)
 subst nQ;obtain⟨nl,l,w2,MT,M_,_⟩:=open_row (σ:=Uo W) (fun b o h=>h) (fun x:Int=>AV.int .i64 x) (k:=1) (by omega) Tryz.underlying40 amZ hf2 fun m cs x hm hx=>by
  obtain⟨z,f,_,_⟩:=DataW.trod_int Tryz.underlying3 hx;exact⟨z,.int .i64 z,rfl,f.symm⟩
 have Mx:w2=.slice a2 aiq bN:=by
  have:([Value.slice a2 aiq bN]:List Value)=[w2]:=MT;exact (List.cons.inj this).1.symm
 subst Mx;rw[zi] at M_;refine (g_ (W:=W) G (f:=8) (by rw[zq];rfl) (args:=[Vw pr,ZG nl (ints l)]) (us:=#[v0,.slice a2 aiq bN]) ⟨_,_,rfl,hu,_,_,rfl,M_,rfl⟩ (law pr nl l)).mono ?_;rintro e W' ⟨u',Yx,rfl,Ur,hB⟩;have Ur:u'=.bool true:=Ur;subst Ur;refine⟨_,rfl,[d0,d1],[],_,[],_,[],rE,trodAll_mk1 (shut_bool Tryz.underlying4 _),trodAll_mk2 (Below.trod aov am8 anu h0 hB fun x hx=>Yh x (by simp[hx])) (Below.trod aov am9 anv h1 hB fun x hx=>Yh x (by simp[hx])),rfl,hB.frame _,fun h=>by cases h⟩
theorem aoC (law:∀[Z4] (p:Prog) (nl:Bool) (l:List Int),ZE U 8 [Vw p,ZG nl (ints l)]=some (.bool true))(os:Os)(started:os.Started)(H:Type)(enc:TypeId×Value->H) :
  ReturnsInHanded {} Tryz.checked os 8 .any (fun w args=>(Rows.triggerMeansSpec.pre enc Tryz.prog Tryz.f8 [] false w args/\laidMetH Tryz.prog zN w)/\sizedMet enc Tryz.prog Tryz.f8 (OpenSpec.ofChange Rows.triggerMeansSpec) false w args)
   (Rows.triggerMeansSpec.post enc Tryz.prog Tryz.f8 false true false false):=by
 refine returnsInHanded_of_calls anP started (by kernel_rfl)
  (ChangeSpec.witness_shaped (enc:=enc) (C:=Tryz.checked) (os:=os) (X:=fun w _=>laidMetH Tryz.prog zN w) false (World.laidAll Tryz.prog os zN) #[.agg #[.int .i64 0,.slice none 0 0],.slice none 0 0] 8 (World.laidAll_os _ _ _)
   (World.shaped_of_ZipB (by kernel_rfl) (by kernel_rfl)) (by kernel_rfl) (by kernel_rfl) (by kernel_rfl)
   (by rw[MakeChecks.laidMetH_plain _ _ _ (by kernel_rfl)];exact laidMet_laidAll _ (by kernel_rfl) (by kernel_rfl))) ?_
 intro w tape i _ QC _ X5 vu akH;obtain⟨⟨⟨ds,gs,before,hw,hc⟩,hx⟩,hz⟩:=vu;have LS:=DataW.Whole.of_heap (w':=w.forCall tape i) (by rfl) hw;obtain⟨_,_,_,fn,dG,_,_,_,_,KB⟩:=X5;obtain rfl:fn=Tryz.f8:=(Option.some.inj (Tryz.func8.symm.trans dG)).symm;refine (aop enc law (w.forCall tape i) i.args ds gs before LS (hx.of_heap (by rfl)) QC KB).mono ?_;rintro e W' ⟨v,rfl,hp⟩;exact ChangeSpec.post_blind hp
theorem aoL (law:∀[Z4] (p:Prog) (nl:Bool) (l:List Int),ZE U 8 [Vw p,ZG nl (ints l)]=some (.bool true)):Rows.TriggerMeansSaid :=
 OpenClaim.holds_of_wide 8 Tryz.f8 rfl rfl rfl rfl rfl rfl rfl ⟨rfl,rfl,rfl,rfl,rfl⟩ rfl rfl rfl rfl rfl amN Tryz.func8 am_ inst8 anQ (fun os started H enc _=>aoC law os started H enc)
theorem wf8:Rows.triggerMeansRow.wfByText (OpenSpec.ofChange Rows.triggerMeansSpec)=true:=by kernel_rfl
theorem anw:true=Tryz.prog.looks []:=by kernel_rfl
theorem anx:(#[31,40].toList.all fun u=>!Tryz.prog.wantsStandIn u)=true:=by kernel_rfl
theorem anR:Tryz.pinned.checked.prog.mainIs=some (Rows.triggerMeansCard.stood.harness.1,Rows.triggerMeansCard.stood.harness.2.toList):=by kernel_rfl
theorem anS:false=Rows.triggerMeansRow.goesBy Tryz.pinned.checked.prog:=by kernel_rfl
theorem aoU (law:∀[Z4] (p:Prog) (nl:Bool) (l:List Int),ZE U 8 [Vw p,ZG nl (ints l)]=some (.bool true)):Rows.TriggerMeansCardSaid :=
 Claim7.holds_tied_plain_at .later [] [.data,.data,.data,.data,.sentinel,.sentinel,.pinned] true Rows.triggerMeansCard.stood.harness true (aoL law) (fun _ h=>by cases h) wf8 (fun _ h=>by cases h) triggerMeans_row_tie rfl ⟨rfl,rfl⟩ anR rfl
  (fun f fn hf dG=>by
   obtain rfl:f=8:=Option.some.inj (amN.symm.trans hf) |>.symm;obtain rfl:fn=Tryz.f8:=(Option.some.inj (Tryz.func8.symm.trans dG)).symm;refine⟨anw,fun j t ht=>?_⟩;rw[Tryz.params8] at ht;have hm:t∈#[31,40].toList:=by rw[<-al1] at ht;exact amu ht
   have:=alK.1 anx t hm;rw[ams] at this;exact this)
  anS
end Go.Am
