/- A part of the proof of a statement of this seat: the machine on which the program is read, and what it computes; for every input. -/
import Derived.Test.YtkmaeondbkpajaaGreatDoorG35
import Derived.Test.YtkmaeondbkpajaaGreatDoorG02
import Derived.Test.YtkmaeondbkpajaaGreatDoorTie
import Derived.Test.YtkmaeondbkpajaaGreatDoorCards
import Derived.ProofKit
import Derived.OpenShut
import Derived.LaidMore
import Derived.LaidLaws
import Derived.Lay
import Derived.Below
import Derived.Shelf.Vars
import Derived.SevenTiedAt
import Derived.Stop.Joined
set_option linter.all false
namespace Go.Am
open Go Go.Proofs
set_option maxRecDepth 100000
variable {H:Type}{enc:TypeId×Value->H}{w:World}{σ:Sg}
theorem AH (nl:Bool)(l:List AV):oH nl l=ZG nl l:=by cases nl <;> cases l <;> rfl
theorem nB:Tryz.prog.cellsOf 106=7:=by kernel_rfl
theorem c8:Tryz.prog.cellsOf 109=9:=by kernel_rfl
theorem adQ:Tryz.prog.cellsOf 31=2:=by kernel_rfl
theorem UY {α:Type}{l:List α}{i:Nat}(h:i<l.length):∃x,l[i]? = some x:=⟨l[i],aaa h⟩
theorem EE {σ:Sg}:∀(a b:List AV) (x y:List Value),ZU σ a x->ZU σ b y->ZU σ (a++b) (x++y)
 |[],b,x,y,h1,h2=>by
  have h1:x=[]:=h1;subst h1;exact h2
 |a::l,b,x,y,h1,h2=>by
  obtain⟨v,z,rfl,h3,h4⟩:=h1;exact⟨v,z++y,rfl,h3,EE l b z y h4 h2⟩
theorem gy (hz:∀b o,w.heap[b]? = some o->σ.fz b=some o){base:Nat}{spare:Nat->Bool}{held:Bool}:∀(fuel:Nat) (cs:List Value) (x:DataW H×List MemPlace),DataW.trod enc Tryz.prog w base spare held fuel 106 cs=some x ->
  ∃(c:ZX) (u:Value),ZT σ.bare (Zt c) u/\u.cells.toList=cs:=by
 intro fuel
 induction fuel using Nat.strongRecOn with
 |ind fuel ih =>
 intro cs x h;obtain⟨xs,n,hn,_,hlen,Wh,F3⟩:=DataW.trod_struct Tryz.underlying106 h;rw[nB] at hlen
 match cs,hlen with
 |[v0,v1,v2,v3,v4,v5,v6],_ =>
  have hx7:xs.length=7:=Wh;have h0:=F3 0 _ rfl;have h1:=F3 1 _ rfl;have h2:=F3 2 _ rfl;have h3:=F3 3 _ rfl;have h4:=F3 4 _ rfl;have h5:=F3 5 _ rfl;have h6:=F3 6 _ rfl
  try simp only[ajS,List.drop_succ_cons,List.take_succ_cons,List.take_zero] at h0 h1 h2 h3 h4 h5 h6
  obtain⟨x0,e0⟩:=UY (l:=xs) (i:=0) (by omega);obtain⟨x1,e1⟩:=UY (l:=xs) (i:=1) (by omega);obtain⟨x2,e2⟩:=UY (l:=xs) (i:=2) (by omega);obtain⟨x3,e3⟩:=UY (l:=xs) (i:=3) (by omega);obtain⟨x4,e4⟩:=UY (l:=xs) (i:=4) (by omega);obtain⟨x5,e5⟩:=UY (l:=xs) (i:=5) (by omega);obtain⟨x6,e6⟩:=UY (l:=xs) (i:=6) (by omega);rw[e0] at h0;rw[e1] at h1;rw[e2] at h2;rw[e3] at h3;rw[e4] at h4;rw[e5] at h5;rw[e6] at h6;obtain⟨s0,f0,_,_⟩:=DataW.trod_string Tryz.underlying9 h0;obtain⟨n1,f1,_,_⟩:=DataW.trod_int Tryz.underlying3 h1;obtain⟨n2,f2,_,_⟩:=DataW.trod_int Tryz.underlying3 h2;obtain⟨n3,f3,_,_⟩:=DataW.trod_int Tryz.underlying3 h3;obtain⟨n4,f4,_,_⟩:=DataW.trod_int Tryz.underlying3 h4;obtain⟨s5,f5,_,_⟩:=DataW.trod_string Tryz.underlying9 h5;obtain⟨nl,kids,u6,f6,hr6,_⟩:=open_row hz Zt (k:=7) (by omega) Tryz.underlying104 nB h6 fun m cs x hm hx=>ih m (by omega) cs x hx
  cases f0;cases f1;cases f2;cases f3;cases f4;cases f5;cases f6
  rw[AH,<-Px] at hr6;refine⟨.mk s0.data.toList n1 n2 n3 n4 s5.data.toList nl kids,.agg #[.string s0,.int .i64 n1,.int .i64 n2,.int .i64 n3,.int .i64 n4,.string s5,v6],?_,rfl⟩;rw[Zt];exact⟨_,rfl,_,_,rfl,⟨s0,rfl,rfl⟩,_,_,rfl,rfl,_,_,rfl,rfl,_,_,rfl,rfl,_,_,rfl,rfl,_,_,rfl,⟨s5,rfl,rfl⟩,_,_,rfl,hr6,rfl⟩
theorem gx (hz:∀b o,w.heap[b]? = some o->σ.fz b=some o){base:Nat}{spare:Nat->Bool}{held:Bool}(fuel:Nat)(cs:List Value)(x:DataW H×List MemPlace)(h:DataW.trod enc Tryz.prog w base spare held fuel 109 cs=some x) :
  ∃(c:Step) (u:Value),ZT σ.bare (YM c) u/\u.cells.toList=cs:=by
 obtain⟨xs,n,hn,_,hlen,Wh,F3⟩:=DataW.trod_struct Tryz.underlying109 h;rw[c8] at hlen
 match cs,hlen with
 |[v0,v1,v2,v3,v4,v5,v6,v7,v8],_ =>
  have hx7:xs.length=3:=Wh;have h0:=F3 0 _ rfl;have h1:=F3 1 _ rfl;have h2:=F3 2 _ rfl
  try simp only[nB,ajS,List.drop_succ_cons,List.take_succ_cons,List.take_zero] at h0 h1 h2
  obtain⟨x0,e0⟩:=UY (l:=xs) (i:=0) (by omega);obtain⟨x1,e1⟩:=UY (l:=xs) (i:=1) (by omega);obtain⟨x2,e2⟩:=UY (l:=xs) (i:=2) (by omega);rw[e0] at h0;rw[e1] at h1;rw[e2] at h2;obtain⟨c,u,hu,NB⟩:=gy hz _ _ _ h0;obtain⟨n1,f1,_,_⟩:=DataW.trod_int Tryz.underlying3 h1;obtain⟨n2,f2,_,_⟩:=DataW.trod_int Tryz.underlying3 h2
  cases f1;cases f2
  rw[ZN] at hu;obtain⟨vs,rfl,TA⟩:=hu;have agR:vs.toList=[v0,v1,v2,v3,v4,v5,v6]:=NB;rw[agR] at TA;refine⟨⟨c,n1,n2⟩,.agg #[v0,v1,v2,v3,v4,v5,v6,.int .i64 n1,.int .i64 n2],?_,rfl⟩;have:=EE c.cells [.int .i64 n1,.int .i64 n2] [v0,v1,v2,v3,v4,v5,v6] [.int .i64 n1,.int .i64 n2] TA ⟨_,_,rfl,rfl,_,_,rfl,rfl,rfl⟩;exact⟨_,rfl,this⟩
theorem gw (hz:∀b o,w.heap[b]? = some o->σ.fz b=some o){base:Nat}{spare:Nat->Bool}{held:Bool}{fuel:Nat}{cs:List Value}{x:DataW H×List MemPlace}(h:DataW.trod enc Tryz.prog w base spare held fuel 31 cs=some x) :
  ∃(p:Prog) (u:Value),ZT σ.bare (UU p) u/\u.cells.toList=cs:=by
 obtain⟨xs,n,hn,_,hlen,Wh,F3⟩:=DataW.trod_struct Tryz.underlying31 h;rw[adQ] at hlen
 match cs,hlen with
 |[v0,v1],_ =>
  have hx7:xs.length=2:=Wh;have h0:=F3 0 _ rfl;have h1:=F3 1 _ rfl
  try simp only[ajS,List.drop_succ_cons,List.take_succ_cons,List.take_zero] at h0 h1
  obtain⟨x0,e0⟩:=UY (l:=xs) (i:=0) (by omega);obtain⟨x1,e1⟩:=UY (l:=xs) (i:=1) (by omega);rw[e0] at h0;rw[e1] at h1;obtain⟨n0,f0,_,_⟩:=DataW.trod_int Tryz.underlying3 h0;obtain⟨nl,steps,u1,f1,B6,_⟩:=open_row hz YM (k:=9) (by omega) Tryz.underlying29 c8 h1 fun m cs x hm hx=>gx hz m cs x hx
  cases f0;cases f1
  rw[AH] at B6;exact⟨⟨n0,nl,steps⟩,.agg #[.int .i64 n0,v1],⟨_,rfl,_,_,rfl,rfl,_,_,rfl,B6,rfl⟩,rfl⟩
end Go.Am
namespace Go.Am
open Go Go.Proofs Go.Proofs.YtkmaeondbkpajaaGreatDoor Go.RowKit
set_option maxRecDepth 100000
def Bg:List (String×DataW Unit):=Rows.topSweepSignalsRow.laid
def xQ:List Int:=[1,10,100,1000,10000,100000,1000000,10000000,100000000,1000000000,10000000000,100000000000,1000000000000,10000000000000,100000000000000,1000000000000000,10000000000000000,100000000000000000,1000000000000000000,10000000000000000000]
structure EU (W:World)(m:Int):Prop where
 g0:W.heap[0]? = some (.cells #[.int .i64 m] 3)
 g1:∃cs:Array Value,W.heap[1]? = some (.cells cs 313)/\cs.toList=xQ.map (.int .u64 ·)
 size:8<=W.heap.size
theorem ow {W:World}(SF:W.ShapedOpen Tryz.prog){g t n:Nat}(hg:g<Tryz.prog.globals.size)(h0:(((begin Tryz.prog (fun _ _=>0) default).world.heap[g]?).bind Obj.row?).map (fun x=>(x.1.size,x.2))=some (n,t)):∃cs,W.heap[g]? = some (.cells cs t)/\cs.size=n:=by
 obtain⟨⟨z,t'⟩,h1,h2⟩:=aj6.1 h0
 cases h2
 obtain⟨cs,h3,h4,_⟩:=SF.1 g z _ hg h1;exact⟨cs,h3,h4⟩
theorem ou {n:String}{g k:Nat}(h:Tryz.prog.globalNamed n=some g)(h':Tryz.prog.globalNamed n=some k):k=g:=Option.some.inj (h'.symm.trans h)
theorem aaf:Tryz.prog.cellsOf 280=1:=by kernel_rfl
theorem aag:Tryz.prog.cellsOf 313=20:=by kernel_rfl
theorem aah {H:Type}{enc:TypeId×Value->H}{W:World}{base:Nat}{sp:Nat->Bool}{held:Bool}{fuel:Nat}{cs:List Value}{zs:List Int}{p:List MemPlace}
  (h:DataW.trod enc Tryz.prog W base sp held fuel 313 cs=some (.agg (zs.map fun z=>.lit (.int .u64 z)),p)):cs=zs.map (.int .u64 ·):=by
 obtain⟨xs,m,_,ex,hlen,hl,F3⟩:=DataW.trod_array Tryz.underlying313 h;rw[aag] at hlen;have e1:(zs.map fun z=>(DataW.lit (.int .u64 z):DataW H))=xs.map (·.1):=DataW.agg.inj (Prod.mk.inj ex).1;have hzl:zs.length=xs.length:=by have:=congrArg List.length e1;simpa using this
 refine List.ext_getElem? fun i=>?_
 by_cases hi:i<20
 ·have hE:=F3 i hi;rw[aaf,ajj,aaa (by omega)] at hE;obtain⟨z,e2,e3,_⟩:=DataW.trod_int Tryz.underlying280 hE;have e4:(zs.map fun z=>(DataW.lit (.int .u64 z):DataW H))[i]? = (xs.map (·.1))[i]? := by rw[e1]
  rw[ajv,ajv,aaa (by omega:i<xs.length),e3] at e4;obtain⟨z',jE,hzz⟩:=aj6.1 e4
  cases hzz
  rw[ajv,jE];have h0:((cs.drop i).take 1)[0]? = some (.int .u64 z):=by rw[e2];rfl
  simpa using h0
 ·rw[akb (by omega),akb (by rw[aje,hzl];have:xs.length=20:=hl;omega)]
theorem ot {W:World}(hL:laidMetH Tryz.prog Bg W)(SF:W.ShapedOpen Tryz.prog):∃m,EU W m:=by
 rw[MakeChecks.laidMetH_plain _ _ _ (by kernel_rfl)] at hL;obtain⟨ps,⟨_,_,_,_,_,_,_,_,_,_,⟨g7,_,cs7,_,_,_,hg7,_,hv7,_,⟨g1,t1,cs1,f1,p1,q1,su,ht1,Qm,hd1,_,e1⟩,e5⟩,e6⟩,_,Ya⟩:=hL;obtain rfl:=ou su (k:=1) (by kernel_rfl);obtain rfl:=Option.some.inj ((show (Tryz.prog.globals[1]?).map (·.type)=some 313 by kernel_rfl).symm.trans ht1);obtain⟨c0,k0,z0⟩:=ow (g:=0) (t:=3) (n:=1) SF (of_decide_eq_true (by kernel_rfl)) (by kernel_rfl);obtain⟨c1,k1,z1⟩:=ow (g:=1) (t:=313) (n:=20) SF (of_decide_eq_true (by kernel_rfl)) (by kernel_rfl);obtain⟨c7,k7,z7⟩:=ow (g:=7) (t:=340) (n:=32) SF (of_decide_eq_true (by kernel_rfl)) (by kernel_rfl);obtain⟨m,hm⟩:=cell_of_shapedOpen_int (P:=Tryz.prog) (g:=0) (t:=3) (zero:=#[.int .i64 0]) SF (of_decide_eq_true (by kernel_rfl)) (by kernel_rfl) rfl (by kernel_rfl) (by kernel_rfl) Tryz.underlying3;have same:∀{g:Nat} {c cs:Array Value} {t:TypeId},W.heap[g]? = some (.cells c t)->(∀i,W.cell? ⟨g,i,none⟩=cs[i]?)->c=cs:=fun {g c cs t} hk hc=>by
  refine Array.ext_getElem? fun i=>?_
  rw[<-hc i];simp[World.cell?,hk]
 refine⟨m,?_,⟨c1,k1,?_⟩,?_⟩
 ·have:c0=#[.int .i64 m]:=by
   have h0:c0[0]? = some (.int .i64 m):=by rw[<-hm];simp[World.cell?,k0]
   match c0,z0,h0 with
   |⟨[x]⟩,_,h0=>simp at h0;rw[h0]
  rw[k0,this]
 ·have:=same k1 (World.var?_cell su Qm);subst this;exact aah (zs:=xQ) hd1
 ·have:=(ajd.1 k7).1;omega
end Go.Am
namespace Go.Am
open Go Go.Proofs Go.Proofs.YtkmaeondbkpajaaGreatDoor Go.RowKit
set_option maxRecDepth 100000
def bsize (W:World)(i:Nat):Nat:=match W.heap[i]? with
 |some (.cells cc _ _)=>cc.size
 |_=>0
def UD (W:World):Sg:={ m:=fun i=>if i<8 then some ⟨i,0,bsize W i⟩ else none,fz:=fun b=>W.heap[b]? }
theorem bW [Stat] {σ:Sg}{W:World}{i:Nat}{c:List AV}{cc:Array Value}{t:TypeId}(hr:ZU σ c cc.toList)(hk:W.heap[i]? = some (.cells cc t)):BR σ ⟨i,0,bsize W i⟩ (.cells c t true 0 0) (.cells cc t):=by
 have hs:bsize W i=cc.size:=by unfold bsize;rw[hk]
 have hl:c.length=cc.size:=by rw[hr.length];exact ajx
 refine⟨by simp only[hs],by simp only[hs,hl];omega,rfl,fun j a ha=>?_,fun h=>(by cases h),fun _=>⟨rfl,by simp only[hs,hl]⟩⟩;obtain⟨v,h1,h2⟩:=hr.get j a ha;refine⟨v,?_,h2⟩;rw[ajr,<-ajK];exact h1
theorem GC {σ:Sg}{k:IntKind}:∀zs:List Int,ZU σ (zs.map (AV.int k ·)) (zs.map (Value.int k ·))
 |[]=>rfl
 |z::zs=>⟨_,_,rfl,rfl,GC zs⟩
variable [ZZ]
theorem zr (i:Nat):(Yl U).look i=dL i:=by
 have:(Yl U).get i=dL i:=by rw[D0,M_]
 unfold St.look;rw[this];unfold dL
 cases pD i <;> rfl
theorem wa {W:World}(G:EU W ZZ.val){i:Nat}{b:Vr}(h:dL i=some b):i<4/\b.own=false/\∃o,W.heap[i]? = some o/\BR (UD W).bare ⟨i,0,bsize W i⟩ b o:=by
 match i,h with
 |0,h=>cases h;exact⟨by omega,rfl,_,G.g0,bW ⟨_,_,rfl,rfl,rfl⟩ G.g0⟩
 |1,h =>
  cases h
  obtain⟨cs,h1,h2⟩:=G.g1;exact⟨by omega,rfl,_,h1,bW (by rw[h2];exact GC xQ) h1⟩
 |n+2,h=>cases h
theorem Ji {W:World}{i:Nat}{p:Pl}(h:UD W i=some p):i<8/\p=⟨i,0,bsize W i⟩:=by
 have h:(if i<8 then some (⟨i,0,bsize W i⟩:Pl) else none)=some p:=h
 split at h
 ·rename_i hi
  cases h;exact⟨hi,rfl⟩
 ·cases h
theorem tE {W:World}(G:EU W ZZ.val)(c:Nat):¬Rv (UD W) (Yl U) c:=by
 rintro⟨i,p,b,_,h2,h3,_⟩;rw[zr] at h2;rw[(wa G h2).2.1] at h3
 cases h3
theorem hr0 {W:World}(G:EU W ZZ.val):HR (UD W) (Yl U) W where
 lt i p h:=by
  obtain⟨hi,rfl⟩:=Ji h;have:=G.size;show i<_;omega
 Gv i p b h hb:=by
  obtain⟨hi,rfl⟩:=Ji h;rw[zr] at hb;obtain⟨_,_,o,h1,h2⟩:=wa G hb;exact⟨o,h1,h2.mono (Sg.Uv _)⟩
 inj i j p q b c h1 h2 _ _ h5:=by
  obtain⟨_,rfl⟩:=Ji h1;obtain⟨_,rfl⟩:=Ji h2;exact h5
 fz c o h:=⟨h,tE G c⟩
theorem ab' {W:World}:TY (UD W) (Yl U):=fun i hi=>by
 rw[IX,IW] at hi;show (if i<8 then _ else none)=none;rw[if_neg (by omega)]
theorem afM {W:World}(G:EU W ZZ.val):WR U (UD W):=fun g hg=>by
 rw[IW] at hg;refine⟨bsize W g,if_pos hg,fun b hb=>?_⟩;rw[M_] at hb;obtain⟨_,h1,o,h2,h3⟩:=wa G hb;exact⟨h1,o,h2,h3⟩
theorem mT {W:World}(G:EU W ZZ.val){f:FuncId}(MY:U.ext f=none){args:List AV}{us:Array Value}{v:AV}(hv:ZU (UD W).bare args us.toList)(h:Zw U f args=some v) :
  Calls Tryz.prog f us W fun e W'=>∃u YE,e=.returned u/\ZT YE v u/\Below W.heap.size W W':=by
 have h1:=Df h (Yl U);obtain⟨n,h2⟩:=qA h1;refine (aZ aaI MY h2 (hr0 G) ab' (afM G) (hv.mono (Sg.Uv _) _ _)).mono ?_;rintro e W' ⟨u,YE,he,hr,hg⟩;exact⟨u,YE,he,hr,hg.ext.os,hg.ext.tape,hg.ext.output,hg.ext.size,fun k hk=>hg.ext.keep k hk (tE G k)⟩
end Go.Am
namespace Go.Am
open Go Go.Proofs Go.Proofs.YtkmaeondbkpajaaGreatDoor Go.RowKit
set_option maxRecDepth 100000
set_option maxHeartbeats 10000000
theorem ng:Tryz.pinned.checked.prog.funcNamed Rows.topSweepSignalsRow.func=some 4:=by kernel_rfl
theorem ad4:Tryz.f4.isInstance Tryz.pinned.checked.prog Rows.topSweepSignalsRow.origin Rows.topSweepSignalsRow.targs:=of_decide_eq_true (by kernel_rfl)
theorem ad5:Tryz.f4.isWrapper Tryz.pinned.checked.prog Rows.topSweepSignalsRow.wrapper Rows.topSweepSignalsRow.mainSum:=by unfold Func.isWrapper;first|(rw[if_pos (by decide +kernel)];kernel_rfl)|(rw[if_neg (by decide +kernel)];exact⟨rfl,rfl⟩)
theorem gg:joinedFacts Tryz.pinned.checked.prog 4 Tryz.f4 Rows.topSweepSignalsSpec Rows.topSweepSignalsRow=true:=by
 unfold joinedFacts
 repeat' (with_reducible refine Bool.and_eq_true_iff.2 ⟨?_,?_⟩)
 all_goals as_aux_lemma=>kernel_rfl
end Go.Am
namespace Go.Am
open Go Go.Proofs Go.Proofs.YtkmaeondbkpajaaGreatDoor Go.RowKit
open Go.ChangeShapes Go.WideShapes Go.ChangeAt
set_option maxRecDepth 100000
theorem ag7:ownKnob Tryz.prog.godebug=none:=by kernel_rfl
theorem Az:laidOutB Tryz.prog=true:=by kernel_rfl
theorem gf:Tryz.prog.readableRec 31=true:=by kernel_rfl
theorem aaP:31<Tryz.prog.types.size:=of_decide_eq_true (by kernel_rfl)
theorem aaQ:Tryz.prog.readableRec 5=true:=by kernel_rfl
theorem ad':5<Tryz.prog.types.size:=of_decide_eq_true (by kernel_rfl)
theorem mU {v u:Value}{vs:Array Value}(hu:u=.agg vs)(h:v.cells.toList=u.cells.toList)(h2:vs.size=2):v=u:=by
 subst hu;have hc:∀x:Value,([x]:List Value)=vs.toList->False:=fun x hx=>by
  have:=congrArg List.length hx;have h3:vs.toList.length=vs.size:=ajx;rw[h3,h2] at this
  cases this
 cases v <;> first
  |(exfalso;exact hc _ h)
  |skip
 rename_i cs;have h:cs.toList=vs.toList:=h;rw[Array.toList_inj.1 h]
theorem K4 {H:Type}(enc:TypeId×Value->H)(law:∀[ZZ] (p:Prog) (b:Nat),b<256->Zw U 4 [UU p,.int .u8 (b:Nat)]=some (.bool true))(W:World)(args:Array Value)(ds gs:List (DataW H))(before:List MemPlace)
  (hW:DataW.Whole enc Tryz.prog Tryz.f4.params.toList Rows.topSweepSignalsSpec.vars false W args.toList ds gs before)(hL:laidMetH Tryz.prog Bg W)(SF:W.ShapedOpen Tryz.prog){b0:Nat}
  (Ya:∀(j:Nat) t v,Tryz.f4.params[j]? = some t->args[j]? = some v->Value.okWide Tryz.prog W .any b0 t v) :
  Calls Tryz.prog 4 args W fun e W'=>∃v,e=.returned v/\Rows.topSweepSignalsSpec.post enc Tryz.prog Tryz.f4 false true false false W args v W':=by
 have tp:=hW;have YH:=hW.lt;obtain⟨p,q,hA0,hV,rfl,NA,BL⟩:=hW;have hA:DataW.TrodAll enc Tryz.prog W 0 (fun _=>true) true Tryz.f4.params.toList args.toList ds p:=hA0;rw[Tryz.params4] at hA;obtain⟨v0,v1,d0,d1,p0,p1,rfl,rfl,rfl,h0,h1⟩:=trodAll_two hA;obtain⟨rfl,rfl⟩:=trodVars_none hV;have k1:=Ya 1 5 v1 (by rw[Tryz.params4];rfl) rfl;obtain⟨z,rfl⟩:=okWide_int Tryz.underlying5 k1;obtain⟨aiM,hf1⟩:=id h0;obtain⟨aiN,hf2⟩:=id h1;obtain⟨m,G⟩:=ot hL SF
 letI:ZZ:=⟨m⟩
 obtain⟨pr,u,hu,NB⟩:=gw (σ:=UD W) (fun b o h=>h) hf1;have pN:v0=u:=by
  obtain⟨vs,TA,hr⟩:=id hu;exact mU TA NB.symm (by rw[<-ajx,<-hr.length];rfl)
 subst pN;obtain⟨z',zp,_,QZ⟩:=DataW.trod_int Tryz.underlying5 hf2;have hzz:z=z':=by
  have:([Value.int .u8 z]:List Value)=[Value.int .u8 z']:=zp
  cases this;rfl
 subst hzz;obtain⟨b,rfl,hb⟩:∃b:Nat,z=(b:Nat)/\b<256:=by
  have QZ:(decide (IntKind.u8.min<=z)&&decide (z<=IntKind.u8.max))=true:=QZ;rw[adm,decide_eq_true_iff,decide_eq_true_iff] at QZ;have e1:IntKind.u8.min=0:=rfl;have e2:IntKind.u8.max=255:=rfl;exact⟨z.toNat,by omega,by omega⟩
 refine (mT (W:=W) G (f:=4) (by rw[AP];rfl) (args:=[UU pr,.int .u8 (b:Nat)]) (us:=#[v0,.int .u8 (b:Nat)]) ⟨_,_,rfl,hu,_,_,rfl,rfl,rfl⟩ (law pr b hb)).mono ?_;rintro e W' ⟨u',YE,rfl,UM,hB⟩;have UM:u'=.bool true:=UM;subst UM;refine⟨_,rfl,[d0,d1],[],_,[],_,[],tp,trodAll_mk1 (shut_bool Tryz.underlying4 _),trodAll_mk2 (Below.trod Az gf aaP h0 hB fun x hx=>YH x (by simp[hx])) (Below.trod Az aaQ ad' h1 hB fun x hx=>YH x (by simp[hx])),rfl,hB.frame _,fun h=>by cases h⟩
theorem Hx (law:∀[ZZ] (p:Prog) (b:Nat),b<256->Zw U 4 [UU p,.int .u8 (b:Nat)]=some (.bool true))(os:Os)(started:os.Started)(H:Type)(enc:TypeId×Value->H) :
  ReturnsInHanded {} Tryz.checked os 4 .any (fun w args=>(Rows.topSweepSignalsSpec.pre enc Tryz.prog Tryz.f4 [] false w args/\laidMetH Tryz.prog Bg w)/\sizedMet enc Tryz.prog Tryz.f4 (OpenSpec.ofChange Rows.topSweepSignalsSpec) false w args)
   (Rows.topSweepSignalsSpec.post enc Tryz.prog Tryz.f4 false true false false):=by
 refine returnsInHanded_of_calls ag7 started (by kernel_rfl)
  (ChangeSpec.witness_shaped (enc:=enc) (C:=Tryz.checked) (os:=os) (X:=fun w _=>laidMetH Tryz.prog Bg w) false (World.laidAll Tryz.prog os Bg) #[.agg #[.int .i64 0,.slice none 0 0],.int .u8 0] 4 (World.laidAll_os _ _ _)
   (World.shaped_of_ZipB (by kernel_rfl) (by kernel_rfl)) (by kernel_rfl) (by kernel_rfl) (by kernel_rfl)
   (by rw[MakeChecks.laidMetH_plain _ _ _ (by kernel_rfl)];exact laidMet_laidAll _ (by kernel_rfl) (by kernel_rfl))) ?_
 intro w tape i _ SF _ Ya aaR ag8;obtain⟨⟨⟨ds,gs,before,hw,hc⟩,hx⟩,hz⟩:=aaR;have M8:=DataW.Whole.of_heap (w':=w.forCall tape i) (by rfl) hw;obtain⟨_,_,_,fn,pU,_,_,_,_,Pa⟩:=Ya;obtain rfl:fn=Tryz.f4:=(Option.some.inj (Tryz.func4.symm.trans pU)).symm;refine (K4 enc law (w.forCall tape i) i.args ds gs before M8 (hx.of_heap (by rfl)) SF Pa).mono ?_;rintro e W' ⟨v,rfl,hp⟩;exact ChangeSpec.post_blind hp
theorem FZ (law:∀[ZZ] (p:Prog) (b:Nat),b<256->Zw U 4 [UU p,.int .u8 (b:Nat)]=some (.bool true)):Rows.TopSweepSignalsSaid :=
 OpenClaim.holds_of_wide 4 Tryz.f4 rfl rfl rfl rfl rfl rfl rfl ⟨rfl,rfl,rfl,rfl,rfl⟩ rfl rfl rfl rfl rfl ng Tryz.func4 gg ad4 ad5 (fun os started H enc _=>Hx law os started H enc)
theorem wfG:Rows.topSweepSignalsRow.wfByText (OpenSpec.ofChange Rows.topSweepSignalsSpec)=true:=by kernel_rfl
theorem aaS:true=Tryz.prog.looks []:=by kernel_rfl
theorem aaT:(#[31,5].toList.all fun u=>!Tryz.prog.wantsStandIn u)=true:=by kernel_rfl
theorem aea:Tryz.pinned.checked.prog.mainIs=some (Rows.topSweepSignalsCard.stood.harness.1,Rows.topSweepSignalsCard.stood.harness.2.toList):=by kernel_rfl
theorem aeb:false=Rows.topSweepSignalsRow.goesBy Tryz.pinned.checked.prog:=by kernel_rfl
theorem Dj (law:∀[ZZ] (p:Prog) (b:Nat),b<256->Zw U 4 [UU p,.int .u8 (b:Nat)]=some (.bool true)):Rows.TopSweepSignalsCardSaid :=
 Claim7.holds_tied_plain_at .later [] [.data,.data,.data,.data,.pinned] true Rows.topSweepSignalsCard.stood.harness true (FZ law) (fun _ h=>by cases h) wfG (fun _ h=>by cases h) topSweepSignals_row_tie rfl ⟨rfl,rfl⟩ aea rfl
  (fun f fn hf pU=>by
   obtain rfl:f=4:=Option.some.inj (ng.symm.trans hf) |>.symm;obtain rfl:fn=Tryz.f4:=(Option.some.inj (Tryz.func4.symm.trans pU)).symm;refine⟨aaS,fun j t ht=>?_⟩;rw[Tryz.params4] at ht;have hm:t∈#[31,5].toList:=by rw[<-ajK] at ht;exact aj1 ht
   have:=ajq.1 aaT t hm;rw[aj3] at this;exact this)
  aeb
end Go.Am
