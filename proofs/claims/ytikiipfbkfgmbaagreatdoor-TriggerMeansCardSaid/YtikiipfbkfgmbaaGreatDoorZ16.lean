/- A part of the proof of a statement of this seat: the machine on which the program is read, and what it computes; for every input. -/
import Derived.Test.YtikiipfbkfgmbaaGreatDoorZ06
import Derived.Test.YtikiipfbkfgmbaaGreatDoorZ13
import Derived.Test.YtikiipfbkfgmbaaGreatDoorZ14
import Derived.Test.YtikiipfbkfgmbaaGreatDoorZ15
import Derived.Test.YtikiipfbkfgmbaaGreatDoorZ04
import Derived.Test.YtikiipfbkfgmbaaGreatDoorZ05
set_option linter.all false
namespace Go.Am
open Go
variable [Z4]
set_option maxRecDepth 100000
set_option maxHeartbeats 8000000
def Yc (now last:Int)(first:Bool):AV:=.agg [.int .i64 now,.int .i64 last,.bool first]
def WR (n k:Int):Bool:=Zy n k==1
def Qe (n:Int):Prop:=0<=n/\n<65536
theorem agf (now last:Int)(first:Bool)(k:Int)(h:Qe now)(h2:0<=k)(h3:k<64):ZE U 198 [Yc now last first,.int .i64 k]=some (.bool (WR now k)):=by
 refine ZR aj7 (by kernel_rfl) rfl ?_;have:=BD k.toNat h.1;have h4:=h.2;simp only[go_sem,agh,Yc,Hs _ _ _ _ h2 (show k<=64 by omega),KJ _ _ _ this.1 (by omega)];rfl
theorem agi (now last:Int)(first:Bool)(k:Int)(h:Qe last)(h2:0<=k)(h3:k<64):ZE U 201 [Yc now last first,.int .i64 k]=some (.bool (WR last k)):=by
 refine ZR aj8 (by kernel_rfl) rfl ?_;have:=BD k.toNat h.1;have h4:=h.2;simp only[go_sem,agj,Yc,Hs _ _ _ _ h2 (show k<=64 by omega),KJ _ _ _ this.1 (by omega)];rfl
theorem En (c:UInt8)(l:XV)(h:c.toNat<128):TV (c::l)=(c.toNat,1):=by
 unfold TV;simp only[List.getElem?_cons_zero,amG];rw[if_pos h]
theorem oX {e:Env}{s:St}{k:Nat}{b:XV}(h:Env.get e k=.str b):YI U (Yf U) e (.range 9 (.tmp k)) s=some (.ptr s.next 0,s.new (.iter b 0)):=by
 have h9:U.Zd 9=some .string:=by kernel_rfl
 simp only[YI,eval,h,h9]
theorem oW {e:Env}{s:St}{k r pos:Nat}(h:Env.get e k=.ptr r 0)(hs:s.get r=some (.iter [] pos)):YI U (Yf U) e (.next (.tmp k) true) s=some (.XU [.bool false],s):=by
 simp only[YI,eval,h,hs]
theorem oV {e:Env}{s:St}{k r pos:Nat}{c:UInt8}{b:XV}(h:Env.get e k=.ptr r 0)(hs:s.get r=some (.iter (c::b) pos))(hc:c.toNat<128) :
  YI U (Yf U) e (.next (.tmp k) true) s=some (.XU [.bool true,.int .i64 pos,.int .i32 c.toNat],s.put r (.iter b (pos+1))):=by
 simp only[YI,eval,h,hs,En c b hc,List.drop_succ_cons,amd]
theorem acN (pat:XV)(sym:Int)(hs:Qe sym)(hp:pat.length<=16)(X5:∀c∈pat,c=48\/c=49\/c=120):ZE U 204 [.str pat,.int .i64 sym]=some (.bool (yW sym 0 pat)):=by
 refine ZR aj9 (by kernel_rfl) rfl ?_;have QK:=hs.1;have S4:=hs.2;have hrg:=@oX _ (k:=7) (b:=pat);simp only[go_sem,agk,hrg];refine YH (σ:=Nat) (fun i=>pat.length-i) (fun i=>some (AV.bool (yW sym i (pat.drop i)))) (fun i e s=>i<=pat.length/\Env.get e 8=.ptr 8 0/\Env.get e 1=.int .i64 sym/\s.get 8=some (.iter (pat.drop i) i)) 0 ?_ rfl ?_
 ·rintro L i e s ⟨hi,h8,h1,hit⟩ ih;by_cases hd:i<pat.length
  ·rw[abc hd] at hit;have hc:=X5 pat[i] (adm hd);have agl:pat[i].toNat<128:=by rcases hc with h|h|h <;> rw[h] <;> decide
   have hn:=oV h8 hit agl;have hb:=BD i QK;have CG:=Lv sym (i:Int);have e1:=Hs 3 false sym (i:Int) (by omega) (by omega);rw[amn] at e1;have e2:=KJ 3 true (sym / 2^i) hb.1 (by omega);have EM:sym / 2^i%2=Zy sym (i:Int):=rfl;rw[EM] at e2;have hw1:IntKind.i64.wrap (48+Zy sym (i:Int))=48+Zy sym (i:Int):=by rw[wrap_i64] <;> omega
   have Mx:IntKind.i32.wrap (48+Zy sym (i:Int))=48+Zy sym (i:Int):=by rcases CG with h|h <;> rw[h] <;> decide
   rw[abc hd,yW,iM];have next:∀e',Env.get e' 8=.ptr 8 0->Env.get e' 1=.int .i64 sym->SD U (Mt U [.tmp 4]) [K.bk 0,K.sq ((RC.ops [⟨some 4,none,none,false,.O9 (.v (.bool true))⟩]).seq RC.ret)] L e' (s.put 8 (.iter (pat.drop (i+1)) (i+1)))=some (AV.bool (yW sym (i+1) (pat.drop (i+1)))) :=
    fun e' q8 q1=>ih (i+1) _ _ (by omega) ⟨by omega,q8,q1,by rw[Z9,if_pos rfl]⟩
   rcases hc with h|h|h <;> rw[h] at hn ⊢
   ·have fF:((48:UInt8).toNat:Int)=48:=rfl;rw[fF] at hn;rcases CG with hz|hz <;> rw[hz] at e2 hw1 Mx ⊢
    ·simp only[go_sem,Pp,h1,hn,e1,e2];refine next _ ?_ ?_ <;> simp only[go_sem,h8,h1]
    ·simp only[go_sem,Pp,h1,hn,e1,e2];rfl
   ·have fF:((49:UInt8).toNat:Int)=49:=rfl;rw[fF] at hn;rcases CG with hz|hz <;> rw[hz] at e2 hw1 Mx ⊢
    ·simp only[go_sem,Pp,h1,hn,e1,e2];rfl
    ·simp only[go_sem,Pp,h1,hn,e1,e2];refine next _ ?_ ?_ <;> simp only[go_sem,h8,h1]
   ·have fF:((120:UInt8).toNat:Int)=120:=rfl;rw[fF] at hn;simp only[go_sem,Pp,hn];refine next _ ?_ ?_ <;> simp only[go_sem,h8,h1]
  ·have:i=pat.length:=by omega
   subst this;rw[alO] at hit;have hn:=oW h8 hit;simp only[go_sem,Pp,hn];rw[alO];rfl
 ·refine⟨aic _,?_,?_,?_⟩ <;> simp only[go_sem,amd]
theorem gu (c:Bool)(a b:Bool):Wg U .eql 4 c (.bool a) (.bool b)=some (.bool (a==b)):=by
 cases c <;> cases a <;> cases b <;> kernel_rfl
theorem xL (c:Bool)(a b:Bool):Wg U .neq 4 c (.bool a) (.bool b)=some (.bool (a != b)):=by
 cases c <;> cases a <;> cases b <;> kernel_rfl
structure Z5.A9 (c:Z5):Prop where
 a:0<=c.a/\c.a<16
 b:0<=c.b/\c.b<16
 mi:0<=c.mi/\c.mi<=255
 ma:0<=c.ma/\c.ma<=255
 pat:c.pat.length<=16
 adq:∀x∈c.pat,x=48\/x=49\/x=120
theorem Z5.wf.A9 {c:Z5}(h:c.wf):c.A9:=by
 cases c
 rw[Z5.wf] at h;obtain⟨ha,hb,hm,hM,hp,wI,-⟩:=h;exact⟨ha,hb,hm,hM,hp,wI⟩
def Fw (lv:Bool)(c:Z5)(st:Int)(h w first:Bool):Int×Bool :=
 bif !(h==lv) then (0,(w==lv)&&decide (st>=c.mi)&&decide (st<=c.ma))
 else bif first then (c.ma+1,false) else bif !(w==lv) then (1,false) else (min (st+1) (c.ma+1),false)
def MG (c:Z5)(st:Int)(h w first:Bool):Int×Bool :=
 let s1:=min ((bif first||h != w then 0 else st)+1) (c.mi+1)
 (s1,s1==c.mi)
def QT (c:Z5)(st:Int)(h w hb wb:Bool):Int×Bool :=
 let s1:=bif h != w then 0 else min (st+1) c.mi
 (s1,hb&&!wb&&decide (s1<c.mi))
def MU (st:Int)(h w hb first:Bool):Int×Bool :=
 bif !h then (0,w&&st==2) else bif !first&&!hb&&(!w||st==2) then (2,false) else (1,false)
def stP (d:Kd)(c:Z5)(st now last:Int)(first:Bool):Int×Bool :=
 let h:=WR now c.a
 let w:=WR last c.a
 match d with
 |.high=>(st,h)
 |.low=>(st,!h)
 |.Iz=>(st,h&&!w)
 |.fall=>(st,!h&&w)
 |.pattern=>(st,yW now 0 c.pat)
 |.enter=>(st,yW now 0 c.pat&&!yW last 0 c.pat)
 |.Vj=>Fw true c st h w first
 |.gap=>Fw false c st h w first
 |.idle=>MG c st h w first
 |.setup=>QT c st h w (WR now c.b) (WR last c.b)
 |.Uf=>MU st h w (WR now c.b) first
 |_=>(st,false)
section
variable (c:Z5)(hc:c.A9)(st now last:Int)(first:Bool)(hn:Qe now)(hl:Qe last)(hs:0<=st/\st<=256)
include hc hn hl
theorem Qo:ZE U 198 [.agg [.int .i64 now,.int .i64 last,.bool first],.int .i64 c.a]=some (.bool (WR now c.a)):=agf now last first c.a hn hc.a.1 (by have:=hc.a.2;omega)
theorem h_b:ZE U 198 [.agg [.int .i64 now,.int .i64 last,.bool first],.int .i64 c.b]=some (.bool (WR now c.b)):=agf now last first c.b hn hc.b.1 (by have:=hc.b.2;omega)
theorem w_a:ZE U 201 [.agg [.int .i64 now,.int .i64 last,.bool first],.int .i64 c.a]=some (.bool (WR last c.a)):=agi now last first c.a hl hc.a.1 (by have:=hc.a.2;omega)
theorem w_b:ZE U 201 [.agg [.int .i64 now,.int .i64 last,.bool first],.int .i64 c.b]=some (.bool (WR last c.b)):=agi now last first c.b hl hc.b.1 (by have:=hc.b.2;omega)
theorem ak3:ZE U 197 [Zw c,Yc now last first]=some (.bool (WR now c.a)):=by
 refine ZR akn (by kernel_rfl) (by simp[ZU,Zt,still,Yc]) ?_;have e1:=Qo c hc now last first hn hl
 rw[ZV,Yc];simp +contextual only[go_sem,agI,Z5.cells,e1]
theorem ak4:ZE U 199 [Zw c,Yc now last first]=some (.bool (!WR now c.a)):=by
 refine ZR ako (by kernel_rfl) (by simp[ZU,Zt,still,Yc]) ?_;have e1:=Qo c hc now last first hn hl
 rw[ZV,Yc];simp +contextual only[go_sem,agJ,Z5.cells,e1]
theorem ak5:ZE U 200 [Zw c,Yc now last first]=some (.bool (WR now c.a&&!WR last c.a)):=by
 refine ZR akp (by kernel_rfl) (by simp[ZU,Zt,still,Yc]) ?_;have e1:=Qo c hc now last first hn hl
 have e2:=w_a c hc now last first hn hl
 rw[ZV,Yc];simp +contextual only[go_sem,agK,Z5.cells,e1,e2]
theorem ak6:ZE U 202 [Zw c,Yc now last first]=some (.bool (!WR now c.a&&WR last c.a)):=by
 refine ZR akq (by kernel_rfl) (by simp[ZU,Zt,still,Yc]) ?_;have e1:=Qo c hc now last first hn hl
 have e2:=w_a c hc now last first hn hl
 rw[ZV,Yc];simp +contextual only[go_sem,agL,Z5.cells,e1,e2]
theorem ak7:ZE U 203 [Zw c,Yc now last first]=some (.bool (yW now 0 c.pat)):=by
 refine ZR akr (by kernel_rfl) (by simp[ZU,Zt,still,Yc]) ?_;have e1:=acN c.pat now hn hc.pat hc.adq;rw[ZV,Yc];simp +contextual only[go_sem,agM,Z5.cells,e1]
theorem ak8:ZE U 205 [Zw c,Yc now last first]=some (.bool (yW now 0 c.pat&&!yW last 0 c.pat)):=by
 refine ZR aks (by kernel_rfl) (by simp[ZU,Zt,still,Yc]) ?_;have e1:=acN c.pat now hn hc.pat hc.adq;have e2:=acN c.pat last hl hc.pat hc.adq;rw[ZV,Yc];simp +contextual only[go_sem,agN,Z5.cells,e1,e2]
omit hc hn hl in
theorem ox {g:FuncId}{b:Bool}(hg:ZE U g [Zw c,Yc now last first]=some (.bool b)):ZE U 235 [Zw c,.int .i64 st,Yc now last first,.fp [.fn (.func g) [] []] 0]=some (.XU [.int .i64 st,.bool b]):=by
 refine ZR akw (by kernel_rfl) (by simp[ZU,Zt,still,Yc]) ?_;rw[ZV,Yc] at hg ⊢;simp only[Z5.cells] at hg ⊢;simp +contextual only[go_sem,agR,hg]
include hs
theorem ahm (lv:Bool):ZE U 236 [Zw c,.int .i64 st,Yc now last first,.fp [.bool lv] 0]=some (.XU [.int .i64 (Fw lv c st (WR now c.a) (WR last c.a) first).1,.bool (Fw lv c st (WR now c.a) (WR last c.a) first).2]):=by
 refine ZR akx (by kernel_rfl) (by simp[ZU,Zt,still,Yc]) ?_;have e1:=Qo c hc now last first hn hl
 have e2:=w_a c hc now last first hn hl
 have hM:=hc.ma;have w1:IntKind.i64.wrap (c.ma+1)=c.ma+1:=by rw[wrap_i64] <;> omega
 have w2:IntKind.i64.wrap (st+1)=st+1:=by rw[wrap_i64] <;> omega
 rw[ZV,Yc,Fw]
 cases hh:WR now c.a==lv <;> cases hw:WR last c.a==lv <;> cases first
 all_goals simp (maxSteps:=2000000) +contextual only[go_sem,agS,Z5.cells,e1,e2,gu,hh,hw,w1,w2,Pw]
 all_goals rfl
theorem ak9:ZE U 207 [Zw c,.int .i64 st,Yc now last first]=some (.XU [.int .i64 (MG c st (WR now c.a) (WR last c.a) first).1,.bool (MG c st (WR now c.a) (WR last c.a) first).2]):=by
 refine ZR akt (by kernel_rfl) (by simp[ZU,Zt,still,Yc]) ?_;have e1:=Qo c hc now last first hn hl
 have e2:=w_a c hc now last first hn hl
 have hM:=hc.mi;have w1:IntKind.i64.wrap (c.mi+1)=c.mi+1:=by rw[wrap_i64] <;> omega
 have w2:IntKind.i64.wrap (st+1)=st+1:=by rw[wrap_i64] <;> omega
 have w3:IntKind.i64.wrap (0+1)=0+1:=by decide
 rw[ZV,Yc,MG]
 cases hh:WR now c.a != WR last c.a <;> cases first
 all_goals simp (maxSteps:=2000000) +contextual only[go_sem,agO,Z5.cells,e1,e2,xL,hh,w1,w2,Pw]
 all_goals rfl
theorem ak_:ZE U 209 [Zw c,.int .i64 st,Yc now last first]=some (.XU [.int .i64 (QT c st (WR now c.a) (WR last c.a) (WR now c.b) (WR last c.b)).1,.bool (QT c st (WR now c.a) (WR last c.a) (WR now c.b) (WR last c.b)).2]):=by
 refine ZR aku (by kernel_rfl) (by simp[ZU,Zt,still,Yc]) ?_;have e1:=Qo c hc now last first hn hl
 have e2:=w_a c hc now last first hn hl
 have e3:=h_b c hc now last first hn hl
 have e4:=w_b c hc now last first hn hl
 have w2:IntKind.i64.wrap (st+1)=st+1:=by rw[wrap_i64] <;> omega
 rw[ZV,Yc,QT]
 cases hh:WR now c.a != WR last c.a <;> cases h3:WR now c.b <;> cases h4:WR last c.b
 all_goals simp (maxSteps:=2000000) +contextual only[go_sem,agP,Z5.cells,e1,e2,e3,e4,xL,hh,h3,h4,w2,Pw]
 all_goals rfl
theorem ak':ZE U 211 [Zw c,.int .i64 st,Yc now last first]=some (.XU [.int .i64 (MU st (WR now c.a) (WR last c.a) (WR now c.b) first).1,.bool (MU st (WR now c.a) (WR last c.a) (WR now c.b) first).2]):=by
 refine ZR akv (by kernel_rfl) (by simp[ZU,Zt,still,Yc]) ?_;have e1:=Qo c hc now last first hn hl
 have e2:=w_a c hc now last first hn hl
 have e3:=h_b c hc now last first hn hl
 rw[ZV,Yc,MU]
 cases hh:WR now c.a <;> cases h2:WR last c.a <;> cases h3:WR now c.b <;> cases first <;> cases h4:(st==2)
 all_goals simp (maxSteps:=2000000) +contextual only[go_sem,agQ,Z5.cells,e1,e2,e3,hh,h2,h3,h4]
 all_goals rfl
theorem o4 (d:Kd)(hd:d.leaf=true)(s:St):GR U (Pj d) [Zw c,.int .i64 st,Yc now last first] s=some (.XU [.int .i64 (stP d c st now last first).1,.bool (stP d c st now last first).2],s):=by
 have q1:=ox c st now last first (ak3 c hc now last first hn hl)
 have q2:=ox c st now last first (ak4 c hc now last first hn hl)
 have q3:=ox c st now last first (ak5 c hc now last first hn hl)
 have q4:=ox c st now last first (ak6 c hc now last first hn hl)
 have q5:=ox c st now last first (ak7 c hc now last first hn hl)
 have q6:=ox c st now last first (ak8 c hc now last first hn hl)
 have q7:=ahm c hc st now last first hn hl hs true
 have q8:=ahm c hc st now last first hn hl hs false
 have q9:=ak9 c hc st now last first hn hl hs
 have Cd:=ak_ c hc st now last first hn hl hs
 have tT:=ak' c hc st now last first hn hl hs
 cases d <;> first|cases hd|skip
 all_goals simp only[Pj,NJ,amg,alZ,alU,q1,q2,q3,q4,q5,q6,q7,q8,q9,Cd,tT,U8,stP]
end
end Go.Am
namespace Go.Am
open Go
variable [Z4]
set_option maxRecDepth 100000
set_option maxHeartbeats 8000000
mutual
def Ve:Z5->List Z5
 |.mk k a b mi ma p nl kids=>bif XD k then ZJ kids else [.mk k a b mi ma p nl kids]
def ZJ:List Z5->List Z5
 |[]=>[]
 |c::l=>Ve c++ZJ l
end
theorem Rf {k:XV}{a b mi ma:Int}{p:XV}{nl:Bool}{kids:List Z5}(h:(Z5.mk k a b mi ma p nl kids).wf):XD k=(YQ (ZF k)).kids:=by
 rw[Z5.wf] at h;have hk:=h.2.2.2.2.2.2.1;rw[NM k hk];generalize ZF k=d at *
 cases d <;> first|rfl|(simp[Kd.known] at hk)
theorem CD:∀c:Z5,c.wf->Ve c≠[]:=by
 intro c
 induction c using Z5.ind with
 |h k a b mi ma p nl kids ih =>
 intro h;have Ef:=Rf h;rw[Z5.wf] at h;obtain⟨-,-,-,-,-,-,-,-,-,ZC,-,-,hk⟩:=h;rw[Ve]
 cases hc:XD k with
 |false=>simp
 |true =>
  rw[hc] at Ef
  cases kids with
  |nil=>exact absurd rfl (ZC Ef.symm)
  |cons x l =>
   rw[cond_true,ZJ];intro e;exact ih x (aba ..) (hk x (aba ..)) (List.append_eq_nil_iff.1 e).1
def Yw (l:List Z5):List AV:=l.flatMap fun c=>(Zw c).cells
theorem ER (l:List Z5):(Yw l).length=l.length*7:=Jm Zw 7 OS l
theorem Ix (l:List Z5):(Yw l).all Zz=true:=by
 rw[alK];intro x hx;obtain⟨c,_,hc⟩:=List.mem_flatMap.1 hx;rw[ZV,QE,Z5.cells] at hc;simp only[alL,List.not_mem_nil,or_false] at hc;rcases hc with rfl|rfl|rfl|rfl|rfl|rfl|rfl
 all_goals first|rfl|exact ZL ..
theorem CB (l:List Z5)(s:St):Wc 7 (.fz (l.map Zw)) s=some (l.length,Yw l):=by
 have:(l.map Zw).all (fun x=>x.cells.length==7)=true:=by
  rw[alK];intro x hx;obtain⟨c,_,rfl⟩:=alN.1 hx;rw[ZV];rfl
 simp only[Wc,this,Yw,agC,List.flatMap_map];rfl
theorem ahz:∀c:Z5,c.wf->(Ve c).length<=2^20->ZE U 160 [Zw c]=some (.fz ((Ve c).map Zw)):=by
 intro c
 induction c using Z5.ind with
 |h kind a b mi ma pat nl kids ih =>
 intro S3 hL;have fc:=S3;rw[Z5.wf] at fc;obtain⟨-,-,-,-,-,-,-,-,-,-,-,fY,nk⟩:=fc;refine ZR ahA (by kernel_rfl) (by simp[ZU,Zt]) ?_;have h213:=aaV (.mk kind a b mi ma pat nl kids);rw[show (Z5.mk kind a b mi ma pat nl kids).kind=kind from rfl] at h213;have eZ:=CD _ S3;rw[Ve] at hL eZ ⊢
 cases Ef:XD kind with
 |false =>
  rw[Ef] at h213 hL;simp only[cond_false,alT,List.map_nil];rw[Zw] at h213 ⊢;simp only[go_sem,aaW,h213,UL]
 |true =>
  rw[Ef] at h213 hL eZ;simp only[cond_true] at hL eZ ⊢;rw[Zw] at h213 ⊢;simp only[go_sem,aaW,h213,ZI,Yd];refine YH (σ:=Nat×List Z5) (fun x=>kids.length-x.1) (fun x=>some (.fz ((ZJ kids).map Zw))) (fun x e s=>x.1<=kids.length/\x.2++ZJ (kids.drop x.1)=ZJ kids/\Env.get e 12=ZG nl (WW kids)/\Env.get e 13=.int .i64 kids.length/\Env.get e 14=.int .i64 x.1/\8<s.next/\Fr s /\
   ∃v,Env.get e 3=v/\ZK s 9 48 7 x.2.length (Yw x.2) v) (0,[]) ?_ rfl ?_
  ·rintro L ⟨i,acc⟩ e s ⟨hi,Kc,Iw,Bl,eY,hn,PX,v,g3,hv⟩ IH;simp only at hi Kc eY hv IH ⊢;have Jl:=hv.Xj;have Re:=hv.Zz;by_cases hd:i<kids.length
   ·have hx:(WW kids)[i]? = some (Zw kids[i]):=by rw[Vb,aaa hd];rfl
    have hw:=ZN hd (by omega);rw[abc hd,ZJ] at Kc;have hlen:acc.length+((Ve kids[i]).length+(ZJ (kids.drop (i+1))).length)=(ZJ kids).length:=by rw[<-Kc];simp
    have hc:=ih kids[i] (adm hd) (nk _ (adm hd)) (by omega);have oq:(Ve kids[i]).length≠0:=fun e=>CD _ (nk _ (adm hd)) (List.eq_nil_of_length_eq_zero e)
    have hsc:=CB (Ve kids[i]);have tQ:=ER (Ve kids[i]);have hcn:=Ix (Ve kids[i]);rw[ZV] at hx hc;simp only[Z5.cells] at hx hc;rw[YR (XL hd)] at Iw;have UP:(acc.length+(Ve kids[i]).length)*88<=1099511627776:=by omega
    have VP:acc.length+(Ve kids[i]).length<=1099511627776:=by omega
    simp only[go_sem,CA,g3,Iw,Bl,eY,Z8,hd,hx,hc,ZL,ZH,Nat.reducePow,Jl,UP,VP,hsc,tQ,oq,not_false_eq_true];have rB:∀y z,ZK ((s.new y).put s.next z) 9 48 7 acc.length (Yw acc) v:=fun y z=>hv.mono (by rw[Z',Z_];omega) fun j _ hj=>by rw[Z9,if_neg (by omega),Z7,if_neg (by omega)]
    obtain⟨s1,e1,e2,e3,e4,e5⟩:=(rB (.cells [.str [],.int .i64 0,.int .i64 0,.int .i64 0,.int .i64 0,.str [],.ZW] 48 false 0 0) (.cells kids[i].cells 48 false 0 0)).app (by rw[Z',Z_];omega) oq tQ hcn;simp only[Z5.cells] at e1;rw[e1];simp only[go_sem,hw,eY];refine IH (i+1,acc++Ve kids[i]) _ _ (by simp only;omega) ⟨by simp only;omega,by simp only[alS];exact Kc,?_,?_,?_,?_,e5 ((PX.new _).put (by rw[Z_];omega) _),.sl (s.next+1) 0 (acc.length+(Ve kids[i]).length) none 7,?_,?_⟩
    case refine_6 =>
     simp only[agy,Yw,List.flatMap_append];exact e3
    all_goals try simp only[go_sem,Iw,Bl,YR (XL hd)]
    rw[e2,Z',Z_];omega
   ·have:i=kids.length:=by omega
    subst this;rw[alO,ZJ,alZ] at Kc;subst Kc;simp only[go_sem,CA,g3,Bl,eY,Z8,alh];rw[hv.Vi U Ej Ei (by omega) OS (d:=39) (fun a=>LG _ _ _)]
    cases hq:ZJ kids with
    |nil=>exact absurd hq eZ
    |cons x y=>rfl
  ·refine⟨aic _,by rw[amd,amg],?_,?_,?_,?_,?_,.ZW,?_,ZK.nil _ _ _ _⟩
   case refine_5 =>
    repeat first|exact Fr.own|apply Fr.new|apply Fr.put|apply Fr.upto
    all_goals simp only[go_sem]
   all_goals simp only[go_sem]
   all_goals rfl
end Go.Am
namespace Go.Am
open Go
variable [Z4]
set_option maxRecDepth 100000
set_option maxHeartbeats 8000000
noncomputable def aau:Code:=KQ 92 0
theorem afw:O_ U aau=some (15,[(o 32 (.fa 1 (.t 4)),none),
 (o 33 (.SL (.t 32)),none),
 (o 34 (.NQ 7 (.t 10)),none),
 (⟨some 35,none,some 3,false,.U3 48 7 1 [(.str []),(.int .i64 0),(.int .i64 0),(.int .i64 0),(.int .i64 0),(.str []),.ZW] [(0,7,(.t 34))]⟩,none),
 (⟨some 36,none,none,true,.app 48 7 88 (.t 33) (.t 35)⟩,none),
 (o 37 (.fa 2 (.t 4)),none),
 (o 38 (.SL (.t 37)),some (0,1)),
 (o 39 (.fa 8 (.t 11)),none),
 (o 40 (.SL (.t 39)),some (0,1)),
 (⟨some 41,none,some 9,false,.U3 234 1 1 [.Wa] [(0,1,(.t 40))]⟩,none),
 (⟨some 42,none,none,true,.app 234 1 8 (.t 38) (.t 41)⟩,none),
 (o 43 (.fa 1 (.t 4)),none),
 (⟨none,none,none,true,.st 1 (.t 43) (.t 36)⟩,none),
 (o 44 (.fa 2 (.t 4)),none),
 (⟨none,none,none,true,.st 1 (.t 44) (.t 42)⟩,none)]):=by kernel_rfl
noncomputable def BF:RC:=(sO [YN 25 3 24 23] (sQ (cS 25 (.exit 2)) (sQ (.block 3 (sO [Zk 26 7 22 24,Zr 27 7 26,Pa 10 0 0 0 0 48,YT 7 10 27] (sO [om 28 5,ZX 29 0 10,Z0 30 29,zO 31 238 28 30,o 11 (.al [bF,bF,bF,bF,bF,bF,.Wa,.Wa,.Wa] 236),YT 9 11 31] (sQ (.raw aau) (oP [om 45 6,ZX 46 7 11,Z0 47 46,Zr 48 7 10,DC 49 47 48,RQ 50 3 1 1 0 0 1 49,VT 51 3 1 8 45 50,om 6 51]))))) (oP [YE 52 3 24 1,om 24 52]))))
noncomputable def wN:RC:=(sO [YN 18 3 17 16] (sQ (cS 18 (.exit 0)) (sQ (.block 1 (sO [Zk 19 7 15 17,Zr 20 7 19,Pa 8 0 0 0 0 48,YT 7 8 20] (sO [Zr 21 7 8,Zc 22 160 21,YU 23 22,ZA 24 0] (.block 2 (.loop BF))))) (oP [YE 53 3 17 1,om 17 53]))))
noncomputable def r92:RC:=(sO [zl 2 152,WY 3] (sO [om 12 0,o 13 (.On [.ZW,.ZW,.ZW] [(0,1,(.t 12))]),zl 4 152,YT 3 4 13] (sO [O7 14 156,om 5 14] (sO [WY 6] (sQ (sO [om 15 0,YU 16 15,ZA 17 0] (.block 0 (.loop wN))) (sO [Zr 54 3 4,om 55 6,YT 3 2 54,om 3 55] .ret))))))
theorem k92:Ze 92=some ([.cell 2 152,.tmp 3],r92):=by kernel_rfl
noncomputable def aav:Code:=KQ 93 0
theorem aeS:O_ U aav=some (9,[(om 16 1,none),
 (o 17 (.SW (.t 16)),none),
 (⟨some 18,none,some 2,false,.raw (.makeSlice 40 (.tmp 17) (.tmp 17))⟩,none),
 (om 19 1,none),
 (o 20 (.SW (.t 19)),some (0,0)),
 (⟨some 21,none,some 5,false,.raw (.makeSlice 43 (.tmp 20) (.tmp 20))⟩,none),
 (⟨some 9,none,some 6,false,.al [.ZW] 43⟩,none),
 (om 8 18,none),
 (⟨none,none,none,true,.st 1 (.t 9) (.t 21)⟩,none)]):=by kernel_rfl
noncomputable def aaw:Code:=KQ 93 1
theorem afX:O_ U aaw=some (23,[(om 31 8,none),
 (om 32 10,none),
 (o 33 (.SL (.t 9)),some (0,2)),
 (om 34 10,none),
 (o 35 (.fa 2 (.t 3)),none),
 (o 36 (.SL (.t 35)),none),
 (om 37 10,none),
 (o 38 (.Jb 1 (.t 36) (.t 37)),none),
 (o 39 (.SL (.t 38)),none),
 (o 40 (.NQ 7 (.t 11)),none),
 (om 41 1,none),
 (om 42 10,none),
 (o 43 (.Jb 1 (.t 41) (.t 42)),none),
 (o 44 (.SL (.t 43)),none),
 (o 45 (.NQ 3 (.t 5)),none),
 (⟨some 46,none,none,true,.IU (.t 39) [(.t 40),(.t 44),(.t 45)]⟩,none),
 (om 30 46,none),
 (o 47 (.ext (.t 30) 0),none),
 (o 48 (.ext (.t 30) 1),none),
 (o 49 (.Jb 1 (.t 31) (.t 32)),none),
 (⟨none,none,none,true,.st 1 (.t 49) (.t 47)⟩,none),
 (o 50 (.Jb 1 (.t 33) (.t 34)),none),
 (⟨none,none,none,true,.st 1 (.t 50) (.t 48)⟩,none)]):=by kernel_rfl
noncomputable def Bx:RC:=(sO [YN 26 3 25 24] (sQ (cS 26 (.exit 0)) (sQ (.block 1 (sO [om 27 25,Zk 28 7 23 25,Zr 29 7 28,Pa 11 0 0 0 0 48,om 10 27,YT 7 11 29] (.raw aaw))) (oP [YE 51 3 25 1,om 25 51]))))
noncomputable def BP:RC:=(sO [YN 56 3 55 54] (sQ (cS 56 (.exit 2)) (sQ (.block 3 (sO [Zk 57 7 53 55,Zr 58 7 57,Pa 15 0 0 0 0 48,YT 7 15 58] (oP [om 59 13,Zr 60 7 15,o 61 (.mkf 162 [] [(.t 12),(.t 9)]),Zb 62 161 60 61,o 63 (.U3 4 1 1 [bF] [(0,1,(.t 62))]),VT 64 4 1 1 59 63,om 13 64]))) (oP [YE 65 3 55 1,om 55 65]))))
noncomputable def r93:RC:=(sO [Zi 3 152 0,Zi 5 158 2,WY 6,WY 7] (sQ (.raw aav) (sQ (sO [ZX 22 1 3,Z0 23 22,YU 24 23,ZA 25 0] (.block 0 (.loop Bx))) (sO [o 12 (.al [(iI 0)] 3),oS (.st 1 (.t 12) (vI (-1)))] (sO [WY 13] (sQ (sO [ZX 52 0 3,Z0 53 52,YU 54 53,ZA 55 0] (.block 2 (.loop BP))) (sO [om 66 8,om 67 13,om 6 66,om 7 67] .ret)))))))
theorem k93:Ze 93=some ([.tmp 6,.tmp 7],r93):=by kernel_rfl
theorem ZK.stay {s s1:St}{B:Nat}{t t':TypeId}{n n' i i':Nat}{cs oc:List AV}{v v':AV}(h:ZK s B t n i cs v)(h':ZK s B t' n' i' oc v')(ht:t≠t')(hn:s.next<=s1.next)
  (hg:∀j,j<s.next->v'≠.sl j 0 i' none n'->s1.get j=s.get j):ZK s1 B t n i cs v:=by
 rcases h with⟨h0,h1,h2⟩|⟨h0,h1,b,h2,h3,h4,h5⟩
 ·exact .inl ⟨h0,h1,h2⟩
 ·exact .inr ⟨h0,h1,b,h2,by omega,h4,by rw[hg b h3 (h'.other h5 ht)];exact h5⟩
structure CRow (s:St)(v:AV)(l:List Z5):Prop where
 len:Ti v=some (.int .i64 l.length)
 elem:∀i (h:i<l.length),∃x,Ud 7 v (.int .i64 (i:Int))=some x/\∀s',(∀j,j<s.next->s'.get j=s.get j)->NQ 7 x s'=some (Zw l[i])
 plain:Zz v=true
 cells:v.cells=[v]
def VW (c:Z5):Int:=match ZF c.kind with
 |.setup=>c.mi
 |_=>0
theorem wW (c:Z5)(hd:(ZF c.kind).leaf=true)(s:St):GR U (Sh (ZF c.kind)) [Zw c] s=some (.int .i64 (VW c),s):=by
 unfold VW
 cases hk:ZF c.kind <;> rw[hk] at hd <;> first|cases hd|skip
 all_goals simp only[Sh,NJ,amg,alZ,ahG,ahH,U8]
def WO (c:Z5):AV:=Pj (ZF c.kind)
theorem IQ (c:Z5):(WO c).cells=[WO c]:=by unfold WO;cases ZF c.kind <;> rfl
theorem IP (c:Z5):Zz (WO c)=true:=by unfold WO;cases ZF c.kind <;> rfl
theorem yX (d:Kd):Zz (Pk d)=true/\Zz (Sh d)=true/\Zz (Pj d)=true:=by cases d <;> exact⟨rfl,rfl,rfl⟩
structure F92 (s0:St)(v:AV)(acc:List Z5)(e:Env)(s:St):Prop where
 t2:Env.get e 2=.ptr s0.next 0
 t4:Env.get e 4=.ptr (s0.next+1) 0
 t5:Env.get e 5=.fm Kh Kg
 nx:s0.next+2<=s.next
 fr:Fr s
 old:∀j,j<s0.next->s.get j=s0.get j
 g2:s.get s0.next=some (.cells [.ZW,.ZW,.ZW] 152 false 0 0)
 rows:∃lv sv st,s.get (s0.next+1)=some (.cells [v,lv,sv] 152 false 0 0)/\Env.get e 6=st/\ZK s (s0.next+2) 48 7 acc.length (Yw acc) lv /\
  ZK s (s0.next+2) 234 1 acc.length (acc.map WO) sv/\ZK s (s0.next+2) 3 1 acc.length (ints (acc.map VW)) st
theorem l92 {β:Type}{fin:Fl->β}{ks:List K}{ZB:β->Prop}(s0:St)(v:AV)(hv:Zz v=true/\v.cells=[v])(acc:List Z5)(L:List Z5)(hL:L≠[])(hw:∀c∈L,(ZF c.kind).leaf=true)(hlen:acc.length+L.length<=2^20)(x15 x16 x17:AV)
  (hk:∀e s,F92 s0 v (acc++L) e s->Env.get e 15=x15->Env.get e 16=x16->Env.get e 17=x17->ZB (goN U fin ks e s)){e:Env}{s:St}
  (hI:F92 s0 v acc e s)(h15:Env.get e 15=x15)(h16:Env.get e 16=x16)(h17:Env.get e 17=x17)(h22:Env.get e 22=.fz (L.map Zw))(h23:Env.get e 23=.int .i64 L.length)(h24:Env.get e 24=.int .i64 (0:Nat)) :
  ZB (SD U fin (.bk 2::ks) BF e s):=by
 obtain⟨v1,v2⟩:=hv;refine YP (σ:=Nat) (fun i=>L.length-i) (fun i e s=>i<=L.length/\F92 s0 v (acc++L.take i) e s/\Env.get e 15=x15/\Env.get e 16=x16/\Env.get e 17=x17/\Env.get e 22=.fz (L.map Zw)/\Env.get e 23=.int .i64 L.length/\Env.get e 24=.int .i64 (i:Nat)) 0 ?_
  ⟨aic _,by rw[amF,alZ];exact hI,h15,h16,h17,h22,h23,h24⟩
 clear hI h15 h16 h17 h22 h23 h24 e s;rintro Lp i e s ⟨hi,hF,h15,h16,h17,h22,h23,h24⟩ IH;by_cases hd:i<L.length
 ·have hx:(L.map Zw)[i]? = some (Zw L[i]):=by rw[alV,aaa hd];rfl
  have Rm:=ZN hd (by omega);have Tk:=hw _ (adm hd);obtain⟨t2,t4,t5,nx,fr,old,g2,lv,sv,st,g4,t6,R1,R2,R3⟩:=hF;have hal:(acc++L.take i).length=acc.length+i:=by rw[agy,amr];omega
  rw[hal] at R1 R2 R3;have pZ:=M1 L[i].kind;have Xz:=wW L[i] Tk;obtain⟨n1,n2,n3⟩:=yX (ZF L[i].kind);have afv:Pj (ZF L[i].kind)=WO L[i]:=rfl;rw[Vz] at pZ;rw[afv] at pZ n3;rw[ZV] at hx Xz;simp only[Z5.cells] at hx Xz;have ne:∀k,(s.next+k=s0.next+1)=False:=fun k=>by simp;omega
  have ne':(s.next=s0.next+1)=False:=by simp;omega
  have UP:(acc.length+(i+1))*88<=1099511627776:=by omega
  have VP:acc.length+(i+1)<=1099511627776:=by omega
  have Ba:(acc.length+(i+1))*8<=1099511627776:=by omega
  have la1:=R1.Xj;have la2:=R2.Xj;have la3:=R3.Xj;have na1:=R1.Zz;have na2:=R2.Zz;have na3:=R3.Zz;have Nc:=fr.at;have sf:∀k,(s.next=s.next+(k+1))=False:=fun k=>by simp
  have sg:∀k,(s.next+(k+1)=s.next)=False:=fun k=>by simp
  simp only[go_sem,BF,t4,t5,h22,h23,h24,Z8,hd,hx,ZL,pZ,n1,n2,n3,Uc afw,g4,ne,ne',Nc,la1,UP,VP,ZH,Nat.reducePow,amk,akc,sf,sg,Option.isNone_none];have RS:∀(y1 y2 y3 y4 y5:Uy) {t:TypeId} {n k:Nat} {cs:List AV} {w:AV},ZK s (s0.next+2) t n k cs w->ZK ((((((s.new y1).put s.next y2).new y3).put (s.next+1) y4).upto (s.next+17)).put (s.next+5) y5) (s0.next+2) t n k cs w:=fun y1 y2 y3 y4 y5 _ _ _ _ _ h =>
   h.mono (by simp only[Z',Z6];omega) fun j _ hj=>by simp only[Z9,ZT,Z7,Z',Z_];rw[if_neg (by omega),if_neg (by omega),if_neg (by omega),if_neg (by omega),if_neg (by omega)]
  have GS:∀(y1 y2 y3 y4 y5:Uy) (j:Nat),j<s.next->((((((s.new y1).put s.next y2).new y3).put (s.next+1) y4).upto (s.next+17)).put (s.next+5) y5).get j=s.get j:=fun y1 y2 y3 y4 y5 j hj=>by
   simp only[Z9,ZT,Z7,Z',Z_];rw[if_neg (by omega),if_neg (by omega),if_neg (by omega),if_neg (by omega),if_neg (by omega)]
  have FS:∀(y1 y2 y3 y4 y5:Uy),Fr ((((((s.new y1).put s.next y2).new y3).put (s.next+1) y4).upto (s.next+17)).put (s.next+5) y5):=fun y1 y2 y3 y4 y5 =>
   (((((fr.new _).put (by simp only[Z_];omega) _).new _).put (by simp only[Z_,Z'];omega) _).upto (by simp only[Z_,Z'];omega)).put (by simp only[Z6];omega) _
  generalize hY1:Uy.cells [.str [],.int .i64 0,.int .i64 0,.int .i64 0,.int .i64 0,.str [],.ZW] 48 false 0 0=Y1;generalize hY3:Uy.cells [.bool false,.bool false,.bool false,.bool false,.bool false,.bool false,.Wa,.Wa,.Wa] 236 false 0 0=Y3;generalize hY4:Uy.cells [AV.bool (YQ (ZF L[i].kind)).a,AV.bool (YQ (ZF L[i].kind)).b,AV.bool (YQ (ZF L[i].kind)).mi,AV.bool (YQ (ZF L[i].kind)).ma,AV.bool (YQ (ZF L[i].kind)).pat,AV.bool (YQ (ZF L[i].kind)).kids,Pk (ZF L[i].kind),Sh (ZF L[i].kind),WO L[i]] 236 false 0 0=Y4;generalize hY5:Uy.cells [AV.str L[i].kind,AV.int IntKind.i64 L[i].a,AV.int IntKind.i64 L[i].b,AV.int IntKind.i64 L[i].mi,AV.int IntKind.i64 L[i].ma,AV.str L[i].pat,ZG L[i].nl (WW L[i].kids)] 48 false 0 0=Y5;obtain⟨s1,e1,EZ,er1,eg1,ef1⟩:=(RS Y1 Y5 Y3 Y4 Y5 R1).Gy (by simp only[Z',Z6];omega) (m:=1) (new:=L[i].cells) (by omega) rfl (by simp only[Z5.cells,go_sem,ZL]);simp only[Z5.cells] at e1;have k4:s1.get (s0.next+1)=some (.cells [v,lv,sv] 152 false 0 0):=by rw[eg1 _ (by simp only[Z',Z6];omega) (R1.B8 (.inr (by omega))),GS _ _ _ _ _ _ (by omega),g4]
  have kt:s1.get (s.next+1)=some Y4:=by
   rw[eg1 _ (by simp only[Z',Z6];omega) (R1.B8 (.inl (by omega)))];simp only[Z9,ZT,↓reduceIte];rw[if_neg (by omega)]
  have kx:s1.get s.next=some Y5:=by
   rw[eg1 _ (by simp only[Z',Z6];omega) (R1.B8 (.inl (by omega)))];simp only[Z9,ZT,Z7,Z',Z_,↓reduceIte];rw[if_neg (by omega),if_neg (by omega),if_neg (by omega)]
  have k9:s1.get (s.next+11)=none:=by
   rw[eg1 _ (by simp only[Z',Z6];omega) (R1.B8 (.inl (by omega)))];simp only[Z9,ZT,Z7,Z',Z_];rw[if_neg (by omega),if_neg (by omega),if_neg (by omega),if_neg (by omega),if_neg (by omega)];exact Nc 11
  simp only[Z',Z6] at EZ;rw[<-hY4] at kt;rw[<-hY5] at kx;simp only[go_sem,e1,k4,kt,k9,t4,la2,VP,Ba,ZH,Nat.reducePow,ah1,akc,Option.isNone_none,IQ];have R2':ZK s1 (s0.next+2) 234 1 (acc.length+i) ((acc++L.take i).map WO) sv :=
   (RS Y1 Y5 Y3 Y4 Y5 R2).stay (RS Y1 Y5 Y3 Y4 Y5 R1) (by decide) (by rw[EZ];simp only[Z',Z6];omega) fun j hj hv=>eg1 j (by simp only[Z',Z6] at hj ⊢;omega) hv
  have R3':ZK s1 (s0.next+2) 3 1 (acc.length+i) (ints ((acc++L.take i).map VW)) st :=
   (RS Y1 Y5 Y3 Y4 Y5 R3).stay (RS Y1 Y5 Y3 Y4 Y5 R1) (by decide) (by rw[EZ];simp only[Z',Z6];omega) fun j hj hv=>eg1 j (by simp only[Z',Z6] at hj ⊢;omega) hv
  generalize hY6:Uy.cells [WO L[i]] 234 false 0 0=Y6;have P1:∀{t:TypeId} {n k:Nat} {cs:List AV} {w:AV},ZK s1 (s0.next+2) t n k cs w->(∀lo,s1.get (s.next+11)=lo->lo=none)->ZK (s1.put (s.next+11) Y6) (s0.next+2) t n k cs w:=fun {t n k cs w} h _=>by
   rcases h with⟨h0,h1,h2⟩|⟨h0,h1,b,h2,h3,h4,h5⟩
   ·exact .inl ⟨h0,h1,h2⟩
   ·refine .inr ⟨h0,h1,b,h2,h3,h4,?_⟩;have:s.next+11≠b:=fun e=>by rw[<-e,k9] at h5;cases h5
    rw[Z9,if_neg this];exact h5
  have Q2:=P1 R2' (fun lo h=>by rw[<-h,k9]);have Q3:=P1 R3' (fun lo h=>by rw[<-h,k9]);have Q1:=P1 er1 (fun lo h=>by rw[<-h,k9]);obtain⟨s2,e2,sn,er2,eg2,ef2⟩:=Q2.Gy (by rw[Z',EZ];omega) (m:=1) (new:=[WO L[i]]) (by omega) rfl (by simp[IP]);rw[Z',EZ] at e2 sn er2 eg2;have j4:s2.get (s0.next+1)=some (.cells [v,lv,sv] 152 false 0 0):=by rw[eg2 _ (by omega) (R2.B8 (.inr (by omega))),Z9,if_neg (by omega),k4]
  have jt:s2.get (s.next+1)=s1.get (s.next+1):=by rw[eg2 _ (by omega) (R2.B8 (.inl (by omega))),Z9,if_neg (by omega)]
  have jx:s2.get s.next=s1.get s.next:=by rw[eg2 _ (by omega) (R2.B8 (.inl (by omega))),Z9,if_neg (by omega)]
  rw[kt] at jt;rw[kx] at jx;have nf:∀k,(s0.next+1=s.next+k)=False:=fun k=>by simp;omega
  have nf':(s0.next+1=s.next)=False:=by simp;omega
  have hp8:cellOf (some Y4) 8=some (WO L[i]):=by rw[<-hY4];rfl
  simp only[go_sem,hp8,e2,j4,jt,jx,k4,kt,t4,t6,sn,g4,ne,ne',nf,nf',la3,VP,Ba,ZH,Nat.reducePow,ah1,akc,Xz];have V3:ZK s2 (s0.next+2) 3 1 (acc.length+i) (ints ((acc++L.take i).map VW)) st :=
   Q3.stay Q2 (by decide) (by rw[sn,Z',EZ];omega) fun j hj hv=>eg2 j (by rw[Z',EZ] at hj;omega) hv
  have V1:ZK s2 (s0.next+2) 48 7 (acc.length+i+1) (Yw (acc++L.take i)++L[i].cells) (.sl (s.next+17) 0 (acc.length+i+1) none 7) :=
   Q1.stay Q2 (by decide) (by rw[sn,Z',EZ];omega) fun j hj hv=>eg2 j (by rw[Z',EZ] at hj;omega) hv
  generalize hZ1:Uy.cells [v,.sl (s.next+17) 0 (acc.length+(i+1)) none 7,sv] 152 false 0 0=Z1;generalize hZ2:Uy.cells [v,.sl (s.next+17) 0 (acc.length+(i+1)) none 7,.sl (s.next+18) 0 (acc.length+(i+1)) none 1] 152 false 0 0=Z2;generalize hZ3:Uy.cells [.int .i64 (VW L[i])] 3 false 0 0=Z3;have TS:∀{t:TypeId} {n k:Nat} {cs:List AV} {w:AV},ZK s2 (s0.next+2) t n k cs w->ZK (((s2.put (s0.next+1) Z1).put (s0.next+1) Z2).new Z3) (s0.next+2) t n k cs w:=fun h =>
   h.mono (by simp only[Z',Z_];omega) fun j hj wJ=>by rw[Z7,Z',Z',if_neg (by omega),Z9,if_neg (by omega),Z9,if_neg (by omega)]
  obtain⟨s3,e3,en3,er3,eg3,ef3⟩:=(TS V3).Gy (by simp only[Z',Z_];omega) (m:=1) (new:=[.int .i64 (VW L[i])]) (by omega) rfl rfl;simp only[Z',Z_,sn] at e3 en3 er3 eg3;rw[e3];simp only[go_sem,h24,Rm];have dJ:∀{t:TypeId} {n k:Nat} {cs:List AV} {w:AV} {s':St},ZK s' (s0.next+2) t n k cs w->∀j,j<s0.next+2->w≠.sl j 0 k none n:=fun h j hj=>h.B8 (.inr hj)
  have G:∀j,j<s0.next+1->s3.get j=s.get j:=fun j hj=>by
   rw[eg3 j (by omega) (dJ V3 j (by omega)),Z7,Z',Z',if_neg (by omega),Z9,if_neg (by omega),Z9,if_neg (by omega),eg2 j (by omega) (dJ R2 j (by omega)),Z9,if_neg (by omega),eg1 j (by simp only[Z',Z6];omega) (dJ R1 j (by omega)),GS _ _ _ _ _ j (by omega)]
  have G4:s3.get (s0.next+1)=some Z2:=by
   rw[eg3 _ (by omega) (dJ V3 _ (by omega)),Z7,Z',Z',if_neg (by omega),Z9,if_pos rfl]
  have JS:acc++L.take (i+1)=(acc++L.take i)++[L[i]]:=by rw[alX hd,alS]
  have kj:(acc++L.take (i+1)).length=acc.length+i+1:=by rw[JS,agy,hal];rfl
  refine IH (i+1) _ _ (by omega) ⟨by omega,⟨?_,?_,?_,by rw[en3];omega,?_,fun j hj=>by rw[G j (by omega),old j hj],by rw[G _ (by omega),g2],_,_,.sl (s.next+20) 0 (acc.length+i+1) none 1,by rw[G4,<-hZ2],?_,?_,?_,?_⟩,?_,?_,?_,?_,?_,?_⟩
  case refine_4 =>
   refine ef3 (((ef2 ?_).put (by rw[sn];omega) _).put (by rw[Z',sn];omega) _ |>.new _);exact (ef1 (FS _ _ _ _ _)).put (by rw[EZ];omega) _
  case refine_6 =>
   rw[kj,JS,Yw,List.flatMap_append];refine ((TS V1).stay (TS V3) (by decide) (by rw[en3,Z_,Z',Z',sn];omega) fun j hj hv=>eg3 j (by simp only[Z',Z_,sn] at hj;omega) hv:ZK s3 _ _ _ _ (Yw (acc++L.take i)++L[i].cells) _) |> fun h=>?_
   simpa[Yw,ZV,QE,akc] using h
  case refine_7 =>
   rw[kj,JS,alY];exact (TS er2).stay (TS V3) (by decide) (by rw[en3,Z_,Z',Z',sn];omega) fun j hj hv=>eg3 j (by simp only[Z',Z_,sn] at hj;omega) hv
  case refine_8 =>
   rw[kj,JS,alY,ints,alY];exact er3
  all_goals simp only[go_sem,t2,t4,t5,h15,h16,h17,h22,h23]
 ·have:i=L.length:=by omega
  subst this;rw[amH] at hF;simp only[go_sem,BF,h23,h24,Z8,alh];refine hk _ _ ⟨?_,?_,?_,hF.nx,hF.fr,hF.old,hF.g2,?_⟩ ?_ ?_ ?_
  case refine_4 =>
   obtain⟨lv,sv,st,g4,t6,R⟩:=hF.rows;exact⟨lv,sv,st,g4,by simp only[go_sem,t6],R⟩
  all_goals simp only[go_sem,hF.t2,hF.t4,hF.t5,h15,h16,h17]
theorem U6:∀(a b:List Z5),ZJ (a++b)=ZJ a++ZJ b
 |[],b=>by simp[ZJ]
 |c::a,b=>by rw[alU,ZJ,ZJ,U6 a b,alS]
theorem Lb {c:Z5}:∀{l:List Z5},c∈ZJ l->∃x∈l,c∈Ve x
 |[],h=>by simp[ZJ] at h
 |x::l,h=>by
  rw[ZJ,amb] at h;rcases h with h|h
  ·exact⟨x,aba ..,h⟩
  ·obtain⟨y,h1,h2⟩:=Lb h;exact⟨y,aab _ h1,h2⟩
theorem La:∀c:Z5,c.wf->∀x∈Ve c,x.wf/\(ZF x.kind).leaf=true:=by
 intro c
 induction c using Z5.ind with
 |h k a b mi ma p nl kids ih =>
 intro h x hx;have Ef:=Rf h;have h':=h;rw[Z5.wf] at h';obtain⟨-,-,-,-,-,-,Cn,-,-,-,-,-,hk⟩:=h';rw[Ve] at hx
 cases hc:XD k with
 |true =>
  rw[hc] at hx;obtain⟨y,h1,h2⟩:=Lb hx;exact ih y h1 (hk y h1) x h2
 |false =>
  rw[hc] at hx;simp only[cond_false,ake] at hx;subst hx;refine⟨h,?_⟩;rw[NM k Cn] at hc;show (ZF k).leaf=true
  simpa using hc
def P92 (s0:St)(v:AV)(l:List Z5)(r:Option (AV×St)):Prop:=∃s' lv sv st,r=some (.XU [.agg [v,lv,sv],st],s')/\Fr s'/\s0.next+2<=s'.next/\(∀j,j<s0.next->s'.get j=s0.get j) /\
   ZK s' (s0.next+2) 48 7 (ZJ l).length (Yw (ZJ l)) lv/\ZK s' (s0.next+2) 234 1 (ZJ l).length ((ZJ l).map WO) sv/\ZK s' (s0.next+2) 3 1 (ZJ l).length (ints ((ZJ l).map VW)) st
theorem c92 (s0:St)(v:AV)(l:List Z5)(hl:∀c∈l,c.wf)(EK:l.length<=2^20)(hlen:(ZJ l).length<=2^20)(hr:CRow s0 v l)(hf:Fr s0) :
  ∃s' lv sv st,Rl U 92 [v] s0=some (.XU [.agg [v,lv,sv],st],s')/\Fr s'/\s0.next+2<=s'.next/\(∀j,j<s0.next->s'.get j=s0.get j) /\
   ZK s' (s0.next+2) 48 7 (ZJ l).length (Yw (ZJ l)) lv/\ZK s' (s0.next+2) 234 1 (ZJ l).length ((ZJ l).map WO) sv/\ZK s' (s0.next+2) 3 1 (ZJ l).length (ints ((ZJ l).map VW)) st:=by
 have key:∃s' lv sv st,go U (Sx U [.cell 2 152,.tmp 3]) [] r92 (YX 0 [v] .nil) s0=some (.XU [.agg [v,lv,sv],st],s')/\Fr s'/\s0.next+2<=s'.next/\(∀j,j<s0.next->s'.get j=s0.get j) /\
   ZK s' (s0.next+2) 48 7 (ZJ l).length (Yw (ZJ l)) lv/\ZK s' (s0.next+2) 234 1 (ZJ l).length ((ZJ l).map WO) sv/\ZK s' (s0.next+2) 3 1 (ZJ l).length (ints ((ZJ l).map VW)) st:=by
  have v1:=hr.plain;have v2:=hr.cells;have v3:=hr.len;simp (maxSteps:=2000000) +contextual only[go_sem,r92,v1,v2,v3,aaJ];show P92 s0 v l _;refine YP (σ:=Nat) (ZB:=P92 s0 v l)
   (fun i=>l.length-i) (fun i e s=>i<=l.length/\F92 s0 v (ZJ (l.take i)) e s/\Env.get e 15=v/\Env.get e 16=.int .i64 l.length/\Env.get e 17=.int .i64 (i:Nat)) 0 ?_ ?_
  ·rintro L i e s ⟨hi,hF,h15,h16,h17⟩ IH;by_cases hd:i<l.length
   ·obtain⟨t2,t4,t5,nx,fr,old,g2,lv,sv,st,g4,t6,R1,R2,R3⟩:=hF;obtain⟨x,Jw,EI⟩:=hr.elem i hd;have EI:=EI s old;have Rm:=ZN hd (by omega);have SY:=adm hd;have Kf:ZJ l=ZJ (l.take i)++(Ve l[i]++ZJ (l.drop (i+1))):=by
     conv=>lhs;rw[<-List.take_append_drop i l,U6,abc hd,ZJ]
    have LP:(ZJ (l.take i)).length+((Ve l[i]).length+(ZJ (l.drop (i+1))).length)=(ZJ l).length:=by rw[Kf];simp
    have hc:=ahz l[i] (hl _ SY) (by omega);have JS:ZJ (l.take (i+1))=ZJ (l.take i)++Ve l[i]:=by
     rw[alX hd,U6];simp[ZJ]
    rw[ZV] at EI hc;simp only[Z5.cells] at EI hc;simp (maxSteps:=2000000) +contextual only[go_sem,wN,h15,h16,h17,Z8,hd,Jw,EI,hc,ZL,agC];refine l92 s0 v ⟨v1,v2⟩ (ZJ (l.take i)) (Ve l[i]) (CD _ (hl _ SY)) (fun c hc=>(La _ (hl _ SY) c hc).2) (by omega) v (.int .i64 l.length) (.int .i64 (i:Nat)) ?_ ⟨?_,?_,?_,?_,?_,?_,?_,lv,sv,st,?_,?_,?_,?_,?_⟩ ?_ ?_ ?_ ?_ ?_ ?_
    case refine_1 =>
     intro e' s' oo q15 q16 q17;simp (maxSteps:=2000000) +contextual only[go_sem,q17,Rm];refine IH (i+1) _ _ (by omega) ⟨by omega,?_,?_,?_,?_⟩
     ·rw[JS];obtain⟨lv',sv',st',y4,y6,yR⟩:=oo.rows;exact⟨by simp +contextual only[go_sem,oo.t2],by simp +contextual only[go_sem,oo.t4],by simp +contextual only[go_sem,oo.t5],oo.nx,oo.fr,oo.old,oo.g2,lv',sv',st',y4,by simp +contextual only[go_sem,y6],yR⟩
     all_goals simp +contextual only[go_sem,q15,q16]
    case refine_5=>simp only[Z',Z_];omega
    case refine_6=>exact (fr.new _).put (by rw[Z_];omega) _
    case refine_7 =>
     intro j hj;rw[Z9,if_neg (by omega),Z7,if_neg (by omega),old j hj]
    case refine_8=>rw[Z9,if_neg (by omega),Z7,if_neg (by omega),g2]
    case refine_9=>rw[Z9,if_neg (by omega),Z7,if_neg (by omega),g4]
    case refine_11=>exact R1.mono (by simp only[Z',Z_];omega) fun j _ hj=>by rw[Z9,if_neg (by omega),Z7,if_neg (by omega)]
    case refine_12=>exact R2.mono (by simp only[Z',Z_];omega) fun j _ hj=>by rw[Z9,if_neg (by omega),Z7,if_neg (by omega)]
    case refine_13=>exact R3.mono (by simp only[Z',Z_];omega) fun j _ hj=>by rw[Z9,if_neg (by omega),Z7,if_neg (by omega)]
    all_goals simp +contextual only[go_sem,t2,t4,t5,t6,h15,h16,h17]
    all_goals rfl
   ·have:i=l.length:=by omega
    subst this;rw[amH] at hF;obtain⟨t2,t4,t5,nx,fr,old,g2,lv,sv,st,g4,t6,R1,R2,R3⟩:=hF;have na1:=R1.Zz;have na2:=R2.Zz;simp (maxSteps:=2000000) +contextual only[go_sem,wN,h16,h17,t2,t4,t6,g2,g4,Z8,alh,na1,na2,v1];refine⟨_,lv,sv,st,rfl,fr.put (by omega) _,by rw[Z'];exact nx,fun j hj=>by rw[Z9,if_neg (by omega),old j hj],?_,?_,?_⟩
    ·exact R1.mono (by rw[Z'];omega) fun j hj _=>by rw[Z9,if_neg (by omega)]
    ·exact R2.mono (by rw[Z'];omega) fun j hj _=>by rw[Z9,if_neg (by omega)]
    ·exact R3.mono (by rw[Z'];omega) fun j hj _=>by rw[Z9,if_neg (by omega)]
  ·refine⟨aic _,⟨?_,?_,?_,?_,?_,?_,?_,.ZW,.ZW,.ZW,?_,?_,ZK.nil _ _ _ _,ZK.nil _ _ _ _,ZK.nil _ _ _ _⟩,?_,?_,?_⟩
   case refine_5=>exact ((hf.new _).new _).put (by simp only[Z_];omega) _
   case refine_6 =>
    intro j hj;simp only[Z9,Z7,Z_];rw[if_neg (by omega),if_neg (by omega),if_neg (by omega)]
   all_goals simp +contextual only[go_sem]
   all_goals first|rfl|omega|(rw[if_neg (by omega)])|skip
 obtain⟨s',lv,sv,st,h1,h2⟩:=key;exact⟨s',lv,sv,st,VE k92 (by kernel_rfl) h1,h2⟩
mutual
def jd:Z5->List Bool->Bool
 |.mk k _ _ _ _ _ _ kids,hs=>bif XD k then (match ZF k with
   |.QG=>!(lx kids hs false true).1
   |.OV=>(lx kids hs false true).1
   |_=>(lx kids hs false true).2) else hs.headD false
def lx:List Z5->List Bool->Bool->Bool->Bool×Bool
 |[],_,s,a=>(s,a)
 |c::l,hs,s,a=>lx l (hs.drop (Ve c).length) (s||jd c hs) (a&&jd c hs)
end
theorem aaj (args:List AV)(s:St):X6 U (ZE U 161 args) 161 args s=Rl U 161 args s:=(XI U 161 args s).symm
theorem ahl (args:List AV)(s:St):X6 U (ZE U 162 args) 162 args s=Rl U 162 args s:=(XI U 162 args s).symm
theorem ak1 {p q b n:Nat}{cap:Option Nat}{H:List Bool}{k:Nat}{s:St}(tH:p≠q)(fC:p≠b)(hk:k<H.length)(hn:H.length=n)(rD:n<=2^30)
  (hp:s.get p=some (.cells [.int .i64 ((k:Int)-1)] 3 false 0 0))(hq:s.get q=some (.cells [.sl b 0 n cap 1] 43 false 0 0))(hb:s.get b=some (.cells (ZM H) 4 false 0 0)) :
  Rl U 162 [.ptr p 0,.ptr q 0] s=some (.bool H[k],s.put p (.cells [.int .i64 (k:Int)] 3 false 0 0)):=by
 refine VE akz (by kernel_rfl) ?_;have hw:IntKind.i64.wrap ((k:Int)-1+1)=(k:Int):=by rw[wrap_i64] <;> omega
 have hx:(ZM H)[k]? = some (.bool H[k]):=by rw[Du,aaa hk];rfl
 have Bb:k<n:=by omega
 simp only[go_sem,agT,hp,hq,hb,hw,tH,fC,hx,Bb,ald,ah1]
def adp (p:Nat)(s0:St)(v:Bool)(m:Nat)(r:Option (AV×St)):Prop :=
 ∃s',r=some (.bool v,s')/\s'.get p=some (.cells [.int .i64 ((m:Int)-1)] 3 false 0 0)/\(∀j,j<s0.next->j≠p->s'.get j=s0.get j)/\s0.next<=s'.next/\Fr s'
theorem aiO (p q b n:Nat)(cap:Option Nat)(H:List Bool)(tH:p≠q)(fC:p≠b)(hn:H.length=n)(rD:n<=2^30):∀c:Z5,c.wf->∀(k:Nat) (s:St),Fr s->p<s.next->q<s.next->b<s.next ->
  s.get p=some (.cells [.int .i64 ((k:Int)-1)] 3 false 0 0)->s.get q=some (.cells [.sl b 0 n cap 1] 43 false 0 0)->s.get b=some (.cells (ZM H) 4 false 0 0)->k+(Ve c).length<=n ->
  adp p s (jd c (H.drop k)) (k+(Ve c).length) (Rl U 161 [Zw c,.fn (.func 162) [] [.ptr p 0,.ptr q 0]] s):=by
 intro c
 induction c using Z5.ind with
 |h kind a bb mi ma pat nl kids ih =>
 intro S3 k s0 PX eB hq0 Er hp hq hb Cn;have h213:=aaV (.mk kind a bb mi ma pat nl kids);rw[show (Z5.mk kind a bb mi ma pat nl kids).kind=kind from rfl] at h213;have fc:=S3;rw[Z5.wf] at fc;obtain⟨-,-,-,-,-,-,gw,-,-,-,-,fY,nk⟩:=fc
 suffices mn:adp p s0 (jd (.mk kind a bb mi ma pat nl kids) (H.drop k)) (k+(Ve (.mk kind a bb mi ma pat nl kids)).length) (go U (Sx U [.tmp 4]) [] bC (YX 0 [Zw (.mk kind a bb mi ma pat nl kids),.fn (.func 162) [] [.ptr p 0,.ptr q 0]] .nil) s0) by
  obtain⟨s',h1,h2⟩:=mn;exact⟨s',VE aky (by kernel_rfl) h1,h2⟩
 rw[Ve] at Cn ⊢;rw[jd]
 cases Ef:XD kind with
 |false =>
  rw[Ef] at h213 Cn;simp only[cond_false,alW] at Cn ⊢;have hk:k<H.length:=by omega
  have WE:=@ak1 _ p q b n cap H k (s0.new (.cells (Z5.mk kind a bb mi ma pat nl kids).cells 48 false 0 0)) tH fC hk hn rD (by rw[Z7,if_neg (by omega)];exact hp) (by rw[Z7,if_neg (by omega)];exact hq) (by rw[Z7,if_neg (by omega)];exact hb);have hhd:(H.drop k).headD false=H[k]:=by rw[abc hk];rfl
  rw[hhd];rw[Zw] at h213 ⊢;simp only[Z5.cells,Z5.kind,Z5.a,Z5.b,Z5.mi,Z5.ma,Z5.pat,Z5.nl,Z5.kids] at WE;simp only[go_sem,bC,h213,ahl,WE];refine⟨_,rfl,?_,?_,?_,?_⟩
  ·rw[Z9,if_pos rfl,show ((k+1:Nat):Int)-1=(k:Int) by omega]
  ·intro j hj hjp;rw[Z9,if_neg (fun e=>hjp e.symm),Z7,if_neg (by omega)]
  ·rw[Z',Z_];omega
  ·exact (PX.new _).put (by rw[Z_];omega) _
 |true =>
  rw[Ef] at h213 Cn;simp only[cond_true] at Cn ⊢;rw[Zw] at h213 ⊢;have ne:∀k,(s0.next+1+k=s0.next)=False:=fun k=>by simp;omega
  simp only[go_sem,bC,h213,ZI,Yd];refine YP (σ:=Nat) (fun i=>kids.length-i) (fun i e s=>i<=kids.length/\(∃sm al,lx (kids.drop i) (H.drop (k+(ZJ (kids.take i)).length)) sm al=lx kids (H.drop k) false true/\Env.get e 5=.bool sm/\Env.get e 6=.bool al) /\
   Env.get e 1=.fn (.func 162) [] [.ptr p 0,.ptr q 0]/\Env.get e 2=.ptr s0.next 0/\Env.get e 16=ZG nl (WW kids)/\Env.get e 17=.int .i64 kids.length/\Env.get e 18=.int .i64 (i:Nat) /\
   Fr s/\s0.next<s.next/\s.get s0.next=some (.cells [.str kind,.int .i64 a,.int .i64 bb,.int .i64 mi,.int .i64 ma,.str pat,ZG nl (WW kids)] 48 false 0 0)/\(∀j,j<s0.next->j≠p->s.get j=s0.get j) /\
   s.get p=some (.cells [.int .i64 (((k+(ZJ (kids.take i)).length:Nat):Int)-1)] 3 false 0 0)) 0 ?_ ?_
  ·rintro L i e s ⟨hi,⟨sm,al,hj,g5,g6⟩,g1,g2,Il,UY,bV,fr,Vl,hs,hold,Kf⟩ IH;by_cases hd:i<kids.length
   ·have hx:(WW kids)[i]? = some (Zw kids[i]):=by rw[Vb,aaa hd];rfl
    have hw:=ZN hd (by omega);have SY:=adm hd;have JS:ZJ (kids.take (i+1))=ZJ (kids.take i)++Ve kids[i]:=by
     rw[alX hd,U6];simp[ZJ]
    have abB:ZJ kids=ZJ (kids.take i)++(Ve kids[i]++ZJ (kids.drop (i+1))):=by
     conv=>lhs;rw[<-List.take_append_drop i kids,U6,abc hd,ZJ]
    have LP:(ZJ (kids.take i)).length+((Ve kids[i]).length+(ZJ (kids.drop (i+1))).length)=(ZJ kids).length:=by rw[abB];simp
    have hQ:∀y z j,j<s.next->((s.new y).put s.next z).get j=s.get j:=fun y z j hj=>by rw[Z9,if_neg (by omega),Z7,if_neg (by omega)]
    obtain⟨s',e1,e2,e3,e4,e5⟩:=ih kids[i] SY (nk _ SY) (k+(ZJ (kids.take i)).length) ((s.new (.cells [.str [],.int .i64 0,.int .i64 0,.int .i64 0,.int .i64 0,.str [],.ZW] 48 false 0 0)).put s.next (.cells kids[i].cells 48 false 0 0))
     ((fr.new _).put (by rw[Z_];omega) _) (by rw[Z',Z_];omega) (by rw[Z',Z_];omega) (by rw[Z',Z_];omega)
     (by rw[hQ _ _ _ (by omega)];exact Kf) (by rw[hQ _ _ _ (by omega),hold _ hq0 (fun e=>tH e.symm)];exact hq) (by rw[hQ _ _ _ (by omega),hold _ Er (fun e=>fC e.symm)];exact hb) (by omega)
    rw[ZV] at hx e1;simp only[Z5.cells] at hx e1;rw[YR (XL hd)] at Il;simp only[go_sem,Br,g1,g5,g6,Il,UY,bV,Z8,hd,hx,ZL,aaj,e1,hw];rw[Z',Z_] at e4;rw[abc hd,lx,List.drop_drop] at hj;refine IH (i+1) _ _ (by omega) ⟨by omega,⟨sm||jd kids[i] (H.drop (k+(ZJ (kids.take i)).length)),al&&jd kids[i] (H.drop (k+(ZJ (kids.take i)).length)),?_,?_,?_⟩,?_,?_,?_,?_,?_,e5,by omega,?_,?_,?_⟩
    case refine_1 =>
     rw[JS,agy,<-akc];exact hj
    case refine_9=>rw[e3 _ (by rw[Z',Z_];omega) (by omega),hQ _ _ _ (by omega),hs]
    case refine_10=>exact fun j hj hjp=>by rw[e3 _ (by rw[Z',Z_];omega) hjp,hQ _ _ _ (by omega),hold j hj hjp]
    case refine_11=>rw[JS,agy,<-akc];exact e2
    all_goals simp only[go_sem,g1,g2,Il,UY,YR (XL hd)]
    all_goals first|(cases sm <;> rfl)|(cases al <;> rfl)|skip
   ·have:i=kids.length:=by omega
    subst this;rw[alO,lx] at hj;rw[amH] at Kf;rw[<-hj];obtain⟨h0,h1,h2,h3,h4,h5,h6,h7,h8,h9,h10,h11,h12,h13,h14⟩:=UN kind;have Tk:=NM kind gw;rw[Ef] at Tk;have ak2:∀v,v=(match ZF kind with|.QG=>!sm|.OV=>sm|_=>al)->adp p s0 (match ZF kind with|.QG=>!(sm,al).1|.OV=>(sm,al).1|_=>(sm,al).2) (k+(ZJ kids).length) (some (.bool v,s)):=fun v hv =>
     ⟨s,by rw[hv],Kf,hold,by omega,fr⟩
    generalize ZF kind=dd at *
    cases dd <;> first|(simp[Kd.leaf] at Tk;done)|skip
    all_goals simp only[reduceCtorEq,decide_true,decide_false] at h12 h14
    all_goals simp only[go_sem,Br,g2,g5,g6,UY,bV,hs,Z8,alh,h12,h14]
    all_goals first|exact ak2 _ rfl|(exfalso;simp[Kd.known] at gw)
  ·refine⟨aic _,⟨false,true,?_,?_,?_⟩,?_,?_,?_,?_,?_,PX.new _,by rw[Z_];omega,?_,?_,?_⟩
   case refine_1=>rw[amd,amF,ZJ];rfl
   case refine_10=>exact fun j hj hjp=>by rw[Z7,if_neg (by omega)]
   case refine_11=>rw[Z7,if_neg (by omega),amF,ZJ];exact hp
   all_goals simp only[go_sem]
   all_goals rfl
end Go.Am
namespace Go.Am
open Go
variable [Z4]
set_option maxRecDepth 100000
set_option maxHeartbeats 8000000
theorem q_ {base i a:Nat}{e:Env}{s:St}{n:Nat}(h:Env.get e a=.int .i64 (n:Int))(hn:n<=2^20) :
  WG U base (some i) e s (.raw (.makeSlice 40 (.tmp a) (.tmp a)))=some (.sl (base+i) 0 n (some n) 1,s.put (base+i) (.cells (ints (List.replicate n 0)) 3 false 0 0)):=by
 have h40:U.Zd 40=some (.slice 3):=by kernel_rfl
 have hz:zero U 3=some (.int .i64 0):=by kernel_rfl
 have hi:(U.inf 3).map (fun i=>(i.bytes,i.size))=some (8,1):=by kernel_rfl
 have e1:ints (List.replicate n 0)=List.replicate n (.int .i64 0):=by simp[ints]
 cases hj:U.inf 3 with
 |none=>rw[hj] at hi;cases hi
 |some j =>
  rw[hj] at hi;simp only[amo,Option.some.injEq,Prod.mk.injEq] at hi;obtain⟨h1,h2⟩:=hi;rw[e1,<-VN];simp only[WG,qY,YI,eval,h,h40,hj,hz];rw[if_pos ⟨by omega,by omega,by rw[h1];omega,by omega,by rw[h2];rfl,by omega⟩,h2];rfl
theorem qW {base i a:Nat}{e:Env}{s:St}{n:Nat}(h:Env.get e a=.int .i64 (n:Int))(hn:n<=2^20) :
  WG U base (some i) e s (.raw (.makeSlice 43 (.tmp a) (.tmp a)))=some (.sl (base+i) 0 n (some n) 1,s.put (base+i) (.cells (ZM (List.replicate n false)) 4 false 0 0)):=by
 have h40:U.Zd 43=some (.slice 4):=by kernel_rfl
 have hz:zero U 4=some (.bool false):=by kernel_rfl
 have hi:(U.inf 4).map (fun i=>(i.bytes,i.size))=some (1,1):=by kernel_rfl
 have e1:ZM (List.replicate n false)=List.replicate n (.bool false):=by simp[ZM]
 cases hj:U.inf 4 with
 |none=>rw[hj] at hi;cases hi
 |some j =>
  rw[hj] at hi;simp only[amo,Option.some.injEq,Prod.mk.injEq] at hi;obtain⟨h1,h2⟩:=hi;rw[e1,<-VN];simp only[WG,qY,YI,eval,h,h40,hj,hz];rw[if_pos ⟨by omega,by omega,by rw[h1];omega,by omega,by rw[h2];rfl,by omega⟩,h2];rfl
theorem ints_set (l:List Int)(i:Nat)(x:Int):(ints l).set i (.int .i64 x)=ints (l.set i x):=by rw[ints,ints,List.map_set]
theorem qV (l:List Bool)(i:Nat)(x:Bool):(ZM l).set i (.bool x)=ZM (l.set i x):=by rw[ZM,ZM,List.map_set]
def Vx (now last:Int)(first:Bool)(c:Z5)(st:Int):Int×Bool:=stP (ZF c.kind) c st now last first
def WN (now last:Int)(first:Bool):List Z5->List Int->List Int
 |c::l,st::Yy=>(Vx now last first c st).1::WN now last first l Yy
 |_,_=>[]
def Xu (now last:Int)(first:Bool):List Z5->List Int->List Bool
 |c::l,st::Yy=>(Vx now last first c st).2::Xu now last first l Yy
 |_,_=>[]
theorem JI (now last:Int)(first:Bool):∀(l:List Z5) (Yy:List Int),Yy.length=l.length->(WN now last first l Yy).length=l.length
 |[],[],_=>rfl
 |c::l,st::Yy,h=>by rw[WN,akd,JI now last first l Yy (by simpa using h)];rfl
theorem Qg (now last:Int)(first:Bool):∀(l:List Z5) (Yy:List Int),Yy.length=l.length->(Xu now last first l Yy).length=l.length
 |[],[],_=>rfl
 |c::l,st::Yy,h=>by rw[Xu,akd,Qg now last first l Yy (by simpa using h)];rfl
theorem Df (now last:Int)(first:Bool):∀(l:List Z5) (Yy:List Int) (i:Nat) (h1:i<l.length) (h2:i<Yy.length) (h3:i<(WN now last first l Yy).length),(WN now last first l Yy)[i]=(Vx now last first l[i] Yy[i]).1
 |c::l,st::Yy,0,_,_,_=>rfl
 |c::l,st::Yy,i+1,h1,h2,h3=>by
  simp only[WN,List.getElem_cons_succ];exact Df now last first l Yy i (by simpa using h1) (by simpa using h2) _
theorem De (now last:Int)(first:Bool):∀(l:List Z5) (Yy:List Int) (i:Nat) (h1:i<l.length) (h2:i<Yy.length) (h3:i<(Xu now last first l Yy).length),(Xu now last first l Yy)[i]=(Vx now last first l[i] Yy[i]).2
 |c::l,st::Yy,0,_,_,_=>rfl
 |c::l,st::Yy,i+1,h1,h2,h3=>by
  simp only[Xu,List.getElem_cons_succ];exact De now last first l Yy i (by simpa using h1) (by simpa using h2) _
def outs:List Z5->List Bool->List Bool
 |[],_=>[]
 |c::l,hs=>jd c hs::outs l (hs.drop (Ve c).length)
section
variable (C L:List Z5)(Yy:List Int)(now last:Int)(first:Bool)
structure F93 (n i:Nat)(N:List Int)(B:List Bool)(e:Env)(s:St):Prop where
 t1:Env.get e 1=.fz (ints Yy)
 t3:Env.get e 3=.ptr 8 0
 t5:Env.get e 5=.ptr 9 0
 t8:Env.get e 8=.sl 12 0 n (some n) 1
 t9:Env.get e 9=.ptr 16 0
 fr:Fr s
 nx:19<=s.next
 g8:s.get 8=some (.cells [.fz (C.map Zw),.fz (L.map Zw),.fz (L.map WO)] 152 false 0 0)
 g9:s.get 9=some (.cells [.int .i64 now,.int .i64 last,.bool first] 158 false 0 0)
 Iw:s.get 12=some (.cells (ints (part N 0 n i)) 3 false 0 0)
 vQ:s.get 15=some (.cells (ZM (part B false n i)) 4 false 0 0)
 Il:s.get 16=some (.cells [.sl 15 0 n (some n) 1] 43 false 0 0)
theorem aiP {β:Type}{fin:Fl->β}{ks:List K}{ZB:β->Prop}(hL:∀c∈L,c.wf/\(ZF c.kind).leaf=true)(hs:∀x∈Yy,0<=x/\x<=256)(hlen:Yy.length=L.length)(hL2:L.length<=2^20)(hn:Qe now)(hl:Qe last)
  (hk:∀e s,F93 C L Yy now last first L.length L.length (WN now last first L Yy) (Xu now last first L Yy) e s->ZB (goN U fin ks e s)){e:Env}{s:St}
  (hI:F93 C L Yy now last first L.length 0 (WN now last first L Yy) (Xu now last first L Yy) e s)(h23:Env.get e 23=.fz (L.map Zw))(h24:Env.get e 24=.int .i64 L.length)(h25:Env.get e 25=.int .i64 (0:Nat)) :
  ZB (SD U fin (.bk 0::ks) Bx e s):=by
 have lN:=JI now last first L Yy hlen
 have lB:=Qg now last first L Yy hlen
 refine YP (σ:=Nat) (fun i=>L.length-i) (fun i e s=>i<=L.length/\F93 C L Yy now last first L.length i (WN now last first L Yy) (Xu now last first L Yy) e s/\Env.get e 23=.fz (L.map Zw)/\Env.get e 24=.int .i64 L.length/\Env.get e 25=.int .i64 (i:Nat)) 0 ?_ ⟨aic _,hI,h23,h24,h25⟩;clear hI h23 h24 h25 e s;rintro Lp i e s ⟨hi,hF,h23,h24,h25⟩ IH;by_cases hd:i<L.length
 ·obtain⟨t1,t3,t5,t8,t9,fr,nx,g8,g9,Iw,vQ,Il⟩:=hF;have hx:(L.map Zw)[i]? = some (Zw L[i]):=by rw[alV,aaa hd];rfl
  have hxs:(L.map WO)[i]? = some (WO L[i]):=by rw[alV,aaa hd];rfl
  have tR:i<Yy.length:=by omega
  have hxt:(ints Yy)[i]? = some (.int .i64 Yy[i]):=by rw[RM,aaa tR];rfl
  have Rm:=ZN hd (by omega);have SY:=adm hd;obtain⟨w1,w2⟩:=hL _ SY;have Xz:∀s,GR U (WO L[i]) [Zw L[i],.int .i64 Yy[i],Yc now last first] s=some (.XU [.int .i64 (Vx now last first L[i] Yy[i]).1,.bool (Vx now last first L[i] Yy[i]).2],s) :=
   fun s=>o4 L[i] w1.A9 Yy[i] now last first hn hl (hs _ (adm tR)) _ w2 s
  rw[<-Df now last first L Yy i hd tR (by omega),<-De now last first L Yy i hd tR (by omega)] at Xz;have aQ:lay i [.int .i64 ((WN now last first L Yy)[i]'(by omega))] (ints (part (WN now last first L Yy) 0 L.length i))=some (ints (part (WN now last first L Yy) 0 L.length (i+1))):=by
   rw[NH _ _ _ (by rw[YK,Ol _ _ lN hi];exact hd),ints_set,Qj _ _ lN hd]
  have gj:lay i [.bool ((Xu now last first L Yy)[i]'(by omega))] (ZM (part (Xu now last first L Yy) false L.length i))=some (ZM (part (Xu now last first L Yy) false L.length (i+1))):=by
   rw[NH _ _ _ (by rw[WX,Ol _ _ lB hi];exact hd),qV,Qj _ _ lB hd]
  rw[Yc] at Xz;rw[ZV] at hx Xz;simp only[Z5.cells] at hx Xz;generalize (WN now last first L Yy)[i]'(by omega)=vN at *;generalize (Xu now last first L Yy)[i]'(by omega)=vB at *;have ne:∀k,k<19->(s.next=k)=False:=fun k hk=>by simp;omega
  have ne':∀j k,k<19->(s.next+j=k)=False:=fun j k hk=>by simp;omega
  simp only[go_sem,Bx,t1,t3,t5,t8,t9,g8,g9,Iw,vQ,Il,h23,h24,h25,Z8,hd,hx,hxs,hxt,ZL,IQ,Uc afX,ne,Xz,aQ,gj,Rm,ah1,ald];have ZC:∀k,k<19->¬s.next=k:=fun k hk=>by omega
  refine IH (i+1) _ _ (by omega) ⟨by omega,⟨?_,?_,?_,?_,?_,?_,?_,?_,?_,?_,?_,?_⟩,?_,?_,?_⟩
  case refine_6 =>
   repeat first|exact fr|apply Fr.new|apply Fr.put|apply Fr.upto
   all_goals simp only[Z',Z_,Z6]
   all_goals omega
  case refine_7=>simp only[Z',Z6];omega
  all_goals simp only[go_sem,t1,t3,t5,t8,t9,h23,h24,g8,g9,Il,Nat.reduceEqDiff,ZC,Nat.reduceLT]
 ·have:i=L.length:=by omega
  subst this;simp only[go_sem,Bx,h24,h25,Z8,alh];obtain⟨t1,t3,t5,t8,t9,fr,nx,g8,g9,Iw,vQ,Il⟩:=hF;refine hk _ _ ⟨?_,?_,?_,?_,?_,fr,nx,g8,g9,Iw,vQ,Il⟩
  all_goals simp only[go_sem,t1,t3,t5,t8,t9]
end
end Go.Am
namespace Go.Am
open Go
variable [Z4]
set_option maxRecDepth 100000
set_option maxHeartbeats 8000000
section
variable (C:List Z5)(N:List Int)(B:List Bool)
theorem aiN {β:Type}{fin:Fl->β}{ks:List K}{ZB:β->Prop}(p:Nat)(hp:19<=p)(hC:∀c∈C,c.wf)(hC2:C.length<=2^20)(hB:B.length=(ZJ C).length)(hB2:B.length<=2^20)
  (hk:∀e s v,Env.get e 8=.sl 12 0 B.length (some B.length) 1->Env.get e 13=v->ZK s (p+1) 4 1 (outs C B).length (ZM (outs C B)) v->s.get 12=some (.cells (ints N) 3 false 0 0)->ZB (goN U fin ks e s)){e:Env}{s:St}
  (h8:Env.get e 8=.sl 12 0 B.length (some B.length) 1)(h9:Env.get e 9=.ptr 16 0)(h12:Env.get e 12=.ptr p 0)(h13:Env.get e 13=.ZW)(h53:Env.get e 53=.fz (C.map Zw))(h54:Env.get e 54=.int .i64 C.length)(h55:Env.get e 55=.int .i64 (0:Nat))
  (fr:Fr s)(nx:p<s.next)(gp:s.get p=some (.cells [.int .i64 (-1)] 3 false 0 0))(Iw:s.get 12=some (.cells (ints N) 3 false 0 0))(vQ:s.get 15=some (.cells (ZM B) 4 false 0 0))(Il:s.get 16=some (.cells [.sl 15 0 B.length (some B.length) 1] 43 false 0 0)) :
  ZB (SD U fin (.bk 2::ks) BP e s):=by
 refine YP (σ:=Nat) (fun i=>C.length-i) (fun i e s=>i<=C.length/\Env.get e 8=.sl 12 0 B.length (some B.length) 1/\Env.get e 9=.ptr 16 0/\Env.get e 12=.ptr p 0/\Env.get e 53=.fz (C.map Zw)/\Env.get e 54=.int .i64 C.length/\Env.get e 55=.int .i64 (i:Nat) /\
  Fr s/\p<s.next/\s.get p=some (.cells [.int .i64 (((ZJ (C.take i)).length:Int)-1)] 3 false 0 0)/\s.get 12=some (.cells (ints N) 3 false 0 0)/\s.get 15=some (.cells (ZM B) 4 false 0 0)/\s.get 16=some (.cells [.sl 15 0 B.length (some B.length) 1] 43 false 0 0) /\
  ∃v acc,Env.get e 13=v/\acc.length=i/\ZK s (p+1) 4 1 i (ZM acc) v/\acc++outs (C.drop i) (B.drop (ZJ (C.take i)).length)=outs C B) 0 ?_
  ⟨aic _,h8,h9,h12,h53,h54,h55,fr,nx,by rw[amF,ZJ,gp];rfl,Iw,vQ,Il,.ZW,[],h13,rfl,ZK.nil _ _ _ _,by rw[amF,ZJ];rfl⟩
 clear h8 h9 h12 h13 h53 h54 h55 fr nx gp Iw vQ Il e s;rintro Lp i e s ⟨hi,h8,h9,h12,h53,h54,h55,fr,nx,gp,Iw,vQ,Il,v,acc,h13,Kc,hv,ho⟩ IH;by_cases hd:i<C.length
 ·have hx:(C.map Zw)[i]? = some (Zw C[i]):=by rw[alV,aaa hd];rfl
  have hw:=ZN hd (by omega);have SY:=adm hd;have JS:ZJ (C.take (i+1))=ZJ (C.take i)++Ve C[i]:=by
   rw[alX hd,U6];simp[ZJ]
  have abB:ZJ C=ZJ (C.take i)++(Ve C[i]++ZJ (C.drop (i+1))):=by
   conv=>lhs;rw[<-List.take_append_drop i C,U6,abc hd,ZJ]
  have LP:(ZJ (C.take i)).length+((Ve C[i]).length+(ZJ (C.drop (i+1))).length)=(ZJ C).length:=by rw[abB];simp
  have hQ:∀y z j,j<s.next->((s.new y).put s.next z).get j=s.get j:=fun y z j hj=>by rw[Z9,if_neg (by omega),Z7,if_neg (by omega)]
  obtain⟨s',e1,e2,e3,e4,e5⟩:=aiO p 16 15 B.length (some B.length) B (by omega) (by omega) rfl (by omega) C[i] (hC _ SY) (ZJ (C.take i)).length ((s.new (.cells [.str [],.int .i64 0,.int .i64 0,.int .i64 0,.int .i64 0,.str [],.ZW] 48 false 0 0)).put s.next (.cells C[i].cells 48 false 0 0))
   ((fr.new _).put (by rw[Z_];omega) _) (by rw[Z',Z_];omega) (by rw[Z',Z_];omega) (by rw[Z',Z_];omega)
   (by rw[hQ _ _ _ (by omega)];exact gp) (by rw[hQ _ _ _ (by omega)];exact Il) (by rw[hQ _ _ _ (by omega)];exact vQ) (by omega)
  rw[Z',Z_] at e3 e4;rw[ZV] at hx e1;simp only[Z5.cells] at hx e1;have Jl:=hv.Xj;have Re:=hv.Zz;have UP:(i+1)*1<=1099511627776:=by omega
  have VP:i+1<=1099511627776:=by omega
  simp only[go_sem,BP,h9,h12,h13,h53,h54,h55,Z8,hd,hx,ZL,aaj,e1,ZH,Nat.reducePow,amk,Jl,UP,VP];generalize hjv:jd C[i] (B.drop (ZJ (C.take i)).length)=jv at *;have rB:ZK (s'.new (.cells [.bool jv] 4 false 0 0)) (p+1) 4 1 i (ZM acc) v:=hv.mono (by rw[Z_];omega) fun j hj wJ=>by
   rw[Z7,if_neg (by omega),e3 j (by omega) (by omega),hQ _ _ _ wJ]
  obtain⟨s1,f1,f2,f3,f4,f5⟩:=rB.Gy (by rw[Z_];omega) (m:=1) (new:=[.bool jv]) (by omega) rfl rfl;rw[Z_] at f1 f2 f3 f4;rw[f1];have low:∀j,j<p+1->s1.get j=s'.get j:=fun j hj=>by rw[f4 j (by omega) (rB.B8 (.inr hj)),Z7,if_neg (by omega)]
  simp only[go_sem,h55,hw];rw[abc hd,outs,hjv,List.drop_drop] at ho;refine IH (i+1) _ _ (by omega) ⟨by omega,?_,?_,?_,?_,?_,?_,f5 (e5.new _),by rw[f2];omega,?_,?_,?_,?_,.sl (s'.next+1) 0 (i+1) none 1,acc++[jv],?_,?_,?_,?_⟩
  case refine_7=>rw[low p (by omega),e2,JS,agy]
  case refine_8=>rw[low 12 (by omega),e3 _ (by omega) (by omega),hQ _ _ _ (by omega),Iw]
  case refine_9=>rw[low 15 (by omega),e3 _ (by omega) (by omega),hQ _ _ _ (by omega),vQ]
  case refine_10=>rw[low 16 (by omega),e3 _ (by omega) (by omega),hQ _ _ _ (by omega),Il]
  case refine_12=>rw[agy,Kc];rfl
  case refine_13=>rw[ZM,alY];exact f3
  case refine_14=>rw[JS,agy,alS];exact ho
  all_goals simp only[go_sem,h8,h9,h12,h53,h54]
 ·have:i=C.length:=by omega
  subst this;rw[alO,outs,alZ] at ho;rw[<-ho] at hk;simp only[go_sem,BP,h54,h55,Z8,alh];refine hk _ _ v ?_ ?_ (by rw[Kc];exact hv) Iw
  all_goals simp only[go_sem,h8,h13]
end
theorem zu:∀(C:List Z5) (B:List Bool),(outs C B).length=C.length
 |[],_=>rfl
 |c::l,B=>by rw[outs,akd,zu l,akd]
def P93 (N:List Int)(O:List Bool)(r:Option (AV×St)):Prop:=∃s' v B,r=some (.XU [.sl 12 0 N.length (some N.length) 1,v],s')/\s'.get 12=some (.cells (ints N) 3 false 0 0)/\ZK s' B 4 1 O.length (ZM O) v
theorem g93 (C:List Z5)(Yy:List Int)(now last:Int)(first:Bool)(hC:∀c∈C,c.wf)(hC2:C.length<=2^20)(hs:∀x∈Yy,0<=x/\x<=256)(hlen:Yy.length=(ZJ C).length)(hL2:(ZJ C).length<=2^20)(hn:Qe now)(hl:Qe last) :
  P93 (WN now last first (ZJ C) Yy) (outs C (Xu now last first (ZJ C) Yy)) (go U (Sx U [.tmp 6,.tmp 7]) [] r93 (YX 0 [.agg [.fz (C.map Zw),.fz ((ZJ C).map Zw),.fz ((ZJ C).map WO)],.fz (ints Yy),Yc now last first] .nil) (X8 U)):=by
 have lN:=JI now last first (ZJ C) Yy hlen
 have lB:=Qg now last first (ZJ C) Yy hlen
 have hLw:∀c∈ZJ C,c.wf/\(ZF c.kind).leaf=true:=fun c hc=>by
  obtain⟨x,h1,h2⟩:=Lb hc;exact La x (hC x h1) c h2
 rw[Yc];have m1:=fun (e:Env) (s:St) (h:Env.get e 17=.int .i64 ((ZJ C).length:Int))=>@q_ _ 10 2 17 e s _ h hL2
 have m2:=fun (e:Env) (s:St) (h:Env.get e 20=.int .i64 ((ZJ C).length:Int))=>@qW _ 10 5 20 e s _ h hL2
 simp only[go_sem,r93,Uc aeS,YK,hlen,m1,m2,agC];refine aiP C (ZJ C) Yy now last first (ZB:=P93 (WN now last first (ZJ C) Yy) (outs C (Xu now last first (ZJ C) Yy))) hLw hs hlen hL2 hn hl ?_ ⟨?_,?_,?_,?_,?_,?_,?_,?_,?_,?_,?_,?_⟩ ?_ ?_ ?_
 case refine_1 =>
  rintro e s ⟨t1,t3,t5,t8,t9,fr,nx,g8,g9,Iw,vQ,Il⟩;rw[Qi _ _ lN] at Iw;rw[Qi _ _ lB] at vQ;have ne:∀k,k<19->(s.next=k)=False:=fun k hk=>by simp;omega
  rw[<-lB] at t8 Il;simp only[go_sem,t3,g8,ne,Nat.reduceLT,agC];refine aiN C (WN now last first (ZJ C) Yy) (Xu now last first (ZJ C) Yy) (ZB:=P93 (WN now last first (ZJ C) Yy) (outs C (Xu now last first (ZJ C) Yy))) s.next nx hC hC2 lB (by omega) ?_ ?_ ?_ ?_ ?_ ?_ ?_ ?_ ?_ ?_ ?_ ?_ ?_ ?_
  case refine_1 =>
   intro e' s' v q8 Cb hv fK;have el:(Xu now last first (ZJ C) Yy).length=(WN now last first (ZJ C) Yy).length:=by rw[lB,lN]
   rw[el] at q8;simp only[go_sem,q8,Cb];exact⟨s',v,_,rfl,fK,hv⟩
  case refine_9 =>
   repeat first|exact fr|apply Fr.new|apply Fr.put|apply Fr.upto
   all_goals simp only[Z_]
   all_goals omega
  case refine_10=>simp only[Z',Z_];omega
  all_goals simp only[go_sem,t8,t9,Iw,vQ,Il,ne,Nat.reduceLT]
  all_goals rfl
 case refine_7 =>
  repeat first|exact Fr.own|apply Fr.new|apply Fr.put|apply Fr.upto
  all_goals simp only[go_sem]
 all_goals simp only[go_sem,qq]
 all_goals rfl
end Go.Am
namespace Go.Am
open Go
variable [Z4]
set_option maxRecDepth 100000
set_option maxHeartbeats 8000000
theorem HG {s:St}{b d n:Nat}{cap:Option Nat}{t:TypeId}{l:List AV}(hn:n=l.length)(hg:s.get b=some (.cells l t false 0 0))(Et:YC U t=some false)(VY:size U t=some 1)(Re:l.all Zz=true)(hf:Y' (XC U s d) l=some l) :
  XC U s (d+1) (.sl b 0 n cap 1)=some (.fz l):=by
 subst hn;simp only[XC,hg,ah1,Ws,Et,VY];rw[if_pos ⟨trivial,by omega,fun _=>⟨trivial,Re⟩⟩,VC,hf]
theorem JJ (s:St)(d:Nat)(l:List Int):Y' (XC U s (d+1)) (ints l)=some (ints l):=UZ fun x hx=>by
 obtain⟨b,_,rfl⟩:=alN.1 hx;rfl
theorem L_ (s:St)(d:Nat)(l:List Bool):Y' (XC U s (d+1)) (ZM l)=some (ZM l):=UZ fun x hx=>by
 obtain⟨b,_,rfl⟩:=alN.1 hx;rfl
theorem ZK.L_ {s:St}{B:Nat}{l:List Bool}{v:AV}(h:ZK s B 4 1 l.length (ZM l) v)(d:Nat):XC U s (d+2) v=some (ZG true (ZM l)):=by
 rcases h with⟨h0,rfl,_⟩|⟨h0,h1,b,_,_,rfl,hg⟩
 ·have:l=[]:=al6.1 h0;subst this;rfl
 ·rw[HG (WX l).symm hg AI AH (U' l) (Go.Am.L_ s d l)]
  cases l with
  |nil=>simp at h0
  |cons x l=>rfl
theorem Dv {s:St}{d:Nat}{a b a' b':AV}(h1:XC U s d a=some a')(h2:XC U s d b=some b'):XC U s (d+1) (.XU [a,b])=some (.XU [a',b']):=by
 have e:Y' (XC U s d) [a,b]=some [a',b']:=by
  rw[Y',h1,Y',h2,Y']
 rw[XC,e]
theorem aiL (C:List Z5)(Yy:List Int)(now last:Int)(first:Bool)(hC:∀c∈C,c.wf)(hC2:C.length<=2^20)(hs:∀x∈Yy,0<=x/\x<=256)(hlen:Yy.length=(ZJ C).length)(hL2:(ZJ C).length<=2^20)(hn:Qe now)(hl:Qe last)(s:St) :
  UR U 93 (some [.agg [.fz (C.map Zw),.fz ((ZJ C).map Zw),.fz ((ZJ C).map WO)],.fz (ints Yy),Yc now last first]) s =
   some (.XU [.fz (ints (WN now last first (ZJ C) Yy)),ZG true (ZM (outs C (Xu now last first (ZJ C) Yy)))],s):=by
 refine X0 U s ?_;obtain⟨s',v,B,h1,h2,h3⟩:=g93 C Yy now last first hC hC2 hs hlen hL2 hn hl
 obtain⟨fn,c,f1,f2,f3,f4⟩:=Nt k93;have hB:=KV U f1 f2 f3 f4 h1;unfold Yg;rw[hB];have MB:flat (.XU [.sl 12 0 (WN now last first (ZJ C) Yy).length (some (WN now last first (ZJ C) Yy).length) 1,v])=false:=rfl;have e1:=HG (d:=38) (cap:=some (WN now last first (ZJ C) Yy).length) (YK _).symm h2 Ka J' (XR _) (JJ _ _ _);have e2:=h3.L_ 37;have e3:=Dv e1 e2;have hd:Tc=38+1+1:=rfl;simp only[ali,if_false,MB];rw[hd];exact e3
end Go.Am
namespace Go.Am
open Go
variable [Z4]
set_option maxRecDepth 100000
set_option maxHeartbeats 4000000
end Go.Am
namespace Go.Am
open Go
variable [Z4]
set_option maxRecDepth 100000
set_option maxHeartbeats 8000000
def r4:RC:=(sO [Zi 4 39 1,Zj 6] (sQ (sO [O7 10 16,WZ 11 10,om 12 11,Qq 13 12 7 4,IZ 14 12 21 13 12,UA 15 12 14,Yp 16 12 15,om 17 16,Yo 18 17 2,IZ 19 17 22 18 60,UA 20 17 19,Yp 21 17 20] (cT 21 (sO [O7 22 16,om 6 22] .ret))) (sO [om 24 0,Zr 25 7 4,Zc 26 24 25,om 27 2,MQ 28 23 24 26 27,om 23 28,YO 29 23 0,YO 30 23 1,om 7 29,om 8 30] (sQ (.TP 8 [om 31 0,Zc 32 26 31,om 33 0,Zr 34 7 4,o 35 (.call 27 [(.t 33),(.t 34),(vI 1)]),⟨some 36,none,some 5,false,.U3 3 1 2 [(iI 0),(iI 0)] [(0,1,(.t 32)),(1,1,(.t 35))]⟩,Zc 37 25 36,om 9 37]) (sQ (sO [om 38 9,VR 39 3 38 0] (cT 39 (oP [om 40 0,om 41 2,Zb 42 28 40 41,om 9 42]))) (sQ (sO [om 43 9,TY 44 3 43 0] (cT 44 (sO [om 45 7,YU 46 45,VR 47 3 46 0,om 48 47,Zp 49 48 8,Zp 50 48 9,oT 51 48 (.bin .eql 3 false (.t 49) (.t 50)),YJ 52 48 51,om 6 52] .ret))) (sO [om 53 8,VR 54 26 53 0,om 55 54,Zp 56 55 7,Tg 57 55 7 4,Zp 58 55 2,Un 59 55 30 57 58,Un 60 55 29 56 59,YJ 61 55 60,om 6 61] .ret)))))))
theorem k4:Ze 4=some ([.tmp 6],r4):=by kernel_rfl
end Go.Am
