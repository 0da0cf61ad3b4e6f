/- A part of the proof of a statement of this seat: the machine on which the program is read, and what it computes; for every input. -/
import Derived.Test.YtikiipfbkfgmbaaGreatDoorZ26
set_option linter.all false
namespace Go.Am
open Go
variable [Z4]
set_option maxRecDepth 100000
set_option maxHeartbeats 8000000
def m8 (l:List Int)(t:Nat)(b mi ma:Int)(pat:XV)(kids:List Z5)(ch nw bg:Bool)(R:Nat):Kd->Bool
 |.high=>nw
 |.low=>!nw
 |.Iz=>ch&&nw
 |.fall=>ch&&!nw
 |.Vj=>ch&&!nw&&(bg&&(decide (mi<=(R:Int))&&decide ((R:Int)<=ma)))
 |.gap=>ch&&nw&&(bg&&(decide (mi<=(R:Int))&&decide ((R:Int)<=ma)))
 |.idle=>bif ch then (mi==1) else ((R:Int)+1==mi)
 |.setup=>(decide (0<t)&&(WR (Xg l (t:Int)) b&&!WR (Xg l ((t-1:Nat):Int)) b))&&(bif ch then true else bg&&decide ((R:Int)+1<=mi))
 |.Uf=>low l b (t-R) R (ch&&!nw&&bg)
 |.pattern=>yW (Xg l (t:Int)) 0 pat
 |.enter=>yW (Xg l (t:Int)) 0 pat&&(decide (0<t)&&!yW (Xg l ((t-1:Nat):Int)) 0 pat)
 |.QG=>!kids.any (atR l t)
 |.EU=>kids.all (atR l t)
 |.OV=>kids.any (atR l t)
 |.other=>false
def chT (l:List Int)(a:Int)(t:Nat):Bool:=decide (0<t)&&(WR (Xg l (t:Int)) a != WR (Xg l ((t-1:Nat):Int)) a)
theorem amX (l:List Int)(t:Nat)(k:XV)(a b mi ma:Int)(pat:XV)(nl:Bool)(kids:List Z5)(h:(Z5.mk k a b mi ma pat nl kids).wf) :
  atR l t (.mk k a b mi ma pat nl kids)=m8 l t b mi ma pat kids (chT l a t) (WR (Xg l (t:Int)) a) (bkN l a (t-1) t 0).2 (bkN l a (t-1) t 0).1 (ZF k):=by
 rw[Z5.wf] at h;obtain⟨-,-,-,-,-,-,Cn,eT,-,ZC,Bi,-,-⟩:=h
 cases t with
 |zero =>
  have hc:chT l a 0=false:=rfl;have hb:bkN l a (0-1) 0 0=(0,false):=rfl;rw[hc,hb]
  cases hd:ZF k
  case high=>rw[ao2 _ _ _ _ _ _ _ _ _ _ hd];rfl
  case low=>rw[apn _ _ _ _ _ _ _ _ _ _ hd];rfl
  case Iz=>rw[apo _ _ _ _ _ _ _ _ _ hd];rfl
  case fall=>rw[apq _ _ _ _ _ _ _ _ _ hd];rfl
  case pattern=>rw[bq _ _ _ _ _ _ _ _ _ _ hd];rfl
  case enter=>rw[apf _ _ _ _ _ _ _ _ _ hd];simp[m8]
  case Vj=>rw[apd _ _ _ _ _ _ _ _ _ hd];rfl
  case gap=>rw[am2 _ _ _ _ _ _ _ _ _ hd];rfl
  case idle=>rw[aps _ _ _ _ _ _ _ _ _ hd];rfl
  case setup=>rw[ape _ _ _ _ _ _ _ _ _ hd];rfl
  case Uf=>rw[apr _ _ _ _ _ _ _ _ _ hd];rfl
  case QG=>rw[amJ _ _ _ _ _ _ _ _ _ _ hd (eT hd)];rfl
  case EU=>rw[amK _ _ _ _ _ _ _ _ _ _ hd];rfl
  case OV=>rw[amL _ _ _ _ _ _ _ _ _ _ hd (ZC (by rw[hd];rfl))];rfl
  case other=>rw[hd] at Cn;cases Cn
 |succ u =>
  have hc:chT l a (u+1)=chB l a u:=by unfold chT;rw[decide_eq_true (by omega:0<u+1),al9,show u+1-1=u by omega]
  have hb:bkN l a (u+1-1) (u+1) 0=(u+1-runN l a u,bgB l a u):=by rw[show u+1-1=u by omega,apl]
  have hp:decide (0<u+1)=true:=decide_eq_true (by omega);have hu:u+1-1=u:=by omega
  have hle:=NN l a u;rw[hc,hb]
  cases hd:ZF k
  case high=>rw[ao2 _ _ _ _ _ _ _ _ _ _ hd];rfl
  case low=>rw[apn _ _ _ _ _ _ _ _ _ _ hd];rfl
  case Iz=>rw[am3 _ _ _ _ _ _ _ _ _ _ hd];rfl
  case fall=>rw[am4 _ _ _ _ _ _ _ _ _ _ hd];rfl
  case pattern=>rw[bq _ _ _ _ _ _ _ _ _ _ hd];rfl
  case enter=>rw[apy _ _ _ _ _ _ _ _ _ _ hd,m8,hp,hu,al9]
  case Vj=>rw[apv _ _ _ _ _ _ _ _ _ _ hd];rfl
  case gap=>rw[ant _ _ _ _ _ _ _ _ _ _ hd];rfl
  case idle=>rw[am5 _ _ _ _ _ _ _ _ _ _ hd];rfl
  case setup=>rw[apx _ _ _ _ _ _ _ _ _ _ (Bi (by rw[hd];rfl)) hd,m8,hp,hu,al9]
  case Uf=>rw[am6 _ _ _ _ _ _ _ _ _ _ hd,m8,show u+1-(u+1-runN l a u)=runN l a u by omega]
  case QG=>rw[amJ _ _ _ _ _ _ _ _ _ _ hd (eT hd)];rfl
  case EU=>rw[amK _ _ _ _ _ _ _ _ _ _ hd];rfl
  case OV=>rw[amL _ _ _ _ _ _ _ _ _ _ hd (ZC (by rw[hd];rfl))];rfl
  case other=>rw[hd] at Cn;cases Cn
end Go.Am
