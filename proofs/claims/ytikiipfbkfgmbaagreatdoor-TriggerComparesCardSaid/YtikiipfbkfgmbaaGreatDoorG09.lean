/- A part of the proof of a statement of this seat: the machine on which the program is read, and what it computes; for every input. -/
import Derived.Test.YtikiipfbkfgmbaaGreatDoorG07
import Derived.Test.YtikiipfbkfgmbaaGreatDoorG08
set_option linter.all false
namespace Go.Am
open Go Go.Proofs Go.Proofs.YtikiipfbkfgmbaaGreatDoor Go.RowKit
open Go.ChangeShapes Go.WideShapes Go.ChangeAt
set_option maxRecDepth 100000
theorem own8U:ownKnob Tryz.prog.godebug=none:=by kernel_rfl
theorem laidOut8U:laidOutB Tryz.prog=true:=by kernel_rfl
theorem cz_40U:Tryz.prog.cellsOf 40=1:=by kernel_rfl
theorem read72U:Tryz.prog.readableRec 72=true:=by kernel_rfl
theorem row72U:72<Tryz.prog.types.size:=of_decide_eq_true (by kernel_rfl)
theorem agg3_ofU {v u:Value}{vs:Array Value}(hu:u=.agg vs)(h:v.cells.toList=u.cells.toList)(h2:vs.size=3):v=u:=by
 subst hu
 have hc:∀x:Value,([x]:List Value)=vs.toList→False:=fun x hx=>by
  have:=congrArg List.length hx
  have h3:vs.toList.length=vs.size:=Array.length_toList
  rw[h3,h2] at this
  cases this
 cases v <;> first
  |(exfalso;exact hc _ h)
  |skip
 rename_i cs
 have h:cs.toList=vs.toList:=h
 rw[Array.toList_inj.1 h]
theorem cz_72U:Tryz.prog.cellsOf 72=3:=by kernel_rfl
theorem cz_43U:Tryz.prog.cellsOf 43=1:=by kernel_rfl
theorem cz_4U:Tryz.prog.cellsOf 4=1:=by kernel_rfl
section
variable {H:Type}{enc:TypeId×Value→H}{w:World}{σ:Sg}
theorem sl_cells {nl:Bool}{l:List AV}{v:Value}(h:vrel σ.bare (encS nl l) v):v.cells.toList=[v]:=by
 rw[←encS'_eq] at h
 unfold encS' at h
 split at h
 ·have h:v=.slice none 0 0:=h
  subst h;rfl
 ·obtain⟨a,c,us,rfl,_⟩:=h
  rfl
theorem rowI_of (hz:∀b o,w.heap[b]? = some o→σ.fz b=some o){base:Nat}{spare:Nat→Bool}{held:Bool}(fuel:Nat)(cs:List Value)(x:DataW H×List MemPlace)(h:DataW.trod enc Tryz.prog w base spare held fuel 40 cs=some x) :
  ∃(y:Bool×List Int) (u:Value),vrel σ.bare (encRow y) u∧u.cells.toList=cs:=by
 obtain⟨nl,l,v,rfl,hr,_⟩:=open_row (σ:=σ) hz (fun x:Int=>AV.int .i64 x) (k:=1) (by omega) Tryz.underlying40 cz_3 h fun m cs x hm hx=>by
  obtain⟨z,f,_,_⟩:=DataW.trod_int Tryz.underlying3 hx
  exact⟨z,.int .i64 z,rfl,f.symm⟩
 rw[encS'_eq] at hr
 exact⟨(nl,l),v,hr,sl_cells hr⟩
theorem rowB_of (hz:∀b o,w.heap[b]? = some o→σ.fz b=some o){base:Nat}{spare:Nat→Bool}{held:Bool}(fuel:Nat)(cs:List Value)(x:DataW H×List MemPlace)(h:DataW.trod enc Tryz.prog w base spare held fuel 43 cs=some x) :
  ∃(y:Bool×List Bool) (u:Value),vrel σ.bare (encFRow y) u∧u.cells.toList=cs:=by
 obtain⟨nl,l,v,rfl,hr,_⟩:=open_row (σ:=σ) hz (fun x:Bool=>AV.bool x) (k:=1) (by omega) Tryz.underlying43 cz_4U h fun m cs x hm hx=>by
  obtain⟨z,f,_⟩:=DataW.trod_bool Tryz.underlying4 hx
  exact⟨z,.bool z,rfl,f.symm⟩
 rw[encS'_eq] at hr
 exact⟨(nl,l),v,hr,sl_cells hr⟩
theorem auto_of (hz:∀b o,w.heap[b]? = some o→σ.fz b=some o){base:Nat}{spare:Nat→Bool}{held:Bool}{fuel:Nat}{cs:List Value}{x:DataW H×List MemPlace}(h:DataW.trod enc Tryz.prog w base spare held fuel 72 cs=some x) :
  ∃(a:Auto) (u:Value),vrel σ.bare (encA a) u∧u.cells.toList=cs:=by
 obtain⟨xs,n,hn,_,hlen,hsz,hel⟩:=DataW.trod_struct Tryz.underlying72 h
 rw[cz_72U] at hlen
 match cs,hlen with
 |[v0,v1,v2],_ =>
  have hx7:xs.length=3:=hsz
  have h0:=hel 0 _ rfl
  have h1:=hel 1 _ rfl
  have h2:=hel 2 _ rfl
  try simp only[cz_3,List.drop_zero,List.drop_succ_cons,List.take_succ_cons,List.take_zero] at h0 h1 h2
  obtain⟨x0,e0⟩:=some_of (l:=xs) (i:=0) (by omega)
  obtain⟨x1,e1⟩:=some_of (l:=xs) (i:=1) (by omega)
  obtain⟨x2,e2⟩:=some_of (l:=xs) (i:=2) (by omega)
  rw[e0] at h0;rw[e1] at h1;rw[e2] at h2
  obtain⟨n0,f0,_,_⟩:=DataW.trod_int Tryz.underlying3 h0
  obtain⟨nN,rows,u1,f1,hr1,_⟩:=open_row hz encRow (k:=1) (by omega) Tryz.underlying66 cz_40U h1 fun m cs x hm hx=>rowI_of hz m cs x hx
  obtain⟨nF,fires,u2,f2,hr2,_⟩:=open_row hz encFRow (k:=1) (by omega) Tryz.underlying67 cz_43U h2 fun m cs x hm hx=>rowB_of hz m cs x hx
  cases f0;cases f1;cases f2
  rw[encS'_eq] at hr1 hr2
  exact⟨⟨n0,nN,rows,nF,fires⟩,.agg #[.int .i64 n0,v1,v2],⟨_,rfl,_,_,rfl,rfl,_,_,rfl,hr1,_,_,rfl,hr2,rfl⟩,rfl⟩
end
end Go.Am
