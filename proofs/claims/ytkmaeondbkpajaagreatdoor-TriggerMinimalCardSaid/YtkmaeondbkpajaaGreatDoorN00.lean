/- A part of the proof of a statement of this seat: the machine on which the program is read, and what it computes; for every input. -/
import GoSem.Dispatch
import Derived.RowKit3
import Derived.Laws.OwnMore
import Derived.Laws.Sem
import Derived.Laws.Strings
import Derived.Laws.StructEq
import Derived.Laws.Slices
import Derived.Laws.Cells
import Derived.Laws.BytesString
import Derived.Laws.Entries
import Derived.Laws.Bits
import Derived.RangeFuncLeaves
import Derived.Orders
import Derived.RangeFuncCalls
import Derived.Scope
import Derived.RangeFuncRecord
set_option linter.all false
namespace Go.Am
def aaa:=@List.getElem?_eq_getElem
def aab:=@Bool.and_eq_true
def aba:=@Nat.le_refl
def abc:=@List.mem_cons_of_mem
def adm:=@Array.getElem?_eq_some_iff
def ad4:=@Nat.zero_add
def aeW:=@List.length_append
def aeX:=@Nat.add_assoc
def aeY:=@List.drop_eq_getElem_cons
def aeZ:=@List.mem_cons_self
def ae0:=@List.mem_singleton
def ae1:=@Bool.false_eq_true
def ae2:=@List.getElem_mem
def ae3:=@Nat.mul_one
def ae4:=@List.getD_eq_getElem?_getD
def ae5:=@Nat.zero_le
def ae6:=@List.getElem?_eq_some_iff
def ae7:=@List.length_map
def ae8:=@List.mem_iff_getElem
def ae9:=@List.all_eq_true
def afa:=@List.mem_cons
def afb:=@List.mem_append
def afc:=@List.length_cons
def afd:=@Array.length_toList
def afe:=@List.mem_map
def aff:=@List.length_singleton
def afg:=@Nat.lt_irrefl
def afh:=@List.mem_range
def afi:=@List.length_set
def afj:=@Array.getElem?_toList
def afk:=@Array.getD_eq_getD_getElem?
def afl:=@List.mem_of_getElem?
def afm:=@List.map_cons
def afn:=@List.flatMap_cons
def afo:=@List.getElem?_append_left
def afp:=@Array.getElem?_eq_getElem
def afq:=@List.length_eq_zero_iff
def afr:=@List.getElem?_cons_succ
def afs:=@List.getElem?_map
def aft:=@List.append_assoc
def afu:=@Nat.one_mul
def afv:=@List.getElem_append_left
def afw:=@Bool.not_eq_true'
def afx:=@List.map_congr_left
def afy:=@List.getElem_append_right
def afz:=@List.getElem?_eq_none
def afA:=@Nat.lt_of_le_of_lt
def afB:=@Array.getElem?_push
def afC:=@List.take_succ_eq_append_getElem
def afD:=@Nat.add_zero
def afE:=@List.drop_length
def afF:=@Option.map_some
def afG:=@Nat.le_trans
def afH:=@List.length_take
def afI:=@List.nodup_cons
def afJ:=@List.drop_zero
def afK:=@Option.isNone_iff_eq_none
def afL:=@Option.map_eq_some_iff
def afM:=@List.pairwise_append
def afN:=@List.length_range
def afO:=@List.getElem?_append_right
def afP:=@List.nil_append
def afQ:=@List.length_drop
def afR:=@List.nodup_append
def afS:=@List.pairwise_iff_getElem
def afT:=@List.drop_eq_nil_of_le
def afU:=@Bool.true_and
def afV:=@Bool.false_or
def afW:=@Array.getElem?_setIfInBounds
def afX:=@List.map_append
def afY:=@Bool.or_eq_true
def afZ:=@Option.getD_some
open Go
inductive AV where
 |bool (b:Bool)|int (k:IntKind) (n:Int)|Gt (k:FloatKind) (bits:Nat)|str (s:List UInt8)
 |U'|ptr (b o:Nat)
 |ZR|sl (b o len:Nat) (cap:Option Nat) (Xo:Nat)
 |RD|map (r:Nat)|Tx|fn (f:Fn) (first cap:List AV)
 |TH|iface (t:TypeId) (v:AV)|agg (cs:List AV)|X' (vs:List AV)
 |fz (es:List AV)|fp (cs:List AV) (o:Nat)|fm (ks vs:List AV)
 deriving Inhabited
inductive Tr (α:Type) where
 |nil
 |n (v:Option α) (l r:Tr α)
def Tr.get {α:Type}:Tr α->Nat->Option α
 |.nil,_=>none
 |.n v l r,k=>match k with
  |0=>v
  |k'+1=>cond (Nat.beq (k'%2) 0) (l.get (k' / 2)) (r.get (k' / 2))
def Tr.RS {α:Type}:Nat->Tr α->Nat->α->Tr α
 |0,t,_,_=>t
 |f+1,.nil,k,x=>match k with
  |0=>.n (some x) .nil .nil
  |k'+1=>cond (Nat.beq (k'%2) 0) (.n none (Tr.RS f .nil (k' / 2) x) .nil) (.n none .nil (Tr.RS f .nil (k' / 2) x))
 |f+1,.n v l r,k,x=>match k with
  |0=>.n (some x) l r
  |k'+1=>cond (Nat.beq (k'%2) 0) (.n v (Tr.RS f l (k' / 2) x) r) (.n v l (Tr.RS f r (k' / 2) x))
def Tr.set {α:Type}(t:Tr α)(k:Nat)(x:α):Tr α:=Tr.RS (k+1) t k x
abbrev Env:=Tr AV
inductive UK where
 |cells (c:List AV) (elem:TypeId) (ro:Bool) (RA Ss:Nat)
 |gone
 |map (es:List (AV×AV)) (ro:Bool)
 |iter (s:List UInt8) (pos:Nat)
 |loop (state:Nat) (pending:Option Code) (env:Env) (params:List Tmp) (assign body:Code)
structure St where
 t:Tr UK
 base:Nat->Option UK
 next:Nat
def St.get (s:St)(b:Nat):Option UK:=match s.t.get b with
 |some x=>some x
 |none=>s.base b
def St.put (s:St)(b:Nat)(x:UK):St:={ s with t:=s.t.set b x }
def St.new (s:St)(x:UK):St:={ s with t:=s.t.set s.next x,next:=s.next+1 }
structure Cx where
 Zt:TypeId->Option TypeDesc
 inf:TypeId->Option TypeInfo
 fn:FuncId->Option Func
 glob:Nat
 Ho:TypeId->Bool
 ext:FuncId->Option (List AV->St->Option (AV×St))
 O_:Nat->Option UK
 pure:FuncId->Bool
 spec:TypeId->Bool
 qv:Call->Bool:=fun _=>false
def undef:AV:=.X' []
def Env.get (e:Env)(t:Tmp):AV:=match Tr.get e t with
 |some v=>v
 |none=>undef
def sj:Nat->Value->Option AV
 |0,_=>none
 |n+1,v=>match v with
  |.bool b=>some (.bool b)
  |.int k i=>some (.int k i)
  |.float k b=>some (.Gt k b)
  |.string s=>some (.str s.data.toList)
  |.pointer none=>some .U'
  |.slice none 0 0=>some .ZR
  |.map none=>some .RD
  |.nilFunc=>some .Tx
  |.nilIface=>some .TH
  |.agg cs=>(cs.toList.mapM (sj n)).map .agg
  |.tuple cs=>(cs.toList.mapM (sj n)).map .X'
  |_=>none
def AV.cells:AV->List AV
 |.agg cs=>cs
 |v=>[v]
mutual
def same:AV->AV->Bool
 |.bool a,.bool b=>a==b
 |.int k a,.int j b=>decide (k=j)&&a==b
 |.Gt k a,.Gt j b=>decide (k=j)&&a==b
 |.str a,.str b=>a==b
 |.U',.U'=>true
 |.ptr a b,.ptr c d=>a==c&&b==d
 |.ZR,.ZR=>true
 |.sl a b c d e,.sl a' b' c' d' e'=>a==a'&&b==b'&&c==c'&&d==d'&&e==e'
 |.RD,.RD=>true
 |.map a,.map b=>a==b
 |.Tx,.Tx=>true
 |.fn f x y,.fn g x' y'=>decide (f=g)&&XQ x x'&&XQ y y'
 |.TH,.TH=>true
 |.iface t x,.iface u y=>t==u&&same x y
 |.agg a,.agg b=>XQ a b
 |.X' a,.X' b=>XQ a b
 |.fz a,.fz b=>XQ a b
 |.fp a o,.fp b o'=>o==o'&&XQ a b
 |.fm a b,.fm a' b'=>XQ a a'&&XQ b b'
 |_,_=>false
def XQ:List AV->List AV->Bool
 |[],[]=>true
 |a::x,b::y=>same a b&&XQ x y
 |_,_=>false
end
section
variable (X:Cx)
def eval (e:Env):Operand->Option AV
 |.tmp t=>some (Env.get e t)
 |.const v=>sj 3 v
 |.global g=>if g<X.glob then some (.ptr g 0) else none
 |.func f=>some (.fn (.func f) [] [])
def size (t:TypeId):Option Nat:=match X.inf t with
 |some i=>some i.size
 |none=>none
def YZ (t:TypeId):Option Bool:=match X.Zt t with
 |some (.struct _)=>some true
 |some (.array _ _)=>some true
 |some _=>some false
 |none=>none
def zero (t:TypeId):Option AV:=match X.inf t with
 |some i=>match i.zero with
  |some z=>sj 3 z
  |none=>none
 |none=>none
def St.cells (s:St)(b:Nat):Option (List AV):=match s.get b with
 |some (.cells c _ _ _ _)=>some c
 |_=>none
def YB:Nat->Nat->List AV->Option (List AV)
 |0,_,_=>some []
 |_+1,_,[]=>none
 |n+1,0,x::l=>match YB n 0 l with
  |some r=>some (x::r)
  |none=>none
 |n+1,o+1,_::l=>YB (n+1) o l
def lay:Nat->List AV->List AV->Option (List AV)
 |_,[],l=>some l
 |_,_::_,[]=>none
 |0,v::vs,_::l=>match lay 0 vs l with
  |some r=>some (v::r)
  |none=>none
 |o+1,v::vs,x::l=>match lay o (v::vs) l with
  |some r=>some (x::r)
  |none=>none
def cell (s:St)(b o:Nat):Option AV:=match s.cells b with
 |some c=>c[o]?
 |none=>none
def Vd (t:TypeId)(a:AV)(s:St):Option AV:=match a with
 |.ptr b o=>match YZ X t with
  |some true=>match size X t,s.cells b with
   |some n,some c=>match YB n o c with
    |some r=>some (.agg r)
    |none=>none
   |_,_=>none
  |some false=>cell s b o
  |none=>none
 |.fp c o=>match YZ X t with
  |some true=>match size X t with
   |some n=>match YB n o c with
    |some r=>some (.agg r)
    |none=>none
   |none=>none
  |some false=>c[o]?
  |none=>none
 |_=>none
def Zw:AV->Bool
 |.agg _=>false
 |.X' _=>false
 |_=>true
def Yi (s:St)(b o:Nat)(vs:List AV):Option St:=match s.get b with
 |some (.cells c e false RA Ss) =>
  if (o+vs.length<=RA||Ss<=o)&&vs.all Zw then
   match lay o vs c with
   |some c'=>some (s.put b (.cells c' e false RA Ss))
   |none=>none
  else none
 |_=>none
def PF (t:TypeId)(a v:AV)(s:St):Option St:=match a with
 |.ptr b o=>match size X t with
  |some n=>if v.cells.length=n then Yi s b o v.cells else none
  |none=>none
 |_=>none
def T_ (t:TypeId)(cs:List AV)(off:Nat):Option AV:=match YZ X t with
 |some true=>match size X t with
  |some n=>match YB n off cs with
   |some r=>some (.agg r)
   |none=>none
  |none=>none
 |some false=>cs[off]?
 |none=>none
def OJ (place:Nat->Option (Nat×Nat))(cells:List AV):List (Nat×AV)->Option (List AV)
 |[]=>some cells
 |(i,v)::rest=>match place i with
  |none=>none
  |some (off,n)=>if v.cells.length=n/\off+n<=cells.length then
    match lay off v.cells cells with
    |some c=>OJ place c rest
    |none=>none
   else none
def XD (e:Env):List (Nat×Operand)->Option (List (Nat×AV))
 |[]=>some []
 |(i,x)::l=>match eval X e x,XD e l with
  |some v,some r=>some ((i,v)::r)
  |_,_=>none
def WR (e:Env):List Operand->Option (List AV)
 |[]=>some []
 |x::l=>match eval X e x,WR e l with
  |some v,some r=>some (v::r)
  |_,_=>none
def WD:Nat->List AV->List AV
 |0,_=>[]
 |n+1,l=>l++WD n l
def Qx:List Field->Option (List (Nat×Nat))
 |[]=>some []
 |f::l=>match size X f.type,Qx l with
  |some n,some r=>some ((f.offset,n)::r)
  |_,_=>none
def KH (t:TypeId)(parts:List (Nat×AV)):Option AV:=match zero X t with
 |some (.agg z)=>match X.Zt t with
  |some (.struct fs)=>match Qx X fs.toList with
   |some pl=>match OJ (fun i=>pl[i]?) z parts with
    |some c=>some (.agg c)
    |none=>none
   |none=>none
  |some (.array _ elem)=>match size X elem with
   |some n=>match OJ (fun i=>some (i*n,n)) z parts with
    |some c=>some (.agg c)
    |none=>none
   |none=>none
  |_=>none
 |_=>none
def W_ (s:St)(c:List AV)(e:TypeId):AV×St:=(.ptr s.next 0,s.new (.cells c e false 0 0))
def Wb (t:TypeId)(len:Nat)(parts:List (Nat×AV))(s:St):Option (AV×St):=match X.Zt t with
 |some (.slice elem)=>match size X elem,zero X elem with
  |some n,some z =>
   if z.cells.length=n/\n≠0/\len*n<=2^24 then match OJ (fun i=>some (i*n,n)) (WD len z.cells) parts with
   |some c=>some (.sl s.next 0 len (some len) n,s.new (.cells c elem false 0 0))
   |none=>none
   else none
  |_,_=>none
 |_=>none
def Uv:List UInt8->List UInt8->Bool
 |_,[]=>false
 |[],_::_=>true
 |a::x,b::y=>a<b||(a==b&&Uv x y)
def Ty (f:AV->AV->Option Bool)(cut:Nat->List AV->Option AV)(n:Nat):Nat->Nat->List AV->List AV->Option Bool
 |0,_,_,_=>some true
 |k+1,i,a,b=>match cut (i*n) a,cut (i*n) b with
  |some x,some y=>match f x y with
   |some true=>Ty f cut n k (i+1) a b
   |some false=>some false
   |none=>none
  |_,_=>none
def QD (f:TypeId->AV->AV->Option Bool)(cut:TypeId->Nat->List AV->Option AV):List Field->List AV->List AV->Option Bool
 |[],_,_=>some true
 |fd::fs,a,b=>if fd.name = "_" then none else match cut fd.type fd.offset a,cut fd.type fd.offset b with
  |some x,some y=>match f fd.type x y with
   |some true=>QD f cut fs a b
   |some false=>some false
   |none=>none
  |_,_=>none
def F0:Nat->TypeId->AV->AV->Option Bool
 |0,_,_,_=>none
 |d+1,t,x,y=>match X.Zt t,x,y with
  |some .bool,.bool a,.bool b=>some (a==b)
  |some (.int _),.int k a,.int k' b=>if k=k' then some (a==b) else none
  |some .string,.str a,.str b=>some (a==b)
  |some (.pointer _),.U',.U'=>some true
  |some (.pointer _),.U',.ptr _ _=>some false
  |some (.pointer _),.ptr _ _,.U'=>some false
  |some (.pointer e),.ptr b o,.ptr b' o'=>match size X e with
   |some (_+1)=>if b=b' then some (o==o') else none
   |_=>none
  |some (.slice _),.ZR,.ZR=>some true
  |some (.slice _),.ZR,.sl ..=>some false
  |some (.slice _),.sl ..,.ZR=>some false
  |some (.slice _),.ZR,.fz _=>some false
  |some (.slice _),.fz _,.ZR=>some false
  |some (.map _ _),.RD,.RD=>some true
  |some (.map _ _),.RD,.map _=>some false
  |some (.map _ _),.map _,.RD=>some false
  |some (.func _ _ _),.Tx,.Tx=>some true
  |some (.func _ _ _),.Tx,.fn ..=>some false
  |some (.func _ _ _),.fn ..,.Tx=>some false
  |some (.interface _),.TH,.TH=>some true
  |some (.interface _),.TH,.iface ..=>some false
  |some (.interface _),.iface ..,.TH=>some false
  |some (.struct fs),.agg a,.agg b=>if X.Ho t then QD (F0 d) (fun t o l=>T_ X t l o) fs.toList a b else none
  |some (.array len e),.agg a,.agg b=>match size X e with
   |some n=>Ty (F0 d e) (fun o l=>T_ X e l o) n len 0 a b
   |none=>none
  |_,_,_=>none
def Kz (cst:Bool)(t:TypeId)(x y:AV):Option Bool:=match x,y with
 |.TH,.TH=>if cst then F0 X 20 t .TH .TH else none
 |.agg a,.agg b=>if X.Ho t then F0 X 20 t (.agg a) (.agg b) else none
 |x,y=>F0 X 20 t x y
def VJ:Operand->Bool
 |.const _=>true
 |_=>false
def PE (op:BinOp)(k:IntKind)(x y:Int):Option AV :=
 if y<0 then none else
 let n:=min y.toNat k.bits
 match op with
 |.shl=>some (.int k (k.wrap (x*2^n)))
 |.shr=>some (.int k (x.fdiv (2^n)))
 |_=>none
def RH (op:BinOp)(k:IntKind)(x y:Int):Option AV:=match op with
 |.add=>some (.int k (k.wrap (x+y)))
 |.sub=>some (.int k (k.wrap (x-y)))
 |.mul=>some (.int k (k.wrap (x*y)))
 |.quo=>if y=0 then none else some (.int k (k.wrap (x.tdiv y)))
 |.rem=>if y=0 then none else some (.int k (x.tmod y))
 |.and=>some (.int k (k.wrap ((BitVec.ofInt k.bits x &&& BitVec.ofInt k.bits y).toNat)))
 |.or=>some (.int k (k.wrap ((BitVec.ofInt k.bits x ||| BitVec.ofInt k.bits y).toNat)))
 |.xor=>some (.int k (k.wrap ((BitVec.ofInt k.bits x ^^^ BitVec.ofInt k.bits y).toNat)))
 |.andNot=>some (.int k (k.wrap ((BitVec.ofInt k.bits x &&& ~~~ BitVec.ofInt k.bits y).toNat)))
 |.eql=>some (.bool (x==y))
 |.neq=>some (.bool (x != y))
 |.lss=>some (.bool (x<y))
 |.leq=>some (.bool (x<=y))
 |.gtr=>some (.bool (x>y))
 |.geq=>some (.bool (x>=y))
 |_=>none
def kH (op:BinOp)(x y:List UInt8):Option AV:=match op with
 |.add=>if x.length+y.length<2^62 then some (.str (x++y)) else none
 |.eql=>some (.bool (x==y))
 |.neq=>some (.bool !(x==y))
 |.lss=>some (.bool (Uv x y))
 |.leq=>some (.bool (Uv x y||x==y))
 |.gtr=>some (.bool !(Uv x y||x==y))
 |.geq=>some (.bool !(Uv x y))
 |_=>none
def kG (op:BinOp)(k:FloatKind)(a b:Nat):Option AV:=match op with
 |.eql=>some (.bool (k.format.order a b==some .eq))
 |.neq=>some (.bool (k.format.order a b != some .eq))
 |.lss=>some (.bool (k.format.order a b==some .lt))
 |.leq=>some (.bool (k.format.order a b==some .lt||k.format.order a b==some .eq))
 |.gtr=>some (.bool (k.format.order a b==some .gt))
 |.geq=>some (.bool (k.format.order a b==some .gt||k.format.order a b==some .eq))
 |.add=>(k.format.add a b).map (.Gt k)
 |.sub=>(k.format.sub a b).map (.Gt k)
 |.mul=>(k.format.mul a b).map (.Gt k)
 |.quo=>(k.format.div a b).map (.Gt k)
 |_=>none
def X_ (op:BinOp)(t:TypeId)(cst:Bool)(x y:AV):Option AV:=match op,x,y with
 |.shl,.int k a,.int _ b=>PE .shl k a b
 |.shr,.int k a,.int _ b=>PE .shr k a b
 |op,.int k a,.int k' b=>if k=k' then RH op k a b else none
 |op,.str a,.str b=>kH op a b
 |op,.Gt k a,.Gt k' b=>if k=k' then kG op k a b else none
 |.eql,x,y=>match Kz X cst t x y with|some b=>some (.bool b)|none=>none
 |.neq,x,y=>match Kz X cst t x y with|some b=>some (.bool !b)|none=>none
 |_,_,_=>none
def kF (op:UnOp)(x:AV):Option AV:=match op,x with
 |.neg,.int k n=>some (.int k (k.wrap (0-n)))
 |.xor,.int k n=>RH .xor k (if k.signed then -1 else k.max) n
 |.not,.bool b=>some (.bool !b)
 |_,_=>none
def Yh:List AV->Option (List UInt8)
 |[]=>some []
 |.int .u8 n::l=>match Yh l with
  |some r=>some (UInt8.ofNat n.toNat::r)
  |none=>none
 |_=>none
def T9 (src dst:TypeId)(x:AV)(s:St):Option (AV×St):=match X.Zt src,X.Zt dst,x with
 |some _,some (.int k),.int _ n=>some (.int k (k.wrap n),s)
 |some _,some .string,.int _ n=>some (.str (Utf8.encode n).data.toList,s)
 |some _,some .string,.str b=>some (.str b,s)
 |some _,some (.slice e),.str b=>match X.Zt e with
  |some (.int .u8)=>some (.sl s.next 0 b.length none 1,s.new (.cells (b.map fun c=>.int .u8 c.toNat) e false 0 0))
  |_=>none
 |some (.slice e),some .string,x=>match X.Zt e with
  |some (.int .u8)=>match x with
   |.ZR=>some (.str [],s)
   |.sl b o len _ _=>match s.cells b with
    |some c=>match YB len o c with
     |some r=>match Yh r with
      |some bs=>some (.str bs,s)
      |none=>none
     |none=>none
    |none=>none
   |.fz es=>match Yh es with
    |some bs=>some (.str bs,s)
    |none=>none
   |_=>none
  |_=>none
 |_,_,_=>none
def Y5 (x:Option AV)(Dt y:Nat):Option Nat:=match x with
 |none=>some Dt
 |some (.int _ i)=>if 0<=i/\i<=y then some i.toNat else none
 |_=>none
def Sm (t:TypeId)(x:AV)(lo hi mx:Option AV):Option AV:=match X.Zt t,x with
 |some .string,.str b=>match mx,Y5 hi b.length b.length with
  |none,some h=>match Y5 lo 0 h with
   |some l=>some (.str ((b.take h).drop l))
   |none=>none
  |_,_=>none
 |some (.slice e),.sl b o len cap Xo=>match size X e,mx with
  |some n,none=>match Y5 hi len (cap.getD len) with
   |some h=>match Y5 lo 0 h with
    |some l=>some (.sl b (o+l*n) (h-l) (cap.map (·-l)) (if Xo=n then n else 0))
    |none=>none
   |none=>none
  |some n,some m=>match Y5 (some m) 0 (cap.getD len),hi with
   |some m',some _=>match Y5 hi 0 m' with
    |some h=>match Y5 lo 0 h with
     |some l=>some (.sl b (o+l*n) (h-l) (some (m'-l)) (if Xo=n then n else 0))
     |none=>none
    |none=>none
   |_,_=>none
  |none,_=>none
 |some (.slice e),.ZR=>match size X e,mx,Y5 hi 0 0 with
  |some _,none,some h=>match Y5 lo 0 h with
   |some _=>some .ZR
   |none=>none
  |_,_,_=>none
 |some (.slice e),.fz es=>match size X e,mx,Y5 hi es.length es.length with
  |some n,none,some h=>match Y5 lo 0 h with
   |some l=>if es.all (fun x=>x.cells.length==n) then some (.fz ((es.take h).drop l)) else none
   |none=>none
  |_,_,_=>none
 |some (.array n e),.ptr b o=>match size X e,mx,Y5 hi n n with
  |some z,none,some h=>match Y5 lo 0 h with
   |some l=>some (.sl b (o+l*z) (h-l) (some (n-l)) 0)
   |none=>none
  |_,_,_=>none
 |_,_=>none
def T0 (t:TypeId)(x:AV)(f:Nat):Option AV:=match X.Zt t,x with
 |some (.struct fs),.ptr b o=>match fs[f]? with
  |some fd=>match size X fd.type with
   |some (_+1)=>some (.ptr b (o+fd.offset))
   |_=>none
  |none=>none
 |some (.struct fs),.fp c o=>match fs[f]? with
  |some fd=>match size X fd.type with
   |some (_+1)=>some (.fp c (o+fd.offset))
   |_=>none
  |none=>none
 |_,_=>none
def Xl (t:TypeId)(x i:AV):Option AV:=match i with
 |.int _ i=>match X.Zt t,x with
  |some (.slice e),.sl b o len _ _=>if 0<=i/\i<len then
    match size X e with|some n=>some (.ptr b (o+i.toNat*n))|none=>none
   else none
  |some (.array len e),.ptr b o=>if 0<=i/\i<len then
    match size X e with|some n=>some (.ptr b (o+i.toNat*n))|none=>none
   else none
  |some (.slice e),.fz es=>if 0<=i then match es[i.toNat]?,size X e with
   |some x,some n=>if x.cells.length=n/\n≠0 then some (.fp x.cells 0) else none
   |_,_=>none
   else none
  |some (.array len e),.fp c o=>if 0<=i/\i<len then
    match size X e with|some n=>some (.fp c (o+i.toNat*n))|none=>none
   else none
  |_,_=>none
 |_=>none
def Ky (t:TypeId)(x i:AV):Option AV:=match i with
 |.int _ i=>match X.Zt t,x with
  |some (.array len e),.agg cs=>if 0<=i/\i<len then
    match size X e with|some n=>T_ X e cs (i.toNat*n)|none=>none
   else none
  |some .string,.str b=>if 0<=i then
    match b[i.toNat]? with|some c=>some (.int .u8 c.toNat)|none=>none
   else none
  |_,_=>none
 |_=>none
def Xn:List AV->Bool
 |[]=>true
 |.int .i64 _::l=>Xn l
 |_=>false
def WL (t:TypeId)(k:AV):Bool:=match X.Zt t,k with
 |some (.int k),.int k' _=>decide (k=k')
 |some .string,.str _=>true
 |some .bool,.bool _=>true
 |some (.array len e),.agg cs=>Xn cs&&cs.length==len&&(match X.Zt e,size X e with|some (.int .i64),some 1=>true|_,_=>false)
 |_,_=>false
def Xc:AV->AV->Option Bool
 |.int k a,.int k' b=>if k=k' then some (a==b) else none
 |.str a,.str b=>some (a==b)
 |.bool a,.bool b=>some (a==b)
 |.agg a,.agg b=>if Xn a&&Xn b&&a.length==b.length then some (XQ a b) else none
 |_,_=>none
def Wd (k:AV):List (AV×AV)->Option (Option AV)
 |[]=>some none
 |(k',v)::l=>match Xc k k' with
  |some true=>some (some v)
  |some false=>Wd k l
  |none=>none
def LU (k v:AV):List (AV×AV)->Option (List (AV×AV))
 |[]=>some [(k,v)]
 |(k',v')::l=>match Xc k k' with
  |some true=>some ((k,v)::l)
  |some false=>match LU k v l with|some r=>some ((k',v')::r)|none=>none
  |none=>none
def WI (t:TypeId)(m k:AV)(ok:Bool)(s:St):Option AV:=match X.Zt t with
 |some (.map key elem)=>if WL X key k then
  let r:Option (Option AV):=match m with
   |.RD=>some none
   |.map b=>match s.get b with
    |some (.map es _)=>Wd k es
    |_=>none
   |.fm ks vs=>Wd k (ks.zip vs)
   |_=>none
  match r with
  |some (some v)=>some (if ok then .X' [v,.bool true] else v)
  |some none=>match zero X elem with
   |some z=>some (if ok then .X' [z,.bool false] else z)
   |none=>none
  |none=>none
  else none
 |_=>none
def Xm (t:TypeId)(m k v:AV)(s:St):Option St:=match X.Zt t,m with
 |some (.map key _),.map b=>if WL X key k then match s.get b with
  |some (.map es false)=>match LU k v es with
   |some qR=>some (s.put b (.map qR false))
   |none=>none
  |_=>none
  else none
 |_,_=>none
def Wt (n:Nat)(x:AV)(s:St):Option (Nat×List AV):=match x with
 |.ZR=>some (0,[])
 |.sl b o len _ _=>match s.cells b with
  |some c=>match YB (len*n) o c with
   |some r=>some (len,r)
   |none=>none
  |none=>none
 |.str b=>some (b.length,b.map fun c=>.int .u8 c.toNat)
 |.fz es=>if es.all (fun x=>x.cells.length==n)&&n != 0 then some (es.length,es.flatMap AV.cells) else none
 |_=>none
def WK:AV->Nat
 |.sl _ _ n _ _=>n
 |.fz es=>es.length
 |_=>0
def Lv (z:Option Value)(n:Nat):Bool:=match z with
 |some z=>z.cells.size != n
 |none=>true
def Qu (t:TypeId)(d x:AV)(s:St):Option (AV×St):=match X.Zt t with
 |some (.slice elem)=>match X.inf elem,size X elem with
  |some ei,some n=>match Wt n x s with
   |some (m,new) =>
    if new.length≠m*n\/(WK d+m)*ei.bytes>2^40\/ei.bytes>2^20\/WK d+m>2^40\/n=0\/ei.bytes=0\/Lv ei.zero n=true\/X.spec elem=true then none
    else if m=0 then match d with
     |.ZR=>some (d,s)
     |.sl ..=>some (d,s)
     |.fz _=>some (d,s)
     |_=>none
    else match d with
    |.ZR=>some (.sl s.next 0 m none n,s.new (.cells new elem false 0 0))
    |.sl b o len cap Xo=>match s.cells b with
     |some c=>match YB (len*n) o c with
      |some old =>
       match cap with
       |some k=>if len+m<=k then
         if Xo=n then match Yi s b (o+len*n) new with
          |some s'=>some (.sl b o (len+m) (some k) n,s')
          |none=>none
         else none
        else some (.sl s.next 0 (len+m) none n,s.new (.cells (old++new) elem false 0 0))
       |none=>match s.get b with
        |some (.cells _ e0 false RA Ss) =>
         if Xo=n/\Ss<=o+len*n/\e0=elem/\new.all Zw=true then
          some (.sl s.next 0 (len+m) none n,(s.put b .gone).new (.cells (old++new) elem false (RA-o) (Ss-o)))
         else none
        |_=>none
      |none=>none
     |none=>none
    |_=>none
   |none=>none
  |_,_=>none
 |_=>none
def wg (k:IntKind):Int->List AV->Option AV
 |x,[]=>some (.int k x)
 |x,.int _ y::l=>wg k (if y<x then y else x) l
 |_,_=>none
def zE (k:IntKind):Int->List AV->Option AV
 |x,[]=>some (.int k x)
 |x,.int _ y::l=>zE k (if y>x then y else x) l
 |_,_=>none
def YT (b:Builtin)(ts:Array TypeId)(args:List AV)(s:St):Option (AV×St):=match b,args with
 |.len,[x]=>match ts[0]? with
  |some t=>match X.Zt t,x with
   |some .string,.str l=>some (.int .i64 l.length,s)
   |some (.slice _),.ZR=>some (.int .i64 0,s)
   |some (.slice _),.sl _ _ n _ _=>some (.int .i64 n,s)
   |some (.slice _),.fz es=>some (.int .i64 es.length,s)
   |some (.map _ _),.fm ks _=>some (.int .i64 ks.length,s)
   |some (.map _ _),.RD=>some (.int .i64 0,s)
   |some (.map _ _),.map r=>match s.get r with
    |some (.map es _)=>some (.int .i64 es.length,s)
    |_=>none
   |some (.array n _),_=>some (.int .i64 n,s)
   |some (.pointer p),_=>match X.Zt p with
    |some (.array n _)=>some (.int .i64 n,s)
    |_=>none
   |_,_=>none
  |none=>none
 |.append,[d,x]=>match ts[0]?,ts[1]? with
  |some t,some u=>match X.Zt u with
   |some (.slice _)=>Qu X t d x s
   |some .string=>Qu X t d x s
   |_=>none
  |_,_=>none
 |.min,.int k x::l=>match wg k x l with
  |some v=>some (v,s)
  |none=>none
 |.max,.int k x::l=>match zE k x l with
  |some v=>some (v,s)
  |none=>none
 |.unsafeSliceData,[x]=>match x with
  |.ZR=>some (.U',s)
  |.sl b o (_+1) _ _=>some (.ptr b o,s)
  |_=>none
 |.unsafeString,[p,.int _ n]=>if ts.size=0 then none else match p with
  |.U'=>if n=0 then some (.str [],s) else none
  |.ptr b o=>if n=0 then some (.str [],s) else if n<0\/n>2^40 then none else match s.get b,ts[0]? with
   |some (.cells c e false _ _),some t=>match X.Zt t with
    |some (.pointer u)=>if u=e/\size X e=some 1 then match YB n.toNat o c with
     |some r=>match Yh r with
      |some bs=>some (.str bs,s.put b (.cells c e true 0 0))
      |none=>none
     |none=>none
     else none
    |_=>none
   |_,_=>none
  |_=>none
 |_,_=>none
def Uu (s:List UInt8):Nat×Nat :=
 let g:=fun (k:Nat)=>((s[k]?).getD 0).toNat
 let cont:=fun (k:Nat)=>decide (k<s.length)&&g k / 64==2
 let b0:=g 0
 if b0<0x80 then (b0,1)
 else if b0 / 32==6&&cont 1 then
  let c:=(b0%32)*64+g 1%64
  if c>=0x80 then (c,2) else (Utf8.runeError,1)
 else if b0 / 16==14&&cont 1&&cont 2 then
  let c:=(b0%16)*4096+(g 1%64)*64+g 2%64
  if c>=0x800&&Utf8.valid c then (c,3) else (Utf8.runeError,1)
 else if b0 / 8==30&&cont 1&&cont 2&&cont 3 then
  let c:=(b0%8)*262144+(g 1%64)*4096+(g 2%64)*64+g 3%64
  if c>=0x10000&&Utf8.valid c then (c,4) else (Utf8.runeError,1)
 else (Utf8.runeError,1)
inductive Out where
 |norm
 |exit (id:Nat)
 |ret
 deriving DecidableEq,Inhabited
abbrev Ex:=Code->Env->St->Option (Out×Env×St)
def ZM:Nat->List AV->Env->Env
 |_,[],e=>e
 |i,v::l,e=>ZM (i+1) l (Tr.set e i v)
def Qt (e:Env)(s:St):ResultVar->Option AV
 |.tmp t=>some (Env.get e t)
 |.cell a t=>Vd X t (Env.get e a) s
def Yy (e:Env)(s:St):List ResultVar->Option (List AV)
 |[]=>some []
 |r::l=>match Qt X e s r,Yy e s l with
  |some v,some vs=>some (v::vs)
  |_,_=>none
def Wu (f:Func)(e:Env)(s:St):Option AV:=match Yy X e s f.results.toList with
 |some [v]=>some v
 |some vs=>some (.X' vs)
 |none=>none
def P7 (ex:Ex)(f:FuncId)(args:List AV)(s:St):Option (AV×St):=match X.fn f with
  |some fn=>match fn.body with
   |some c=>match ex c (ZM 0 args .nil) s with
    |some (.norm,e,s')=>match Wu X fn e s' with|some v=>some (v,s')|none=>none
    |some (.ret,e,s')=>match Wu X fn e s' with|some v=>some (v,s')|none=>none
    |_=>none
   |none=>none
  |none=>none
mutual
def still:AV->Bool
 |.ptr ..=>false
 |.sl ..=>false
 |.map _=>false
 |.fn f x y=>(match f with|.func _=>true|_=>false)&&ZK x&&ZK y
 |.iface _ v=>still v
 |.agg cs=>ZK cs
 |.X' cs=>ZK cs
 |.fz es=>true
 |.fp _ _=>true
 |.fm _ _=>true
 |.bool _=>true
 |.int _ _=>true
 |.Gt _ _=>true
 |.str _=>true
 |.U'=>true
 |.ZR=>true
 |.RD=>true
 |.Tx=>true
 |.TH=>true
def ZK:List AV->Bool
 |[]=>true
 |x::l=>still x&&ZK l
end
mutual
def flat:AV->Bool
 |.ptr ..=>false
 |.sl ..=>false
 |.map _=>false
 |.fn f x y=>(match f with|.func _=>true|_=>false)&&Ox x&&Ox y
 |.iface _ v=>flat v
 |.agg cs=>Ox cs
 |.X' cs=>Ox cs
 |.fz es=>false
 |.fp _ _=>false
 |.fm _ _=>false
 |.bool _=>true
 |.int _ _=>true
 |.Gt _ _=>true
 |.str _=>true
 |.U'=>true
 |.ZR=>true
 |.RD=>true
 |.Tx=>true
 |.TH=>true
def Ox:List AV->Bool
 |[]=>true
 |x::l=>flat x&&Ox l
end
def Ys (agg:Bool)(n:Nat):Nat->List AV->List AV
 |0,_=>[]
 |k+1,l=>(match agg,l with|false,x::_=>x|_,_=>.agg (l.take n))::Ys agg n k (l.drop n)
def Zg (f:AV->Option AV):List AV->Option (List AV)
 |[]=>some []
 |x::l=>match f x,Zg f l with
  |some y,some r=>some (y::r)
  |_,_=>none
def YG (s:St):Nat->AV->Option AV
 |0,_=>none
 |d+1,v=>match v with
  |.ptr b o=>match s.get b with
   |some (.cells c _ false _ _)=>match Zg (YG s d) c with
    |some c'=>some (.fp c' o)
    |none=>none
   |_=>none
  |.sl b o len _ Xo=>match s.get b with
   |some (.cells c e false _ _)=>match YB (len*Xo) o c,YZ X e,size X e with
    |some r,some ag,some n=>if Xo=n/\n≠0/\(ag=false->n=1/\r.all Zw=true) then match Zg (YG s d) (Ys ag n len r) with
     |some es=>some (.fz es)
     |none=>none
     else none
    |_,_,_=>none
   |_=>none
  |.map r=>match s.get r with
   |some (.map es false)=>match Zg (YG s d) (es.map (·.1)),Zg (YG s d) (es.map (·.2)) with
    |some ks,some vs=>some (.fm ks vs)
    |_,_=>none
   |_=>none
  |.fn f x y=>match f with
   |.func g=>match Zg (YG s d) x,Zg (YG s d) y with
    |some x',some y'=>some (.fn (.func g) x' y')
    |_,_=>none
   |_=>none
  |.iface t x=>match YG s d x with
   |some x'=>some (.iface t x')
   |none=>none
  |.agg cs=>match Zg (YG s d) cs with
   |some r9=>some (.agg r9)
   |none=>none
  |.X' cs=>match Zg (YG s d) cs with
   |some r9=>some (.X' r9)
   |none=>none
  |v=>some v
def Xv (s:St):Nat->AV->Option AV
 |0,_=>none
 |d+1,v=>match v with
  |.ptr b o=>match s.get b with
   |some (.cells c _ false _ _)=>match Zg (Xv s d) c with
    |some c'=>some (.fp c' o)
    |none=>none
   |_=>none
  |.sl b o len _ Xo=>match s.get b with
   |some (.cells c e false _ _)=>match YB (len*Xo) o c,YZ X e,size X e with
    |some r,some ag,some n=>if Xo=n/\n≠0/\(ag=false->n=1/\r.all Zw=true) then match Zg (Xv s d) (Ys ag n len r) with
     |some es=>some (.fz es)
     |none=>none
     else none
    |_,_,_=>none
   |_=>none
  |.map r=>match s.get r with
   |some (.map es false)=>match Zg (Xv s d) (es.map (·.1)),Zg (Xv s d) (es.map (·.2)) with
    |some ks,some vs=>some (.fm ks vs)
    |_,_=>none
   |_=>none
  |.fn f x y=>match f with
   |.func g=>match Zg (Xv s d) x,Zg (Xv s d) y with
    |some x',some y'=>some (.fn (.func g) x' y')
    |_,_=>none
   |_=>none
  |.iface t x=>match Xv s d x with
   |some x'=>some (.iface t x')
   |none=>none
  |.agg cs=>match Zg (Xv s d) cs with
   |some r9=>some (.agg r9)
   |none=>none
  |.X' cs=>match Zg (Xv s d) cs with
   |some r9=>some (.X' r9)
   |none=>none
  |.fz _=>none
  |.fp _ _=>none
  |.fm _ _=>none
  |v=>some v
def YH:St:={ t:=.nil,base:=X.O_,next:=X.glob }
def T4:Nat:=40
def Yb (s:St)(args:List AV):Option (List AV):=if ZK args then some args else Zg (YG X s T4) args
def YV (ex:Ex)(f:FuncId)(args:List AV)(st:Bool):Option AV:=match P7 X ex f args (YH X) with
 |some (v,s')=>if st then YG X s' T4 v else if flat v then some v else Xv X s' T4 v
 |none=>none
def Rm (ex:Ex)(f:FuncId)(args:List AV)(s:St):Option (AV×St):=match Yb X s args with
 |some A8=>match YV X ex f A8 (ZK args) with
  |some v=>some (v,s)
  |none=>none
 |none=>none
def Wa (ex:Ex)(f:FuncId)(args:List AV)(s:St):Option (AV×St):=match X.ext f with
 |some g=>g args s
 |none=>if X.pure f then Rm X ex f args s else P7 X ex f args s
def Qs (l:Nat)(o:Out)(e:Env)(q:List Tmp)(a b:Code)(s:St):Option (AV×St):=match o with
 |.norm=>some (.bool true,s.put l (.loop 0 none e q a b))
 |.exit i=>some (.bool false,s.put l (.loop 2 (some (.exit i)) e q a b))
 |.ret=>some (.bool false,s.put l (.loop 2 (some .ret) e q a b))
def Kx (ex:Ex)(l:Nat)(args:List AV)(s:St):Option (AV×St):=match s.get l with
 |some (.loop 0 p env params assign body) =>
  if args.length=params.length then
   let abZ:=(params.zip args).foldl (fun e (t,a)=>Tr.set e t a) env
   match ex assign abZ s with
   |some (.norm,wb,s1)=>match s1.get l with
    |some (.loop 0 p1 e1 q1 a1 b1)=>match ex body wb (s1.put l (.loop 1 p1 e1 q1 a1 b1)) with
     |some (o,_,s2)=>match s2.get l with
      |some (.loop _ _ e2 q2 a2 b2)=>Qs l o e2 q2 a2 b2 s2
      |_=>none
     |none=>none
    |_=>none
   |_=>none
  else none
 |_=>none
def OE (ex:Ex)(f:AV)(args:List AV)(s:St):Option (AV×St):=match f with
 |.fn (.func g) first cap=>Wa X ex g (first++args++cap) s
 |.fn (.yield l) first cap=>Kx ex l (first++args) s
 |_=>none
def Rn (f:AV):Bool:=match f with
 |.fn (.func g) _ _=>X.pure g&&(X.ext g).isNone
 |_=>false
def xN (c:Call):Bool:=match c.callee with
 |.value (.tmp _)=>X.qv c
 |_=>false
def To (ex:Ex)(c:Call)(f:AV)(args:List AV)(s:St):Option (AV×St):=if xN X c&&!Rn X f then none else OE X ex f args s
def Ha (f:AV)(args:List AV):List AV:=match f with
 |.fn _ first cap=>first++args++cap
 |_=>args
def Mu (e:Env)(c:Call):Option (List AV):=match c.callee with
 |.value f=>match eval X e f,WR X e c.args.toList with
  |some f,some vs=>some (Ha f vs)
  |_,_=>none
 |_=>none
def ZA (v:Option AV)(s:St):Option (AV×St):=match v with
 |some v=>some (v,s)
 |none=>none
def Ro (s:Option St):Option (AV×St):=match s with
 |some s=>some (undef,s)
 |none=>none
def Rk (e:Env)(x:Option Operand):Option (Option AV):=match x with
 |none=>some none
 |some x=>match eval X e x with
  |some v=>some (some v)
  |none=>none
def Zb (ex:Ex)(e:Env)(o:Op)(s:St):Option (AV×St):=match o with
 |.move x=>ZA (eval X e x) s
 |.assign x=>ZA (eval X e x) s
 |.pick c a b=>match eval X e c with
  |some (.bool true)=>ZA (eval X e a) s
  |some (.bool false)=>ZA (eval X e b) s
  |_=>none
 |.alloc t=>match zero X t with
  |some z=>some (W_ s z.cells t)
  |none=>none
 |.box t x=>match eval X e x with
  |some v=>some (W_ s v.cells t)
  |none=>none
 |.build t ps=>match XD X e ps.toList with
  |some l=>ZA (KH X t l) s
  |none=>none
 |.buildSlice t n ps=>match XD X e ps.toList with
  |some l=>Wb X t n l s
  |none=>none
 |.load t a=>match eval X e a with
  |some a=>ZA (Vd X t a s) s
  |none=>none
 |.store t a x=>match eval X e a,eval X e x with
  |some a,some v=>Ro (PF X t a v s)
  |_,_=>none
 |.nilCheck x=>match eval X e x with
  |some (.ptr b o)=>some (.ptr b o,s)
  |some (.fp c o)=>some (.fp c o,s)
  |some (.fn (.func f) x y)=>some (.fn (.func f) x y,s)
  |some (.fn (.yield f) x y)=>some (.fn (.yield f) x y,s)
  |_=>none
 |.binOp op t x y _=>match eval X e x,eval X e y with
  |some a,some b=>ZA (X_ X op t (VJ x||VJ y) a b) s
  |_,_=>none
 |.unOp op _ x=>match eval X e x with
  |some a=>ZA (kF op a) s
  |none=>none
 |.convert a b x=>match eval X e x with
  |some v=>T9 X a b v s
  |none=>none
 |.makeInterface t x=>match eval X e x with
  |some v=>match X.Zt t with
   |some (.interface _)=>none
   |some _=>some (.iface t v,s)
   |none=>none
  |none=>none
 |.makeFunc f a b=>match f with
  |.func g=>match WR X e a.toList,WR X e b.toList with
   |some x,some y=>some (.fn (.func g) x y,s)
   |_,_=>none
  |_=>none
 |.makeMap t r=>match r with
  |none=>some (.map s.next,s.new (.map [] false))
  |some x=>match eval X e x,X.Zt t with
   |some (.int _ _),some (.map _ _)=>some (.map s.next,s.new (.map [] false))
   |_,_=>none
 |.makeSlice t l c=>match eval X e l,eval X e c,X.Zt t with
  |some (.int _ l),some (.int _ c),some (.slice elem)=>match X.inf elem,zero X elem with
   |some i,some z=>if 0<=l/\l<=c/\c*i.bytes<=2^47/\c<2^47/\z.cells.length=i.size/\i.size≠0 then
     some (.sl s.next 0 l.toNat (some c.toNat) i.size,s.new (.cells (WD c.toNat z.cells) elem false 0 0))
    else none
   |_,_=>none
  |_,_,_=>none
 |.slice t x lo hi mx=>match eval X e x,Rk X e lo,Rk X e hi,Rk X e mx with
  |some v,some lo,some hi,some mx=>ZA (Sm X t v lo hi mx) s
  |_,_,_,_=>none
 |.fieldAddr t x f=>match eval X e x with
  |some v=>ZA (T0 X t v f) s
  |none=>none
 |.field t x f=>match eval X e x,X.Zt t with
  |some (.agg cs),some (.struct fs)=>match fs[f]? with
   |some fd=>ZA (T_ X fd.type cs fd.offset) s
   |none=>none
  |_,_=>none
 |.indexAddr t x i=>match eval X e x,eval X e i with
  |some v,some i=>ZA (Xl X t v i) s
  |_,_=>none
 |.index t x i=>match eval X e x,eval X e i with
  |some v,some i=>ZA (Ky X t v i) s
  |_,_=>none
 |.lookup t m k ok=>match eval X e m,eval X e k with
  |some m,some k=>ZA (WI X t m k ok s) s
  |_,_=>none
 |.mapUpdate t m k v=>match eval X e m,eval X e k,eval X e v with
  |some m,some k,some v=>Ro (Xm X t m k v s)
  |_,_,_=>none
 |.insert t m k v=>match eval X e m,eval X e k,eval X e v with
  |some m,some k,some v=>Ro (Xm X t m k v s)
  |_,_,_=>none
 |.range t x=>match eval X e x,X.Zt t with
  |some (.str b),some .string=>some (.ptr s.next 0,s.new (.iter b 0))
  |_,_=>none
 |.next it true=>match eval X e it with
  |some (.ptr r 0)=>match s.get r with
   |some (.iter b pos)=>match b with
    |[]=>some (.X' [.bool false],s)
    |_::_ =>
     let (c,w):=Uu b
     some (.X' [.bool true,.int .i64 pos,.int .i32 c],s.put r (.iter (b.drop w) (pos+w)))
   |_=>none
  |_=>none
 |.extract t i=>match eval X e t with
  |some (.X' vs)=>ZA vs[i]? s
  |_=>none
 |.call c=>match c.callee with
  |.builtin b=>match WR X e c.args.toList with
   |some vs=>YT X b c.argTypes vs s
   |none=>none
  |.value f=>match eval X e f,WR X e c.args.toList with
   |some f,some vs=>To X ex c f vs s
   |_,_=>none
  |.invoke _ _=>none
 |_=>none
def Y8 (e:Env)(d:Option Tmp)(v:AV):Env:=match d with
 |some d=>Tr.set e d v
 |none=>e
def YE (ops:Array Oper)(e:Env)(o:Oper):Bool:=match o.guard with
 |none=>true
 |some (j,want)=>match ops[j]? with
  |some oj=>match oj.dst with
   |some d=>match Env.get e d with
    |.bool b=>b==want
    |_=>false
   |none=>false
  |none=>false
def Ow (ex:Ex)(ops:Array Oper):List Oper->Env->St->Option (Env×St)
 |[],e,s=>some (e,s)
 |o::l,e,s =>
  if YE ops e o then match Zb X ex e o.op s with
   |some (v,s')=>Ow ex ops l (Y8 e o.dst v) s'
   |none=>none
  else Ow ex ops l (Y8 e o.dst undef) s
inductive Gn where
 |p|r|a|w|q
def Gn.qH:Gn->Bool|.r=>true|_=>false
def Gn.G8:Gn->Bool|.a=>true|_=>false
def Gn.zA:Gn->Bool|.w=>true|_=>false
def cls:Op->Gn
 |.move _|.assign _|.pick ..|.build ..|.nilCheck _|.binOp ..|.unOp ..|.makeInterface ..|.makeFunc ..|.slice ..|.fieldAddr ..|.field ..
 |.indexAddr ..|.index ..|.extract ..=>.p
 |.convert s d _=>match X.Zt s,X.Zt d with
  |some (.slice _),some .string=>.r
  |some (.slice _),_=>.w
  |_,some (.slice _)=>.a
  |some _,some _=>.p
  |_,_=>.w
 |.load ..|.lookup ..=>.r
 |.alloc _|.box ..|.buildSlice ..|.makeSlice ..|.makeMap ..=>.a
 |.call { callee:=.builtin b,.. }=>match b with
  |.len=>.r
  |.min|.max|.unsafeSliceData=>.p
  |_=>.w
 |.call { callee:=.value (.func f),.. }=>if X.pure f&&(X.ext f).isNone then .q else .w
 |.call { callee:=.value (.tmp t),args,argTypes }=>if X.qv { callee:=.value (.tmp t),args,argTypes } then .q else .w
 |_=>.w
def Yu (ops:Array Oper)(i j:Nat):Bool:=((Region.before ops).getD j 0).testBit i
def Vm:Op->Bool
 |.store ..=>true
 |_=>false
def zz:Nat->List Oper->List Nat
 |_,[]=>[]
 |i,o::l=>if Vm o.op then i::zz (i+1) l else zz (i+1) l
def kE (ops:Array Oper):Bool :=
 let l:=zz 0 ops.toList
 l.any fun i=>l.any fun j=>!(i==j)&&!Yu ops i j&&!Yu ops j i
def v9 (ops:Array Oper)(i:Nat):Bool:=match ops[i]? with
 |some o=>Vm o.op&&o.guard.isNone&&(List.range ops.size).all fun k=>k==i||Yu ops k i||(match ops[k]? with
  |some ok=>Vm ok.op||(match cls X ok.op with|.p=>true|.a=>true|_=>false)
  |none=>true)
 |none=>false
def Qr (ops:Array Oper):Bool:=kE ops&&(zz 0 ops.toList).all (v9 X ops)
def late (ops:Array Oper)(i:Nat):Bool:=Qr X ops&&(match ops[i]? with|some o=>Vm o.op|none=>false)
def UG (ex:Ex)(ops:Array Oper)(base i:Nat)(o:Oper)(e:Env)(s:St):Option (Env×St) :=
 if YE ops e o then
  match cls X o.op with
  |.a=>match Zb X ex e o.op { s with next:=base+i } with
   |some (v,s')=>some (Y8 e o.dst v,{ s' with next:=s.next })
   |none=>none
  |_=>match Zb X ex e o.op s with
   |some (v,s')=>some (Y8 e o.dst v,s')
   |none=>none
 else some (Y8 e o.dst undef,s)
def DV (ex:Ex)(ops:Array Oper)(base:Nat):Nat->List Oper->Env->St->Option (List (Env×St))
 |_,[],e,s=>some [(e,s)]
 |i,o::l,e,s=>match UG X ex ops base i o e s with
  |some (e',s')=>match DV ex ops base (i+1) l e' s' with
   |some r=>some ((e,s)::r)
   |none=>none
  |none=>none
def ZF (ops:Array Oper):Nat->List Oper->List Nat
 |_,[]=>[]
 |i,o::l=>if (cls X o.op).zA&&!late X ops i then i::ZF ops (i+1) l else ZF ops (i+1) l
def Vn (e:Env):Op->Option Nat
 |.store _ a _=>match eval X e a with
  |some (.ptr b _)=>some b
  |_=>none
 |_=>none
def Vi (ops:Array Oper):Nat->List Oper->List (Env×St)->List (Option Nat)
 |i,o::l,(e,_)::tr=>if late X ops i then Vn X e o.op::Vi ops (i+1) l tr else Vi ops (i+1) l tr
 |_,_,_=>[]
def Rc (base n:Nat):List (Option Nat)->Bool
 |[]=>true
 |none::_=>false
 |some b::l=>(decide (b<base)||decide (base+n<=b))&&l.all (fun x=>!(x==some b))&&Rc base n l
def Ut (tr:List (Env×St)):List Nat->Option (List (Nat×St))
 |[]=>some []
 |j::l=>match tr[j+1]?,Ut tr l with
  |some (_,s),some r=>some ((j+1,s)::r)
  |_,_=>none
def Ww:Nat->List Oper->List Nat
 |_,[]=>[]
 |i,o::l=>if (cls X o.op).G8 then i::Ww (i+1) l else Ww (i+1) l
def VI (ops:Array Oper)(base i m:Nat)(tr:List (Env×St)):List Nat->St->St
 |[],s=>s
 |j::l,s=>if m<=j&&Yu ops j i then match tr[j+1]? with
   |some (_,s1)=>match s1.get (base+j) with
    |some b=>VI ops base i m tr l (s.put (base+j) b)
    |none=>VI ops base i m tr l s
   |none=>VI ops base i m tr l s
  else VI ops base i m tr l s
def X6 (ex:Ex)(ops:Array Oper)(base i:Nat)(as:List Nat)(tr:List (Env×St))(e:Env)(o:Op)(v:AV):List (Nat×St)->Bool
 |[]=>true
 |(m,s)::l=>match Zb X ex e o (VI ops base i m tr as s) with
  |some (u,_)=>same u v&&X6 ex ops base i as tr e o v l
  |none=>false
def VH (ops:Array Oper)(base i:Nat)(as:List Nat)(tr:List (Env×St))(vs us:List AV):List (Nat×St)->Bool
 |[]=>true
 |(m,s)::l=>match Yb X (VI ops base i m tr as s) vs with
  |some us'=>XQ us' us&&VH ops base i as tr vs us l
  |none=>false
def Y9 (p:Nat->Bool):List Nat->Nat
 |[]=>0
 |j::l=>if p j then Y9 p l+1 else Y9 p l
def WM (ops:Array Oper)(ws:List Nat)(ss:List (Nat×St))(i:Nat):List (Nat×St) :=
 (ss.take (Y9 (fun j=>!Yu ops i j) ws+1)).drop (Y9 (fun j=>Yu ops j i) ws)
def Vt (ex:Ex)(ops:Array Oper)(base:Nat)(ws as:List Nat)(ss:List (Nat×St))(Di:List (Env×St)):Nat->List Oper->List (Env×St)->Bool
 |i,o::l,(e,s)::tr =>
  (match cls X o.op with
   |.r=>!YE ops e o||(match Zb X ex e o.op s with
    |some (v,_)=>X6 X ex ops base i as Di e o.op v (WM ops ws ss i)
    |none=>false)
   |.q=>!YE ops e o||(match o.op with
    |.call c=>match Mu X e c with
     |some vs=>ZK vs||(match Yb X s vs with
      |some us=>VH X ops base i as Di vs us (WM ops ws ss i)
      |none=>false)
     |none=>false
    |_=>false)
   |_=>true)&&Vt ex ops base ws as ss Di (i+1) l tr
 |_,_,_=>true
def Kw (base:Nat)(s:St):Nat->List Oper->Bool
 |_,[]=>true
 |i,o::l=>(!(cls X o.op).G8||(s.get (base+i)).isNone)&&Kw base s (i+1) l
def Us (ops:Array Oper)(base:Nat):List (Nat×St)->Bool
 |[]=>true
 |(m,s)::l=>Kw X base s m (ops.toList.drop m)&&Us ops base l
def Kv:List (Env×St)->Option (Env×St)
 |[]=>none
 |[x]=>some x
 |_::l=>Kv l
def RF (ex:Ex)(ops:Array Oper)(e:Env)(s:St):Option (Env×St) :=
 match DV X ex ops s.next 0 ops.toList e { s with next:=s.next+ops.size } with
 |some tr =>
  let ws:=ZF X ops 0 ops.toList
  match Ut tr ws with
  |some ss =>
   if Rc s.next ops.size (Vi X ops 0 ops.toList tr)&&Vt X ex ops s.next ws (Ww X 0 ops.toList) ((0,{ s with next:=s.next+ops.size })::ss) tr 0 ops.toList tr&&Us X ops s.next ((0,{ s with next:=s.next+ops.size })::ss)
   then Kv tr else none
  |none=>none
 |none=>none
def P_ (ops:Array Oper)(o:Oper):List Tmp :=
 (o.op.operands.toList.filterMap fun|.tmp t=>some t|_=>none) ++
 (match o.guard with
  |some (g,_)=>match ops[g]? with|some x=>x.dst.toList|none=>[]
  |none=>[])
def G7 (ops:Array Oper)(x y:Oper):Bool :=
 (match x.dst with
  |some d=>!(P_ ops y).contains d&&y.dst != some d
  |none=>true) &&
 (match y.dst with
  |some d=>!(P_ ops x).contains d
  |none=>true)
def v7 (ops:Array Oper)(i j:Nat)(oi oj:Oper):Bool :=
 Yu ops i j||(G7 ops oi oj &&
  match cls X oi.op,cls X oj.op with
  |.a,.w=>late X ops j
  |.w,.w=>late X ops i&&late X ops j
  |_,_=>true)
def nu (ops:Array Oper):Bool :=
 ((List.range ops.size).all fun j=>match ops[j]? with
  |some oj=>(oj.after.toList.all fun e=>!Region.binds .any e||decide (e.on<j)) &&
   (match oj.guard with|some (g,_)=>decide (g<ops.size)|none=>true) &&
   (List.range j).all fun i=>match ops[i]? with
    |some oi=>v7 X ops i j oi oj
    |none=>true
  |none=>true)
def Ov (p:Option Code)(e:Env)(s:St):Option (Out×Env×St):=match p with
 |none=>some (.norm,e,s)
 |some (.exit i)=>some (.exit i,e,s)
 |some .ret=>some (.ret,e,s)
 |_=>none
def Yc (ex:Ex)(c:Code)(e:Env)(s:St):Option (Out×Env×St):=match c with
 |.skip=>some (.norm,e,s)
 |.label _=>some (.norm,e,s)
 |.region _ ops d=>if d then match RF X ex ops e s with
   |some (e,s)=>some (.norm,e,s)
   |none=>none
  else match Ow X ex ops ops.toList e s with
  |some (e,s)=>some (.norm,e,s)
  |none=>none
 |.seq a b=>match ex a e s with
  |some (.norm,e,s)=>ex b e s
  |r=>r
 |.cond c a b=>match eval X e c with
  |some (.bool true)=>ex a e s
  |some (.bool false)=>ex b e s
  |_=>none
 |.block id b=>match ex b e s with
  |some (.exit i,e,s)=>if i=id then some (.norm,e,s) else some (.exit i,e,s)
  |r=>r
 |.loop b=>match ex b e s with
  |some (.norm,e,s)=>ex (.loop b) e s
  |r=>r
 |.scope b=>ex b e s
 |.exit id=>some (.exit id,e,s)
 |.ret=>some (.ret,e,s)
 |.rangeFunc f params assign body=>match eval X e f with
  |some (.fn (.func g) first cap)=>if (X.ext g).isNone then
   match Wa X ex g (first++[.fn (.yield s.next) [] []]++cap) (s.new (.loop 0 none e params.toList assign body)) with
   |some (_,s1)=>match s1.get s.next with
    |some (.loop st p _ _ _ _)=>if st=1 then none else Ov p e (s1.put s.next .gone)
    |_=>none
   |none=>none
   else none
  |_=>none
 |_=>none
def SK:Code->Bool
 |.seq a b=>SK a&&SK b
 |.cond _ a b=>SK a&&SK b
 |.block _ b=>SK b
 |.loop b=>SK b
 |.scope b=>SK b
 |.rangeFunc ..=>false
 |_=>true
def Lu (n:Nat):Code->Bool
 |.region _ ops d=>(ops.toList.all fun o=>match o.dst with|some t=>decide (t<n)|none=>true)&&(!d||nu X ops)
 |.seq a b=>Lu n a&&Lu n b
 |.cond _ a b=>Lu n a&&Lu n b
 |.block _ b=>Lu n b
 |.loop b=>Lu n b
 |.scope b=>Lu n b
 |.rangeFunc _ ps a b=>(ps.toList.all fun t=>decide (t<n))&&Lu n a&&Lu n b&&SK a&&SK b
 |_=>true
def exec:Nat->Ex
 |0=>fun _ _ _=>none
 |n+1=>Yc X (exec n)
def run (n:Nat)(f:FuncId)(args:List AV)(s:St):Option (AV×St):=Wa X (exec X n) f args s
end
abbrev iI (n:Int):AV:=.int .i64 n
abbrev bF:AV:=.bool false
abbrev bT:AV:=.bool true
end Go.Am
namespace Go.Am
open Go
structure Pl where
 b:Nat
 sh:Nat
 n:Nat
structure Sg where
 m:Nat->Option Pl
 fz:Nat->Option Obj
instance:CoeFun Sg (fun _=>Nat->Option Pl):=⟨Sg.m⟩
structure Sg.le (σ τ:Sg):Prop where
 p:∀i p,σ i=some p->τ i=some p
 z:∀b o,σ.fz b=some o->τ.fz b=some o
def Sg.bare (σ:Sg):Sg:={ m:=fun _=>none,fz:=σ.fz }
theorem Sg.le_refl (σ:Sg):Sg.le σ σ:=⟨fun _ _ h=>h,fun _ _ h=>h⟩
theorem Sg.le_trans {a b c:Sg}(h:Sg.le a b)(k:Sg.le b c):Sg.le a c:=⟨fun i p e=>k.p i p (h.p i p e),fun b o e=>k.z b o (h.z b o e)⟩
theorem Sg.le.bare {σ τ:Sg}(h:Sg.le σ τ):Sg.le σ.bare τ.bare:=⟨fun _ _ h=>h,h.z⟩
theorem Sg.VM (σ:Sg):Sg.le σ.bare σ:=⟨fun i p h=>(by simp[Sg.bare] at h),fun _ _ h=>h⟩
def UH (σ:Sg):Fn->Fn->Prop
 |.func g,f=>f=.func g
 |.yield l,f=>∃p,σ l=some p/\f=.yield p.b
 |_,_=>False
structure IQ (σ:Sg)(b o len:Nat)(cap:Option Nat)(Xo:Nat)(a:Addr)(c:Nat):Prop where
 len:len<=c
 at_:∃p,σ b=some p/\(c≠0->a=⟨p.b,p.sh+o,none⟩)/\(Xo≠0->p.sh+o+c*Xo<=p.n)
 cap:∀k,cap=some k->c=k
def Np (σ:Sg)(a:Addr)(us:List Value):Prop:=a.spot=none/\∃cc e fz n,σ.fz a.block=some (.cells cc e fz)/\n≠0/\(∀u∈us,u.cells.size=n)/\∀i v,(us.flatMap fun u=>u.cells.toList)[i]? = some v->cc[a.off+i]? = some v
mutual
def Z6:Sg->AV->Value->Prop
 |_,.bool b,v=>v=.bool b
 |_,.int k n,v=>v=.int k n
 |_,.Gt k n,v=>v=.float k n
 |_,.str s,v=>∃bs:ByteArray,v=.string bs/\bs.data.toList=s
 |_,.U',v=>v=.pointer none
 |σ,.ptr b o,v=>∃p,σ b=some p/\v=.pointer (some ⟨p.b,p.sh+o,none⟩)
 |_,.ZR,v=>v=.slice none 0 0
 |σ,.sl b o len cap Xo,v=>∃a c,v=.slice (some a) len c/\IQ σ b o len cap Xo a c
 |_,.RD,v=>v=.map none
 |σ,.map r,v=>∃p,σ r=some p/\v=.map (some p.b)
 |_,.Tx,v=>v=.nilFunc
 |σ,.fn f x y,v=>∃f' x' y',v=.func f' x' y'/\UH σ f f'/\Z5 σ x x'.toList/\Z5 σ y y'.toList
 |_,.TH,v=>v=.nilIface
 |σ,.iface t x,v=>∃y,v=.iface t y/\Z6 σ x y
 |σ,.agg cs,v=>∃vs,v=.agg vs/\Z5 σ cs vs.toList
 |σ,.X' cs,v=>∃vs,v=.tuple vs/\Z5 σ cs vs.toList
 |σ,.fz es,v=>∃a c us,v=.slice (some a) es.length c/\es.length<=c/\Z5 σ.bare es us/\(us=[]\/Np σ a us)
 |σ,.fp cs o,v=>∃b base us cc e fz,v=.pointer (some ⟨b,base+o,none⟩)/\σ.fz b=some (.cells cc e fz)/\Z5 σ.bare cs us/\∀i u,us[i]? = some u->cc[base+i]? = some u
 |σ,.fm ks vs,v=>∃r Xq clock,v=.map (some r)/\σ.fz r=some (.map Xq clock)/\Z5 σ.bare ks (Xq.toList.map MapEntry.key)/\Z5 σ.bare vs (Xq.toList.map MapEntry.val)
def Z5:Sg->List AV->List Value->Prop
 |_,[],l=>l=[]
 |σ,a::x,l=>∃v y,l=v::y/\Z6 σ a v/\Z5 σ x y
end
theorem UH.mono {σ τ:Sg}(h:Sg.le σ τ){f f':Fn}(k:UH σ f f'):UH τ f f':=by
 cases f <;> simp only[UH] at * <;> first|exact k|skip
 obtain⟨p,hp,e⟩:=k;exact⟨p,h.p _ _ hp,e⟩
theorem IQ.mono {σ τ:Sg}(h:Sg.le σ τ){b o len:Nat}{cap:Option Nat}{Xo:Nat}{a:Addr}{c:Nat}(k:IQ σ b o len cap Xo a c):IQ τ b o len cap Xo a c:=by
 obtain⟨h1,⟨p,hp,h2⟩,h3⟩:=k;exact⟨h1,⟨p,h.p _ _ hp,h2⟩,h3⟩
theorem Np.mono {σ τ:Sg}(h:Sg.le σ τ){a:Addr}{us:List Value}(k:Np σ a us):Np τ a us:=by
 obtain⟨h0,cc,e,fz,n,h1,h2⟩:=k;exact⟨h0,cc,e,fz,n,h.z _ _ h1,h2⟩
mutual
theorem Z6.mono {σ τ:Sg}:∀(_:Sg.le σ τ) (a:AV) (v:Value),Z6 σ a v->Z6 τ a v
 |_,.bool _,_,k|_,.int _ _,_,k|_,.Gt _ _,_,k|_,.str _,_,k|_,.U',_,k|_,.ZR,_,k|_,.RD,_,k|_,.Tx,_,k|_,.TH,_,k=>by simpa only[Z6] using k
 |h,.ptr b o,v,k=>by
  simp only[Z6] at *;obtain⟨p,hp,e⟩:=k;exact⟨p,h.p _ _ hp,e⟩
 |h,.sl ..,v,k=>by
  simp only[Z6] at *;obtain⟨a,c,e,r⟩:=k;exact⟨a,c,e,r.mono h⟩
 |h,.map b,v,k=>by
  simp only[Z6] at *;obtain⟨p,hp,e⟩:=k;exact⟨p,h.p _ _ hp,e⟩
 |h,.fn f x y,v,k=>by
  simp only[Z6] at *;obtain⟨f',x',y',e,hf,hx,hy⟩:=k;exact⟨f',x',y',e,hf.mono h,Z5.mono h _ _ hx,Z5.mono h _ _ hy⟩
 |h,.iface t x,v,k=>by
  simp only[Z6] at *;obtain⟨y,e,r⟩:=k;exact⟨y,e,Z6.mono h _ _ r⟩
 |h,.agg cs,v,k=>by
  simp only[Z6] at *;obtain⟨y,e,r⟩:=k;exact⟨y,e,Z5.mono h _ _ r⟩
 |h,.X' cs,v,k=>by
  simp only[Z6] at *;obtain⟨y,e,r⟩:=k;exact⟨y,e,Z5.mono h _ _ r⟩
 |h,.fz es,v,k=>by
  simp only[Z6] at *;obtain⟨a,c,us,e,hl,r,ho⟩:=k;exact⟨a,c,us,e,hl,Z5.mono h.bare _ _ r,ho.imp id (Np.mono h)⟩
 |h,.fp cs o,v,k=>by
  simp only[Z6] at *;obtain⟨b,base,us,cc,e,fz,e1,e2,r,e3⟩:=k;exact⟨b,base,us,cc,e,fz,e1,h.z _ _ e2,Z5.mono h.bare _ _ r,e3⟩
 |h,.fm ks vs,v,k=>by
  simp only[Z6] at *;obtain⟨b,Xq,clock,e1,e2,r,r'⟩:=k;exact⟨b,Xq,clock,e1,h.z _ _ e2,Z5.mono h.bare _ _ r,Z5.mono h.bare _ _ r'⟩
theorem Z5.mono {σ τ:Sg}:∀(_:Sg.le σ τ) (a:List AV) (v:List Value),Z5 σ a v->Z5 τ a v
 |_,[],v,k=>by simpa only[Z5] using k
 |h,a::x,v,k=>by
  simp only[Z5] at *;obtain⟨u,y,e,h1,h2⟩:=k;exact⟨u,y,e,Z6.mono h _ _ h1,Z5.mono h _ _ h2⟩
end
theorem Z5.length {σ:Sg}:∀{x:List AV} {l:List Value},Z5 σ x l->x.length=l.length
 |[],l,h=>by simp only[Z5] at h;simp[h]
 |a::x,l,h=>by
  simp only[Z5] at h;obtain⟨v,y,rfl,_,h2⟩:=h;simp[Z5.length h2]
theorem Z5.get {σ:Sg}:∀{x:List AV} {l:List Value},Z5 σ x l->∀(i:Nat) (a:AV),x[i]? = some a->∃v,l[i]? = some v/\Z6 σ a v
 |[],l,h,i,a,e=>by simp at e
 |b::x,l,h,i,a,e=>by
  simp only[Z5] at h;obtain⟨v,y,rfl,h1,h2⟩:=h
  cases i with
  |zero=>simp at e;subst e;exact⟨v,by simp,h1⟩
  |succ i=>simp at e;simpa using Z5.get h2 i a e
theorem Z5.append {σ:Sg}:∀{x y:List AV} {l m:List Value},Z5 σ x l->Z5 σ y m->Z5 σ (x++y) (l++m)
 |[],y,l,m,h,k=>by simp only[Z5] at h;simpa[h] using k
 |a::x,y,l,m,h,k=>by
  simp only[Z5] at h;obtain⟨v,z,rfl,h1,h2⟩:=h;simp only[List.cons_append,Z5];exact⟨v,z++m,rfl,h1,Z5.append h2 k⟩
theorem Z5.Hm {σ:Sg}:∀{x:List AV} {l:List Value},x.length=l.length->(∀i (h:i<x.length) (h':i<l.length),Z6 σ x[i] l[i])->Z5 σ x l
 |[],l,h,_=>by simp only[Z5];exact afq.1 (by simpa using h.symm)
 |a::x,[],h,_=>by simp at h
 |a::x,v::l,h,k=>by
  simp only[Z5];exact⟨v,l,rfl,k 0 (Nat.succ_pos _) (Nat.succ_pos _),Z5.Hm (Nat.succ.inj h) fun i hi Uz=>k (i+1) (Nat.succ_lt_succ hi) (Nat.succ_lt_succ Uz)⟩
theorem Nn {σ:Sg}{a:AV}{v:Value}(h:Z6 σ a v):Z5 σ [a] [v]:=by
 simp only[Z5];exact⟨v,[],rfl,h,rfl⟩
theorem Uc {σ:Sg}{a:AV}{v:Value}(h:Z6 σ a v)(hn:Zw a=true):v.cells=#[v]/\(∀cs,v≠.agg cs)/\(∀cs,v≠.tuple cs):=by
 cases a <;> simp only[Zw] at hn <;> simp only[Z6] at h <;>
  first
  |(subst h;simp[Value.cells];done)
  |(obtain⟨x,rfl,_⟩:=h;simp[Value.cells];done)
  |(obtain⟨x,y,rfl⟩:=h;simp[Value.cells];done)
  |(obtain⟨x,y,rfl,_⟩:=h;simp[Value.cells];done)
  |(obtain⟨x,y,z,rfl,_⟩:=h;simp[Value.cells];done)
  |(obtain⟨_,_,_,_,_,_,rfl,_⟩:=h;simp[Value.cells];done)
  |(cases hn)
theorem XP {σ:Sg}{a:AV}{v:Value}(h:Z6 σ a v):Z5 σ a.cells v.cells.toList:=by
 cases a with
 |agg cs=>simp only[Z6] at h;obtain⟨vs,rfl,h⟩:=h;exact h
 |X' cs =>
  have h0:=h;simp only[Z6] at h;obtain⟨vs,rfl,_⟩:=h;exact Nn h0
 |_=>rw[(Uc h rfl).1];exact Nn h
def UR (σ:Sg)(e:Env)(tmps:Array Value):Prop:=∀t,Z6 σ (Env.get e t) (tmps.getD t Go.undef)
theorem UR.mono {σ τ:Sg}(h:Sg.le σ τ){e:Env}{tmps:Array Value}(k:UR σ e tmps):UR τ e tmps:=fun t=>Z6.mono h _ _ (k t)
theorem Tr.get_nil {α:Type}(k:Nat):(Tr.nil:Tr α).get k=none:=rfl
theorem Tr.Wv {α:Type}:∀(f:Nat) (t:Tr α) (k:Nat) (x:α),k<f->(Tr.RS f t k x).get k=some x
 |0,_,_,_,h=>by omega
 |f+1,.nil,0,x,_=>rfl
 |f+1,.n v l r,0,x,_=>rfl
 |f+1,.nil,k+1,x,h=>by
  unfold Tr.RS;by_cases hb:Nat.beq (k%2) 0=true
  ·simp only[hb,cond_true,Tr.get];exact Tr.Wv f .nil (k / 2) x (by omega)
  ·simp only[Bool.not_eq_true] at hb;simp only[hb,cond_false,Tr.get];exact Tr.Wv f .nil (k / 2) x (by omega)
 |f+1,.n v l r,k+1,x,h=>by
  unfold Tr.RS;by_cases hb:Nat.beq (k%2) 0=true
  ·simp only[hb,cond_true,Tr.get];exact Tr.Wv f l (k / 2) x (by omega)
  ·simp only[Bool.not_eq_true] at hb;simp only[hb,cond_false,Tr.get];exact Tr.Wv f r (k / 2) x (by omega)
theorem Hl {k j:Nat}(h:k+1≠j+1)(hp:Nat.beq (k%2) 0=Nat.beq (j%2) 0):k / 2≠j / 2:=by
 intro e;have h1:k%2=j%2:=by
  have a1:k%2=0\/k%2=1:=by omega
  have a2:j%2=0\/j%2=1:=by omega
  rcases a1 with a1|a1 <;> rcases a2 with a2|a2 <;> simp[a1,a2] at hp ⊢
 omega
theorem Tr.Tw {α:Type}:∀(f:Nat) (t:Tr α) (k j:Nat) (x:α),k≠j->(Tr.RS f t k x).get j=t.get j
 |0,_,_,_,_,_=>rfl
 |f+1,.nil,0,j,x,h=>by
  cases j with
  |zero=>exact absurd rfl h
  |succ j=>unfold Tr.RS;simp[Tr.get]
 |f+1,.n v l r,0,j,x,h=>by
  cases j with
  |zero=>exact absurd rfl h
  |succ j=>unfold Tr.RS;simp[Tr.get]
 |f+1,.nil,k+1,0,x,_=>by
  unfold Tr.RS;rcases Bool.eq_false_or_eq_true (Nat.beq (k%2) 0) with hb|hb <;> simp only[hb,cond_true,cond_false,Tr.get]
 |f+1,.n v l r,k+1,0,x,_=>by
  unfold Tr.RS;rcases Bool.eq_false_or_eq_true (Nat.beq (k%2) 0) with hb|hb <;> simp only[hb,cond_true,cond_false,Tr.get]
 |f+1,.nil,k+1,j+1,x,h=>by
  unfold Tr.RS;have ih:=fun hp=>Tr.Tw f (Tr.nil:Tr α) (k / 2) (j / 2) x (Hl h hp)
  rcases Bool.eq_false_or_eq_true (Nat.beq (k%2) 0) with hb|hb <;> rcases Bool.eq_false_or_eq_true (Nat.beq (j%2) 0) with hj|hj <;> simp only[hb,cond_true,cond_false,Tr.get,hj]
  ·exact ih (by rw[hb,hj])
  ·exact ih (by rw[hb,hj])
 |f+1,.n v l r,k+1,j+1,x,h=>by
  unfold Tr.RS;have rD:=fun hp=>Tr.Tw f l (k / 2) (j / 2) x (Hl h hp)
  have ihr:=fun hp=>Tr.Tw f r (k / 2) (j / 2) x (Hl h hp)
  rcases Bool.eq_false_or_eq_true (Nat.beq (k%2) 0) with hb|hb <;> rcases Bool.eq_false_or_eq_true (Nat.beq (j%2) 0) with hj|hj <;> simp only[hb,cond_true,cond_false,Tr.get,hj]
  ·exact rD (by rw[hb,hj])
  ·exact ihr (by rw[hb,hj])
theorem Tr.Hk {α:Type}(t:Tr α)(k:Nat)(x:α):(t.set k x).get k=some x:=Tr.Wv _ _ _ _ (Nat.lt_succ_self k)
theorem Tr.DE {α:Type}(t:Tr α){k j:Nat}(x:α)(h:k≠j):(t.set k x).get j=t.get j:=Tr.Tw _ _ _ _ _ h
theorem Tr.Ux {α:Type}(t:Tr α)(k j:Nat)(x:α):(t.set k x).get j=if k=j then some x else t.get j:=by
 by_cases h:k=j
 ·subst h;simp[Tr.Hk]
 ·simp[h,Tr.DE]
theorem Env.Ux (e:Env)(k j:Nat)(x:AV):Env.get (Tr.set e k x) j=if k=j then x else Env.get e j:=by
 unfold Env.get;rw[Tr.Ux];by_cases h:k=j <;> simp[h]
theorem St.Z7 (s:St)(k j:Nat)(x:UK):(s.put k x).get j=if k=j then some x else s.get j:=by
 unfold St.put St.get;simp only[Tr.Ux];by_cases h:k=j <;> simp[h]
theorem St.ZZ (s:St)(j:Nat)(x:UK):(s.new x).get j=if s.next=j then some x else s.get j:=by
 unfold St.new St.get;simp only[Tr.Ux];by_cases h:s.next=j <;> simp[h]
theorem St.Z9 (s:St)(k:Nat)(x:UK):(s.put k x).next=s.next:=rfl
theorem St.Z' (s:St)(x:UK):(s.new x).next=s.next+1:=rfl
def St.look (s:St)(i:Nat):Option UK:=match s.get i with
 |some .gone=>none
 |r=>r
theorem St.Ye (s:St)(k j:Nat)(x:UK):(s.put k x).look j=if k=j then (match x with|.gone=>none|x=>some x) else s.look j:=by
 unfold St.look;rw[St.Z7];by_cases h:k=j
 ·subst h;cases x <;> simp
 ·simp[h]
theorem St.Wx (s:St)(j:Nat)(x:UK)(hx:x≠.gone):(s.new x).look j=if s.next=j then some x else s.look j:=by
 unfold St.look;rw[St.ZZ];by_cases h:s.next=j
 ·subst h;cases x <;> simp at hx ⊢
 ·simp[h]
theorem St.YO {s:St}{i:Nat}{b:UK}(h:s.get i=some b)(hb:b≠.gone):s.look i=some b:=by
 unfold St.look;rw[h];cases b <;> simp at hb ⊢
def UK.own:UK->Bool
 |.cells _ _ ro _ _=>!ro
 |.gone=>false
 |.map _ ro=>!ro
 |.iter _ _=>true
 |.loop ..=>true
def ZW (σ:Sg):List (AV×AV)->List MapEntry->Prop
 |[],l=>l=[]
 |(k,v)::es,l=>∃m r,l=m::r/\Z6 σ k m.key/\Z6 σ v m.val/\ZW σ es r
theorem ZW.mono {σ τ:Sg}(h:Sg.le σ τ):∀{x:List (AV×AV)} {l:List MapEntry},ZW σ x l->ZW τ x l
 |[],l,k=>k
 |(a,b)::x,l,k=>by
  simp only[ZW] at *;obtain⟨m,r,e,h1,h2,h3⟩:=k;exact⟨m,r,e,Z6.mono h _ _ h1,Z6.mono h _ _ h2,ZW.mono h h3⟩
def Uk:Nat->LoopState
 |0=>.ready
 |1=>.busy
 |2=>.done
 |_=>.exhausted
class Stat where
 ok:Nat->Code->Prop
 spec:TypeId->Bool
variable [Stat]
def BR (σ:Sg)(p:Pl):UK->Obj->Prop
 |.cells c e ro RA Ss,.cells cc e' fz=>cc.size=p.n/\p.sh+c.length<=p.n/\e=e' /\
   (∀j a,c[j]? = some a->∃v,cc[p.sh+j]? = some v/\Z6 σ a v) /\
   (ro=false->∀j,fz.1<=p.sh+j->p.sh+j<fz.2->p.sh+j<p.n->RA<=j/\j<Ss) /\
   (Stat.spec e=true->p.sh=0/\p.n=c.length)
 |.map es _,.map Xq _=>ZW σ es Xq.toList
 |.iter s pos,.stringIter bs pos'=>p.sh=0/\pos=pos'/\bs.data.toList.drop pos=s
 |.loop st pe env params assign body,.loop r=>r.state=Uk st/\r.pending=pe/\UR σ env r.tmps/\r.params.toList=params/\r.assign=assign/\r.body=body/\Stat.ok r.tmps.size assign/\Stat.ok r.tmps.size body/\(∀t∈params,t<r.tmps.size)
 |_,_=>False
theorem BR.mono {σ τ:Sg}(h:Sg.le σ τ){p:Pl}{b:UK}{o:Obj}(k:BR σ p b o):BR τ p b o:=by
 cases b <;> cases o <;> simp only[BR] at * <;> first|exact k|skip
 ·obtain⟨h1,h2,h3,h4,h5⟩:=k;exact⟨h1,h2,h3,fun j a e=>by obtain⟨v,hv,hr⟩:=h4 j a e;exact⟨v,hv,Z6.mono h _ _ hr⟩,h5⟩
 ·exact ZW.mono h k
 ·obtain⟨h1,h2,h3,h4⟩:=k;exact⟨h1,h2,h3.mono h,h4⟩
def SO (σ:Sg)(s:St)(c:Nat):Prop:=∃i p b,σ i=some p/\s.look i=some b/\b.own=true/\p.b=c
structure HR (σ:Sg)(s:St)(w:World):Prop where
 lt:∀i p,σ i=some p->p.b<w.heap.size
 JA:∀i p b,σ i=some p->s.look i=some b->∃o,w.heap[p.b]? = some o/\BR σ p b o
 inj:∀i j p q b c,σ i=some p->σ j=some q->s.look i=some b->s.look j=some c->p.b=q.b->i=j
 fz:∀c o,σ.fz c=some o->w.heap[c]? = some o/\¬SO σ s c
structure Ext (σ:Sg)(s:St)(w:World)(Y':Sg)(s':St)(w':World):Prop where
 le:Sg.le σ Y'
 By:∀c o,Y'.fz c=some o->σ.fz c=some o\/w.heap.size<=c
 size:w.heap.size<=w'.heap.size
 keep:∀c,c<w.heap.size->¬SO σ s c->w'.heap[c]? = w.heap[c]?
 owns:∀c,c<w.heap.size->SO Y' s' c->SO σ s c
 os:w'.os=w.os
 tape:w'.tape=w.tape
 output:w'.output=w.output
theorem Ext.refl (σ:Sg)(s:St)(w:World):Ext σ s w σ s w :=
 ⟨Sg.le_refl _,fun _ _ h=>.inl h,aba _,fun _ _ _=>rfl,fun _ _ h=>h,rfl,rfl,rfl⟩
theorem Ext.trans {LH Gs eu:Sg}{s1 s2 s3:St}{w1 w2 w3:World}(h:Ext LH s1 w1 Gs s2 w2)(k:Ext Gs s2 w2 eu s3 w3):Ext LH s1 w1 eu s3 w3 where
 le:=Sg.le_trans h.le k.le
 By:=fun c o hc=>by
  rcases k.By c o hc with h1|h1
  ·exact h.By c o h1
  ·exact .inr (afG h.size h1)
 size:=afG h.size k.size
 keep:=fun c hc hn=>by
  rw[k.keep c (Nat.lt_of_lt_of_le hc h.size) (fun ho=>hn (h.owns c hc ho)),h.keep c hc hn]
 owns:=fun c hc ho=>h.owns c hc (k.owns c (Nat.lt_of_lt_of_le hc h.size) ho)
 os:=k.os.trans h.os
 tape:=k.tape.trans h.tape
 output:=k.output.trans h.output
def Va (σ:Sg)(s:St):Prop:=∀i,s.next<=i->σ i=none
def Sg.add (σ:Sg)(i:Nat)(p:Pl):Sg:={ σ with m:=fun j=>if j=i then some p else σ j }
theorem Sg.PO {σ:Sg}{i:Nat}{p:Pl}(h:σ i=none):Sg.le σ (σ.add i p):=by
 refine⟨?_,fun _ _ h=>h⟩;intro j q hq;unfold Sg.add;by_cases e:j=i
 ·subst e;rw[h] at hq;cases hq
 ·simp[e,hq]
theorem Sg.Y7 (σ:Sg)(i:Nat)(p:Pl):(σ.add i p) i=some p:=by simp[Sg.add]
theorem Sg.XW (σ:Sg){i j:Nat}(p:Pl)(h:j≠i):(σ.add i p) j=σ j:=by simp[Sg.add,h]
theorem HR.new {σ:Sg}{s:St}{w:World}(h:HR σ s w)(hf:σ s.next=none)(b:UK)(hb:b≠.gone)(o:Obj)(n:Nat)
  (hr:BR (σ.add s.next ⟨w.heap.size,0,n⟩) ⟨w.heap.size,0,n⟩ b o) :
  HR (σ.add s.next ⟨w.heap.size,0,n⟩) (s.new b) (w.alloc o):=by
 have hle:Sg.le σ (σ.add s.next ⟨w.heap.size,0,n⟩):=Sg.PO hf;refine⟨?_,?_,?_,?_⟩
 ·intro i p hp;by_cases e:i=s.next
  ·subst e;rw[Sg.Y7] at hp;cases hp;simp
  ·rw[Sg.XW _ _ e] at hp;have:=h.lt i p hp;simp;omega
 ·intro i p c hp hc;rw[St.Wx _ _ _ hb] at hc;by_cases e:i=s.next
  ·subst e;rw[Sg.Y7] at hp;cases hp;simp at hc;subst hc;exact⟨o,by show (w.heap.push o)[w.heap.size]? = some o;simp,hr⟩
  ·rw[Sg.XW _ _ e] at hp;rw[if_neg (fun h=>e h.symm)] at hc;obtain⟨o',ho,D0⟩:=h.JA i p c hp hc;have:=h.lt i p hp;refine⟨o',?_,D0.mono hle⟩;simp only[World.alloc];rw[afB,if_neg (by omega)];exact ho
 ·intro i j p q c d hp hq hc hd lQ;rw[St.Wx _ _ _ hb] at hc hd;by_cases e:i=s.next <;> by_cases e':j=s.next
  ·rw[e,e']
  ·subst e;rw[Sg.Y7] at hp;cases hp;rw[Sg.XW _ _ e'] at hq;have:=h.lt j q hq;simp at lQ;omega
  ·subst e';rw[Sg.Y7] at hq;cases hq;rw[Sg.XW _ _ e] at hp;have:=h.lt i p hp;simp at lQ;omega
  ·rw[Sg.XW _ _ e] at hp;rw[Sg.XW _ _ e'] at hq;rw[if_neg (fun h=>e h.symm)] at hc;rw[if_neg (fun h=>e' h.symm)] at hd;exact h.inj i j p q c d hp hq hc hd lQ
 ·intro c o' hc;obtain⟨h1,h2⟩:=h.fz c o' hc;have Zm:c<w.heap.size:=(adm.1 h1).1;refine⟨by simp only[World.alloc];rw[afB,if_neg (by omega)];exact h1,?_⟩;rintro⟨i,p,d,hp,hd,UQ,rfl⟩;rw[St.Wx _ _ _ hb] at hd;by_cases e:i=s.next
  ·subst e;rw[Sg.Y7] at hp;cases hp;simp at Zm
  ·rw[Sg.XW _ _ e] at hp;rw[if_neg (fun h=>e h.symm)] at hd;exact h2 ⟨i,p,d,hp,hd,UQ,rfl⟩
theorem Ext.new {σ:Sg}{s:St}{w:World}(hf:σ s.next=none)(b:UK)(hb:b≠.gone)(o:Obj)(n:Nat) :
  Ext σ s w (σ.add s.next ⟨w.heap.size,0,n⟩) (s.new b) (w.alloc o):=by
 refine⟨Sg.PO hf,fun _ _ h=>.inl h,by simp,?_,?_,rfl,rfl,rfl⟩
 ·intro c hc _;simp only[World.alloc];rw[afB,if_neg (by omega)]
 ·rintro c hc ⟨i,p,d,hp,hd,UQ,rfl⟩;rw[St.Wx _ _ _ hb] at hd;by_cases e:i=s.next
  ·subst e;rw[Sg.Y7] at hp;cases hp;simp at hc
  ·rw[Sg.XW _ _ e] at hp;rw[if_neg (fun h=>e h.symm)] at hd;exact⟨i,p,d,hp,hd,UQ,rfl⟩
theorem Va.new {σ:Sg}{s:St}(h:Va σ s)(b:UK)(p:Pl):Va (σ.add s.next p) (s.new b):=by
 intro i hi;rw[St.Z'] at hi;rw[Sg.XW _ _ (by omega)];exact h i (by omega)
theorem HR.put {σ:Sg}{s:St}{w:World}(h:HR σ s w){i:Nat}{p:Pl}{b0 b:UK}(hp:σ i=some p)(hl:s.look i=some b0)(UQ:b0.own=true)(hb:b≠.gone){w':World}(WU:w'.heap.size=w.heap.size)
  (U_:∀c,c≠p.b->w'.heap[c]? = w.heap[c]?){o:Obj}(ho:w'.heap[p.b]? = some o)(hr:BR σ p b o):HR σ (s.put i b) w':=by
 refine⟨fun j q hq=>by rw[WU];exact h.lt j q hq,?_,?_,?_⟩
 ·intro j q c hq hc;rw[St.Ye] at hc;by_cases e:i=j
  ·subst e;rw[hp] at hq;cases hq;rw[if_pos rfl] at hc;have:c=b:=by cases b <;> simp at hb hc ⊢ <;> exact hc.symm
   subst this;exact⟨o,ho,hr⟩
  ·rw[if_neg e] at hc;obtain⟨o',Xk,VX⟩:=h.JA j q c hq hc;have ZQ:q.b≠p.b:=fun he=>e (h.inj j i q p c b0 hq hp hc hl he).symm
   exact⟨o',by rw[U_ _ ZQ];exact Xk,VX⟩
 ·intro j k q r c d hq VX hc hd he;have look:∀j c,(s.put i b).look j=some c->∃c',s.look j=some c':=by
   intro j c hc;rw[St.Ye] at hc;by_cases e:i=j
   ·subst e;exact⟨b0,hl⟩
   ·rw[if_neg e] at hc;exact⟨c,hc⟩
  obtain⟨c',FX⟩:=look j c hc;obtain⟨d',Wy⟩:=look k d hd;exact h.inj j k q r c' d' hq VX FX Wy he
 ·intro c o' hc;obtain⟨h1,h2⟩:=h.fz c o' hc;refine⟨by rw[U_ c (fun e=>h2 ⟨i,p,b0,hp,hl,UQ,e.symm⟩)];exact h1,?_⟩;rintro⟨j,q,d,hq,hd,Xk,rfl⟩;rw[St.Ye] at hd;by_cases e:i=j
  ·subst e;rw[hp] at hq;cases hq;exact h2 ⟨i,p,b0,hp,hl,UQ,rfl⟩
  ·rw[if_neg e] at hd;exact h2 ⟨j,q,d,hq,hd,Xk,rfl⟩
theorem Ext.put {σ:Sg}{s:St}{w:World}{i:Nat}{p:Pl}{b0 b:UK}(hp:σ i=some p)(hl:s.look i=some b0)(UQ:b0.own=true){w':World}(WU:w'.heap.size=w.heap.size)
  (U_:∀c,c≠p.b->w'.heap[c]? = w.heap[c]?)(lP:w'.os=w.os)(ht:w'.tape=w.tape)(PN:w'.output=w.output):Ext σ s w σ (s.put i b) w':=by
 refine⟨Sg.le_refl _,fun _ _ h=>.inl h,by omega,?_,?_,lP,ht,PN⟩
 ·intro c _ hn;exact U_ c (fun e=>hn ⟨i,p,b0,hp,hl,UQ,e.symm⟩)
 ·rintro c _ ⟨j,q,d,hq,hd,ho,rfl⟩;rw[St.Ye] at hd;by_cases e:i=j
  ·subst e;rw[hp] at hq;cases hq;exact⟨i,p,b0,hp,hl,UQ,rfl⟩
  ·rw[if_neg e] at hd;exact⟨j,q,d,hq,hd,ho,rfl⟩
structure Good (σ:Sg)(s:St)(w:World)(Y':Sg)(s':St)(w':World):Prop where
 hr:HR Y' s' w'
 ext:Ext σ s w Y' s' w'
 Tv:∀i,i<s.next\/s'.next<=i->Y' i=σ i
 next:s.next<=s'.next
 dead:∀i,i<s.next->s.look i=none->s'.look i=none
 news:∀i p,Y' i=some p->σ i=none->w.heap.size<=p.b\/SO σ s p.b
 glob:s'.base=s.base
theorem Good.refl {σ:Sg}{s:St}{w:World}(h:HR σ s w):Good σ s w σ s w :=
 ⟨h,Ext.refl _ _ _,fun _ _=>rfl,aba _,fun _ _ h=>h,fun i p h k=>(by rw[k] at h;cases h),rfl⟩
theorem Good.trans {LH Gs eu:Sg}{s1 s2 s3:St}{w1 w2 w3:World}(h:Good LH s1 w1 Gs s2 w2)(k:Good Gs s2 w2 eu s3 w3):Good LH s1 w1 eu s3 w3 where
 hr:=k.hr
 ext:=h.ext.trans k.ext
 Tv:=fun i hi=>by
  have h1:=h.next;have h2:=k.next;rw[k.Tv i (by omega),h.Tv i (by omega)]
 next:=afG h.next k.next
 dead:=fun i hi hl=>k.dead i (Nat.lt_of_lt_of_le hi h.next) (h.dead i hi hl)
 news:=fun i p hp hn=>by
  by_cases e:Gs i=none
  ·rcases k.news i p hp e with hk|hk
   ·exact .inl (afG h.ext.size hk)
   ·by_cases hb:p.b<w1.heap.size
    ·exact .inr (h.ext.owns _ hb hk)
    ·exact .inl (by omega)
  ·cases hq:Gs i with
   |none=>exact absurd hq e
   |some q =>
    have:=k.ext.le.p i q hq;rw[hp] at this;cases this;exact h.news i p hq hn
 glob:=k.glob.trans h.glob
theorem Good.fresh {σ Y':Sg}{s s':St}{w w':World}(h:Good σ s w Y' s' w')(hf:Va σ s):Va Y' s':=fun i hi=>by
 rw[h.Tv i (.inr hi)];exact hf i (afG h.next hi)
theorem HR.of_heap {σ:Sg}{s:St}{w w':World}(h:HR σ s w)(e:w'.heap=w.heap):HR σ s w' :=
 ⟨fun i p hp=>by rw[e];exact h.lt i p hp,fun i p b hp hb=>by rw[e];exact h.JA i p b hp hb,h.inj,fun c o hc=>by rw[e];exact h.fz c o hc⟩
theorem Good.drew {σ Y':Sg}{s s':St}{w w':World}(h:Good σ s w Y' s' w'):Good σ s w Y' s' w'.drew :=
 ⟨h.hr.of_heap rfl,⟨h.ext.le,h.ext.By,h.ext.size,h.ext.keep,h.ext.owns,h.ext.os,h.ext.tape,h.ext.output⟩,h.Tv,h.next,h.dead,h.news,h.glob⟩
theorem Good.w_ {σ Y':Sg}{s s':St}{w w':World}(h:Good σ s w.drew Y' s' w'):Good σ s w Y' s' w' :=
 ⟨h.hr,⟨h.ext.le,h.ext.By,h.ext.size,h.ext.keep,h.ext.owns,h.ext.os,h.ext.tape,h.ext.output⟩,h.Tv,h.next,h.dead,h.news,h.glob⟩
theorem Good.new {σ:Sg}{s:St}{w:World}(h:HR σ s w)(hf:σ s.next=none)(b:UK)(hb:b≠.gone)(o:Obj)(n:Nat)
  (hr:BR (σ.add s.next ⟨w.heap.size,0,n⟩) ⟨w.heap.size,0,n⟩ b o) :
  Good σ s w (σ.add s.next ⟨w.heap.size,0,n⟩) (s.new b) (w.alloc o) where
 hr:=h.new hf b hb o n hr
 ext:=Ext.new hf b hb o n
 Tv:=fun i hi=>by
  rw[St.Z'] at hi;exact Sg.XW _ _ (by omega)
 next:=by rw[St.Z'];omega
 dead:=fun i hi hl=>by
  rw[St.Wx _ _ _ hb,if_neg (by omega)];exact hl
 news:=fun i p hp hn=>by
  by_cases e:i=s.next
  ·subst e;rw[Sg.Y7] at hp;cases hp;exact .inl (aba _)
  ·rw[Sg.XW _ _ e,hn] at hp;cases hp
 glob:=rfl
theorem Good.put {σ:Sg}{s:St}{w:World}(h:HR σ s w){i:Nat}{p:Pl}{b0 b:UK}(hp:σ i=some p)(hl:s.look i=some b0)(UQ:b0.own=true)(hb:b≠.gone){w':World}(WU:w'.heap.size=w.heap.size)
  (U_:∀c,c≠p.b->w'.heap[c]? = w.heap[c]?){o:Obj}(ho:w'.heap[p.b]? = some o)(hr:BR σ p b o)(lP:w'.os=w.os)(ht:w'.tape=w.tape)(PN:w'.output=w.output):Good σ s w σ (s.put i b) w' where
 hr:=h.put hp hl UQ hb WU U_ ho hr
 ext:=Ext.put hp hl UQ WU U_ lP ht PN
 Tv:=fun _ _=>rfl
 next:=aba _
 dead:=fun j _ hj=>by
  rw[St.Ye];by_cases e:i=j
  ·subst e;rw[hl] at hj;cases hj
  ·rw[if_neg e];exact hj
 news:=fun j q h1 h2=>by rw[h2] at h1;cases h1
 glob:=rfl
end Go.Am
namespace Go.Am
open Go
structure Xp [Stat] (X:Cx)(P:Program):Prop where
 Zt:∀t d,X.Zt t=some d->P.underlying t=some d
 inf:∀t i,X.inf t=some i->P.info? t=some i
 fn:∀f fn,X.fn f=some fn->P.funcs[f]? = some fn
 Ho:∀t,X.Ho t=true->P.eqGuardType P.depth t=false/\P.stoodInHeld t=false
 spec:∀t,Stat.spec t=true->X.spec t=true
 ez:∀t,Stat.spec t=true->X.Zt t≠some (.int .u8)
def XX [Stat] (X:Cx)(σ:Sg):Prop:=∀g,g<X.glob->∃n,σ g=some ⟨g,0,n⟩/\∀b,X.O_ g=some b->b.own=false/\∃o,σ.fz g=some o/\BR σ.bare ⟨g,0,n⟩ b o
section
variable {P:Program}{w:World}
theorem ZU {t:TypeId}{d:TypeDesc}(h:P.underlying t=some d):(underlying t).run P w=.ok d w:=by
 simp[underlying,h]
theorem LG {t:TypeId}{i:TypeInfo}(h:P.info? t=some i):(typeInfo t).run P w=.ok i w:=by
 simp[typeInfo,h]
theorem xa {t:TypeId}{i:TypeInfo}(h:P.info? t=some i):(sizeOf t).run P w=.ok i.size w:=by
 simp[sizeOf,LG h]
theorem F1 {t:TypeId}{i:TypeInfo}{z:Value}(h:P.info? t=some i)(hz:i.zero=some z):(zeroValue t).run P w=.ok z w:=by
 simp[zeroValue,LG h,hz]
end
section
variable [Stat] {X:Cx}{P:Program}(hX:Xp X P){w:World}
include hX
theorem Zj {t:TypeId}{n:Nat}(h:size X t=some n):(sizeOf t).run P w=.ok n w:=by
 unfold size at h
 split at h
 ·rename_i i hi;cases h;exact xa (hX.inf _ _ hi)
 ·cases h
theorem Vu {t:TypeId}{b:Bool}(h:YZ X t=some b):(isAgg t).run P w=.ok b w:=by
 unfold YZ at h
 split at h <;> cases h <;> rename_i hd
 ·simp[isAgg,ZU (hX.Zt _ _ hd)]
 ·simp[isAgg,ZU (hX.Zt _ _ hd)]
 ·simp only[isAgg,Sem.run_bind,ZU (hX.Zt _ _ hd),Result.andThen_ok];rfl
end
theorem BE (σ:Sg):∀(n:Nat) (v:Value) (a:AV),sj n v=some a->Z6 σ a v:=by
 intro n
 induction n with
 |zero=>intro v a h;simp[sj] at h
 |succ n ih =>
  have hl:∀(l:List Value) (as:List AV),l.mapM (sj n)=some as->Z5 σ as l:=by
   intro l
   induction l with
   |nil=>intro as h;simp at h;subst h;simp[Z5]
   |cons v l rD =>
    intro as h;simp only[List.mapM_cons,Option.bind_eq_bind,Option.bind_eq_some_iff,Option.pure_def,Option.some.injEq] at h;obtain⟨a,ha,as',has,rfl⟩:=h;simp only[Z5];exact⟨v,l,rfl,ih v a ha,rD as' has⟩
  intro v a h;unfold sj at h
  split at h <;> first|(cases h;simp[Z6];done)|(cases h;done)|skip
  ·simp only[afL] at h;obtain⟨as,has,rfl⟩:=h;simp only[Z6];exact⟨_,rfl,hl _ _ has⟩
  ·simp only[afL] at h;obtain⟨as,has,rfl⟩:=h;simp only[Z6];exact⟨_,rfl,hl _ _ has⟩
def LD (tmps:Array Value):Operand->Value
 |.tmp t=>tmps.getD t Go.undef
 |.const v=>v
 |.global g=>.pointer (some ⟨g,0,none⟩)
 |.func f=>.func (.func f) #[] #[]
theorem VO [Stat] {X:Cx}{σ:Sg}(hg:XX X σ){e:Env}{tmps:Array Value}(he:UR σ e tmps){x:Operand}{a:AV}(h:eval X e x=some a):Z6 σ a (LD tmps x):=by
 cases x <;> simp only[eval] at h
 ·cases h;exact he _
 ·exact BE σ _ _ _ h
 ·rename_i g
  split at h
  ·rename_i Zm
   cases h
   obtain⟨n,hn,_⟩:=hg g Zm;simp only[Z6,LD];exact⟨_,hn,rfl⟩
  ·cases h
 ·cases h
  simp only[Z6,LD];exact⟨_,_,_,rfl,rfl,by simp[Z5],by simp[Z5]⟩
theorem SS [Stat] {X:Cx}{σ:Sg}(hg:XX X σ){e:Env}{tmps:Array Value}(he:UR σ e tmps):∀{l:List Operand} {as:List AV},WR X e l=some as->Z5 σ as (l.map (LD tmps))
 |[],as,h=>by simp[WR] at h;subst h;simp[Z5]
 |x::l,as,h=>by
  simp only[WR] at h
  split at h
  ·rename_i v r h1 h2
   cases h
   simp only[afm,Z5];exact⟨_,_,rfl,VO hg he h1,SS hg he h2⟩
  ·cases h
def VN (σ:Sg):List (Nat×AV)->List (Nat×Value)->Prop
 |[],l=>l=[]
 |(i,a)::x,l=>∃v y,l=(i,v)::y/\Z6 σ a v/\VN σ x y
theorem Td [Stat] {X:Cx}{σ:Sg}(hg:XX X σ){e:Env}{tmps:Array Value}(he:UR σ e tmps):∀{l:List (Nat×Operand)} {as:List (Nat×AV)},XD X e l=some as->VN σ as (l.map fun (i,x)=>(i,LD tmps x))
 |[],as,h=>by simp[XD] at h;subst h;simp[VN]
 |(i,x)::l,as,h=>by
  simp only[XD] at h
  split at h
  ·rename_i v r h1 h2
   cases h
   simp only[afm,VN];exact⟨_,_,rfl,VO hg he h1,Td hg he h2⟩
  ·cases h
theorem X8:∀{n o:Nat} {l r:List AV},YB n o l=some r->r.length=n/\∀i,i<n->r[i]? = l[o+i]?/\o+i<l.length
 |0,_,_,r,h=>by simp[YB] at h;subst h;exact⟨rfl,fun i hi=>by omega⟩
 |n+1,_,[],r,h=>by simp[YB] at h
 |n+1,0,x::l,r,h=>by
  simp only[YB] at h
  split at h
  ·rename_i r' h'
   cases h
   obtain⟨h1,h2⟩:=X8 h';refine⟨by simp[h1],fun i hi=>?_⟩
   cases i with
   |zero=>simp
   |succ i =>
    have:=h2 i (by omega);simp only[ad4] at this;simp only[ad4,afr,afc];exact⟨this.1,by omega⟩
  ·cases h
 |n+1,o+1,x::l,r,h=>by
  simp only[YB] at h;obtain⟨h1,h2⟩:=X8 h;refine⟨h1,fun i hi=>?_⟩;have:=h2 i hi;rw[show o+1+i=(o+i)+1 from by omega];simp only[afr,afc];exact⟨this.1,by omega⟩
theorem SR {n o:Nat}{l r:List AV}(h:YB n o l=some r){i:Nat}{a:AV}(ha:r[i]? = some a):l[o+i]? = some a:=by
 obtain⟨h1,h2⟩:=X8 h;have:i<n:=by
  have:=(ae6.1 ha).1;omega
 rw[<-(h2 i this).1];exact ha
theorem OY:∀{o:Nat} {vs l r:List AV},lay o vs l=some r->r.length=l.length/\(vs≠[]->o+vs.length<=l.length)/\∀i,r[i]? = if o<=i/\i<o+vs.length then vs[i-o]? else l[i]?
 |o,[],l,r,h=>by
  simp[lay] at h;subst h;refine⟨rfl,fun h=>absurd rfl h,fun i=>?_⟩;rw[if_neg (by simp)]
 |o,v::vs,[],r,h=>by cases o <;> simp[lay] at h
 |0,v::vs,x::l,r,h=>by
  simp only[lay] at h
  split at h
  ·rename_i r' h'
   cases h
   obtain⟨h1,h2,h3⟩:=OY h';refine⟨by simp[h1],fun _=>?_,fun i=>?_⟩
   ·by_cases hv:vs=[]
    ·subst hv;simp
    ·have:=h2 hv;simp;omega
   ·cases i with
    |zero=>simp
    |succ i =>
     have:=h3 i;simp only[ad4,ae5,true_and,Nat.sub_zero] at this;simp only[ad4,ae5,true_and,Nat.sub_zero,afc,afr,this];by_cases hc:i<vs.length
     ·rw[if_pos hc,if_pos (by omega)]
     ·rw[if_neg hc,if_neg (by omega)]
  ·cases h
 |o+1,v::vs,x::l,r,h=>by
  simp only[lay] at h
  split at h
  ·rename_i r' h'
   cases h
   obtain⟨h1,h2,h3⟩:=OY h';refine⟨by simp[h1],fun _=>?_,fun i=>?_⟩
   ·have:=h2 (by simp);simp at this ⊢;omega
   ·cases i with
    |zero=>rw[if_neg (by omega)];simp
    |succ i =>
     have:=h3 i;simp only[afr,this];by_cases hc:o<=i/\i<o+(v::vs).length
     ·rw[if_pos hc,if_pos (by omega)]
      congr 1
      omega
     ·rw[if_neg hc,if_neg (by omega)]
  ·cases h
end Go.Am
namespace Go.Am
open Go
def Wz (P:Program)(w:World)(σ:Sg)(m:Sem Value)(a:AV):Prop:=∃v,m.run P w=.ok v w/\Z6 σ a v
section
variable [Stat] {X:Cx}{P:Program}(hX:Xp X P){w:World}{σ:Sg}
theorem Zx {k:IntKind}{n:Int}{v:Value}(h:Z6 σ (.int k n) v):v=.int k n:=by simpa only[Z6] using h
theorem X7 {b:Bool}{v:Value}(h:Z6 σ (.bool b) v):v=.bool b:=by simpa only[Z6] using h
theorem YA {s:List UInt8}{v:Value}(h:Z6 σ (.str s) v):∃bs:ByteArray,v=.string bs/\bs.data.toList=s:=by simpa only[Z6] using h
theorem Yf {b o:Nat}{v:Value}(h:Z6 σ (.ptr b o) v):∃p,σ b=some p/\v=.pointer (some ⟨p.b,p.sh+o,none⟩):=by simpa only[Z6] using h
theorem Vk {b o n:Nat}{c:Option Nat}{z:Nat}{v:Value}(h:Z6 σ (.sl b o n c z) v):∃a k,v=.slice (some a) n k/\IQ σ b o n c z a k:=by simpa only[Z6] using h
theorem XS {cs:List AV}{v:Value}(h:Z6 σ (.agg cs) v):∃vs,v=.agg vs/\Z5 σ cs vs.toList:=by simpa only[Z6] using h
theorem ue {cs:List AV}{v:Value}(h:Z6 σ (.X' cs) v):∃vs,v=.tuple vs/\Z5 σ cs vs.toList:=by simpa only[Z6] using h
theorem Rw {r:Nat}{v:Value}(h:Z6 σ (.map r) v):∃p,σ r=some p/\v=.map (some p.b):=by simpa only[Z6] using h
theorem Qv {es:List AV}{v:Value}(h:Z6 σ (.fz es) v):∃a c us,v=.slice (some a) es.length c/\es.length<=c/\Z5 σ.bare es us/\(us=[]\/Np σ a us):=by simpa only[Z6] using h
theorem NU {cs:List AV}{o:Nat}{v:Value}(h:Z6 σ (.fp cs o) v):∃b base us cc e fz,v=.pointer (some ⟨b,base+o,none⟩)/\σ.fz b=some (.cells cc e fz)/\Z5 σ.bare cs us/\∀i u,us[i]? = some u->cc[base+i]? = some u:=by simpa only[Z6] using h
theorem EI {α β:Type}(f:α->List β)(n:Nat):∀(l:List α),(∀u∈l,(f u).length=n)->∀(i j:Nat) (u:α),l[i]? = some u->j<n->(l.flatMap f)[i*n+j]? = (f u)[j]?
 |[],_,i,j,u,h,_=>by simp at h
 |x::l,hl,0,j,u,h,hj=>by
  simp at h;subst h;have:=hl x (aeZ ..);rw[afn,Nat.zero_mul,ad4,afo (by omega)]
 |x::l,hl,i+1,j,u,h,hj=>by
  simp at h;have hx:=hl x (aeZ ..);rw[afn,afO (by rw[hx,Nat.add_mul];omega),hx,Nat.add_mul,afu,show i*n+n+j-n=i*n+j by omega];exact EI f n l (fun u hu=>hl u (abc _ hu)) i j u h hj
theorem Yz (b o n:Nat):(⟨b,o,none⟩:Addr).add n=⟨b,o+n,none⟩:=by
 unfold Addr.add;split
 ·subst_vars;rfl
 ·rfl
include hX
theorem Ja {t:TypeId}{x:AV}{v:Value}{f:Nat}{a:AV}(hx:Z6 σ x v)(h:T0 X t x f=some a):Wz P w σ (Instr.fieldAt t v f) a:=by
 unfold T0 at h
 split at h
 ·rename_i fs b o hu
  split at h
  ·rename_i fd hf
   split at h
   ·rename_i n hs
    cases h
    obtain⟨p,hp,rfl⟩:=Yf hx;refine⟨.pointer (some ⟨p.b,p.sh+(o+fd.offset),none⟩),?_,?_⟩
    ·simp only[Instr.fieldAt,Sem.run_bind,ZU (hX.Zt _ _ hu),Result.andThen_ok,hf,Instr.sureAddr,Sem.run_pure,fieldPlace,Zj hX hs];simp[Yz,aeX]
    ·simp only[Z6];exact⟨p,hp,rfl⟩
   ·cases h
  ·cases h
 ·rename_i fs c o hu
  split at h
  ·rename_i fd hf
   split at h
   ·rename_i n hs
    cases h
    obtain⟨b,base,us,cc,e,fz,rfl,h1,h2,h3⟩:=NU hx;refine⟨.pointer (some ⟨b,base+(o+fd.offset),none⟩),?_,?_⟩
    ·simp only[Instr.fieldAt,Sem.run_bind,ZU (hX.Zt _ _ hu),Result.andThen_ok,hf,Instr.sureAddr,Sem.run_pure,fieldPlace,Zj hX hs];simp[Yz,aeX]
    ·simp only[Z6];exact⟨b,base,us,cc,e,fz,rfl,h1,h2,h3⟩
   ·cases h
  ·cases h
 ·cases h
theorem I_ {t:TypeId}{x i:AV}{v u:Value}{a:AV}(hx:Z6 σ x v)(hi:Z6 σ i u)(h:Xl X t x i=some a):Wz P w σ (Instr.indexAt t v u) a:=by
 unfold Xl at h
 split at h
 ·rename_i k i;have:=Zx hi;subst this
  split at h
  ·rename_i e b o len cap Xo hu
   split at h
   ·rename_i Zm
    split at h
    ·rename_i n hs
     cases h
     obtain⟨ad,c,rfl,E8⟩:=Vk hx;obtain⟨p,hp,D1,_⟩:=E8.at_;have hlen:=E8.len;have hc:c≠0:=by omega
     have:=D1 hc;subst this;refine⟨.pointer (some ⟨p.b,p.sh+(o+i.toNat*n),none⟩),?_,?_⟩
     ·simp only[Instr.indexAt,asIntOf,Sem.run_bind,Sem.run_pure,Result.andThen_ok,ZU (hX.Zt _ _ hu),Zm,and_self,if_true,Zj hX hs];simp[Yz,aeX]
     ·simp only[Z6];exact⟨p,hp,rfl⟩
    ·cases h
   ·cases h
  ·rename_i len e b o hu
   split at h
   ·rename_i Zm
    split at h
    ·rename_i n hs
     cases h
     obtain⟨p,hp,rfl⟩:=Yf hx;refine⟨.pointer (some ⟨p.b,p.sh+(o+i.toNat*n),none⟩),?_,?_⟩
     ·simp only[Instr.indexAt,asIntOf,Sem.run_bind,Sem.run_pure,Result.andThen_ok,ZU (hX.Zt _ _ hu),Instr.sureAddr,Zm,and_self,if_true,Zj hX hs];simp[Yz,aeX]
     ·simp only[Z6];exact⟨p,hp,rfl⟩
    ·cases h
   ·cases h
  ·rename_i e es hu
   split at h
   ·rename_i h0
    split at h
    ·rename_i x n Ue hs
     split at h
     ·rename_i az
      cases h
      obtain⟨a,c,us,rfl,qS,UO,U8⟩:=Qv hx;obtain⟨u,Jn,OX⟩:=UO.get _ _ Ue;have Zm:i.toNat<es.length:=(ae6.1 Ue).1;have T8:=XP OX;have hun:u.cells.size=n:=by have:=T8.length;simpa[az.1] using this.symm
      rcases U8 with rfl|⟨MD,cc,ee,fz,m,g1,g2,g3,g4⟩
      ·simp at Jn
      ·have hm:u.cells.size=m:=g3 u (afl Jn);have BM:m=n:=by omega
       subst BM;have ZQ:¬(m=0):=g2;obtain⟨ab,ao,asp⟩:=a;simp only at MD g1 g4;subst MD;refine⟨.pointer (some ⟨ab,ao+i.toNat*m+0,none⟩),?_,?_⟩
       ·have jS:0<=i/\i<(es.length:Int):=⟨h0,by omega⟩;simp only[Instr.indexAt,asIntOf,Sem.run_bind,Sem.run_pure,Result.andThen_ok,ZU (hX.Zt _ _ hu),jS,and_self,if_true,Zj hX hs];simp[Yz]
       ·simp only[Z6];refine⟨ab,ao+i.toNat*m,u.cells.toList,cc,ee,fz,rfl,g1,T8,fun j y hj=>?_⟩;have hjm:j<m:=by rw[<-hm];exact (ae6.1 hj).1
        have:=EI (fun u:Value=>u.cells.toList) m us (fun u hu=>by simpa using g3 u hu) i.toNat j u Jn hjm;rw[hj] at this;rw[aeX];exact g4 _ _ this
     ·cases h
    ·cases h
   ·cases h
  ·rename_i len e c o hu
   split at h
   ·rename_i Zm
    split at h
    ·rename_i n hs
     cases h
     obtain⟨b,base,us,cc,ee,fz,rfl,h1,h2,h3⟩:=NU hx;refine⟨.pointer (some ⟨b,base+(o+i.toNat*n),none⟩),?_,?_⟩
     ·simp only[Instr.indexAt,asIntOf,Sem.run_bind,Sem.run_pure,Result.andThen_ok,ZU (hX.Zt _ _ hu),Instr.sureAddr,Zm,and_self,if_true,Zj hX hs];simp[Yz,aeX]
     ·simp only[Z6];exact⟨b,base,us,cc,ee,fz,rfl,h1,h2,h3⟩
    ·cases h
   ·cases h
  ·cases h
 ·cases h
theorem SP {t:TypeId}{cs:List AV}{vs:Array Value}{off:Nat}{a:AV}(hv:Z5 σ cs vs.toList)(h:T_ X t cs off=some a):Wz P w σ (part t vs off) a:=by
 unfold T_ at h
 split at h
 ·rename_i OP
  split at h
  ·rename_i n hs
   split at h
   ·rename_i r hr
    cases h
    refine⟨.agg (vs.extract off (off+n)),?_,?_⟩
    ·simp only[part,Sem.run_bind,Vu hX OP,Result.andThen_ok,if_true,Zj hX hs,Sem.run_pure]
    ·simp only[Z6];refine⟨_,rfl,?_⟩;obtain⟨h1,h2⟩:=X8 hr;have hlen:=hv.length;have WU:off+n<=vs.size\/n=0:=by
      by_cases hn:n=0
      ·exact .inr hn
      ·have:=(h2 (n-1) (by omega)).2;simp at hlen;left;omega
     apply Z5.Hm
     ·simp[h1];omega
     ·intro i hi Uz;have R4:i<n:=by omega
      obtain⟨h3,h4⟩:=h2 i R4;obtain⟨u,Jn,OX⟩:=Z5.get hv (off+i) cs[off+i] (aaa h4);have e1:r[i]=cs[off+i]:=by
       rw[aaa hi,aaa h4] at h3;exact Option.some.inj h3
      rw[e1];have e2:(vs.extract off (off+n)).toList[i]=u:=by
       have:off+i<vs.size:=by simp at hlen;omega
       simp only[Array.getElem_toList,Array.getElem_extract];rw[afj,afp this] at Jn;exact Option.some.inj Jn
      rw[e2];exact OX
   ·cases h
  ·cases h
 ·rename_i OP;obtain⟨u,Jn,OX⟩:=Z5.get hv _ _ h;refine⟨u,?_,OX⟩;rw[afj] at Jn;simp only[part,Sem.run_bind,Vu hX OP,Result.andThen_ok,ae1,if_false,Jn,Sem.run_pure]
 ·cases h
theorem yz {t:TypeId}{x i:AV}{v u:Value}{a:AV}(hx:Z6 σ x v)(hi:Z6 σ i u)(h:Ky X t x i=some a):Wz P w σ (Instr.index t v u) a:=by
 unfold Ky at h
 split at h
 ·rename_i k i;have:=Zx hi;subst this
  split at h
  ·rename_i len e cs hu
   split at h
   ·rename_i Zm
    split at h
    ·rename_i n hs;obtain⟨vs,rfl,Uy⟩:=XS hx;obtain⟨r,xQ,sy⟩:=SP hX (w:=w) Uy h;refine⟨r,?_,sy⟩;simp only[Instr.index,asIntOf,Sem.run_bind,Sem.run_pure,Result.andThen_ok,ZU (hX.Zt _ _ hu),Zm,and_self,if_true,Zj hX hs,xQ]
    ·cases h
   ·cases h
  ·rename_i b hu
   split at h
   ·rename_i h0
    split at h
    ·rename_i c hc
     cases h
     obtain⟨bs,rfl,rfl⟩:=YA hx;refine⟨.int .u8 c.toNat,?_,by simp[Z6]⟩;have Zm:i.toNat<bs.size:=by
      have:=(ae6.1 hc).1;rw[afd] at this;exact this
     have hb:bs[i.toNat]? = some c:=by
      rw[ByteArray.getElem?_lt' _ _ Zm];obtain⟨h1,h2⟩:=ae6.1 hc
      simpa[ByteArray.getElem_eq_getElem_data] using h2
     simp only[Instr.index,asIntOf,Sem.run_bind,Sem.run_pure,Result.andThen_ok,ZU (hX.Zt _ _ hu),h0,if_true,hb]
    ·cases h
   ·cases h
  ·cases h
 ·cases h
theorem yy {t:TypeId}{fs:Array Field}{cs:List AV}{v:Value}{f:Nat}{fd:Field}{a:AV}(hu:X.Zt t=some (.struct fs))(hx:Z6 σ (.agg cs) v)(hf:fs[f]? = some fd)(h:T_ X fd.type cs fd.offset=some a) :
  Wz P w σ (Instr.field t v f) a:=by
 obtain⟨vs,rfl,Uy⟩:=XS hx;obtain⟨r,xQ,sy⟩:=SP hX (w:=w) Uy h;refine⟨r,?_,sy⟩;simp only[Instr.field,Sem.run_bind,ZU (hX.Zt _ _ hu),Result.andThen_ok,hf,asAgg,Sem.run_pure,xQ]
omit hX in
theorem EH {vs:List AV}{v:Value}{i:Nat}{a:AV}(hx:Z6 σ (.X' vs) v)(h:vs[i]? = some a):Wz P w σ (Instr.extract v i) a:=by
 obtain⟨us,rfl,PS⟩:=ue hx;obtain⟨u,Jn,OX⟩:=Z5.get PS _ _ h;rw[afj] at Jn;exact⟨u,by simp[Instr.extract,Jn],OX⟩
end
end Go.Am
namespace Go.Am
open Go
section
variable [Stat] {X:Cx}{P:Program}(hX:Xp X P){w:World}{σ:Sg}
theorem bytes_beq (a b:ByteArray):(a==b)=(a.data.toList==b.data.toList):=by
 rw[beq_toListBytes,ByteArray.toList_eq,ByteArray.toList_eq]
def SQ (d:Nat)(elem:TypeId)(n:Nat)(xs ys:Array Value):List Nat->Sem Bool
 |[]=>pure true
 |i::l=>do
  let a <-part elem xs (i*n)
  let b <-part elem ys (i*n)
  let r <-Op.equalIn d elem a b
  if (!r)=true then pure false else SQ d elem n xs ys l
theorem run_equalIn_array {d:Nat}{t:TypeId}{len:Nat}{elem:TypeId}{n:Nat}{xs ys:Array Value}(ht:P.underlying t=some (.array len elem))
  (hs:∀w,(sizeOf elem).run P w=.ok n w):(Op.equalIn (d+1) t (.agg xs) (.agg ys)).run P w=(SQ d elem n xs ys (List.range' 0 len)).run P w:=by
 simp only[Op.equalIn,Sem.run_bind,ZU ht,Result.andThen_ok,hs];rw[Std.Legacy.Range.forIn_eq_forIn_range'];simp only[Std.Legacy.Range.size,Nat.sub_zero,Nat.add_sub_cancel,Nat.div_one];generalize List.range' 0 len=l
 induction l generalizing w with
 |nil=>simp[SQ]
 |cons i l ih =>
  simp only[List.forIn_cons,SQ,Sem.run_bind,Sem.run_ite];generalize (part elem xs (i*n)).run P w=r1
  cases r1 with
  |halt x w1=>simp[Result.andThen]
  |ok a w1 =>
   simp only[Result.andThen_ok];generalize (part elem ys (i*n)).run P w1=r2
   cases r2 with
   |halt x w1=>simp[Result.andThen]
   |ok b w2 =>
    simp only[Result.andThen_ok];generalize (Op.equalIn d elem a b).run P w2=r3
    cases r3 with
    |halt x w1=>simp[Result.andThen]
    |ok r w3 =>
     cases r
     ·simp only[Result.andThen_ok,Bool.not_false,if_true,Sem.run_pure]
     ·simp only[Result.andThen_ok,Bool.not_true,ae1,if_false,Sem.run_pure];exact ih
include hX
theorem LC:∀(d:Nat) (t:TypeId) (x y:AV) (b:Bool),F0 X d t x y=some b->∀(u v:Value),Z6 σ x u->Z6 σ y v->∀D,d<=D->∀w,(Op.equalIn D t u v).run P w=.ok b w:=by
 intro d
 induction d with
 |zero=>intro t x y b h;simp[F0] at h
 |succ d ih =>
  intro t x y b h u v hu hv D hD w;obtain⟨D,rfl⟩:∃D',D=D'+1:=⟨D-1,by omega⟩;have hD':d<=D:=by omega
  unfold F0 at h
  split at h <;> try (cases h;done)
  ·rename_i ht
   cases h;rw[X7 hu,X7 hv]
   exact run_equalIn_bool w D t _ _ (hX.Zt _ _ ht)
  ·rename_i k1 k a k' b' ht
   split at h
   ·rename_i hk;cases h;rw[Zx hu,Zx hv];subst hk;exact run_equalIn_int w D t _ _ _ _ (hX.Zt _ _ ht)
   ·cases h
  ·rename_i a b' ht
   cases h
   obtain⟨p,rfl,rfl⟩:=YA hu;obtain⟨q,rfl,rfl⟩:=YA hv;rw[run_equalIn_string w D t _ _ (hX.Zt _ _ ht),ByteArray.toList_eq,ByteArray.toList_eq]
  ·rename_i e ht
   cases h;simp only[Z6] at hu hv;subst hu;subst hv
   simp[Op.equalIn,ZU (hX.Zt _ _ ht)]
  ·rename_i e b o ht
   cases h;obtain⟨p,_,rfl⟩:=Yf hv;simp only[Z6] at hu;subst hu
   simp[Op.equalIn,ZU (hX.Zt _ _ ht)]
  ·rename_i e b o ht
   cases h;obtain⟨p,_,rfl⟩:=Yf hu;simp only[Z6] at hv;subst hv
   simp[Op.equalIn,ZU (hX.Zt _ _ ht)]
  ·rename_i e b1 o1 b2 o2 ht
   split at h
   ·rename_i n hs
    split at h
    ·rename_i hb;subst hb;cases h;obtain⟨p,hp,rfl⟩:=Yf hu;obtain⟨q,hq,rfl⟩:=Yf hv;rw[hp] at hq;cases hq;simp only[Op.equalIn,Sem.run_bind,ZU (hX.Zt _ _ ht),Result.andThen_ok,Zj hX hs];have hn:n.succ≠0:=Nat.succ_ne_zero n;rw[if_pos hn];simp only[sameAddr,beq_self_eq_true,if_true];show Result.ok (({ block:=p.b,off:=p.sh+o1 }:Addr)=={ block:=p.b,off:=p.sh+o2 }) w=Result.ok (o1==o2) w
     congr 1
     rw[Bool.eq_iff_iff];simp
    ·cases h
   ·cases h
  all_goals first
   |(rename_i ht;cases h;simp only[Z6] at hu hv;subst hu;subst hv;simp[Op.equalIn,ZU (hX.Zt _ _ ht)];done)
   |(rename_i ht;cases h;simp only[Z6] at hu hv;obtain⟨_,_,rfl,_⟩:=hu;subst hv;simp[Op.equalIn,ZU (hX.Zt _ _ ht)];done)
   |(rename_i ht;cases h;simp only[Z6] at hu hv;obtain⟨_,_,rfl,_⟩:=hv;subst hu;simp[Op.equalIn,ZU (hX.Zt _ _ ht)];done)
   |(rename_i ht;cases h;simp only[Z6] at hu hv;obtain⟨_,_,rfl⟩:=hu;subst hv;simp[Op.equalIn,ZU (hX.Zt _ _ ht)];done)
   |(rename_i ht;cases h;simp only[Z6] at hu hv;obtain⟨_,_,rfl⟩:=hv;subst hu;simp[Op.equalIn,ZU (hX.Zt _ _ ht)];done)
   |(rename_i ht;cases h;simp only[Z6] at hu hv;obtain⟨_,_,_,rfl,_⟩:=hu;subst hv;simp[Op.equalIn,ZU (hX.Zt _ _ ht)];done)
   |(rename_i ht;cases h;simp only[Z6] at hu hv;obtain⟨_,_,_,rfl,_⟩:=hv;subst hu;simp[Op.equalIn,ZU (hX.Zt _ _ ht)];done)
   |(rename_i ht;cases h;simp only[Z6] at hu hv;obtain⟨_,rfl,_⟩:=hu;subst hv;simp[Op.equalIn,ZU (hX.Zt _ _ ht)];done)
   |(rename_i ht;cases h;simp only[Z6] at hu hv;obtain⟨_,rfl,_⟩:=hv;subst hu;simp[Op.equalIn,ZU (hX.Zt _ _ ht)];done)
   |skip
  ·
   rename_i fs a b' ht
   split at h
   ·rename_i Yv;obtain⟨us,rfl,PS⟩:=XS hu;obtain⟨vs,rfl,Uy⟩:=XS hv;have hfo:P.fieldsOf t=fs:=by unfold Program.fieldsOf;rw[hX.Zt _ _ ht]
    rw[run_equalIn_struct w D t us vs (by rw[hfo];exact hX.Zt _ _ ht) (hX.Ho _ Yv).2,hfo];generalize fs.toList=l at h;clear hfo ht
    induction l generalizing w with
    |nil=>simp only[QD] at h;cases h;simp[Op.eqFields]
    |cons f l rD =>
     simp only[QD] at h
     split at h
     ·cases h
     ·rename_i hn
      split at h
      ·rename_i x1 y1 h1 h2;obtain⟨x2,hx1,nJ⟩:=SP hX (w:=w) PS h1;obtain⟨y2,fY,nT⟩:=SP hX (w:=w) Uy h2;simp only[Op.eqFields,ne_eq,hn,not_false_eq_true,if_true,Sem.run_bind,hx1,Result.andThen_ok,fY]
       split at h
       ·rename_i he;rw[ih _ _ _ _ he _ _ nJ nT D hD' w];simp only[Result.andThen_ok,Bool.not_true,ae1,if_false];exact rD w h
       ·rename_i he
        cases h
        rw[ih _ _ _ _ he _ _ nJ nT D hD' w];simp
       ·cases h
      ·cases h
   ·cases h
  ·
   rename_i len e a b' ht
   split at h
   ·rename_i n hs;obtain⟨us,rfl,PS⟩:=XS hu;obtain⟨vs,rfl,Uy⟩:=XS hv;rw[run_equalIn_array (hX.Zt _ _ ht) (fun w=>Zj hX hs)];clear ht;generalize 0=i at h
    induction len generalizing w i with
    |zero=>simp only[Ty] at h;cases h;simp[SQ]
    |succ len rD =>
     simp only[Ty] at h
     split at h
     ·rename_i x1 y1 h1 h2;obtain⟨x2,hx1,nJ⟩:=SP hX (w:=w) PS h1;obtain⟨y2,fY,nT⟩:=SP hX (w:=w) Uy h2;rw[List.range'_succ];simp only[SQ,Sem.run_bind,hx1,Result.andThen_ok,fY]
      split at h
      ·rename_i he;rw[ih _ _ _ _ he _ _ nJ nT D hD' w];simp only[Result.andThen_ok,Bool.not_true,ae1,if_false];exact rD w _ h
      ·rename_i he
       cases h
       rw[ih _ _ _ _ he _ _ nJ nT D hD' w];simp
      ·cases h
     ·cases h
   ·cases h
end
end Go.Am
namespace Go.Am
open Go
section
variable [Stat] {X:Cx}{P:Program}(hX:Xp X P){w:World}{σ:Sg}
theorem Ck (a b:List UInt8):Uv a b=Op.bytesLess a b:=by
 induction a generalizing b with
 |nil=>cases b <;> simp[Uv,Op.bytesLess]
 |cons x a ih=>cases b with
  |nil=>simp[Uv,Op.bytesLess]
  |cons y b=>simp[Uv,Op.bytesLess,ih]
theorem tH {op:BinOp}{t:TypeId}{k:IntKind}{a b:Int}{r:AV}(h:RH op k a b=some r):Wz P w σ (binOp op t (.int k a) (.int k b)) r:=by
 cases op <;> simp only[RH] at h <;> try (cases h;done)
 all_goals first
  |(cases h;exact⟨_,by simp[binOp,Op.intArith,Op.intCmp,Op.intBits];rfl,by simp[Z6]⟩)
  |(split at h
    ·cases h
    ·rename_i hb;cases h;exact⟨_,by simp[binOp,Op.intDiv,hb];rfl,by simp[Z6]⟩)
theorem JV {op:BinOp}{t:TypeId}{k yk:IntKind}{a b:Int}{r:AV}(ho:op=.shl\/op=.shr)(h:PE op k a b=some r):Wz P w σ (binOp op t (.int k a) (.int yk b)) r:=by
 unfold PE at h
 split at h
 ·cases h
 ·rename_i hb;rcases ho with rfl|rfl
  ·cases h;exact⟨_,by simp[binOp,Op.shift,hb];rfl,by simp[Z6]⟩
  ·cases h;exact⟨_,by simp[binOp,Op.shift,hb];rfl,by simp[Z6]⟩
theorem tG {op:BinOp}{t:TypeId}{a b:ByteArray}{r:AV}(h:kH op a.data.toList b.data.toList=some r):Wz P w σ (binOp op t (.string a) (.string b)) r:=by
 cases op <;> simp only[kH] at h <;> try (cases h;done)
 case add =>
  split at h
  ·rename_i Zm
   cases h
   refine⟨.string (a++b),?_,?_⟩
   ·have h1:a.size=a.data.toList.length:=by rw[afd];rfl
    have h2:b.size=b.data.toList.length:=by rw[afd];rfl
    have:¬((a.size+b.size:Nat):Int)>IntKind.i64.max:=by rw[h1,h2,IntKind.max_i64];omega
    simp only[binOp,Op.stringOp,this,if_false,Sem.run_pure]
   ·simp only[Z6];exact⟨_,rfl,by simp[ByteArray.data_append]⟩
  ·cases h
 all_goals
  cases h
  exact⟨_,by simp only[binOp,Op.stringOp,Sem.run_pure];rfl,by simp[Z6,Ck,ByteArray.toList_eq]⟩
theorem Eu {k:FloatKind}{n:Nat}{v:Value}(h:Z6 σ (.Gt k n) v):v=.float k n:=by simpa only[Z6] using h
theorem tF {op:BinOp}{t:TypeId}{k:FloatKind}{a b:Nat}{r:AV}(h:kG op k a b=some r):Wz P w σ (binOp op t (.float k a) (.float k b)) r:=by
 cases op <;> simp only[kG] at h <;> try (cases h;done)
 all_goals first
  |(cases h;exact⟨_,by simp[binOp,Op.floatCmp];rfl,by simp[Z6]⟩)
  |(obtain⟨q,hq,rfl⟩:=afL.1 h
    exact⟨.float k q,by simp[binOp,Op.floatArith,hq],by simp[Z6]⟩)
theorem Tf {op:BinOp}{t:TypeId}{xo yo:Operand}{u v:Value}(h1:¬(u=.nilIface/\v=.nilIface))(h2:∀a b,¬(u=.agg a/\v=.agg b)):(eqGuard op t xo yo u v).run P w=.ok () w:=by
 have:eqGuard op t xo yo u v=pure ():=by
  cases u
  case nilIface=>cases v <;> first|(exact absurd ⟨rfl,rfl⟩ h1)|(cases op <;> rfl)
  case agg a=>cases v <;> first|(exact absurd ⟨rfl,rfl⟩ (h2 _ _))|(cases op <;> rfl)
  all_goals (cases op <;> rfl)
 rw[this];rfl
theorem Le {x:AV}{k:IntKind}{n:Int}(h:Z6 σ x (.int k n)):x=.int k n:=by
 cases x <;> simp only[Z6] at h <;> first|(cases h;rfl)|(cases h;done)|(obtain⟨_,h,_⟩:=h;cases h;done)|(obtain⟨_,_,h⟩:=h;cases h;done)|(obtain⟨_,_,h,_⟩:=h;cases h;done)|(obtain⟨_,_,_,h,_⟩:=h;cases h;done)|(obtain⟨_,_,_,_,_,_,h,_⟩:=h;cases h;done)
theorem Ld {x:AV}{k:FloatKind}{n:Nat}(h:Z6 σ x (.float k n)):x=.Gt k n:=by
 cases x <;> simp only[Z6] at h <;> first|(cases h;rfl)|(cases h;done)|(obtain⟨_,h,_⟩:=h;cases h;done)|(obtain⟨_,_,h⟩:=h;cases h;done)|(obtain⟨_,_,h,_⟩:=h;cases h;done)|(obtain⟨_,_,_,h,_⟩:=h;cases h;done)|(obtain⟨_,_,_,_,_,_,h,_⟩:=h;cases h;done)
theorem Ma {x:AV}{k:FloatKind}{n m:Nat}(h:Z6 σ x (.complex k n m)):False:=by
 cases x <;> simp only[Z6] at h <;> first|(cases h;done)|(obtain⟨_,h,_⟩:=h;cases h;done)|(obtain⟨_,_,h⟩:=h;cases h;done)|(obtain⟨_,_,h,_⟩:=h;cases h;done)|(obtain⟨_,_,_,h,_⟩:=h;cases h;done)|(obtain⟨_,_,_,_,_,_,h,_⟩:=h;cases h;done)
theorem Lc {x:AV}{s:ByteArray}(h:Z6 σ x (.string s)):x=.str s.data.toList:=by
 cases x <;> simp only[Z6] at h <;> first|(cases h;done)|(obtain⟨_,h,e⟩:=h;cases h;rw[<-e];done)|(obtain⟨_,h,_⟩:=h;cases h;done)|(obtain⟨_,_,h⟩:=h;cases h;done)|(obtain⟨_,_,h,_⟩:=h;cases h;done)|(obtain⟨_,_,_,h,_⟩:=h;cases h;done)|(obtain⟨_,_,_,_,_,_,h,_⟩:=h;cases h;done)
theorem Et {x:AV}(h:Z6 σ x .nilIface):x=.TH:=by
 cases x <;> simp only[Z6] at h <;> first|rfl|(cases h;done)|(obtain⟨_,h,_⟩:=h;cases h;done)|(obtain⟨_,_,h⟩:=h;cases h;done)|(obtain⟨_,_,h,_⟩:=h;cases h;done)|(obtain⟨_,_,_,h,_⟩:=h;cases h;done)|(obtain⟨_,_,_,_,_,_,h,_⟩:=h;cases h;done)
theorem Aw {x:AV}{a:Array Value}(h:Z6 σ x (.agg a)):∃c,x=.agg c:=by
 cases x <;> simp only[Z6] at h <;> first|exact⟨_,rfl⟩|(cases h;done)|(obtain⟨_,h,_⟩:=h;cases h;done)|(obtain⟨_,_,h⟩:=h;cases h;done)|(obtain⟨_,_,h,_⟩:=h;cases h;done)|(obtain⟨_,_,_,h,_⟩:=h;cases h;done)|(obtain⟨_,_,_,_,_,_,h,_⟩:=h;cases h;done)
theorem RU {t:TypeId}{u v:Value}(h1:∀k a j b,¬(u=.int k a/\v=.int j b))(h2:∀a b,¬(u=.string a/\v=.string b))(h3:∀k a j b,¬(u=.float k a/\v=.float j b))(h4:∀k a c,u≠.complex k a c) :
  binOp .eql t u v=(do pure (.bool (<-Op.equal t u v)))/\binOp .neq t u v=(do pure (.bool (!(<-Op.equal t u v)))):=by
 cases u <;> cases v <;> first
  |(exact⟨rfl,rfl⟩)
  |(exact absurd ⟨rfl,rfl⟩ (h1 _ _ _ _))
  |(exact absurd ⟨rfl,rfl⟩ (h2 _ _))
  |(exact absurd ⟨rfl,rfl⟩ (h3 _ _ _ _))
  |(exact absurd rfl (h4 _ _ _))
include hX
theorem H9 {cst:Bool}{t:TypeId}{x y:AV}{b:Bool}{u v:Value}{xo yo:Operand}(hc:cst=(VJ xo||VJ yo))(hu:Z6 σ x u)(hv:Z6 σ y v)(h:Kz X cst t x y=some b)(op:BinOp) :
  (eqGuard op t xo yo u v).run P w=.ok () w/\(Op.equal t u v).run P w=.ok b w:=by
 unfold Kz at h
 split at h
 ·split at h
  ·rename_i aaC;have Ab:=hu;have iZ:=hv;simp only[Z6] at Ab iZ;subst Ab;subst iZ;refine⟨?_,LC hX _ _ _ _ _ h _ _ hu hv 10000 (by omega) w⟩;rw[hc] at aaC
   cases xo <;> cases yo <;> simp[VJ] at aaC <;> first
    |(rw[eqGuard_nil_constL];rfl)
    |(rw[eqGuard_nil_constR];rfl)
  ·cases h
 ·split at h
  ·rename_i Yv;obtain⟨us,Jn,_⟩:=XS hu;obtain⟨vs,Ix,_⟩:=XS hv;subst Jn;subst Ix;exact⟨run_eqGuard_agg w op t xo yo us vs (hX.Ho _ Yv).1,LC hX _ _ _ _ _ h _ _ hu hv 10000 (by omega) w⟩
  ·cases h
 ·rename_i h1 h2;refine⟨Tf ?_ ?_,LC hX _ _ _ _ _ h _ _ hu hv 10000 (by omega) w⟩
  ·rintro⟨rfl,rfl⟩;exact h1 (Et hu) (Et hv)
  ·rintro a b' ⟨rfl,rfl⟩;obtain⟨c,rfl⟩:=Aw hu;obtain⟨d,rfl⟩:=Aw hv;exact h2 c d rfl rfl
theorem tE {op:BinOp}{cst:Bool}{t:TypeId}{x y r:AV}{u v:Value}{xo yo:Operand}(hc:cst=(VJ xo||VJ yo))(hu:Z6 σ x u)(hv:Z6 σ y v)(h:X_ X op t cst x y=some r) :
  Wz P w σ (do eqGuard op t xo yo u v;binOp op t u v) r:=by
 unfold X_ at h
 split at h
 ·rw[Zx hu,Zx hv];obtain⟨q,hq,hr⟩:=JV (P:=P) (w:=w) (σ:=σ) (t:=t) (.inl rfl) h;exact⟨q,by simpa[eqGuard_shl] using hq,hr⟩
 ·rw[Zx hu,Zx hv];obtain⟨q,hq,hr⟩:=JV (P:=P) (w:=w) (σ:=σ) (t:=t) (.inr rfl) h;exact⟨q,by simpa[eqGuard_shr] using hq,hr⟩
 ·rename_i op k a k' b h1 h2
  split at h
  ·rename_i hk;subst hk;rw[Zx hu,Zx hv];obtain⟨q,hq,hr⟩:=tH (P:=P) (w:=w) (σ:=σ) (t:=t) h;exact⟨q,by simpa[eqGuard_at_int] using hq,hr⟩
  ·cases h
 ·obtain⟨p,rfl,rfl⟩:=YA hu;obtain⟨q,rfl,rfl⟩:=YA hv;obtain⟨q,hq,hr⟩:=tG (P:=P) (w:=w) (σ:=σ) (t:=t) h;exact⟨q,by simpa[eqGuard_at_string] using hq,hr⟩
 ·rename_i op k a k' b h1 h2
  split at h
  ·rename_i hk;subst hk;rw[Eu hu,Eu hv];obtain⟨q,hq,hr⟩:=tF (P:=P) (w:=w) (σ:=σ) (t:=t) h;refine⟨q,?_,hr⟩;rw[Sem.run_bind,Tf (fun h=>by cases h.1) (fun a b h=>by cases h.1)]
   simpa using hq
  ·cases h
 ·rename_i fx ig aX
  split at h
  ·rename_i b hb
   cases h
   obtain⟨g1,g2⟩:=H9 hX (w:=w) (xo:=xo) (yo:=yo) hc hu hv hb .eql;obtain⟨e1,e2⟩:=RU (t:=t) (u:=u) (v:=v)
    (by rintro k a j b' ⟨rfl,rfl⟩;exact fx _ _ _ _ (Le hu) (Le hv))
    (by rintro a b' ⟨rfl,rfl⟩;exact ig _ _ (Lc hu) (Lc hv))
    (by rintro k a j b' ⟨rfl,rfl⟩;exact aX _ _ _ _ (Ld hu) (Ld hv))
    (by rintro k a c rfl;exact Ma hu)
   refine⟨.bool b,?_,by simp[Z6]⟩;simp only[Sem.run_bind,g1,Result.andThen_ok,e1,g2,Sem.run_pure]
  ·cases h
 ·rename_i fx ig aX
  split at h
  ·rename_i b hb
   cases h
   obtain⟨g1,g2⟩:=H9 hX (w:=w) (xo:=xo) (yo:=yo) hc hu hv hb .neq;obtain⟨e1,e2⟩:=RU (t:=t) (u:=u) (v:=v)
    (by rintro k a j b' ⟨rfl,rfl⟩;exact fx _ _ _ _ (Le hu) (Le hv))
    (by rintro a b' ⟨rfl,rfl⟩;exact ig _ _ (Lc hu) (Lc hv))
    (by rintro k a j b' ⟨rfl,rfl⟩;exact aX _ _ _ _ (Ld hu) (Ld hv))
    (by rintro k a c rfl;exact Ma hu)
   refine⟨.bool !b,?_,by simp[Z6]⟩;simp only[Sem.run_bind,g1,Result.andThen_ok,e2,g2,Sem.run_pure]
  ·cases h
 ·cases h
omit hX in
theorem oR {op:UnOp}{x r:AV}{u:Value}(hu:Z6 σ x u)(h:kF op x=some r):Wz P w σ (Op.unary op u) r:=by
 unfold kF at h
 split at h
 ·rw[Zx hu];cases h;exact⟨_,by simp[Op.unary,Op.intArith];rfl,by simp[Z6]⟩
 ·rw[Zx hu];simp only[RH] at h;cases h;exact⟨_,by simp[Op.unary,Op.intBits];rfl,by simp[Z6]⟩
 ·rw[X7 hu];cases h;exact⟨_,by simp[Op.unary];rfl,by simp[Z6]⟩
 ·cases h
end
end Go.Am
namespace Go.Am
open Go
section
variable [Stat] {X:Cx}{P:Program}(hX:Xp X P){w:World}{σ:Sg}
theorem Du {x:Option AV}{xv:Option Value}{Dt y r:Nat}(hx:match x,xv with|none,none=>True|some a,some v=>Z6 σ a v|_,_=>False)(h:Y5 x Dt y=some r) :
  (x=none/\xv=none/\r=Dt)\/∃k i,xv=some (.int k i)/\0<=i/\i<=(y:Int)/\r=i.toNat/\r<=y/\∃k',x=some (.int k' i):=by
 unfold Y5 at h
 split at h
 ·cases xv with
  |none=>cases h;exact .inl ⟨rfl,rfl,rfl⟩
  |some v=>exact hx.elim
 ·rename_i k i
  split at h
  ·rename_i hi
   cases xv with
   |none=>exact hx.elim
   |some v =>
    have:=Zx (σ:=σ) hx;subst this
    cases h
    exact .inr ⟨k,i,rfl,hi.1,hi.2,rfl,by omega,_,rfl⟩
  ·cases h
 ·cases h
def Ds (σ:Sg):Option AV->Option Value->Prop
 |none,none=>True
 |some a,some v=>Z6 σ a v
 |_,_=>False
theorem Wc {x:Option AV}{xv:Option Value}{Dt y r:Nat}(hx:Ds σ x xv)(h:Y5 x Dt y=some r) :
  (x=none/\xv=none/\r=Dt)\/∃k i,xv=some (.int k i)/\0<=i/\i<=(y:Int)/\r=i.toNat/\r<=y/\∃k',x=some (.int k' i):=by
 refine Du (σ:=σ) ?_ h
 cases x <;> cases xv <;> exact hx
theorem T7 {P:Program}{w:World}{isSlice:Bool}{len cap:Nat}{lo hi:Option AV}{lv hv:Option Value}{h l top:Nat}(Hq:Ds σ lo lv)(D2:Ds σ hi hv)(hb:Y5 hi len top=some h)(lb:Y5 lo 0 h=some l)
  (dz:top<=cap)(hl:len<=cap):(Instr.sliceBounds isSlice len cap lv hv none).run P w=.ok (l,h,cap) w/\l<=h/\h<=cap:=by
 rcases Wc D2 hb with⟨rfl,rfl,rfl⟩|⟨k,i,rfl,h0,h1,rfl,h2,k',rfl⟩
 ·rcases Wc Hq lb with⟨rfl,rfl,rfl⟩|⟨kl,j,rfl,g0,g1,rfl,g2,kl',rfl⟩
  ·simp[Instr.sliceBounds,hl]
  ·simp[Instr.sliceBounds,Instr.sliceBound,asIntOf,g0,g1,hl,g2]
 ·have h3:i<=(cap:Int):=by omega
  have h4:i.toNat<=cap:=by omega
  have h5:(i.toNat:Int)=i:=Int.toNat_of_nonneg h0;rcases Wc Hq lb with⟨rfl,rfl,rfl⟩|⟨kl,j,rfl,g0,g1,rfl,g2,kl',rfl⟩
  ·simp[Instr.sliceBounds,Instr.sliceBound,asIntOf,h0,h3]
  ·rw[h5] at g1;have g3:j.toNat<=i.toNat:=by omega
   simp only[Instr.sliceBounds,Instr.sliceBound,asIntOf,Sem.run_bind,Sem.run_pure,Result.andThen_ok,h0,h3,g0,g1,h5,and_self,if_true];exact⟨trivial,g3,h4⟩
theorem extract_toList (bs:ByteArray)(l h:Nat):(bs.extract l h).data.toList=(bs.data.toList.take h).drop l:=by
 rw[ByteArray.data_extract,Array.toList_extract,List.extract_eq_take_drop,List.take_drop];by_cases hlh:l<=h
 ·rw[show l+(h-l)=h from by omega]
 ·rw[show h-l=0 from by omega];simp only[afD];rw[afT,afT]
  ·rw[afH];omega
  ·rw[afH];omega
theorem IF {α β:Type}(f:α->List β)(n:Nat):∀(l:List α),(∀u∈l,(f u).length=n)->∀k,(l.take k).flatMap f=(l.flatMap f).take (k*n)
 |[],_,k=>by simp
 |x::l,hl,0=>by simp
 |x::l,hl,k+1=>by
  have hx:=hl x (aeZ ..);rw[List.take_succ_cons,afn,afn,IF f n l (fun u hu=>hl u (abc _ hu)) k,List.take_append,hx,
   show (k+1)*n-n=k*n by rw[Nat.add_mul];omega,List.take_of_length_le (l:=f x) (by rw[hx,Nat.add_mul];omega)]
theorem IE {α β:Type}(f:α->List β)(n:Nat):∀(l:List α),(∀u∈l,(f u).length=n)->∀k,(l.drop k).flatMap f=(l.flatMap f).drop (k*n)
 |[],_,k=>by simp
 |x::l,hl,0=>by simp
 |x::l,hl,k+1=>by
  have hx:=hl x (aeZ ..);rw[List.drop_succ_cons,afn,IE f n l (fun u hu=>hl u (abc _ hu)) k,List.drop_append,hx,
   show (k+1)*n-n=k*n by rw[Nat.add_mul];omega,afT (as:=f x) (by rw[hx,Nat.add_mul];omega),afP]
theorem Z5.take {σ:Sg}:∀{x:List AV} {l:List Value},Z5 σ x l->∀k,Z5 σ (x.take k) (l.take k)
 |[],l,h,k=>by simp only[Z5] at h;simp[h,Z5]
 |a::x,l,h,0=>by simp[Z5]
 |a::x,l,h,k+1=>by
  simp only[Z5] at h;obtain⟨v,y,rfl,h1,h2⟩:=h;simp only[List.take_succ_cons,Z5];exact⟨v,y.take k,rfl,h1,h2.take k⟩
theorem Z5.drop {σ:Sg}:∀{x:List AV} {l:List Value},Z5 σ x l->∀k,Z5 σ (x.drop k) (l.drop k)
 |[],l,h,k=>by simp only[Z5] at h;simp[h,Z5]
 |a::x,l,h,0=>by simpa using h
 |a::x,l,h,k+1=>by
  simp only[Z5] at h;obtain⟨v,y,rfl,h1,h2⟩:=h
  simpa using h2.drop k
theorem zI {x:Option AV}{d y r:Nat}(h:Y5 x d y=some r)(hd:d<=y:=by exact aba _):r<=y:=by
 unfold Y5 at h
 split at h
 ·cases h;exact hd
 ·split at h
  ·cases h;omega
  ·cases h
 ·cases h
include hX
theorem Dr {t:TypeId}{x r:AV}{v:Value}{lo hi mx:Option AV}{lv hv mv:Option Value}(hx:Z6 σ x v)(Hq:Ds σ lo lv)(D2:Ds σ hi hv)(xU:Ds σ mx mv)(h:Sm X t x lo hi mx=some r) :
  Wz P w σ (Instr.sliceAt t v lv hv mv) r:=by
 unfold Sm at h
 split at h
 ·
  rename_i b hu;obtain⟨bs,rfl,rfl⟩:=YA hx
  split at h
  ·rename_i h' hb
   split at h
   ·rename_i l hl
    cases h
    cases mv with
    |some _=>exact xU.elim
    |none =>
     have WU:bs.data.toList.length=bs.size:=by rw[afd];rfl
     rw[WU] at hb;obtain⟨e,e1,e2⟩:=T7 (P:=P) (w:=w) (isSlice:=false) Hq D2 hb hl (aba _) (aba _);refine⟨.string (bs.extract l h'),?_,?_⟩
     ·simp[Instr.sliceAt,Instr.slice,ZU (hX.Zt _ _ hu),e]
     ·simp only[Z6];exact⟨_,rfl,extract_toList _ _ _⟩
   ·cases h
  ·cases h
 ·
  rename_i el b o len cap Xo hu;obtain⟨a,c,rfl,hlen,⟨p,hp,ha,kX⟩,LS⟩:=Vk hx;have dz:cap.getD len<=c:=by
   cases cap with
   |none=>exact hlen
   |some k=>exact Nat.le_of_eq (LS k rfl).symm
  have bd:∀(n l m:Nat),l<=m->m<=c->(if Xo=n then n else 0)≠0->p.sh+(o+l*n)+(m-l)*(if Xo=n then n else 0)<=p.n:=by
   intro n l m kV hmc hz
   split at hz
   ·rename_i hez;subst hez;have h1:=kX hz;rw[if_pos rfl];have h2:l*Xo+(m-l)*Xo=m*Xo:=by rw[<-Nat.add_mul];congr 1;omega
    have h3:m*Xo<=c*Xo:=Nat.mul_le_mul_right _ hmc;omega
   ·exact absurd rfl hz
  split at h
  ·
   rename_i n hs
   cases mv with
   |some _=>exact xU.elim
   |none =>
    split at h
    ·rename_i h' hb
     split at h
     ·rename_i l hl
      cases h
      obtain⟨e,e1,e2⟩:=T7 (P:=P) (w:=w) (isSlice:=true) Hq D2 hb hl dz hlen;refine⟨.slice (if c=l then some a else some (a.add (l*n))) (h'-l) (c-l),?_,?_⟩
      ·simp[Instr.sliceAt,Instr.slice,ZU (hX.Zt _ _ hu),e,Zj hX hs]
      ·simp only[Z6];refine⟨if c=l then a else a.add (l*n),c-l,?_,by omega,⟨p,hp,?_,?_⟩,?_⟩
       ·split <;> rfl
       ·intro ZQ;rw[if_neg (by omega),ha (by omega),Yz,aeX]
       ·exact bd n l c (by omega) (aba _)
       ·intro k hk
        cases cap with
        |none=>cases hk
        |some q=>have:=LS q rfl;simp at hk;omega
     ·cases h
    ·cases h
  ·
   rename_i n m hs
   cases mv with
   |none=>exact xU.elim
   |some mv =>
    split at h
    ·rename_i m' Uz hm
     split at h
     ·rename_i h' hb
      split at h
      ·rename_i l hl
       cases h
       rcases Wc (x:=some m) (xv:=some mv) xU hm with⟨e,_,_⟩|⟨km,im,e1,m0,m1,rfl,m2,_,_⟩
       ·cases e
       cases e1
       rcases Wc D2 hb with⟨e,_,_⟩|⟨kh,ih,rfl,h0,h1,rfl,h2,_,_⟩
       ·cases e
       have em:(im.toNat:Int)=im:=Int.toNat_of_nonneg m0;have eh:(ih.toNat:Int)=ih:=Int.toNat_of_nonneg h0;have sa:im<=(c:Int):=by omega
       have hr:∃l',(Instr.sliceBounds true len c lv (some (.int kh ih)) (some (.int km im))).run P w=.ok (l',ih.toNat,im.toNat) w/\l'=l/\l<=ih.toNat:=by
        rcases Wc Hq hl with⟨rfl,rfl,rfl⟩|⟨kl,j,rfl,g0,g1,rfl,g2,kl',rfl⟩
        ·exact⟨0,by simp only[Instr.sliceBounds,Instr.sliceBound,asIntOf,Sem.run_bind,Sem.run_pure,Result.andThen_ok,m0,sa,h0,h1,and_self,if_true],rfl,ae5 _⟩
        ·exact⟨j.toNat,by simp only[Instr.sliceBounds,Instr.sliceBound,asIntOf,Sem.run_bind,Sem.run_pure,Result.andThen_ok,m0,sa,h0,h1,g0,g1,and_self,if_true],rfl,g2⟩
       obtain⟨l',e,rfl,hle⟩:=hr;refine⟨.slice (if im.toNat=l' then some a else some (a.add (l'*n))) (ih.toNat-l') (im.toNat-l'),?_,?_⟩
       ·simp[Instr.sliceAt,Instr.slice,ZU (hX.Zt _ _ hu),e,Zj hX hs]
       ·simp only[Z6];refine⟨if im.toNat=l' then a else a.add (l'*n),im.toNat-l',?_,by omega,⟨p,hp,?_,?_⟩,?_⟩
        ·split <;> rfl
        ·intro ZQ;rw[if_neg (by omega),ha (by omega),Yz,aeX]
        ·exact bd n l' im.toNat (by omega) (by omega)
        ·intro k hk
         cases hk;rfl
      ·cases h
     ·cases h
    ·cases h
  ·cases h
 ·
  rename_i el hu;have PH:=hx;simp only[Z6] at PH;subst PH
  split at h
  ·rename_i n h' hs hb
   split at h
   ·rename_i l hl
    cases h
    cases mv with
    |some _=>exact xU.elim
    |none =>
     obtain⟨e,e1,e2⟩:=T7 (P:=P) (w:=w) (isSlice:=true) (len:=0) (cap:=0) Hq D2 hb hl (aba _) (aba _);refine⟨.slice none 0 0,?_,by simp[Z6]⟩;have e3:h'=0:=by omega
     subst e3;simp[Instr.sliceAt,Instr.slice,ZU (hX.Zt _ _ hu),e,Zj hX hs]
   ·cases h
  ·cases h
 ·
  rename_i el es hu;obtain⟨a,c,us,rfl,qS,UO,U8⟩:=Qv hx
  split at h
  ·rename_i n h' hs hb
   split at h
   ·rename_i l hl
    split at h
    ·rename_i X9
     cases h
     cases mv with
     |some _=>exact xU.elim
     |none =>
      obtain⟨e,e1,e2⟩:=T7 (P:=P) (w:=w) (isSlice:=true) Hq D2 hb hl qS qS;have hle:h'<=es.length:=zI hb;have IT:=UO.length;have WU:∀u∈us,u.cells.size=n:=by
       intro u Ab;obtain⟨i,hi⟩:=List.getElem?_of_mem Ab;have Zm:i<es.length:=by rw[IT];exact (ae6.1 hi).1
       obtain⟨u',h1,h2⟩:=UO.get i _ (aaa Zm);rw[hi] at h1;cases h1;have:=(XP h2).length;have h3:=ae9.1 X9 _ (ae2 Zm);simp at h3 this;omega
      refine⟨.slice (if c=l then some a else some (a.add (l*n))) (h'-l) (c-l),?_,?_⟩
      ·simp[Instr.sliceAt,Instr.slice,ZU (hX.Zt _ _ hu),e,Zj hX hs]
      ·simp only[Z6];refine⟨if c=l then a else a.add (l*n),c-l,(us.take h').drop l,?_,?_,?_,?_⟩
       ·have:((es.take h').drop l).length=h'-l:=by rw[afQ,afH];omega
        rw[this]
        split <;> rfl
       ·rw[afQ,afH];omega
       ·exact (UO.take h').drop l
       ·rcases U8 with rfl|⟨MD,cc,ee,fz,m,g1,g2,g3,g4⟩
        ·exact .inl (by simp)
        ·by_cases BG:c=l
         ·left
          rw[afT];rw[afH];omega
         ·right
          rw[if_neg BG];by_cases dy:us=[]
          ·subst dy;obtain⟨ab,ao,asp⟩:=a;simp only at MD g1;subst MD;rw[Yz];exact⟨rfl,cc,ee,fz,m,g1,g2,by simp,by simp⟩
          ·obtain⟨u,Ab⟩:=List.exists_mem_of_ne_nil us dy;have BM:m=n:=by rw[<-g3 u Ab,WU u Ab]
           subst BM;obtain⟨ab,ao,asp⟩:=a;simp only at MD g1 g4;subst MD;rw[Yz];refine⟨rfl,cc,ee,fz,m,g1,g2,fun u hu=>g3 u (List.mem_of_mem_take (List.mem_of_mem_drop hu)),fun i v hv=>?_⟩;show cc[ao+l*m+i]? = some v;rw[aeX];refine g4 _ _ ?_;have h1:=IF (fun u:Value=>u.cells.toList) m us (fun u hu=>by simpa using g3 u hu) h';have h2:=IE (fun u:Value=>u.cells.toList) m (us.take h') (fun u hu=>by simpa using g3 u (List.mem_of_mem_take hu)) l;rw[h2,h1,List.getElem?_drop,List.getElem?_take] at hv
           split at hv
           ·exact hv
           ·cases hv
    ·cases h
   ·cases h
  ·cases h
 ·
  rename_i n el b o hu;obtain⟨p,hp,rfl⟩:=Yf hx
  split at h
  ·rename_i z h' hs hb
   split at h
   ·rename_i l hl
    cases h
    cases mv with
    |some _=>exact xU.elim
    |none =>
     obtain⟨e,e1,e2⟩:=T7 (P:=P) (w:=w) (isSlice:=false) (len:=n) (cap:=n) Hq D2 hb hl (aba _) (aba _);refine⟨.slice (some (if n=l then ⟨p.b,p.sh+o,none⟩ else (⟨p.b,p.sh+o,none⟩:Addr).add (l*z))) (h'-l) (n-l),?_,?_⟩
     ·simp[Instr.sliceAt,Instr.sureAddr,ZU (hX.Zt _ _ hu),e,Zj hX hs]
     ·simp only[Z6];refine⟨_,n-l,rfl,by omega,⟨p,hp,?_,?_⟩,?_⟩
      ·intro ZQ;rw[if_neg (by omega),Yz,aeX]
      ·intro hz;exact absurd rfl hz
      ·intro k hk;cases hk;rfl
   ·cases h
  ·cases h
 ·cases h
end
end Go.Am
namespace Go.Am
open Go
section
variable [Stat] {X:Cx}{P:Program}(hX:Xp X P){w:World}{σ:Sg}
theorem Bp (off:Nat):∀(l:List Value) (k:Nat) (cells:Array Value),
  ((l.zipIdx k).foldl (fun cs (p:Value×Nat)=>cs.setIfInBounds (off+p.2) p.1) cells).size=cells.size /\
  (off+k+l.length<=cells.size->∀i,((l.zipIdx k).foldl (fun cs (p:Value×Nat)=>cs.setIfInBounds (off+p.2) p.1) cells)[i]? = if off+k<=i/\i<off+k+l.length then l[i-(off+k)]? else cells[i]?)
 |[],k,cells=>⟨rfl,fun _ i=>by rw[if_neg (by simp)];rfl⟩
 |v::l,k,cells=>by
  obtain⟨h1,h2⟩:=Bp off l (k+1) (cells.setIfInBounds (off+k) v);rw[List.zipIdx_cons,List.foldl_cons];refine⟨by rw[h1];simp,fun WU i=>?_⟩;have Zm:off+k<cells.size:=by simp at WU;omega
  rw[h2 (by simp at WU ⊢;omega) i];by_cases hi:off+(k+1)<=i/\i<off+(k+1)+l.length
  ·rw[if_pos hi,if_pos (by simp;omega)];rw[show i-(off+k)=(i-(off+(k+1)))+1 from by omega];simp
  ·rw[if_neg hi];by_cases he:i=off+k
   ·subst he;rw[if_pos (by simp),Nat.sub_self];simp[Zm]
   ·rw[if_neg (by simp;omega)];rw[Array.getElem?_setIfInBounds_ne (by omega)]
theorem Jo (off:Nat)(vs cells:Array Value):vs.zipIdx.foldl (fun cs (p:Value×Nat)=>cs.setIfInBounds (off+p.2) p.1) cells=(vs.toList.zipIdx 0).foldl (fun cs (p:Value×Nat)=>cs.setIfInBounds (off+p.2) p.1) cells:=by
 rw[<-Array.foldl_toList,Array.toList_zipIdx]
theorem zS {off:Nat}{xs cells c:List AV}{vs cs:Array Value}(h:lay off xs cells=some c)(hx:Z5 σ xs vs.toList)(hc:Z5 σ cells cs.toList)(hle:off+xs.length<=cells.length) :
  Z5 σ c (vs.zipIdx.foldl (fun cs (p:Value×Nat)=>cs.setIfInBounds (off+p.2) p.1) cs).toList/\(vs.zipIdx.foldl (fun cs (p:Value×Nat)=>cs.setIfInBounds (off+p.2) p.1) cs).size=cs.size:=by
 obtain⟨h1,_,h3⟩:=OY h;obtain⟨o1,o2⟩:=Bp off vs.toList 0 cs;have eT:=hx.length;have BG:=hc.length;rw[Jo];have hlen:c.length=cs.size:=by rw[h1,BG];simp
 have hvl:vs.toList.length=vs.size:=afd;have aeA:cs.toList.length=cs.size:=afd;have o2:=o2 (by omega);generalize (vs.toList.zipIdx 0).foldl (fun cs (p:Value×Nat)=>cs.setIfInBounds (off+p.2) p.1) cs=R at o1 o2 ⊢;refine⟨?_,o1⟩;apply Z5.Hm
 ·have:R.toList.length=R.size:=afd;omega
 ·intro i hi Uz;have e1:=h3 i;have e2:=o2 i;rw[aaa hi] at e1;have abF:i<R.size:=by rw[<-afd];exact Uz
  rw[afp abF] at e2;simp only[afD] at e2;have e3:R.toList[i]=R[i]:=by simp
  rw[e3];by_cases hr:off<=i/\i<off+xs.length
  ·rw[if_pos hr] at e1;rw[if_pos (by omega)] at e2;obtain⟨u,Jn,OX⟩:=Z5.get hx _ _ e1.symm;rw[Jn] at e2;rw[Option.some.inj e2];exact OX
  ·rw[if_neg hr] at e1;rw[if_neg (by omega)] at e2;obtain⟨u,Jn,OX⟩:=Z5.get hc _ _ e1.symm;rw[afj] at Jn;rw[Jn] at e2;rw[Option.some.inj e2];exact OX
theorem OL {place pl:Nat->Option (Nat×Nat)}(hp:∀i x,pl i=some x->place i=some x):∀{parts:List (Nat×AV)} {ps:List (Nat×Value)} {cells c:List AV} {cs:Array Value},
  OJ pl cells parts=some c->VN σ parts ps->Z5 σ cells cs.toList->∃c',Instr.fill place cs ps=some c'/\Z5 σ c c'.toList/\c'.size=cs.size
 |[],ps,cells,c,cs,h,hq,hc=>by
  simp only[VN] at hq;subst hq;simp only[OJ] at h;cases h;exact⟨cs,rfl,hc,rfl⟩
 |(i,a)::parts,ps,cells,c,cs,h,hq,hc=>by
  simp only[VN] at hq;obtain⟨v,y,rfl,hv,hy⟩:=hq;simp only[OJ] at h
  split at h
  ·cases h
  ·rename_i off n OI
   split at h
   ·rename_i hn
    split at h
    ·rename_i c1 ON;have dZ:=XP hv;have Ae:=dZ.length;have FY:=hc.length;obtain⟨g1,g2⟩:=zS ON dZ hc (by omega);obtain⟨c',e1,e2,e3⟩:=OL hp h hy g1;refine⟨c',?_,e2,by rw[e3,g2]⟩;simp only[Instr.fill,hp _ _ OI];rw[if_neg]
     ·exact e1
     ·simp only[afd] at Ae FY;simp only[ne_eq,afY,not_or,decide_eq_true_eq,Decidable.not_not,Nat.not_lt];omega
    ·cases h
   ·cases h
theorem KI (hX:Xp X P):∀{fs:List Field} {pl:List (Nat×Nat)},Qx X fs=some pl->(fs.mapM fun f=>do pure (f.offset,<-sizeOf f.type):Sem (List (Nat×Nat))).run P w=.ok pl w
 |[],pl,h=>by simp only[Qx] at h;cases h;rfl
 |f::fs,pl,h=>by
  simp only[Qx] at h
  split at h
  ·rename_i n r hs hr
   cases h
   simp only[List.mapM_cons,Sem.run_bind,Zj hX hs,Result.andThen_ok,Sem.run_pure,KI hX hr]
  ·cases h
theorem Rs {α β:Type}(f:α->Sem β)(l:Array α)(r:List β)(h:(l.toList.mapM f).run P w=.ok r w):(l.mapM f).run P w=.ok r.toArray w:=by
 rw[Array.mapM_eq_mapM_toList];simp only[Sem.run_map,h,Result.andThen_ok]
theorem Rx (hX:Xp X P){t:TypeId}{z:AV}(h:zero X t=some z):∃zv,(zeroValue t).run P w=.ok zv w/\Z6 σ z zv:=by
 unfold zero at h
 split at h
 ·rename_i i hi
  split at h
  ·rename_i zv hz;exact⟨zv,F1 (hX.inf _ _ hi) hz,BE σ _ _ _ h⟩
  ·cases h
 ·cases h
include hX
theorem Dx {t:TypeId}{parts:List (Nat×AV)}{ps:Array (Nat×Value)}{r:AV}(hq:VN σ parts ps.toList)(h:KH X t parts=some r):Wz P w σ (Instr.build t ps) r:=by
 unfold KH at h
 split at h
 ·rename_i z hz;obtain⟨zv,BS,w7⟩:=Rx (w:=w) (σ:=σ) hX hz;obtain⟨zc,rfl,nE⟩:=XS w7
  split at h
  ·rename_i fs hu
   split at h
   ·rename_i pl OI
    split at h
    ·rename_i c hc
     cases h
     obtain⟨c',e1,e2,_⟩:=OL (place:=fun i=>pl.toArray[i]?) (fun i x hx=>by simpa using hx) hc hq nE;refine⟨.agg c',?_,by simp only[Z6];exact⟨_,rfl,e2⟩⟩;have hm:=Rs (P:=P) (w:=w) (fun f:Field=>do pure (f.offset,<-sizeOf f.type)) fs pl (KI hX OI);simp only[Instr.build,Sem.run_bind,BS,Result.andThen_ok,ZU (hX.Zt _ _ hu),hm,Value.cells,e1,Sem.run_pure]
    ·cases h
   ·cases h
  ·rename_i n e hu
   split at h
   ·rename_i n hs
    split at h
    ·rename_i c hc
     cases h
     obtain⟨c',e1,e2,_⟩:=OL (place:=fun i=>some (i*n,n)) (fun i x hx=>hx) hc hq nE;refine⟨.agg c',?_,by simp only[Z6];exact⟨_,rfl,e2⟩⟩;simp only[Instr.build,Sem.run_bind,BS,Result.andThen_ok,ZU (hX.Zt _ _ hu),Zj hX hs,Value.cells,e1,Sem.run_pure]
    ·cases h
   ·cases h
  ·cases h
 ·cases h
theorem OH {t:TypeId}{x:AV}{v:Value}{d:TypeDesc}(hx:Z6 σ x v)(hu:X.Zt t=some d)(hd:∀ms,d≠.interface ms):Wz P w σ (Instr.makeInterface t v) (.iface t x):=by
 refine⟨.iface t v,?_,by simp only[Z6];exact⟨_,rfl,hx⟩⟩;simp only[Instr.makeInterface,Sem.run_bind,ZU (hX.Zt _ _ hu),Result.andThen_ok]
 cases d <;> first|rfl|exact absurd rfl (hd _)
theorem zR {src dst:TypeId}{x r:AV}{v:Value}{s s':St}(hx:Z6 σ x v)(h:T9 X src dst x s=some (r,s'))
  (Bo:¬∃e,X.Zt src=some (.slice e)/\X.Zt dst=some .string)(P9:¬∃e l,X.Zt dst=some (.slice e)/\x=.str l):s'=s/\Wz P w σ (convert src dst v) r:=by
 unfold T9 at h
 split at h
 ·rename_i d1 k k' n h1 h2
  cases h
  refine⟨rfl,.int k (k.wrap n),?_,by simp[Z6]⟩;rw[Zx hx];simp[convert,ZU (hX.Zt _ _ h1),ZU (hX.Zt _ _ h2),Conv.intToInt]
 ·rename_i d1 k' n h1 h2
  cases h
  refine⟨rfl,.string (Utf8.encode n),?_,by simp only[Z6];exact⟨_,rfl,rfl⟩⟩;rw[Zx hx];simp[convert,ZU (hX.Zt _ _ h1),ZU (hX.Zt _ _ h2),Conv.intToString]
 ·rename_i d1 b h1 h2
  cases h
  obtain⟨bs,rfl,rfl⟩:=YA hx;refine⟨rfl,.string bs,?_,by simp only[Z6];exact⟨_,rfl,rfl⟩⟩;simp[convert,ZU (hX.Zt _ _ h1),ZU (hX.Zt _ _ h2)]
 ·rename_i d1 e b _ h1 h2;exact absurd ⟨_,_,h2,rfl⟩ P9
 ·rename_i e h1 h2 _ _;exact absurd ⟨_,h1,h2⟩ Bo
 ·cases h
end
end Go.Am
namespace Go.Am
open Go
section
variable [Stat]
variable {X:Cx}{P:Program}{w:World}{σ:Sg}{s:St}
theorem J9 {b:Nat}{c:List AV}(h:s.cells b=some c):∃e ro lo hi,s.look b=some (.cells c e ro lo hi)/\s.get b=some (.cells c e ro lo hi):=by
 unfold St.cells at h
 split at h
 ·rename_i c' e ro lo hi hg
  cases h
  exact⟨e,ro,lo,hi,by rw[St.YO hg (by simp)],hg⟩
 ·cases h
theorem HR.cells (H:HR σ s w){b:Nat}{p:Pl}{c:List AV}{e:TypeId}{ro:Bool}{lo hi:Nat}(hp:σ b=some p)(hc:s.look b=some (.cells c e ro lo hi)) :
  ∃cc fz,w.heap[p.b]? = some (.cells cc e fz)/\cc.size=p.n/\p.sh+c.length<=p.n/\(∀j a,c[j]? = some a->∃v,cc[p.sh+j]? = some v/\Z6 σ a v) /\
   (ro=false->∀j,fz.1<=p.sh+j->p.sh+j<fz.2->p.sh+j<p.n->lo<=j/\j<hi):=by
 obtain⟨o,ho,hb⟩:=H.JA b p _ hp hc
 cases o <;> simp only[BR] at hb
 obtain⟨h1,h2,h3,h4,h5,_⟩:=hb;subst h3;exact⟨_,_,ho,h1,h2,h4,h5⟩
theorem HR.spec (H:HR σ s w){b:Nat}{p:Pl}{c:List AV}{e:TypeId}{ro:Bool}{lo hi:Nat}(hp:σ b=some p)(hc:s.look b=some (.cells c e ro lo hi))(he:Stat.spec e=true):p.sh=0/\p.n=c.length:=by
 obtain⟨o,ho,hb⟩:=H.JA b p _ hp hc
 cases o <;> simp only[BR] at hb
 obtain⟨_,_,_,_,_,h6⟩:=hb;exact h6 he
theorem YJ {b o:Nat}{cc:Array Value}{e:TypeId}{fz:Nat×Nat}(h:w.heap[b]? = some (.cells cc e fz)):w.cell? ⟨b,o,none⟩=cc[o]? := by
 simp[World.cell?,h]
theorem HR.cell (H:HR σ s w){b:Nat}{p:Pl}{c:List AV}(hp:σ b=some p)(hc:s.cells b=some c){o:Nat}{a:AV}(ha:c[o]? = some a) :
  ∃v,w.cell? ⟨p.b,p.sh+o,none⟩=some v/\Z6 σ a v:=by
 obtain⟨e,ro,lo,hi,hl,_⟩:=J9 hc;obtain⟨cc,fz,h1,_,_,h4,_⟩:=H.cells hp hl;obtain⟨v,hv,hr⟩:=h4 o a ha;exact⟨v,by rw[YJ h1];exact hv,hr⟩
theorem HR.row (H:HR σ s w){b:Nat}{p:Pl}{c:List AV}(hp:σ b=some p)(hc:s.cells b=some c):∀(r:List AV) (o:Nat),(∀i a,r[i]? = some a->c[o+i]? = some a) ->
  ∃vs:List Value,Z5 σ r vs/\∀i v,vs[i]? = some v->w.cell? ⟨p.b,p.sh+o+i,none⟩=some v
 |[],o,_=>⟨[],by simp[Z5],by simp⟩
 |a::r,o,h=>by
  obtain⟨v,hv,hr⟩:=H.cell hp hc (h 0 a (by simp));obtain⟨vs,h1,h2⟩:=HR.row H hp hc r (o+1) (fun i x hx=>by rw[show o+1+i=o+(i+1) from by omega];exact h (i+1) x (by simpa using hx));refine⟨v::vs,by simp only[Z5];exact⟨v,vs,rfl,hr,h1⟩,fun i u hu=>?_⟩
  cases i with
  |zero=>simp at hu;subst hu;simpa using hv
  |succ i =>
   have:=h2 i u (by simpa using hu);rw[show p.sh+o+(i+1)=p.sh+(o+1)+i from by omega];exact this
theorem cell_of_heap {w w':World}(h:w'.heap=w.heap)(a:Addr):w'.cell? a=w.cell? a:=by
 simp only[World.cell?,h]
theorem S9 (H:HR σ s w){b:Nat}{p:Pl}{c r:List AV}{n o:Nat}(hp:σ b=some p)(hc:s.cells b=some c)(hg:YB n o c=some r) :
  ∃vs:List Value,(∀w',w'.heap=w.heap->(loadCells ⟨p.b,p.sh+o,none⟩ n).run P w'=.ok vs.toArray w')/\Z5 σ r vs:=by
 obtain⟨vs,h1,h2⟩:=H.row hp hc r o (fun i a ha=>SR hg ha);refine⟨vs,fun w' hw=>?_,h1⟩;have:=run_loadCells_list (P:=P) w' ⟨p.b,p.sh+o,none⟩ vs (fun j v hv=>by rw[Yz,cell_of_heap hw];exact h2 j v hv)
 rwa [<-h1.length,(X8 hg).1] at this
theorem Z5.sub {σ:Sg}:∀{r c:List AV} {us:List Value} {o:Nat},Z5 σ c us->(∀i a,r[i]? = some a->c[o+i]? = some a)->∃vs,Z5 σ r vs/\∀i v,vs[i]? = some v->us[o+i]? = some v
 |[],_,us,o,_,_=>⟨[],by simp[Z5],by simp⟩
 |a::r,c,us,o,h,k=>by
  obtain⟨v,hv,hr⟩:=h.get (o+0) a (k 0 a (by simp));obtain⟨vs,h1,h2⟩:=Z5.sub (r:=r) (o:=o+1) h (fun i x hx=>by rw[show o+1+i=o+(i+1) from by omega];exact k (i+1) x (by simpa using hx));refine⟨v::vs,by simp only[Z5];exact⟨v,vs,rfl,hr,h1⟩,fun i u hu=>?_⟩
  cases i with
  |zero=>simp at hu;subst hu;exact hv
  |succ i=>rw[show o+(i+1)=o+1+i from by omega];exact h2 i u (by simpa using hu)
theorem Cu (H:HR σ s w){b base o n:Nat}{us:List Value}{cs r:List AV}{cc:Array Value}{e:TypeId}{fz:Nat×Nat}(hz:σ.fz b=some (.cells cc e fz))(hr:Z5 σ.bare cs us)(hc:∀i u,us[i]? = some u->cc[base+i]? = some u)
  (hg:YB n o cs=some r):∃vs:List Value,(∀w',w'.heap=w.heap->(loadCells ⟨b,base+o,none⟩ n).run P w'=.ok vs.toArray w')/\Z5 σ r vs:=by
 obtain⟨vs,h1,h2⟩:=hr.sub (fun i a ha=>SR hg ha);refine⟨vs,fun w' hw=>?_,Z5.mono (Sg.VM σ) _ _ h1⟩;have:=run_loadCells_list (P:=P) w' ⟨b,base+o,none⟩ vs (fun j v hv=>by
  rw[Yz,cell_of_heap hw,YJ (H.fz _ _ hz).1,aeX];exact hc _ _ (h2 j v hv))
 rwa [<-h1.length,(X8 hg).1] at this
theorem H' (hX:Xp X P)(H:HR σ s w){t:TypeId}{x r:AV}{u:Value}(hx:Z6 σ x u)(h:Vd X t x s=some r):Wz P w σ (Instr.loadAt t u) r:=by
 unfold Vd at h
 split at h
 ·rename_i b o;obtain⟨p,hp,rfl⟩:=Yf hx
  split at h
  ·rename_i OP
   split at h
   ·rename_i n c hs hc
    split at h
    ·rename_i r' hg
     cases h
     obtain⟨vs,h1,h2⟩:=S9 (P:=P) H hp hc hg;refine⟨.agg vs.toArray,?_,by simp only[Z6];exact⟨_,rfl,h2⟩⟩;simp only[Instr.loadAt,Instr.sureAddr,loadVar,Sem.run_bind,Sem.run_pure,Result.andThen_ok,Vu hX OP,if_true,Zj hX hs,h1 w rfl]
    ·cases h
   ·cases h
  ·rename_i OP;unfold cell at h
   split at h
   ·rename_i c hc;obtain⟨v,hv,hr⟩:=H.cell hp hc h;refine⟨v,?_,hr⟩;simp only[Instr.loadAt,Instr.sureAddr,loadVar,Sem.run_bind,Sem.run_pure,Result.andThen_ok,Vu hX OP,ae1,if_false,run_load,hv]
   ·cases h
  ·cases h
 ·rename_i c o;obtain⟨b,base,us,cc,e,fz,rfl,hz,hr,fF⟩:=NU hx
  split at h
  ·rename_i OP
   split at h
   ·rename_i n hs
    split at h
    ·rename_i r' hg
     cases h
     obtain⟨vs,h1,h2⟩:=Cu (P:=P) H hz hr fF hg;refine⟨.agg vs.toArray,?_,by simp only[Z6];exact⟨_,rfl,h2⟩⟩;simp only[Instr.loadAt,Instr.sureAddr,loadVar,Sem.run_bind,Sem.run_pure,Result.andThen_ok,Vu hX OP,if_true,Zj hX hs,h1 w rfl]
    ·cases h
   ·cases h
  ·rename_i OP;obtain⟨v,hv,UO⟩:=hr.get _ _ h;refine⟨v,?_,Z6.mono (Sg.VM σ) _ _ UO⟩;have T8:w.cell? ⟨b,base+o,none⟩=some v:=by rw[YJ (H.fz _ _ hz).1];exact fF _ _ hv
   simp only[Instr.loadAt,Instr.sureAddr,loadVar,Sem.run_bind,Sem.run_pure,Result.andThen_ok,Vu hX OP,ae1,if_false,run_load,T8]
  ·cases h
 ·cases h
theorem SB {a:AV}{v:Value}(h:Z6 σ a v)(hn:Zw a=true):v.oneCell'=true:=by
 obtain⟨_,h1,h2⟩:=Uc h hn
 cases v <;> first|rfl|exact absurd rfl (h1 _)|exact absurd rfl (h2 _)
theorem TO {b:Nat}{e:TypeId}{fz:Nat×Nat}:∀(us:List Value) (off i:Nat) (w:World) (cc:Array Value),w.heap[b]? = some (.cells cc e fz)->(∀v∈us,v.oneCell'=true)->off+i+us.length<=cc.size ->
  (∀j,off+i<=j->j<off+i+us.length->¬(fz.1<=j/\j<fz.2)) ->
  ∃w' nI,(storeCells ⟨b,off,none⟩ us i).run P w=.ok () w'/\w'.heap.size=w.heap.size/\(∀c,c≠b->w'.heap[c]? = w.heap[c]?)/\w'.heap[b]? = some (.cells nI e fz)/\nI.size=cc.size /\
   (∀j,nI[j]? = if off+i<=j/\j<off+i+us.length then us[j-(off+i)]? else cc[j]?)/\w'.os=w.os/\w'.tape=w.tape/\w'.output=w.output
 |[],off,i,w,cc,hb,_,_,_=>⟨w,cc,rfl,rfl,fun _ _=>rfl,hb,rfl,fun j=>by rw[if_neg (by simp)],rfl,rfl,rfl⟩
 |u::us,off,i,w,cc,hb,hv,WU,LY=>by
  have Zm:off+i<cc.size:=by simp at WU;omega
  have T8:w.cell? ⟨b,off+i,none⟩=some cc[off+i]:=by rw[YJ hb];simp[Zm]
  have MZ:w.frozen? ⟨b,off+i,none⟩=false:=by
   have:=LY (off+i) (aba _) (by simp);obtain⟨RA,Ss⟩:=fz;simp only[World.frozen?,hb];simp only at this;rw[Bool.eq_false_iff];intro hh;simp only[aab,decide_eq_true_eq] at hh;exact this hh
  have aeJ:b<w.heap.size:=(adm.1 hb).1;have GL:(w.setCell ⟨b,off+i,none⟩ u).heap[b]? = some (.cells (cc.setIfInBounds (off+i) u) e fz):=by
   simp[World.setCell,Array.getElem?_modify,hb]
  obtain⟨w',nI,h1,h2,h3,h4,h5,h6,h7,h8,h9⟩:=TO us off (i+1) (w.setCell ⟨b,off+i,none⟩ u) (cc.setIfInBounds (off+i) u) GL (fun v hm=>hv v (abc _ hm)) (by simp at WU ⊢;omega)
   (fun j hj rX=>LY j (by omega) (by simp;omega))
  refine⟨w',nI,?_,by rw[h2];simp,?_,h4,by rw[h5];simp,?_,h7,h8,h9⟩
  ·simp only[storeCells,Sem.run_bind,Yz];rw[run_store P w _ u .plain (hv u (aeZ ..))];simp only[T8,MZ,ae1,if_false,Result.andThen_ok];exact h1
  ·intro c hc;rw[h3 c hc];simp only[World.setCell,Array.getElem?_modify];rw[if_neg (fun h=>hc h.symm)]
  ·intro j;rw[h6 j];by_cases hj:off+(i+1)<=j/\j<off+(i+1)+us.length
   ·rw[if_pos hj,if_pos (by simp;omega)];rw[show j-(off+i)=(j-(off+(i+1)))+1 from by omega];simp
   ·rw[if_neg hj];by_cases he:j=off+i
    ·subst he;rw[if_pos (by simp),Nat.sub_self];simp[Zm]
    ·rw[if_neg (by simp;omega)];rw[Array.getElem?_setIfInBounds_ne (by omega)]
theorem TU (H:HR σ s w){b o:Nat}{p:Pl}{xs:List AV}{us:List Value}{s':St}(hp:σ b=some p)(hx:Z5 σ xs us)(h:Yi s b o xs=some s') :
  ∃w',(storeCells ⟨p.b,p.sh+o,none⟩ us).run P w=.ok () w'/\Good σ s w σ s' w':=by
 unfold Yi at h
 split at h
 ·rename_i c e RA Ss hg
  split at h
  ·rename_i Tm;simp only[aab,afY,decide_eq_true_eq,ae9] at Tm;obtain⟨tZ,Ct⟩:=Tm
   split at h
   ·rename_i c' ON
    cases h
    have hl:s.look b=some (.cells c e false RA Ss):=St.YO hg (by simp);obtain⟨cc,fz,h1,h2,h3,h4,h5⟩:=H.cells hp hl;obtain⟨g1,g2,g3⟩:=OY ON;have hlen:=hx.length;have hb:o+xs.length<=c.length\/us=[]:=by
     by_cases hn:xs=[]
     ·subst hn;simp only[Z5] at hx;exact .inr hx
     ·exact .inl (g2 hn)
    rcases hb with hb|rfl
    case inr =>
     have:xs=[]:=by cases xs with|nil=>rfl|cons a l=>simp at hlen
     subst this;have e1:c=c':=by cases o <;> simp[lay] at ON <;> exact ON
     subst e1;refine⟨w,rfl,?_⟩;exact Good.put H hp hl rfl (by simp) rfl (fun _ _=>rfl) h1 ⟨h2,h3,rfl,h4,h5,H.spec hp hl⟩ rfl rfl rfl
    case inl =>
    have tY:∀v∈us,v.oneCell'=true:=by
     intro v hv;obtain⟨i,hi,rfl⟩:=ae8.1 hv;have hix:i<xs.length:=by omega
     obtain⟨v',Ix,LR⟩:=Z5.get hx i xs[i] (aaa hix);rw[aaa hi] at Ix;cases Ix;exact SB LR (Ct _ (ae2 hix))
    obtain⟨w',nI,k1,k2,k3,k4,k5,k6,k7,k8,k9⟩:=TO (P:=P) (b:=p.b) (e:=e) (fz:=fz) us (p.sh+o) 0 w cc h1 tY (by rw[h2];omega)
     (fun j hj rX hf=>by
      obtain⟨q1,q2⟩:=h5 rfl (j-p.sh) (by rw[show p.sh+(j-p.sh)=j from by omega];exact hf.1) (by rw[show p.sh+(j-p.sh)=j from by omega];exact hf.2) (by omega);rcases tZ with tZ|tZ <;> omega)
    refine⟨w',k1,?_⟩;refine Good.put H hp hl rfl (by simp) k2 k3 k4 ⟨by rw[k5,h2],by rw[g1];exact h3,rfl,?_,?_,by rw[g1];exact H.spec hp hl⟩ k7 k8 k9
    ·intro j a ha;rw[g3 j] at ha;rw[k6];simp only[afD];by_cases hj:o<=j/\j<o+xs.length
     ·rw[if_pos hj] at ha;rw[if_pos (by omega)];obtain⟨v,Ix,LR⟩:=Z5.get hx _ _ ha;refine⟨v,?_,LR⟩;rw[show p.sh+j-(p.sh+o)=j-o from by omega];exact Ix
     ·rw[if_neg hj] at ha;rw[if_neg (by omega)];exact h4 j a ha
    ·exact h5
   ·cases h
  ·cases h
 ·cases h
theorem Cs (hX:Xp X P)(H:HR σ s w){t:TypeId}{x y:AV}{u v:Value}{s':St}(hx:Z6 σ x u)(hy:Z6 σ y v)(h:PF X t x y s=some s') :
  ∃w',(Instr.storeAt t u v).run P w=.ok () w'/\Good σ s w σ s' w':=by
 unfold PF at h
 split at h
 ·rename_i b o;obtain⟨p,hp,rfl⟩:=Yf hx
  split at h
  ·rename_i n hs
   split at h
   ·rename_i hn;have hc:=XP hy;obtain⟨w',h1,h2⟩:=TU (P:=P) H hp hc h;refine⟨w',?_,h2⟩;have hl:=hc.length;have WU:v.cells.size=n:=by rw[<-afd];omega
    simp only[Instr.storeAt,Instr.sureAddr,storeVar,Sem.run_bind,Sem.run_pure,Result.andThen_ok,Zj hX hs,WU,ne_eq,not_true_eq_false,if_false];exact h1
   ·cases h
  ·cases h
 ·cases h
end
end Go.Am
namespace Go.Am
open Go
variable [Stat]
def Qb (P:Program)(σ:Sg)(s:St)(w:World)(m:Sem Value)(a:AV)(s':St):Prop:=∃Y' v w',m.run P w=.ok v w'/\Z6 Y' a v/\Good σ s w Y' s' w'
theorem Wz.o {P:Program}{σ:Sg}{s:St}{w:World}{m:Sem Value}{a:AV}(h:Wz P w σ m a)(H:HR σ s w):Qb P σ s w m a s:=by
 obtain⟨v,h1,h2⟩:=h;exact⟨σ,v,w,h1,h2,Good.refl H⟩
section
variable {X:Cx}{P:Program}{w:World}{σ:Sg}{s:St}
theorem Z5.size {x:List AV}{a:Array Value}(h:Z5 σ x a.toList):x.length=a.size:=by
 have h1:=h.length;have h2:a.toList.length=a.size:=afd;omega
theorem P6 (H:HR σ s w)(hf:σ s.next=none){c:List AV}{vs:Array Value}(e:TypeId)(fz:Nat×Nat)(LY:fz=(0,0)\/vs.size<=fz.1)(hle:c.length<=vs.size)(hc:∀(j:Nat) (a:AV),c[j]? = some a->∃v,vs[j]? = some v/\Z6 σ a v)(MD:Stat.spec e=true->vs.size=c.length) :
  Good σ s w (σ.add s.next ⟨w.heap.size,0,vs.size⟩) (s.new (.cells c e false 0 0)) (w.alloc (.cells vs e fz)):=by
 refine Good.new H hf _ (by simp) _ _ ⟨rfl,by simpa using hle,rfl,?_,?_,fun h=>⟨rfl,MD h⟩⟩
 ·intro j a ha;obtain⟨v,hv,hr⟩:=hc j a ha;exact⟨v,by simpa using hv,Z6.mono (Sg.PO hf) _ _ hr⟩
 ·intro _ j h1 h2 h3;rcases LY with rfl|LY
  ·simp at h2
  ·dsimp only at h1 h2 h3;omega
theorem TY (H:HR σ s w)(hf:σ s.next=none){c:List AV}{vs:Array Value}(e:TypeId)(hc:Z5 σ c vs.toList) :
  Good σ s w (σ.add s.next ⟨w.heap.size,0,vs.size⟩) (s.new (.cells c e false 0 0)) (w.alloc (.cells vs e)):=by
 have hl:=hc.size;refine P6 H hf e (0,0) (.inl rfl) (by omega) (fun j a ha=>?_) (fun _=>by omega);obtain⟨v,hv,hr⟩:=hc.get j a ha;exact⟨v,by rw[afj] at hv;exact hv,hr⟩
theorem Kt (H:HR σ s w)(hf:σ s.next=none){c:List AV}{vs:Array Value}(e:TypeId)(hc:Z5 σ c vs.toList) :
  Qb P σ s w (do pure (.pointer (some (<-newRow e vs)))) (.ptr s.next 0) (s.new (.cells c e false 0 0)):=by
 refine⟨_,.pointer (some ⟨w.heap.size,0,none⟩),w.alloc (.cells vs e),?_,?_,TY H hf e hc⟩
 ·simp only[newRow,Sem.run_bind,run_newObj,Result.andThen_ok,Sem.run_pure,World.alloc_eq]
 ·simp only[Z6];exact⟨_,Sg.Y7 _ _ _,by simp⟩
theorem TX:∀(k:Nat) (l:List AV),(WD k l).length=k*l.length
 |0,l=>by simp[WD]
 |k+1,l=>by simp[WD,TX k l,Nat.add_mul];omega
theorem Mr:∀(k:Nat) (l:List AV) (i:Nat),i<k*l.length->(WD k l)[i]? = l[i%l.length]?
 |0,l,i,h=>by simp at h
 |k+1,l,i,h=>by
  simp only[WD];by_cases hi:i<l.length
  ·rw[afo hi,Nat.mod_eq_of_lt hi]
  ·rw[afO (by omega),Mr k l (i-l.length) (by rw[Nat.add_mul] at h;omega)]
   congr 1
   rw[<-Nat.mod_eq_sub_mod (by omega)]
theorem Mq {zc:List AV}{zs:Array Value}(h:Z5 σ zc zs.toList)(hz:zs.size≠0)(k:Nat):Z5 σ (WD k zc) ((Array.range (k*zs.size)).map (fun i=>zs[i%zs.size]!)).toList:=by
 have hl:=h.size;apply Z5.Hm
 ·rw[TX,hl];simp
 ·intro i hi Uz;have hk:i<k*zc.length:=by rw[TX] at hi;exact hi
  have e:=Mr k zc i hk;rw[aaa hi] at e;obtain⟨v,hv,hr⟩:=h.get _ _ e.symm;have e2:((Array.range (k*zs.size)).map (fun i=>zs[i%zs.size]!)).toList[i]=v:=by
   rw[afj] at hv;rw[hl] at hv;simp[getElem!_def,hv]
  rw[e2];exact hr
theorem zu (hX:Xp X P)(H:HR σ s w)(hf:σ s.next=none){t:TypeId}{z:AV}(h:zero X t=some z):Qb P σ s w (Instr.alloc t true (.tuple #[])) (W_ s z.cells t).1 (W_ s z.cells t).2:=by
 obtain⟨zv,h1,h2⟩:=Rx (w:=w) (σ:=σ) hX h;obtain⟨Y',v,w',g1,g2,g3⟩:=Kt (P:=P) H hf t (XP h2);exact⟨Y',v,w',by simp only[Instr.alloc,Sem.run_bind,h1,Result.andThen_ok,newVar];simpa using g1,g2,g3⟩
theorem qx (H:HR σ s w)(hf:σ s.next=none){t:TypeId}{x:AV}{u:Value}(hx:Z6 σ x u):Qb P σ s w (Instr.box t u) (W_ s x.cells t).1 (W_ s x.cells t).2:=by
 obtain⟨Y',v,w',g1,g2,g3⟩:=Kt (P:=P) H hf t (XP hx);exact⟨Y',v,w',by simp only[Instr.box,newVar];exact g1,g2,g3⟩
theorem Ol {b n len cap Xo:Nat}{sz:Nat}(hn:len<=cap)(hz:cap*Xo<=sz):Z6 (σ.add b ⟨n,0,sz⟩) (.sl b 0 len (some cap) Xo) (.slice (some ⟨n,0,none⟩) len cap):=by
 simp only[Z6];exact⟨_,_,rfl,hn,⟨_,Sg.Y7 _ _ _,fun _=>by simp,fun _=>by simpa using hz⟩,fun k hk=>by cases hk;rfl⟩
theorem LQ (hX:Xp X P)(H:HR σ s w)(hf:σ s.next=none){t:TypeId}{len:Nat}{parts:List (Nat×AV)}{ps:Array (Nat×Value)}{r:AV}{s':St}(hq:VN σ parts ps.toList)(h:Wb X t len parts s=some (r,s')) :
  Qb P σ s w (Instr.buildSlice t len ps) r s':=by
 unfold Wb at h
 split at h
 ·rename_i elem hu
  split at h
  ·rename_i n z hs hz
   split at h
   ·rename_i Tm;obtain⟨di,K1,cK⟩:=Tm
    split at h
    ·rename_i c hc
     cases h
     obtain⟨zv,h1,h2⟩:=Rx (w:=w) (σ:=σ) hX hz;have nE:=XP h2;have r7:zv.cells.size=n:=by have:=nE.size;omega
     have ko:=Mq nE (by omega) len;obtain⟨c',e1,e2,e3⟩:=OL (place:=fun i=>some (i*n,n)) (fun i x hx=>hx) hc hq ko;have WU:c'.size=len*n:=by rw[e3,r7];simp
     refine⟨_,.slice (some ⟨w.heap.size,0,none⟩) len len,w.alloc (.cells c' elem),?_,Ol (aba _) (by omega),TY H hf elem e2⟩;have hnb:¬(len*n>2^24):=by omega
     simp only[Instr.buildSlice,Sem.run_bind,ZU (hX.Zt _ _ hu),Result.andThen_ok,Zj hX hs,hnb,if_false];by_cases h0:len*n=0
     ·rw[r7,h0] at e1;simp only[h0,if_true,Sem.run_bind,Sem.run_pure,Result.andThen_ok];have:(Array.range 0).map (fun i=>(#[]:Array Value)[i%(#[]:Array Value).size]!)=(Array.range 0).map (fun i=>zv.cells[i%n]!):=by simp
      rw[this,e1];simp only[newRow,Sem.run_bind,run_newObj,Result.andThen_ok,Sem.run_pure,World.alloc_eq]
     ·rw[r7] at e1;simp only[h0,if_false,Sem.run_bind,Sem.run_pure,Result.andThen_ok,h1,r7,e1,newRow,run_newObj,World.alloc_eq]
    ·cases h
   ·cases h
  ·cases h
 ·cases h
theorem Rb (f:Nat->Value):(Array.range 0).map f=#[]:=by
 have:Array.range 0=#[]:=by rw[Array.range_zero']
 rw[this];simp
theorem Jd (hX:Xp X P)(H:HR σ s w)(hf:σ s.next=none){t elem:TypeId}{l c:Int}{kl kc:IntKind}{i:TypeInfo}{z:AV}(hu:X.Zt t=some (.slice elem))(hi:X.inf elem=some i)(hz:zero X elem=some z)
  (hc:0<=l/\l<=c/\c*i.bytes<=2^47/\c<2^47/\z.cells.length=i.size/\i.size≠0) :
  Qb P σ s w (Instr.makeSlice t (.int kl l) (.int kc c)) (.sl s.next 0 l.toNat (some c.toNat) i.size) (s.new (.cells (WD c.toNat z.cells) elem false 0 0)):=by
 obtain⟨h0,h1,h2,h3,h4,h5⟩:=hc;obtain⟨zv,g1,g2⟩:=Rx (w:=w) (σ:=σ) hX hz;have nE:=XP g2;have r7:zv.cells.size=i.size:=by have:=nE.size;omega
 have ko:=Mq nE (by omega) c.toNat;have A5:X.inf elem=some i->size X elem=some i.size:=fun h=>by simp[size,h]
 have wl:IntKind.i64.wrap l=l:=by rw[IntKind.wrap_i64];omega
 have wc:IntKind.i64.wrap c=c:=by rw[IntKind.wrap_i64];omega
 refine⟨_,.slice (some ⟨w.heap.size,0,none⟩) l.toNat c.toNat,w.alloc (.cells ((Array.range (c.toNat*zv.cells.size)).map (fun i=>zv.cells[i%zv.cells.size]!)) elem),?_,Ol (by omega) (by simp[r7]),TY H hf elem ko⟩;have big:((i.bytes:Int)*c>2^48)=False:=by
  rw[eq_iff_iff,iff_false];rw[Int.mul_comm];omega
 simp only[Instr.makeSlice,Sem.run_bind,ZU (hX.Zt _ _ hu),Result.andThen_ok,asInt,asIntOf,Sem.run_pure,LG (hX.inf _ _ hi),wl,wc,big,run_askRoom,Zj hX (A5 hi)];have n1:¬(c<0):=by omega
 have n2:¬(l<0):=by omega
 have n3:¬(l>c):=by omega
 simp only[n1,n2,n3,decide_false,Bool.or_false,ae1,if_false,Sem.run_pure,Result.andThen_ok,run_askRoom,newRow,Sem.run_bind,run_newObj,World.alloc_eq,Zj hX (A5 hi)];by_cases h0:c.toNat*i.size=0
 ·simp only[h0,if_true,Sem.run_bind,Sem.run_pure,Result.andThen_ok,run_newObj,World.alloc_eq,r7];rw[Rb,Rb]
 ·simp only[h0,if_false,Sem.run_bind,Sem.run_pure,Result.andThen_ok,g1,run_newObj,World.alloc_eq,r7]
theorem Mp (H:HR σ s w)(hf:σ s.next=none){t:TypeId}:Qb P σ s w (Instr.makeMap t none) (.map s.next) (s.new (.map [] false)):=by
 refine⟨_,.map (some w.heap.size),w.alloc (.map #[] 0),rfl,?_,Good.new H hf (.map [] false) (by simp) _ 0 (by simp[BR,ZW])⟩;simp only[Z6];exact⟨_,Sg.Y7 _ _ _,rfl⟩
theorem G1 (hX:Xp X P)(H:HR σ s w)(hf:σ s.next=none){t k e:TypeId}{kn:IntKind}{n:Int}(hu:X.Zt t=some (.map k e)):Qb P σ s w (Instr.makeMap t (some (.int kn n))) (.map s.next) (s.new (.map [] false)):=by
 obtain⟨Y',v,w',g1,g2,g3⟩:=Mp (P:=P) H hf (t:=t);refine⟨Y',v,w',?_,g2,g3⟩;rw[<-g1];simp[Instr.makeMap,ZU (hX.Zt _ _ hu),asInt,asIntOf]
end
end Go.Am
namespace Go.Am
open Go
section
variable [Stat]
variable {X:Cx}{P:Program}{w:World}{σ:Sg}{s:St}
theorem Wo {r:Nat}{o:Obj}(h:w.heap[r]? = some o)(hc:∀c e f,o≠.cells c e f):(getObj r).run P w=.ok o w:=by
 cases o <;> first|(exact absurd rfl (hc _ _ _))|simp[getObj,Sem.run,h]
theorem PJ {r:Nat}{o o':Obj}(h:w.heap[r]? = some o)(hc:∀c e f,o≠.cells c e f):(setObj r o').run P w=.ok () { w with heap:=w.heap.setIfInBounds r o' }:=by
 cases o <;> first|(exact absurd rfl (hc _ _ _))|simp[setObj,Sem.run,h]
theorem VL {a:AV}{l:List AV}(h:Xn (a::l)=true):(∃n,a=.int .i64 n)/\Xn l=true:=by
 cases a <;> try (simp only[Xn] at h;cases h;done)
 rename_i k n
 cases k <;> simp only[Xn] at h <;> first|exact⟨⟨n,rfl⟩,h⟩|(cases h;done)
theorem Ts:∀{l:List AV},Xn l=true->∀(i:Nat) (a:AV),l[i]? = some a->∃n,a=AV.int .i64 n
 |[],_,i,a,h=>by simp at h
 |x::l,h,i,a,e=>by
  obtain⟨h1,h2⟩:=VL h
  cases i with
  |zero=>simp at e;rw[<-e];exact h1
  |succ i=>exact Ts h2 i a (by simpa using e)
theorem Dz {t:TypeId}{cs:Array Value}{off:Nat}{v:Value}(hu:P.underlying t=some (.int .i64))(hv:cs[off]? = some v):(part t cs off).run P w=.ok v w:=by
 simp[part,isAgg,ZU hu,hv]
theorem Vl {b:Bool}{d:Nat}{t:TypeId}{v:Value}{td:TypeDesc}(hu:P.underlying t=some td)(h1:∀m,td≠.interface m)(h2:∀n e,td≠.array n e)(h3:∀f,td≠.struct f):(Instr.checkKey b (d+1) t v).run P w=.ok () w:=by
 rw[Instr.checkKey];simp only[Sem.run_bind,ZU hu,Result.andThen_ok]
 cases td <;> first|rfl|(exact absurd rfl (h1 _))|(exact absurd rfl (h2 _ _))|(exact absurd rfl (h3 _))
theorem So (hX:Xp X P){b:Bool}{t:TypeId}{k:AV}{kv:Value}(hk:Z6 σ k kv)(h:WL X t k=true):(Instr.checkKey b 10000 t kv).run P w=.ok () w:=by
 show (Instr.checkKey b (9999+1) t kv).run P w=.ok () w;unfold WL at h
 split at h
 ·rename_i hu;exact Vl (hX.Zt _ _ hu) (by simp) (by simp) (by simp)
 ·rename_i hu;exact Vl (hX.Zt _ _ hu) (by simp) (by simp) (by simp)
 ·rename_i hu;exact Vl (hX.Zt _ _ hu) (by simp) (by simp) (by simp)
 ·rename_i len e cs hu;simp only[aab,beq_iff_eq] at h;obtain⟨⟨h1,h2⟩,h3⟩:=h
  split at h3
  ·rename_i he hs;obtain⟨vs,rfl,Uy⟩:=XS hk;have WU:=Uy.size;rw[Instr.checkKey];simp only[Sem.run_bind,ZU (hX.Zt _ _ hu),Result.andThen_ok];rw[Std.Legacy.Range.forIn_eq_forIn_range'];simp only[Std.Legacy.Range.size,Nat.sub_zero,Nat.add_sub_cancel,Nat.div_one];have key:∀(l:List Nat),(∀i∈l,i<len)->∀f:Nat->PUnit->Sem (ForInStep PUnit),(∀i,i<len->(f i PUnit.unit).run P w=.ok (ForInStep.yield PUnit.unit) w)->(forIn l PUnit.unit f).run P w=.ok PUnit.unit w:=by
    intro l hl f hf
    induction l with
    |nil=>rfl
    |cons i l ih =>
     simp only[List.forIn_cons,Sem.run_bind,hf i (hl i (by simp)),Result.andThen_ok];exact ih (fun j hj=>hl j (by simp[hj]))
   rw[key (List.range' 0 len) (by intro i hi;simp at hi;omega) _ (by
    intro i hi;have hic:i<cs.length:=by omega
    obtain⟨v,hv,hr⟩:=Uy.get i cs[i] (aaa hic);rw[afj] at hv;obtain⟨n,hn⟩:=Ts h1 i cs[i] (aaa hic);rw[hn] at hr;have:=Zx hr;subst this;simp only[Sem.run_bind,Zj hX hs,Result.andThen_ok,ae3,Dz (hX.Zt _ _ he) hv];rw[Vl (d:=9998) (hX.Zt _ _ he) (by simp) (by simp) (by simp)];rfl)]
   rfl
  ·cases h3
 ·cases h
theorem FR:∀{a b:List AV},XQ a b=true->Xn a=true->Xn b=true->a=b
 |[],[],_,_,_=>rfl
 |[],_::_,h,_,_=>by simp[XQ] at h
 |_::_,[],h,_,_=>by simp[XQ] at h
 |x::a,y::b,h,h1,h2=>by
  obtain⟨⟨n,rfl⟩,h1⟩:=VL h1;obtain⟨⟨m,rfl⟩,h2⟩:=VL h2;simp only[XQ,same,decide_true,afU,aab,beq_iff_eq] at h;rw[h.1,FR h.2 h1 h2]
theorem OQ {d:Nat}{e:TypeId}(hu:X.Zt e=some (.int .i64)):∀(k i:Nat) (a b:List AV),Xn a=true->Xn b=true->a.length=i+k->b.length=i+k ->
  Ty (F0 X (d+1) e) (fun o l=>T_ X e l o) 1 k i a b=some (XQ (a.drop i) (b.drop i))
 |0,i,a,b,_,_,h1,h2=>by
  simp only[Ty];rw[afT (by omega),afT (by omega)];simp[XQ]
 |k+1,i,a,b,ha,hb,h1,h2=>by
  have hi:i<a.length:=by omega
  have hj:i<b.length:=by omega
  obtain⟨n,hn⟩:=Ts ha i a[i] (aaa hi);obtain⟨m,hm⟩:=Ts hb i b[i] (aaa hj);have OP:YZ X e=some false:=by simp[YZ,hu]
  have e1:T_ X e a (i*1)=some (.int .i64 n):=by
   simp only[T_,OP,ae3];rw[aaa hi,hn]
  have e2:T_ X e b (i*1)=some (.int .i64 m):=by
   simp only[T_,OP,ae3];rw[aaa hj,hm]
  have e3:F0 X (d+1) e (.int .i64 n) (.int .i64 m)=some (n==m):=by simp[F0,hu]
  simp only[Ty,e1,e2,e3];rw[aeY hi,aeY hj,hn,hm];have ih:=OQ hu (d:=d) k (i+1) a b ha hb (by omega) (by omega)
  cases BQ:(n==m)
  ·simp[XQ,same,BQ]
  ·simp only[ih,XQ,same,BQ,decide_true,afU]
theorem IL (hX:Xp X P){t:TypeId}{len:Nat}{e:TypeId}{a b:List AV}{u v:Value}{r:Bool}(hu:X.Zt t=some (.array len e))(ha:Z6 σ (.agg a) u)(hb:Z6 σ (.agg b) v)(hk:WL X t (.agg a)=true)(h:Xc (.agg a) (.agg b)=some r) :
  (Op.equal t u v).run P w=.ok r w:=by
 simp only[WL,hu,aab,beq_iff_eq] at hk;obtain⟨⟨h1,h2⟩,h3⟩:=hk
 split at h3
 ·rename_i he hs;simp only[Xc,aab,beq_iff_eq] at h
  split at h
  ·rename_i hc
   cases h
   have:F0 X 3 t (.agg a) (.agg b)=some (XQ a b):=by
    have:=OQ (X:=X) (d:=1) he len 0 a b h1 hc.1.2 (by omega) (by omega);simp only[afJ] at this;unfold F0;rw[hu];simp only[hs];exact this
   exact LC hX 3 t _ _ _ this u v ha hb 10000 (by omega) w
  ·cases h
 ·cases h3
def KM (σ:Sg):Option AV->Option (Nat×Value)->Prop
 |none,none=>True
 |some a,some (_,v)=>Z6 σ a v
 |_,_=>False
theorem Tq {k:AV}{kv:Value}{d:TypeDesc}(hk:Z6 σ k kv)(hd:match d,k with|.int _,.int _ _=>True|.string,.str _=>True|.bool,.bool _=>True|_,_=>False) :
  ∀{es:List (AV×AV)} {Xq:List MapEntry} {r:Option AV} (n:Nat),ZW σ es Xq->Wd k es=some r->∃q,Instr.findNow d kv Xq n=some q/\KM σ r q
 |[],Xq,r,n,he,h=>by
  simp only[ZW] at he;subst he;simp only[Wd] at h;cases h;exact⟨none,rfl,trivial⟩
 |(k',v)::es,Xq,r,n,he,h=>by
  simp only[ZW] at he;obtain⟨m,y,rfl,h1,h2,h3⟩:=he;simp only[Wd] at h;have key:∀b,Xc k k'=some b->Instr.sameNow d kv m.key=some b:=by
   intro b hb
   cases k <;> try (simp only[Xc] at hb;cases hb;done)
   all_goals (cases d <;> try (exact hd.elim))
   all_goals (cases k' <;> simp only[Xc] at hb <;> try (cases hb;done))
   ·cases hb
    rw[X7 hk,X7 h1];rfl
   ·rename_i k1 n1 _ k2 n2
    split at hb
    ·rename_i lK;subst lK
     cases hb
     rw[Zx hk,Zx h1];simp[Instr.sameNow]
    ·cases hb
   ·cases hb
    obtain⟨p,e1,e2⟩:=YA hk;obtain⟨q,e3,e4⟩:=YA h1;rw[e1,e3,<-e2,<-e4];simp only[Instr.sameNow,bytes_beq]
  split at h
  ·rename_i hb
   cases h
   exact⟨some (n,m.val),by simp[Instr.findNow,key _ hb],h2⟩
  ·rename_i hb;obtain⟨q,h4,h5⟩:=Tq hk hd (n+1) h3 h;exact⟨q,by simp only[Instr.findNow,key _ hb];exact h4,h5⟩
  ·cases h
theorem Ry (hX:Xp X P){t:TypeId}{len:Nat}{e:TypeId}{a:List AV}{kv:Value}(hu:X.Zt t=some (.array len e))(hk:Z6 σ (.agg a) kv)(Yv:WL X t (.agg a)=true) :
  ∀{es:List (AV×AV)} {Xq:List MapEntry} {r:Option AV} (n:Nat),ZW σ es Xq->Wd (.agg a) es=some r->∃q,(Instr.findAsking t kv Xq n).run P w=.ok q w/\KM σ r q
 |[],Xq,r,n,he,h=>by
  simp only[ZW] at he;subst he;simp only[Wd] at h;cases h;exact⟨none,rfl,trivial⟩
 |(k',v)::es,Xq,r,n,he,h=>by
  simp only[ZW] at he;obtain⟨m,y,rfl,h1,h2,h3⟩:=he;simp only[Wd] at h;have key:∀b,Xc (.agg a) k'=some b->(Op.equal t kv m.key).run P w=.ok b w:=by
   intro b hb
   cases k' <;> try (simp only[Xc] at hb;cases hb;done)
   exact IL hX hu hk h1 Yv hb
  split at h
  ·rename_i hb
   cases h
   exact⟨some (n,m.val),by simp[Instr.findAsking,key _ hb],h2⟩
  ·rename_i hb;obtain⟨q,h4,h5⟩:=Ry hX hu hk Yv (n+1) h3 h;exact⟨q,by simp only[Instr.findAsking,Sem.run_bind,key _ hb,Result.andThen_ok,ae1,if_false];exact h4,h5⟩
  ·cases h
theorem FQ (hX:Xp X P){t:TypeId}{k:AV}{kv:Value}(hk:Z6 σ k kv)(Yv:WL X t k=true){es:List (AV×AV)}{Xq:List MapEntry}{r:Option AV}(he:ZW σ es Xq)(h:Wd k es=some r) :
  ∃q,(Instr.findKey t kv Xq).run P w=.ok q w/\KM σ r q:=by
 have lJ:=Yv;unfold WL at Yv
 split at Yv
 ·rename_i kk k' n hu;obtain⟨q,h1,h2⟩:=Tq (d:=.int kk) hk trivial 0 he h;exact⟨q,by simp only[Instr.findKey,Sem.run_bind,ZU (hX.Zt _ _ hu),Result.andThen_ok,h1,Sem.run_pure],h2⟩
 ·rename_i b hu;obtain⟨q,h1,h2⟩:=Tq (d:=.string) hk trivial 0 he h;exact⟨q,by simp only[Instr.findKey,Sem.run_bind,ZU (hX.Zt _ _ hu),Result.andThen_ok,h1,Sem.run_pure],h2⟩
 ·rename_i b hu;obtain⟨q,h1,h2⟩:=Tq (d:=.bool) hk trivial 0 he h;exact⟨q,by simp only[Instr.findKey,Sem.run_bind,ZU (hX.Zt _ _ hu),Result.andThen_ok,h1,Sem.run_pure],h2⟩
 ·rename_i len e cs hu;obtain⟨q,h1,h2⟩:=Ry (P:=P) (w:=w) hX hu hk lJ 0 he h;refine⟨q,?_,h2⟩;simp only[Instr.findKey,Sem.run_bind,ZU (hX.Zt _ _ hu),Result.andThen_ok];obtain⟨vs,rfl,_⟩:=XS hk
  cases Xq with
  |nil=>simp only[Instr.findNow,Sem.run_pure];simpa[Instr.findAsking] using h1
  |cons m y=>simp only[Instr.findNow,Instr.sameNow];exact h1
 ·cases Yv
theorem HR.map (H:HR σ s w){r:Nat}{p:Pl}{es:List (AV×AV)}{ro:Bool}(hp:σ r=some p)(hg:s.get r=some (.map es ro)):∃Xq clock,w.heap[p.b]? = some (.map Xq clock)/\ZW σ es Xq.toList:=by
 obtain⟨o,ho,hb⟩:=H.JA r p _ hp (St.YO hg (by simp))
 cases o <;> simp only[BR] at hb
 exact⟨_,_,ho,hb⟩
theorem zU {t key elem:TypeId}{kv:Value}{ok:Bool}{q:Option (Nat×Value)}{mv:Value}{Xq:Array MapEntry}(hu:P.underlying t=some (.map key elem))
  (hm:(mv=.map none/\Xq=#[])\/∃r clock,mv=.map (some r)/\w.heap[r]? = some (.map Xq clock))
  (hck:∀b,(Instr.checkKey b 10000 key kv).run P w=.ok () w)(hf:(Instr.findKey key kv Xq.toList).run P w=.ok q w) :
  (Instr.lookup t mv kv ok).run P w=match q with
   |some (_,v)=>.ok (if ok then .tuple #[v,.bool true] else v) w
   |none=>((zeroValue elem).run P w).andThen fun z w=>.ok (if ok then .tuple #[z,.bool false] else z) w:=by
 rcases hm with⟨rfl,rfl⟩|⟨r,clock,rfl,hr⟩
 ·simp only[Instr.lookup,Sem.run_bind,ZU hu,Result.andThen_ok,Sem.run_pure,hck,hf]
  cases q with
  |none=>simp only[Sem.run_bind,Sem.run_pure,Result.andThen_ok]
  |some q=>obtain⟨i,v⟩:=q;simp only[Sem.run_bind,Sem.run_pure,Result.andThen_ok]
 ·simp only[Instr.lookup,Sem.run_bind,ZU hu,Result.andThen_ok,Sem.run_pure,Wo hr (by simp),hck,hf]
  cases q with
  |none=>simp only[Sem.run_bind,Sem.run_pure,Result.andThen_ok]
  |some q=>obtain⟨i,v⟩:=q;simp only[Sem.run_bind,Sem.run_pure,Result.andThen_ok]
theorem PI (hX:Xp X P){t key elem:TypeId}{k:AV}{kv:Value}{ok:Bool}{mv:Value}{Xq:Array MapEntry}{es:List (AV×AV)}{q0:Option AV}{r:AV}(hu:X.Zt t=some (.map key elem))(hk:Z6 σ k kv)(Yv:WL X key k=true)
  (hm:(mv=.map none/\Xq=#[])\/∃r clock,mv=.map (some r)/\w.heap[r]? = some (.map Xq clock))
  (he:ZW σ es Xq.toList)(hf:Wd k es=some q0)
  (hr:(match q0 with
   |some v=>some (if ok=true then AV.X' [v,.bool true] else v)
   |none=>match zero X elem with
    |some z=>some (if ok=true then AV.X' [z,.bool false] else z)
    |none=>none)=some r):Wz P w σ (Instr.lookup t mv kv ok) r:=by
 obtain⟨q,h1,h2⟩:=FQ (P:=P) (w:=w) hX hk Yv he hf;unfold Wz;rw[zU (hX.Zt _ _ hu) hm (fun b=>So hX hk Yv) h1]
 cases q0 with
 |some a =>
  cases q with
  |none=>exact h2.elim
  |some q =>
   obtain⟨i,v⟩:=q
   cases hr
   refine⟨if ok then .tuple #[v,.bool true] else v,rfl,?_⟩
   cases ok
   ·exact h2
   ·simp only[if_true,Z6];exact⟨_,rfl,by simp only[Z5];exact⟨_,_,rfl,h2,_,_,rfl,by simp[Z6],rfl⟩⟩
 |none =>
  cases q with
  |some q=>exact h2.elim
  |none =>
   simp only at hr
   split at hr
   ·rename_i z hz
    cases hr
    obtain⟨zv,BS,w7⟩:=Rx (w:=w) (σ:=σ) hX hz;refine⟨if ok then .tuple #[zv,.bool false] else zv,by simp only[BS,Result.andThen_ok],?_⟩
    cases ok
    ·exact w7
    ·simp only[if_true,Z6];exact⟨_,rfl,by simp only[Z5];exact⟨_,_,rfl,w7,_,_,rfl,by simp[Z6],rfl⟩⟩
   ·cases hr
theorem Bw {ks vs:List AV}{v:Value}(h:Z6 σ (.fm ks vs) v):∃r Xq clock,v=.map (some r)/\σ.fz r=some (.map Xq clock)/\Z5 σ.bare ks (Xq.toList.map MapEntry.key)/\Z5 σ.bare vs (Xq.toList.map MapEntry.val):=by simpa only[Z6] using h
theorem Mw {σ:Sg}:∀{ks vs:List AV} {l:List MapEntry},Z5 σ ks (l.map MapEntry.key)->Z5 σ vs (l.map MapEntry.val)->ZW σ (ks.zip vs) l
 |[],vs,l,h,k=>by
  simp only[Z5,List.map_eq_nil_iff] at h;subst h;simp[ZW]
 |a::ks,[],l,h,k=>by
  simp only[Z5,List.map_eq_nil_iff] at k;subst k;simp[Z5] at h
 |a::ks,b::vs,l,h,k=>by
  cases l with
  |nil=>simp[Z5] at h
  |cons m l =>
   simp only[afm,Z5] at h k;obtain⟨v,y,e,h1,h2⟩:=h;obtain⟨v',y',e',k1,k2⟩:=k
   cases e;cases e'
   simp only[List.zip_cons_cons,ZW];exact⟨m,l,rfl,h1,k1,Mw h2 k2⟩
theorem FP (hX:Xp X P)(H:HR σ s w){t:TypeId}{m k r:AV}{mv kv:Value}{ok:Bool}(hm:Z6 σ m mv)(hk:Z6 σ k kv)(h:WI X t m k ok s=some r):Wz P w σ (Instr.lookup t mv kv ok) r:=by
 unfold WI at h
 split at h
 ·rename_i key elem hu
  split at h
  ·rename_i Yv
   cases m <;> simp only at h <;> try (cases h;done)
   ·
    simp only[Z6] at hm;subst hm;exact PI hX hu hk Yv (.inl ⟨rfl,rfl⟩) (es:=[]) (q0:=none) (by simp[ZW]) rfl h
   ·rename_i b;obtain⟨p,hp,rfl⟩:=Rw hm
    cases hg:s.get b with
    |none=>rw[hg] at h;cases h
    |some JA =>
     rw[hg] at h
     cases JA <;> simp only at h <;> try (cases h;done)
     rename_i es ro
     cases hf:Wd k es with
     |none=>rw[hf] at h;cases h
     |some q0 =>
      rw[hf] at h;obtain⟨Xq,clock,g1,g2⟩:=H.map hp hg;refine PI hX hu hk Yv (.inr ⟨p.b,clock,rfl,g1⟩) g2 hf ?_
      cases q0 <;> exact h
   ·rename_i ks vs;obtain⟨b,Xq,clock,rfl,g1,g2,g3⟩:=Bw hm
    cases hf:Wd k (ks.zip vs) with
    |none=>rw[hf] at h;cases h
    |some q0 =>
     rw[hf] at h;refine PI hX hu hk Yv (.inr ⟨b,clock,rfl,(H.fz _ _ g1).1⟩) ((Mw g2 g3).mono (Sg.VM σ)) hf ?_
     cases q0 <;> exact h
  ·cases h
 ·cases h
end
end Go.Am
namespace Go.Am
open Go
section
variable [Stat]
variable {X:Cx}{P:Program}{w:World}{σ:Sg}{s:St}
def PG (k:AV):List (AV×AV)->Option (Option Nat)
 |[]=>some none
 |(k',_)::es=>match Xc k k' with
  |some true=>some (some 0)
  |some false=>match PG k es with
   |some (some i)=>some (some (i+1))
   |some none=>some none
   |none=>none
  |none=>none
theorem Be {k v:AV}:∀{es qR:List (AV×AV)},LU k v es=some qR->∃o,PG k es=some o/\qR=(match o with|none=>es++[(k,v)]|some i=>es.set i (k,v))/\(∀i,o=some i->i<es.length)
 |[],qR,h=>by
  simp only[LU] at h;cases h;exact⟨none,rfl,rfl,by simp⟩
 |(k',v')::es,qR,h=>by
  simp only[LU] at h
  split at h
  ·rename_i hb
   cases h
   exact⟨some 0,by simp only[PG,hb],rfl,by simp⟩
  ·rename_i hb
   split at h
   ·rename_i r hr
    cases h
    obtain⟨o,h1,h2,h3⟩:=Be hr
    cases o with
    |none=>exact⟨none,by simp only[PG,hb,h1],by simp[h2],by simp⟩
    |some i=>exact⟨some (i+1),by simp only[PG,hb,h1],by simp[h2],fun j hj=>by cases hj;have:=h3 i rfl;simp;omega⟩
   ·cases h
  ·cases h
theorem T6 {k:AV}{kv:Value}{d:TypeDesc}(hk:Z6 σ k kv)(hd:match d,k with|.int _,.int _ _=>True|.string,.str _=>True|.bool,.bool _=>True|_,_=>False) :
  ∀{es:List (AV×AV)} {Xq:List MapEntry} {o:Option Nat} (n:Nat),ZW σ es Xq->PG k es=some o->∃q,Instr.findNow d kv Xq n=some q/\(o=none->q=none)/\(∀i,o=some i->∃v,q=some (n+i,v))
 |[],Xq,o,n,he,h=>by
  simp only[ZW] at he;subst he;simp only[PG] at h;cases h;exact⟨none,rfl,fun _=>rfl,by simp⟩
 |(k',v)::es,Xq,o,n,he,h=>by
  simp only[ZW] at he;obtain⟨m,y,rfl,h1,h2,h3⟩:=he;simp only[PG] at h;have key:∀b,Xc k k'=some b->Instr.sameNow d kv m.key=some b:=by
   intro b hb
   cases k <;> try (simp only[Xc] at hb;cases hb;done)
   all_goals (cases d <;> try (exact hd.elim))
   all_goals (cases k' <;> simp only[Xc] at hb <;> try (cases hb;done))
   ·cases hb
    rw[X7 hk,X7 h1];rfl
   ·rename_i k1 n1 _ k2 n2
    split at hb
    ·rename_i lK;subst lK
     cases hb
     rw[Zx hk,Zx h1];simp[Instr.sameNow]
    ·cases hb
   ·cases hb
    obtain⟨p,e1,e2⟩:=YA hk;obtain⟨q,e3,e4⟩:=YA h1;rw[e1,e3,<-e2,<-e4];simp only[Instr.sameNow,bytes_beq]
  split at h
  ·rename_i hb
   cases h
   exact⟨some (n,m.val),by simp[Instr.findNow,key _ hb],by simp,fun i hi=>by cases hi;exact⟨_,rfl⟩⟩
  ·rename_i hb
   split at h
   ·rename_i i hi
    cases h
    obtain⟨q,h4,h5,h6⟩:=T6 hk hd (n+1) h3 hi;refine⟨q,by simp only[Instr.findNow,key _ hb];exact h4,by simp,fun j hj=>?_⟩
    cases hj
    obtain⟨v,hv⟩:=h6 i rfl;exact⟨v,by rw[hv];congr 2;omega⟩
   ·rename_i hi
    cases h
    obtain⟨q,h4,h5,h6⟩:=T6 hk hd (n+1) h3 hi;exact⟨q,by simp only[Instr.findNow,key _ hb];exact h4,fun _=>h5 rfl,by simp⟩
   ·cases h
  ·cases h
theorem Ta (hX:Xp X P){t:TypeId}{len:Nat}{e:TypeId}{a:List AV}{kv:Value}(hu:X.Zt t=some (.array len e))(hk:Z6 σ (.agg a) kv)(Yv:WL X t (.agg a)=true) :
  ∀{es:List (AV×AV)} {Xq:List MapEntry} {o:Option Nat} (n:Nat),ZW σ es Xq->PG (.agg a) es=some o->∃q,(Instr.findAsking t kv Xq n).run P w=.ok q w/\(o=none->q=none)/\(∀i,o=some i->∃v,q=some (n+i,v))
 |[],Xq,o,n,he,h=>by
  simp only[ZW] at he;subst he;simp only[PG] at h;cases h;exact⟨none,rfl,fun _=>rfl,by simp⟩
 |(k',v)::es,Xq,o,n,he,h=>by
  simp only[ZW] at he;obtain⟨m,y,rfl,h1,h2,h3⟩:=he;simp only[PG] at h;have key:∀b,Xc (.agg a) k'=some b->(Op.equal t kv m.key).run P w=.ok b w:=by
   intro b hb
   cases k' <;> try (simp only[Xc] at hb;cases hb;done)
   exact IL hX hu hk h1 Yv hb
  split at h
  ·rename_i hb
   cases h
   exact⟨some (n,m.val),by simp[Instr.findAsking,key _ hb],by simp,fun i hi=>by cases hi;exact⟨_,rfl⟩⟩
  ·rename_i hb
   split at h
   ·rename_i i hi
    cases h
    obtain⟨q,h4,h5,h6⟩:=Ta hX hu hk Yv (n+1) h3 hi;refine⟨q,by simp only[Instr.findAsking,Sem.run_bind,key _ hb,Result.andThen_ok,ae1,if_false];exact h4,by simp,fun j hj=>?_⟩
    cases hj
    obtain⟨v,hv⟩:=h6 i rfl;exact⟨v,by rw[hv];congr 2;omega⟩
   ·rename_i hi
    cases h
    obtain⟨q,h4,h5,h6⟩:=Ta hX hu hk Yv (n+1) h3 hi;exact⟨q,by simp only[Instr.findAsking,Sem.run_bind,key _ hb,Result.andThen_ok,ae1,if_false];exact h4,fun _=>h5 rfl,by simp⟩
   ·cases h
  ·cases h
theorem Dq (hX:Xp X P){t:TypeId}{k:AV}{kv:Value}(hk:Z6 σ k kv)(Yv:WL X t k=true){es:List (AV×AV)}{Xq:List MapEntry}{o:Option Nat}(he:ZW σ es Xq)(h:PG k es=some o) :
  ∃q,(Instr.findKey t kv Xq).run P w=.ok q w/\(o=none->q=none)/\(∀i,o=some i->∃v,q=some (i,v)):=by
 have lJ:=Yv;unfold WL at Yv
 split at Yv
 ·rename_i kk k' n hu;obtain⟨q,h1,h2,h3⟩:=T6 (d:=.int kk) hk trivial 0 he h;exact⟨q,by simp only[Instr.findKey,Sem.run_bind,ZU (hX.Zt _ _ hu),Result.andThen_ok,h1,Sem.run_pure],h2,by simpa using h3⟩
 ·rename_i b hu;obtain⟨q,h1,h2,h3⟩:=T6 (d:=.string) hk trivial 0 he h;exact⟨q,by simp only[Instr.findKey,Sem.run_bind,ZU (hX.Zt _ _ hu),Result.andThen_ok,h1,Sem.run_pure],h2,by simpa using h3⟩
 ·rename_i b hu;obtain⟨q,h1,h2,h3⟩:=T6 (d:=.bool) hk trivial 0 he h;exact⟨q,by simp only[Instr.findKey,Sem.run_bind,ZU (hX.Zt _ _ hu),Result.andThen_ok,h1,Sem.run_pure],h2,by simpa using h3⟩
 ·rename_i len e cs hu;obtain⟨q,h1,h2,h3⟩:=Ta (P:=P) (w:=w) hX hu hk lJ 0 he h;refine⟨q,?_,h2,by simpa using h3⟩;simp only[Instr.findKey,Sem.run_bind,ZU (hX.Zt _ _ hu),Result.andThen_ok];obtain⟨vs,rfl,_⟩:=XS hk
  cases Xq with
  |nil=>simp only[Instr.findNow,Sem.run_pure];simpa[Instr.findAsking] using h1
  |cons m y=>simp only[Instr.findNow,Instr.sameNow];exact h1
 ·cases Yv
theorem IA:∀{a:List AV} {u v:List Value},Xn a=true->Z5 σ a u->Z5 σ a v->u=v
 |[],u,v,_,h1,h2=>by simp only[Z5] at h1 h2;rw[h1,h2]
 |x::a,u,v,h,h1,h2=>by
  obtain⟨⟨n,rfl⟩,h'⟩:=VL h;simp only[Z5] at h1 h2;obtain⟨p,y,rfl,e1,e2⟩:=h1;obtain⟨q,z,rfl,e3,e4⟩:=h2;rw[Zx e1,Zx e3,IA h' e2 e4]
theorem T5:∀{a:List AV} {u:List Value},Xn a=true->Z5 σ a u->(u.zip u).all (fun (x,y)=>Instr.sameBits 9999 x y)=true
 |[],u,_,h1=>by simp only[Z5] at h1;subst h1;rfl
 |x::a,u,h,h1=>by
  obtain⟨⟨n,rfl⟩,h'⟩:=VL h;simp only[Z5] at h1;obtain⟨p,y,rfl,e1,e2⟩:=h1;rw[Zx e1];simp only[List.zip_cons_cons,List.all_cons,aab];refine⟨?_,T5 h' e2⟩;show Instr.sameBits (9998+1) _ _=true;rw[Instr.sameBits];simp
theorem OD {k k':AV}{kv mk:Value}(hk:Z6 σ k kv)(hm:Z6 σ k' mk)(h:Xc k k'=some true):Instr.sameBits 10000 mk kv=true:=by
 show Instr.sameBits (9999+1) mk kv=true
 cases k <;> try (simp only[Xc] at h;cases h;done)
 all_goals (cases k' <;> simp only[Xc] at h <;> try (cases h;done))
 ·rw[X7 hk,X7 hm,Instr.sameBits];simp at h;simp[h]
 ·split at h
  ·rename_i lK;subst lK;rw[Zx hk,Zx hm,Instr.sameBits];simp at h;simp[h]
  ·cases h
 ·obtain⟨p,e1,e2⟩:=YA hk;obtain⟨q,e3,e4⟩:=YA hm;rw[e1,e3,Instr.sameBits,bytes_beq];simp at h;simp[e2,e4,h]
 ·split at h
  ·rename_i hc;simp only[aab,beq_iff_eq] at hc;have e:=FR (Option.some.inj h) hc.1.1 hc.1.2;subst e;obtain⟨us,rfl,PS⟩:=XS hk;obtain⟨vs,rfl,Uy⟩:=XS hm;have e:=IA hc.1.1 PS Uy;have e':us=vs:=by cases us;cases vs;simpa using e
   subst e';rw[Instr.sameBits];simp only[beq_self_eq_true,afU];exact T5 hc.1.1 PS
  ·cases h
theorem Fx {k:AV}:∀{es:List (AV×AV)} {i:Nat},PG k es=some (some i)->∃k' v',es[i]? = some (k',v')/\Xc k k'=some true
 |[],i,h=>by simp only[PG] at h;cases h
 |(k',v')::es,i,h=>by
  simp only[PG] at h
  split at h
  ·rename_i hb;cases h;exact⟨k',v',rfl,hb⟩
  ·split at h
   ·rename_i j hj;cases h;obtain⟨a,b,h1,h2⟩:=Fx hj;exact⟨a,b,by simpa using h1,h2⟩
   ·cases h
   ·cases h
  ·cases h
theorem Ri:∀{es:List (AV×AV)} {Xq:List MapEntry},ZW σ es Xq->∀(i:Nat) (k v:AV),es[i]? = some (k,v)->∃m,Xq[i]? = some m/\Z6 σ k m.key/\Z6 σ v m.val
 |[],Xq,_,i,k,v,h=>by simp at h
 |(k',v')::es,Xq,he,i,k,v,h=>by
  simp only[ZW] at he;obtain⟨m,y,rfl,h1,h2,h3⟩:=he
  cases i with
  |zero=>simp at h;exact⟨m,rfl,h.1 ▸ h1,h.2 ▸ h2⟩
  |succ i=>simpa using Ri h3 i k v (by simpa using h)
theorem Rh {k v:AV}{kv vv:Value}(hk:Z6 σ k kv)(hv:Z6 σ v vv):∀{es:List (AV×AV)} {Xq:List MapEntry} (i:Nat),ZW σ es Xq->ZW σ (es.set i (k,v)) (Xq.modify i fun e=>{ e with key:=kv,val:=vv })
 |[],Xq,i,h=>by simp only[ZW] at h;subst h;simp[ZW]
 |(k',v')::es,Xq,i,h=>by
  simp only[ZW] at h;obtain⟨m,y,rfl,h1,h2,h3⟩:=h
  cases i with
  |zero=>simp only[List.set_cons_zero,List.modify_zero_cons,ZW];exact⟨_,_,rfl,hk,hv,h3⟩
  |succ i=>simp only[List.set_cons_succ,List.modify_succ_cons,ZW];exact⟨_,_,rfl,h1,h2,Rh hk hv i h3⟩
theorem R0 {k v:AV}{m:MapEntry}(hk:Z6 σ k m.key)(hv:Z6 σ v m.val):∀{es:List (AV×AV)} {Xq:List MapEntry},ZW σ es Xq->ZW σ (es++[(k,v)]) (Xq++[m])
 |[],Xq,h=>by simp only[ZW] at h;subst h;simp only[afP,ZW];exact⟨_,_,rfl,hk,hv,rfl⟩
 |(k',v')::es,Xq,h=>by
  simp only[ZW] at h;obtain⟨m',y,rfl,h1,h2,h3⟩:=h;simp only[List.cons_append,ZW];exact⟨_,_,rfl,h1,h2,R0 hk hv h3⟩
theorem Mt (hX:Xp X P)(H:HR σ s w){t:TypeId}{m k v:AV}{mv kv vv:Value}{s':St}(hm:Z6 σ m mv)(hk:Z6 σ k kv)(hv:Z6 σ v vv)(h:Xm X t m k v s=some s') :
  ∃w',(Instr.mapUpdate t mv kv vv).run P w=.ok () w'/\Good σ s w σ s' w':=by
 unfold Xm at h
 split at h
 ·rename_i key elem b hu
  split at h
  ·rename_i Yv
   split at h
   ·rename_i es hg
    split at h
    ·rename_i qR Fw
     cases h
     obtain⟨p,hp,rfl⟩:=Rw hm;obtain⟨Xq,clock,g1,g2⟩:=H.map hp hg;obtain⟨o,h1,h2,h3⟩:=Be Fw;obtain⟨q,f1,f2,f3⟩:=Dq (P:=P) (w:=w) hX hk Yv g2 h1;have Zm:p.b<w.heap.size:=H.lt _ _ hp;have hl:s.look b=some (.map es false):=St.YO hg (by simp);have fin:∀(qQ:Array MapEntry) (Dp:Nat),ZW σ qR qQ.toList->Good σ s w σ (s.put b (.map qR false)) { w with heap:=w.heap.setIfInBounds p.b (.map qQ Dp) }:=by
      intro qQ Dp hr;refine Good.put H hp hl rfl (by simp) (by simp) ?_ (o:=.map qQ Dp) ?_ hr rfl rfl rfl
      ·intro c hc;simp only;rw[Array.getElem?_setIfInBounds_ne (fun e=>hc e.symm)]
      ·simp[Zm]
     cases o with
     |none =>
      rw[f2 rfl] at f1;refine⟨_,?_,fin (Xq.push { key:=kv,val:=vv,born:=clock }) (clock+1) (by rw[h2,Array.toList_push];exact R0 hk hv g2)⟩;simp only[Instr.mapUpdate,Sem.run_bind,ZU (hX.Zt _ _ hu),Result.andThen_ok,Wo g1 (by simp),So hX hk Yv,f1,PJ g1 (by simp)]
     |some i =>
      obtain⟨ov,hq⟩:=f3 i rfl;rw[hq] at f1;obtain⟨k',v',e1,e2⟩:=Fx h1;obtain⟨m,e3,e4,e5⟩:=Ri g2 i k' v' e1;rw[afj] at e3;refine⟨_,?_,fin (Xq.modify i fun e=>{ e with key:=kv,val:=vv }) clock (by rw[h2,Array.toList_modify];exact Rh hk hv i g2)⟩;simp only[Instr.mapUpdate,Sem.run_bind,ZU (hX.Zt _ _ hu),Result.andThen_ok,Wo g1 (by simp),So hX hk Yv,f1,e3,afF,afZ];simp only[Instr.keyThatStays,OD hk e4 e2,if_true,Sem.run_pure,Result.andThen_ok,PJ g1 (by simp)]
    ·cases h
   ·cases h
  ·cases h
 ·cases h
end
end Go.Am
namespace Go.Am
open Go
section
variable [Stat]
variable {X:Cx}{P:Program}{w:World}{σ:Sg}{s:St}
theorem HX (need M:Nat)(hM:need+(need+768) / 4<=M):∀(r c:Nat),c<=M->Builtin.growBy need r c<=M
 |0,c,h=>h
 |r+1,c,h=>by
  simp only[Builtin.growBy]
  split
  ·exact h
  ·exact HX need M hM r _ (by omega)
theorem B5 {need cap:Nat}(h:cap<need):Builtin.nextslicecap need cap<=2*need+200:=by
 unfold Builtin.nextslicecap
 split
 ·omega
 ·split
  ·omega
  ·exact HX need _ (by omega) 4 cap (by omega)
theorem Eb {α β:Type}(f:α->List β)(n:Nat):∀(l:List α),(∀u∈l,(f u).length=n)->(l.flatMap f).length=l.length*n
 |[],_=>by simp
 |x::l,hl=>by
  rw[afn,aeW,hl x (aeZ ..),Eb f n l fun u hu=>hl u (abc _ hu),afc,Nat.add_mul];omega
theorem Md (H:HR σ s w){n m:Nat}{x:AV}{xv:Value}{new:List AV}(hx:Z6 σ x xv)(h:Wt n x s=some (m,new)) :
  (∀w,(Builtin.lenOf xv).run P w=.ok m w)/\∃vs:Array Value,(∀w',w'.heap=w.heap->(Builtin.firstCells n m xv).run P w'=.ok vs w')/\Z5 σ new vs.toList:=by
 unfold Wt at h
 split at h
 ·cases h
  simp only[Z6] at hx;subst hx;exact⟨fun _=>rfl,#[],fun _ _=>rfl,by simp[Z5]⟩
 ·rename_i b o len cap Xo;obtain⟨a,c,rfl,hlen,⟨p,hp,ha,_⟩,_⟩:=Vk hx
  split at h
  ·rename_i cs hc
   split at h
   ·rename_i r hg
    cases h
    refine⟨fun _=>rfl,?_⟩;by_cases hm:m=0
    ·subst hm;have:new=[]:=by have:=(X8 hg).1;simpa using this
     subst this;exact⟨#[],fun _ _=>by simp[Builtin.firstCells,loadCells,loadCellsFrom],by simp[Z5]⟩
    ·obtain⟨vs,h1,h2⟩:=S9 (P:=P) H hp hc hg;exact⟨vs.toArray,fun w' hw=>by simp only[Builtin.firstCells];rw[ha (by omega)];exact h1 w' hw,h2⟩
   ·cases h
  ·cases h
 ·rename_i bs
  cases h
  obtain⟨b,rfl,rfl⟩:=YA hx;have WU:b.data.toList.length=b.size:=by rw[afd];rfl
  refine⟨fun _=>by rw[WU];rfl,(b.extract 0 b.data.toList.length).data.map fun b=>.int .u8 b.toNat,fun _ _=>rfl,?_⟩;have e:(b.extract 0 b.data.toList.length).data.toList=b.data.toList:=by
   rw[extract_toList,afJ,List.take_of_length_le (aba _)]
  have:((b.extract 0 b.data.toList.length).data.map fun b=>Value.int .u8 b.toNat).toList=b.data.toList.map fun b=>Value.int .u8 b.toNat:=by
   rw[Array.toList_map,e]
  rw[this];generalize b.data.toList=l
  induction l with
  |nil=>simp[Z5]
  |cons c l ih=>simp only[afm,Z5];exact⟨_,_,rfl,by simp[Z6],ih⟩
 ·rename_i es
  split at h
  ·rename_i X9
   cases h
   simp only[aab,ae9,beq_iff_eq,bne_iff_ne] at X9;obtain⟨a,c,us,rfl,qS,UO,U8⟩:=Qv hx;refine⟨fun _=>rfl,(us.flatMap fun u=>u.cells.toList).toArray,fun w' hw=>?_,?_⟩
   ·have IT:=UO.length;rcases U8 with rfl|⟨MD,cc,ee,fz,m,g1,g2,g3,g4⟩
    ·have:es.length=0:=IT;rw[this];simp[Builtin.firstCells,loadCells,loadCellsFrom]
    ·by_cases dy:us=[]
     ·subst dy;have:es.length=0:=IT;rw[this];simp[Builtin.firstCells,loadCells,loadCellsFrom]
     ·have BM:m=n:=by
       obtain⟨u,hu⟩:=List.exists_mem_of_ne_nil us dy;obtain⟨i,hi⟩:=List.getElem?_of_mem hu;have Zm:i<es.length:=by rw[IT];exact (ae6.1 hi).1
       obtain⟨u',h1,h2⟩:=UO.get i _ (aaa Zm);rw[hi] at h1;cases h1;have h3:=(XP h2).length;have h4:=X9.1 _ (ae2 Zm);have h5:=g3 u hu;have h6:u.cells.toList.length=u.cells.size:=rfl;omega
      subst BM;obtain⟨ab,ao,asp⟩:=a;simp only at MD g1 g4;subst MD;have:=run_loadCells_list (P:=P) w' ⟨ab,ao,none⟩ (us.flatMap fun u=>u.cells.toList) (fun j v hv=>by
       rw[Yz,cell_of_heap hw,YJ (H.fz _ _ g1).1];exact g4 _ _ hv)
      simp only[Builtin.firstCells];have hlen:(us.flatMap fun u=>u.cells.toList).length=es.length*m:=by
       rw[IT];exact Eb _ m us fun u hu=>by simpa using g3 u hu
      rw[hlen] at this;exact this
   ·have:Z5 σ.bare (es.flatMap AV.cells) (us.flatMap fun u=>u.cells.toList):=by
     clear U8 hx qS X9
     induction es generalizing us with
     |nil=>simp only[Z5] at UO;subst UO;simp[Z5]
     |cons x es ih =>
      simp only[Z5] at UO;obtain⟨v,y,rfl,h1,h2⟩:=UO;rw[afn,afn];exact (XP h1).append (ih y h2)
    simpa using Z5.mono (Sg.VM σ) _ _ this
  ·cases h
 ·cases h
theorem AP (H:HR σ s w){b o len n:Nat}{cap:Option Nat}{Xo:Nat}{a:Addr}{c:Nat}{cs old:List AV}(E8:IQ σ b o len cap Xo a c)(hc:s.cells b=some cs)(hg:YB (len*n) o cs=some old) :
  ∃vs:Array Value,(∀w',w'.heap=w.heap->(Builtin.firstCells n len (.slice (some a) len c)).run P w'=.ok vs w')/\Z5 σ old vs.toList:=by
 obtain⟨hlen,⟨p,hp,ha,_⟩,_⟩:=E8;by_cases hm:len=0
 ·subst hm;have:old=[]:=by have:=(X8 hg).1;simpa using this
  subst this;exact⟨#[],fun _ _=>by simp[Builtin.firstCells,loadCells,loadCellsFrom],by simp[Z5]⟩
 ·obtain⟨vs,h1,h2⟩:=S9 (P:=P) H hp hc hg;exact⟨vs.toArray,fun w' hw=>by simp only[Builtin.firstCells];rw[ha (by omega)];exact h1 w' hw,h2⟩
theorem Good.inPlace (H:HR σ s w)(hf:σ s.next=none){b:Nat}{p q:Pl}{b0 b1:UK}(hp:σ b=some p)(hl:s.look b=some b0)(UQ:b0.own=true)(RQ:b1≠.gone)(hq:q.b=p.b){w':World}(WU:w'.heap.size=w.heap.size)
  (U_:∀c,c≠p.b->w'.heap[c]? = w.heap[c]?){o:Obj}(ho:w'.heap[p.b]? = some o)(hr:BR (σ.add s.next q) q b1 o)(lP:w'.os=w.os)(ht:w'.tape=w.tape)(PN:w'.output=w.output) :
  Good σ s w (σ.add s.next q) ((s.put b .gone).new b1) w':=by
 have hle:Sg.le σ (σ.add s.next q):=Sg.PO hf;have look:∀j c,((s.put b .gone).new b1).look j=some c->(j=s.next/\c=b1)\/(j≠s.next/\j≠b/\s.look j=some c):=by
  intro j c hj;rw[St.Wx _ _ _ RQ,St.Z9] at hj;by_cases e:s.next=j
  ·rw[if_pos e] at hj;cases hj;exact .inl ⟨e.symm,rfl⟩
  ·rw[if_neg e,St.Ye] at hj;by_cases e':b=j
   ·rw[if_pos e'] at hj;cases hj
   ·rw[if_neg e'] at hj;exact .inr ⟨fun h=>e h.symm,fun h=>e' h.symm,hj⟩
 have Zm:p.b<w.heap.size:=H.lt _ _ hp;refine⟨⟨?_,?_,?_,?_⟩,⟨hle,fun _ _ h=>.inl h,by omega,?_,?_,lP,ht,PN⟩,?_,by rw[St.Z',St.Z9];omega,?_,?_,rfl⟩
 ·intro i r hi;by_cases e:i=s.next
  ·subst e;rw[Sg.Y7] at hi;cases hi;omega
  ·rw[Sg.XW _ _ e] at hi;rw[WU];exact H.lt i r hi
 ·intro i r c hi hc;rcases look i c hc with⟨rfl,rfl⟩|⟨e,e',FX⟩
  ·rw[Sg.Y7] at hi;cases hi;exact⟨o,by rw[hq];exact ho,hr⟩
  ·rw[Sg.XW _ _ e] at hi;obtain⟨o',h1,h2⟩:=H.JA i r c hi FX;have ZQ:r.b≠p.b:=fun he=>e' (H.inj i b r p c b0 hi hp FX hl he)
   exact⟨o',by rw[U_ _ ZQ];exact h1,h2.mono hle⟩
 ·intro i j r t c d hi hj hc hd he;rcases look i c hc with⟨rfl,rfl⟩|⟨e1,e2,FX⟩ <;> rcases look j d hd with⟨e3,rfl⟩|⟨e3,e4,Wy⟩
  ·exact e3.symm
  ·rw[Sg.Y7] at hi;cases hi;rw[Sg.XW _ _ e3] at hj;exact absurd (H.inj j b t p d b0 hj hp Wy hl (by omega)) e4
  ·subst e3;rw[Sg.Y7] at hj;cases hj;rw[Sg.XW _ _ e1] at hi;exact absurd (H.inj i b r p c b0 hi hp FX hl (by omega)) e2
  ·rw[Sg.XW _ _ e1] at hi;rw[Sg.XW _ _ e3] at hj;exact H.inj i j r t c d hi hj FX Wy he
 ·intro c o' hc;obtain⟨h1,h2⟩:=H.fz c o' hc;have hcp:c≠p.b:=fun e=>h2 ⟨b,p,b0,hp,hl,UQ,e.symm⟩
  refine⟨by rw[U_ c hcp];exact h1,?_⟩;rintro⟨j,r,d,hj,hd,hdo,rfl⟩;rcases look j d hd with⟨rfl,rfl⟩|⟨e,e',Wy⟩
  ·rw[Sg.Y7] at hj;cases hj;exact hcp hq
  ·rw[Sg.XW _ _ e] at hj;exact h2 ⟨j,r,d,hj,Wy,hdo,rfl⟩
 ·intro c _ hn;exact U_ c (fun e=>hn ⟨b,p,b0,hp,hl,UQ,e.symm⟩)
 ·rintro c hc ⟨j,r,d,hj,hd,hdo,rfl⟩;rcases look j d hd with⟨rfl,rfl⟩|⟨e,e',Wy⟩
  ·rw[Sg.Y7] at hj;cases hj;exact⟨b,p,b0,hp,hl,UQ,hq.symm⟩
  ·rw[Sg.XW _ _ e] at hj;exact⟨j,r,d,hj,Wy,hdo,rfl⟩
 ·intro i hi;rw[St.Z',St.Z9] at hi;exact Sg.XW _ _ (by omega)
 ·intro i hi Gr
  cases hc:((s.put b .gone).new b1).look i with
  |none=>rfl
  |some c =>
   rcases look i c hc with⟨rfl,_⟩|⟨_,_,FX⟩
   ·omega
   ·rw[Gr] at FX;cases FX
 ·intro i r hi hn;by_cases e:i=s.next
  ·subst e;rw[Sg.Y7] at hi;cases hi;exact .inr ⟨b,p,b0,hp,hl,UQ,hq.symm⟩
  ·rw[Sg.XW _ _ e,hn] at hi;cases hi
theorem Good.drop (H:HR σ s w){b:Nat}{b0:UK}(hl:s.look b=some b0):Good σ s w σ (s.put b .gone) w:=by
 have look:∀j c,(s.put b .gone).look j=some c->s.look j=some c:=by
  intro j c hj;rw[St.Ye] at hj;by_cases e:b=j
  ·rw[if_pos e] at hj;cases hj
  ·rw[if_neg e] at hj;exact hj
 refine⟨⟨H.lt,fun i p c hi hc=>H.JA i p c hi (look i c hc),fun i j p q c d hi hj hc hd he=>H.inj i j p q c d hi hj (look i c hc) (look j d hd) he,fun c o hc=>⟨(H.fz c o hc).1,fun ⟨i,p,d,hi,hd,ho,he⟩=>(H.fz c o hc).2 ⟨i,p,d,hi,look i d hd,ho,he⟩⟩⟩,
  ⟨Sg.le_refl _,fun _ _ h=>.inl h,aba _,fun _ _ _=>rfl,?_,rfl,rfl,rfl⟩,fun _ _=>rfl,aba _,?_,fun i p h k=>(by rw[k] at h;cases h),rfl⟩
 ·rintro c _ ⟨i,p,d,hi,hd,ho,rfl⟩;exact⟨i,p,d,hi,look i d hd,ho,rfl⟩
 ·intro i _ hi
  cases hc:(s.put b .gone).look i with
  |none=>rfl
  |some c=>rw[look i c hc] at hi;cases hi
theorem JI (z:Array Value)(n:Nat):(Builtin.zeroCells z n).size=n*z.size:=by simp[Builtin.zeroCells]
theorem B4 (hX:Xp X P){t u elem:TypeId}{ts:Array TypeId}{ty:TypeId}{ei:TypeInfo}{z:Value}{n m len c:Nat}{base:Option Addr}{xv:Value}{old new:Array Value}(ht:ts[0]? = some t)(OX:ts[1]? = some u)
  (xJ:∃d,X.Zt u=some d/\∀k,d≠.int k)(hu:X.Zt t=some (.slice elem))(hi:X.inf elem=some ei)(WU:ei.size=n)(hz:ei.zero=some z)
  (hl:(Builtin.lenOf xv).run P w=.ok m w)(hx:∀w',w'.heap=w.heap->(Builtin.firstCells n m xv).run P w'=.ok new w')(ho:∀w',w'.heap=w.heap->(Builtin.firstCells n len (.slice base len c)).run P w'=.ok old w')
  (Ea:c<len+m)(hb:(len+m)*ei.bytes<=2^40)(TG:ei.bytes<=2^20)(Bg:len+m<=2^40)(vJ:ei.bytes≠0) :
  ∃cap,len+m<=cap/\(Builtin.append_ ts ty #[.slice base len c,xv]).run P w=.ok (.slice (some ⟨w.heap.size,0,none⟩) (len+m) cap) (w.drew.alloc (.cells (old++new++Builtin.zeroCells z.cells (cap-(len+m))) elem)):=by
 obtain⟨d,hd,hdi⟩:=xJ;refine⟨(len+m)+(w.tape w.drawn (.appendCap (len+m) c elem))%(2^63-(len+m)),by omega,?_⟩;have hs:size X elem=some n:=by simp[size,hi,WU]
 have hnc:¬(Builtin.nextslicecap (len+m) c*ei.bytes>2^48):=by
  have h1:=B5 Ea;have h2:Builtin.nextslicecap (len+m) c*ei.bytes<=(2*(len+m)+200)*ei.bytes:=Nat.mul_le_mul_right _ h1;have h3:(2*(len+m)+200)*ei.bytes=2*((len+m)*ei.bytes)+200*ei.bytes:=by rw[Nat.add_mul,Nat.mul_assoc]
  omega
 have cK:¬(((len+m:Nat):Int)>IntKind.i64.max/\ei.bytes=0):=fun h=>vJ h.2
 have hle:¬(len+m<=c):=by omega
 have e0:(#[Value.slice base len c,xv]:Array Value)[0]? = some (.slice base len c):=rfl;have e1:(#[Value.slice base len c,xv]:Array Value)[1]? = some xv:=rfl;unfold Builtin.append_;simp only[ht,e0,e1,Sem.run_bind,ZU (hX.Zt _ _ hu),Result.andThen_ok,Zj hX hs,OX,ZU (hX.Zt _ _ hd),Sem.run_pure];simp only[ae1,if_false,Sem.run_bind,hl,Result.andThen_ok,hle,Bool.not_false,if_true,LG (hX.inf _ _ hi),false_or,cK,hnc,run_choose,Question.forced,Question.cut,run_askRoom,World.drew_eq,
  ho w.drew rfl,hx w.drew rfl,F1 (hX.inf _ _ hi) hz,newRow,run_newObj,World.alloc_eq,Sem.run_pure]
 rfl
theorem UX (hX:Xp X P){t u elem:TypeId}{ts:Array TypeId}{ty:TypeId}{n m len c:Nat}{base:Option Addr}{xv:Value}{new:Array Value}{w':World}(ht:ts[0]? = some t)(OX:ts[1]? = some u)
  (xJ:∃d,X.Zt u=some d/\∀k,d≠.int k)(hu:X.Zt t=some (.slice elem))(hs:size X elem=some n)
  (hl:(Builtin.lenOf xv).run P w=.ok m w)(hx:(Builtin.firstCells n m xv).run P w=.ok new w)(Ea:len+m<=c)
  (Xg:match base with|some a=>(storeCells (a.add (len*n)) new.toList).run P w=.ok () w'|none=>w'=w) :
  (Builtin.append_ ts ty #[.slice base len c,xv]).run P w=.ok (.slice base (len+m) c) w':=by
 obtain⟨d,hd,hdi⟩:=xJ;have e0:(#[Value.slice base len c,xv]:Array Value)[0]? = some (.slice base len c):=rfl;have e1:(#[Value.slice base len c,xv]:Array Value)[1]? = some xv:=rfl;unfold Builtin.append_;simp only[ht,e0,e1,Sem.run_bind,ZU (hX.Zt _ _ hu),Result.andThen_ok,Zj hX hs,OX,ZU (hX.Zt _ _ hd),Sem.run_pure];simp only[ae1,if_false,Sem.run_bind,hl,Result.andThen_ok,Ea,Bool.not_false,if_true,hx]
 cases base with
 |none=>simp only at Xg;subst Xg;rfl
 |some a=>simp only at Xg ⊢;simp only[Sem.run_bind,Xg,Result.andThen_ok,Sem.run_pure]
theorem D_ {old new:List AV}{ov nv:Array Value}(ho:Z5 σ old ov.toList)(hn:Z5 σ new nv.toList)(z:Array Value):∀(j:Nat) (a:AV),(old++new)[j]? = some a->∃v,(ov++nv++z)[j]? = some v/\Z6 σ a v:=by
 intro j a ha;obtain⟨v,hv,hr⟩:=(ho.append hn).get j a ha;refine⟨v,?_,hr⟩;have hj:j<(ov++nv).size:=by
  have:=(ae6.1 hv).1;simp at this ⊢;omega
 rw[<-Array.toList_append,afj] at hv;rw[Array.getElem?_append_left hj];exact hv
theorem L8 (hX:Xp X P)(H:HR σ s w)(hf:σ s.next=none){t u:TypeId}{ts:Array TypeId}{ty:TypeId}{d x r:AV}{dv xv:Value}{s':St}(ht:ts[0]? = some t)(OX:ts[1]? = some u)
  (xJ:∃d,X.Zt u=some d/\∀k,d≠.int k)(hd:Z6 σ d dv)(hx:Z6 σ x xv)(h:Qu X t d x s=some (r,s')):Qb P σ s w (Builtin.append_ ts ty #[dv,xv]) r s':=by
 unfold Qu at h
 split at h
 ·rename_i elem hu
  split at h
  ·rename_i ei n hi hs
   split at h
   ·rename_i m new L6
    split at h
    ·cases h
    ·rename_i aa5;simp only[not_or,Decidable.not_not,Nat.not_lt,ne_eq] at aa5;obtain⟨IV,hb,TG,Bg,K1,vJ,hz,mA⟩:=aa5;obtain⟨z,hz,r7⟩:∃z,ei.zero=some z/\z.cells.size=n:=by
      cases hzz:ei.zero with
      |none=>rw[hzz] at hz;exact absurd rfl hz
      |some z=>rw[hzz] at hz;exact⟨z,rfl,by simpa[Lv] using hz⟩
     obtain⟨hl,nv,fh,xH⟩:=Md (P:=P) H hx L6;have WU:ei.size=n:=by simp only[size,hi] at hs;exact Option.some.inj hs
     split at h
     ·
      rename_i hm0;subst hm0;have aa6:nv.toList=[]:=by
       have:=xH.length;rw[IV,Nat.zero_mul] at this;exact afq.1 this.symm
      split at h
      ·cases h
       simp only[Z6] at hd;subst hd;exact⟨σ,_,w,UX hX ht OX xJ hu hs (hl w) (fh w rfl) (by omega) rfl,by simp[Z6],Good.refl H⟩
      ·cases h
       have Wy:=hd;obtain⟨a,c,rfl,E8⟩:=Vk hd;refine⟨σ,_,w,UX hX ht OX xJ hu hs (hl w) (fh w rfl) E8.len ?_,Wy,Good.refl H⟩;rw[aa6];rfl
      ·cases h
       have Wy:=hd;obtain⟨a,c,us,rfl,qS,_⟩:=Qv hd;refine⟨σ,_,w,UX hX ht OX xJ hu hs (hl w) (fh w rfl) qS ?_,Wy,Good.refl H⟩;rw[aa6];rfl
      ·cases h
     ·rename_i hm0;have fresh:∀(Wg:Sg) (s0:St) (base:Option Addr) (len c:Nat) (old:List AV) (ov:Array Value),HR Wg s0 w->Wg s0.next=none->Z5 Wg old ov.toList->Z5 Wg new nv.toList->(∀w',w'.heap=w.heap->(Builtin.firstCells n len (.slice base len c)).run P w'=.ok ov w')->old.length=len*n ->
        c<len+m->(len+m)*ei.bytes<=2^40->len+m<=2^40->∀(RA Ss:Nat),Qb P Wg s0 w (Builtin.append_ ts ty #[.slice base len c,xv]) (.sl s0.next 0 (len+m) none n) (s0.new (.cells (old++new) elem false RA Ss)):=by
       intro Wg s0 base len c old ov H0 hf0 fg Ca hov BF Ea mc LK RA Ss;obtain⟨cap,LS,Zp⟩:=B4 (w:=w) hX (ty:=ty) ht OX xJ hu hi WU hz (hl w) fh hov Ea mc TG LK vJ;have lP:=fg.size;have ig:=Ca.size;have A5:(ov++nv++Builtin.zeroCells z.cells (cap-(len+m))).size=cap*n:=by
        simp only[Array.size_append,JI,r7,<-lP,<-ig,BF,IV,<-Nat.add_mul]
        congr 1;omega
       refine⟨Wg.add s0.next ⟨w.heap.size,0,cap*n⟩,_,_,Zp,?_,?_⟩
       ·simp only[Z6];exact⟨_,_,rfl,by omega,⟨_,Sg.Y7 _ _ _,fun _=>by simp,fun _=>by simp⟩,by simp⟩
       ·have hle:Sg.le Wg (Wg.add s0.next ⟨w.heap.size,0,cap*n⟩):=Sg.PO hf0;refine Good.w_ (Good.new (w:=w.drew) (H0.of_heap rfl) hf0 _ (by simp) _ _ ⟨A5,?_,rfl,?_,?_,fun h=>absurd (hX.spec _ h) (by simpa using mA)⟩)
        ·simp only[aeW,BF,IV,<-Nat.add_mul,ad4];exact Nat.mul_le_mul_right _ LS
        ·intro j a ha;obtain⟨v,hv,hr⟩:=D_ fg Ca (Builtin.zeroCells z.cells (cap-(len+m))) j a ha;exact⟨v,by simpa using hv,Z6.mono hle _ _ hr⟩
        ·intro _ j h1 h2 _;simp at h2
      split at h
      ·
       cases h
       simp only[Z6] at hd;subst hd;have hlz:WK AV.ZR=0:=rfl;rw[hlz] at hb Bg;have:=fresh σ s none 0 0 [] #[] H hf (by simp[Z5]) xH (fun w' _=>rfl) (by simp) (by omega) hb Bg 0 0
       simpa using this
      ·rename_i b o len cap Xo;obtain⟨a,c,rfl,E8⟩:=Vk hd
       split at h
       ·rename_i cs hc
        split at h
        ·rename_i old hg;obtain⟨ov,hov,fg⟩:=AP (P:=P) H E8 hc hg;have BF:=(X8 hg).1;simp only[WK] at hb Bg
         split at h
         ·rename_i k;have hck:=E8.cap k rfl;subst hck
          split at h
          ·rename_i NO
           split at h
           ·rename_i gE;subst gE
            split at h
            ·rename_i s1 S6
             cases h
             obtain⟨hlen,⟨p,hp,ha,kX⟩,_⟩:=E8;have rF:=ha (by omega);subst rF;obtain⟨w',g1,g2⟩:=TU (P:=P) H hp xH S6;refine⟨σ,_,w',UX hX ht OX xJ hu hs (hl w) (fh w rfl) NO (by simp only[Yz,aeX] at g1 ⊢;exact g1),?_,g2⟩;simp only[Z6];exact⟨_,_,rfl,NO,⟨p,hp,fun _=>rfl,kX⟩,fun q hq=>by cases hq;rfl⟩
            ·cases h
           ·cases h
          ·rename_i NO
           cases h
           exact fresh σ s (some a) len c old ov H hf fg xH hov BF (by omega) hb Bg 0 0
         ·split at h
          ·rename_i r9 e0 RA Ss hgb
           split at h
           ·rename_i Tm;obtain⟨gE,aeS,he0,X9⟩:=Tm;subst gE;subst he0
            cases h
            have VD:s.look b=some (.cells r9 e0 false RA Ss):=St.YO hgb (by simp);have Mx:r9=cs:=by
             obtain⟨_,_,_,_,FY,_⟩:=J9 hc;rw[VD] at FY;cases FY;rfl
            subst Mx;by_cases NO:len+m<=c
            ·
             obtain⟨hlen,⟨p,hp,ha,kX⟩,_⟩:=E8;have rF:=ha (by omega);subst rF;obtain⟨cc,fz,k1,k2,k3,k4,k5⟩:=H.cells hp VD;have aeT:nv.toList.length=m*Xo:=by rw[<-IV];exact xH.length.symm
             have hcb:p.sh+o+c*Xo<=p.n:=kX K1;have hmul:(len+m)*Xo<=c*Xo:=Nat.mul_le_mul_right _ NO;have aer:(len+m)*Xo=len*Xo+m*Xo:=Nat.add_mul _ _ _;have tY:∀v∈nv.toList,v.oneCell'=true:=by
              intro v hv;obtain⟨i,hi,rfl⟩:=ae8.1 hv;have hix:i<new.length:=by have:=xH.length;omega
              obtain⟨v',Ix,LR⟩:=Z5.get xH i new[i] (aaa hix);rw[aaa hi] at Ix;cases Ix;exact SB LR (ae9.1 X9 _ (ae2 hix))
             obtain⟨w',nI,q1,q2,q3,q4,q5,q6,q7,q8,q9⟩:=TO (P:=P) (b:=p.b) (e:=e0) (fz:=fz) nv.toList (p.sh+o+len*Xo) 0 w cc k1 tY (by rw[k2];omega)
              (fun j hj rX hfj=>by
               obtain⟨r1,r2⟩:=k5 rfl (j-p.sh) (by rw[show p.sh+(j-p.sh)=j from by omega];exact hfj.1) (by rw[show p.sh+(j-p.sh)=j from by omega];exact hfj.2) (by omega);omega)
             refine⟨σ.add s.next ⟨p.b,p.sh+o,p.n⟩,_,w',UX hX ht OX xJ hu hs (hl w) (fh w rfl) NO (by simp only[Yz];exact q1),?_,?_⟩
             ·simp only[Z6];exact⟨_,_,rfl,NO,⟨_,Sg.Y7 _ _ _,fun _=>by simp,fun _=>by simpa using hcb⟩,by simp⟩
             ·have hle:Sg.le σ (σ.add s.next ⟨p.b,p.sh+o,p.n⟩):=Sg.PO hf;have hold:=fg.length;refine Good.inPlace (q:=⟨p.b,p.sh+o,p.n⟩) (b1:=.cells (old++new) e0 false (RA-o) (Ss-o)) H hf hp VD rfl (by simp) rfl q2 q3 q4 ⟨by rw[q5,k2],?_,rfl,?_,?_,fun h=>absurd (hX.spec _ h) (by simpa using mA)⟩ q7 q8 q9
              ·simp only[aeW,BF,IV];omega
              ·intro j a ha;simp only;rw[q6];by_cases hj:j<old.length
               ·rw[afo hj] at ha;rw[if_neg (by omega)];have:=k4 (o+j) a (SR hg ha);obtain⟨v,hv,hr⟩:=this;exact⟨v,by rw[aeX];exact hv,Z6.mono hle _ _ hr⟩
               ·rw[afO (by omega)] at ha;obtain⟨v,hv,hr⟩:=xH.get _ _ ha;have hjm:j-old.length<new.length:=(ae6.1 ha).1;rw[if_pos (by omega)];refine⟨v,?_,Z6.mono hle _ _ hr⟩;rw[show p.sh+o+j-(p.sh+o+len*Xo+0)=j-old.length from by omega];exact hv
              ·intro _ j h1 h2 h3;simp only at h1 h2 h3;obtain⟨r1,r2⟩:=k5 rfl (o+j) (by omega) (by omega) (by omega);omega
            ·
             have sm:=Good.drop H VD;have:=fresh σ (s.put b .gone) (some a) len c old ov sm.hr hf fg xH hov BF (by omega) hb Bg (RA-o) (Ss-o);obtain⟨Y',v,w',g1,g2,g3⟩:=this;exact⟨Y',v,w',g1,g2,sm.trans g3⟩
           ·cases h
          ·cases h
        ·cases h
       ·cases h
      ·cases h
   ·cases h
  ·cases h
 ·cases h
end
end Go.Am
namespace Go.Am
open Go
section
variable [Stat]
variable {X:Cx}{P:Program}{w:World}{σ:Sg}{s:St}
theorem get!_eq (bs:ByteArray)(n:Nat):bs.get! n=(bs.data.toList[n]?).getD 0:=by
 cases bs with
 |mk a =>
  simp only[ByteArray.get!,getElem!_def,afj]
  cases a[n]? <;> rfl
theorem C0 (bs:ByteArray)(i:Nat):Uu (bs.data.toList.drop i)=Utf8.decode bs i:=by
 have hg:∀k,(((bs.data.toList.drop i)[k]?).getD 0).toNat=(bs.get! (i+k)).toNat:=by
  intro k;rw[get!_eq,List.getElem?_drop]
 have hc:∀k,decide (k<(bs.data.toList.drop i).length)=decide (i+k<bs.size):=by
  intro k;have:bs.data.toList.length=bs.size:=by rw[afd];rfl
  rw[afQ,this]
  congr 1
  rw[eq_iff_iff];omega
 unfold Uu Utf8.decode;simp only[hg,hc]
theorem zp (hX:Xp X P)(H:HR σ s w)(hf:σ s.next=none){t:TypeId}{b:List UInt8}{v:Value}(hu:X.Zt t=some .string)(hv:Z6 σ (.str b) v) :
  Qb P σ s w (Instr.range t v) (.ptr s.next 0) (s.new (.iter b 0)):=by
 obtain⟨bs,rfl,rfl⟩:=YA hv;refine⟨_,.pointer (some ⟨w.heap.size,0,none⟩),w.alloc (.stringIter bs 0),?_,?_,Good.new H hf (.iter _ 0) (by simp) _ 0 ⟨rfl,rfl,by simp⟩⟩
 ·simp only[Instr.range,Sem.run_bind,ZU (hX.Zt _ _ hu),Result.andThen_ok,Sem.run_pure,run_newObj,World.alloc_eq]
 ·simp only[Z6];exact⟨_,Sg.Y7 _ _ _,by simp⟩
theorem vH (H:HR σ s w){r pos:Nat}{b:List UInt8}{v:Value}{ty:TypeId}(hv:Z6 σ (.ptr r 0) v)(hg:s.get r=some (.iter b pos)) :
  Qb P σ s w (Instr.next v true ty) (match b with|[]=>.X' [.bool false]|_::_=>.X' [.bool true,.int .i64 pos,.int .i32 (Uu b).1])
   (match b with|[]=>s|_::_=>s.put r (.iter (b.drop (Uu b).2) (pos+(Uu b).2))):=by
 obtain⟨p,hp,rfl⟩:=Yf hv;have hl:s.look r=some (.iter b pos):=St.YO hg (by simp);obtain⟨o,ho,hb⟩:=H.JA r p _ hp hl
 cases o <;> simp only[BR] at hb
 rename_i bs pos';obtain⟨h0,rfl,h2⟩:=hb;have WU:bs.data.toList.length=bs.size:=by rw[afd];rfl
 cases b with
 |nil =>
  have SY:¬(pos<bs.size):=by
   have:=List.drop_eq_nil_iff.1 h2;omega
  refine⟨σ,.tuple #[.bool false],w,?_,?_,Good.refl H⟩
  ·simp only[Instr.next,h0,afD,Sem.run_bind,Wo ho (by simp),Result.andThen_ok,SY,if_false,Sem.run_pure]
  ·simp only[Z6];exact⟨_,rfl,by simp only[Z5];exact⟨_,_,rfl,by simp[Z6],rfl⟩⟩
 |cons c b =>
  have Zm:pos<bs.size:=by
   rcases Nat.lt_or_ge pos bs.size with h|h
   ·exact h
   ·rw[afT (by omega)] at h2;cases h2
  have hd:=C0 bs pos;rw[h2] at hd;have acD:p.b<w.heap.size:=H.lt _ _ hp;refine⟨σ,.tuple #[.bool true,goInt pos,.int .i32 (Uu (c::b)).1],{ w with heap:=w.heap.setIfInBounds p.b (.stringIter bs (pos+(Uu (c::b)).2)) },?_,?_,?_⟩
  ·simp only[Instr.next,h0,afD,Sem.run_bind,Wo ho (by simp),Result.andThen_ok,Zm,if_true,hd,PJ ho (by simp),Sem.run_pure]
  ·simp only[Z6];exact⟨_,rfl,by simp only[Z5];exact⟨_,_,rfl,by simp[Z6],_,_,rfl,by simp[Z6,goInt],_,_,rfl,by simp[Z6],rfl⟩⟩
  ·refine Good.put H hp hl rfl (by simp) (by simp) ?_ (o:=.stringIter bs (pos+(Uu (c::b)).2)) ?_ ⟨h0,rfl,?_⟩ rfl rfl rfl
   ·intro d hd;simp only;rw[Array.getElem?_setIfInBounds_ne (fun e=>hd e.symm)]
   ·simp[acD]
   ·rw[<-h2,List.drop_drop]
theorem Ws:∀{r:List AV} {bs:List UInt8} {vs:List Value},Yh r=some bs->Z5 σ r vs->∃ns:List Int,vs=ns.map (Value.int .u8)/\bs=ns.map fun n=>UInt8.ofNat n.toNat
 |[],bs,vs,h,hv=>by simp only[Yh] at h;cases h;simp only[Z5] at hv;exact⟨[],hv,rfl⟩
 |a::r,bs,vs,h,hv=>by
  simp only[Z5] at hv;obtain⟨v,y,rfl,h1,h2⟩:=hv;unfold Yh at h
  split at h
  ·rename_i h';cases h'
  ·rename_i n l heq
   cases heq
   split at h
   ·rename_i q hq
    cases h
    obtain⟨ns,rfl,rfl⟩:=Ws hq h2;rw[Zx h1];exact⟨n::ns,rfl,rfl⟩
   ·cases h
  ·cases h
theorem fold_push (ns:List Int)(b:ByteArray):(ns.foldl (fun r n=>r.push (UInt8.ofNat n.toNat)) b).data.toList=b.data.toList++ns.map fun n=>UInt8.ofNat n.toNat:=by
 induction ns generalizing b with
 |nil=>simp
 |cons n ns ih=>rw[List.foldl_cons,ih];simp[ByteArray.push]
theorem RX:∀{es:List AV} {bs:List UInt8},Yh es=some bs->(∀x∈es,x.cells.length=1)/\es.flatMap AV.cells=es
 |[],bs,_=>⟨by simp,rfl⟩
 |x::es,bs,h=>by
  unfold Yh at h
  split at h
  ·rename_i e;cases e
  ·rename_i n l e
   cases e
   split at h
   ·rename_i r hr;obtain⟨h1,h2⟩:=RX hr;refine⟨?_,by rw[afn,h2];rfl⟩;intro y hy;rcases afa.1 hy with rfl|hy
    ·rfl
    ·exact h1 y hy
   ·cases h
  ·cases h
theorem N_ (hX:Xp X P)(H:HR σ s w){src dst e:TypeId}{x r:AV}{v:Value}{s':St}(hs:X.Zt src=some (.slice e))(hd:X.Zt dst=some .string)(hx:Z6 σ x v)(h:T9 X src dst x s=some (r,s')):s'=s/\Wz P w σ (convert src dst v) r:=by
 unfold T9 at h;rw[hs,hd] at h
 cases x
 case int k n =>
  cases h
  have:=Zx hx;subst this;refine⟨rfl,.string (Utf8.encode n),?_,by simp only[Z6];exact⟨_,rfl,rfl⟩⟩;simp[convert,ZU (hX.Zt _ _ hs),ZU (hX.Zt _ _ hd),Conv.intToString]
 case str l =>
  cases h
  obtain⟨bs,rfl,rfl⟩:=YA hx;refine⟨rfl,.string bs,?_,by simp only[Z6];exact⟨_,rfl,rfl⟩⟩;simp[convert,ZU (hX.Zt _ _ hs),ZU (hX.Zt _ _ hd)]
 case ZR =>
  simp only at h
  split at h
  ·rename_i he
   cases h
   simp only[Z6] at hx;subst hx;refine⟨rfl,.string .empty,?_,by simp only[Z6];exact⟨_,rfl,rfl⟩⟩;simp[convert,ZU (hX.Zt _ _ hs),ZU (hX.Zt _ _ hd),ZU (hX.Zt _ _ he),Conv.bytesToString]
  ·cases h
 case sl b o len cap Xo =>
  simp only at h
  split at h
  ·rename_i he
   split at h
   ·rename_i c hc
    split at h
    ·rename_i q hq
     split at h
     ·rename_i bs Bu
      cases h
      obtain⟨a,k,rfl,E8⟩:=Vk hx;have qo:YB (len*1) o c=some q:=by rw[ae3];exact hq
      obtain⟨vs,h1,h2⟩:=AP (P:=P) H E8 hc qo;have h1:=h1 w rfl;simp only[Builtin.firstCells,ae3] at h1;obtain⟨ns,e1,e2⟩:=Ws Bu h2;have e3:vs=(ns.map (Value.int .u8)).toArray:=by rw[<-e1]
      rw[e3] at h1;refine⟨rfl,.string (ns.foldl (fun r n=>r.push (UInt8.ofNat n.toNat)) ByteArray.empty),?_,?_⟩
      ·rw[run_convert_bytes_string w src dst e (some a) len k (hX.Zt _ _ hs) (hX.Zt _ _ he) (hX.Zt _ _ hd)];exact run_bytesToString w a len k ns h1
      ·simp only[Z6];exact⟨_,rfl,by rw[fold_push,e2];simp⟩
     ·cases h
    ·cases h
   ·cases h
  ·cases h
 case fz es =>
  simp only at h
  split at h
  ·rename_i he
   split at h
   ·rename_i bs Bu
    cases h
    obtain⟨k1,k2⟩:=RX Bu;obtain⟨_,vs,h1,h2⟩:=Md (P:=P) (n:=1) (m:=es.length) (new:=es.flatMap AV.cells) H hx (by
     simp only[Wt];rw[if_pos];simpa using k1)
    rw[k2] at h2;obtain⟨a,k,us,rfl,qS,_⟩:=Qv hx;have h1:=h1 w rfl;simp only[Builtin.firstCells,ae3] at h1;obtain⟨ns,e1,e2⟩:=Ws Bu h2;have e3:vs=(ns.map (Value.int .u8)).toArray:=by rw[<-e1]
    rw[e3] at h1;refine⟨rfl,.string (ns.foldl (fun r n=>r.push (UInt8.ofNat n.toNat)) ByteArray.empty),?_,?_⟩
    ·rw[run_convert_bytes_string w src dst _ (some a) es.length k (hX.Zt _ _ hs) (hX.Zt _ _ he) (hX.Zt _ _ hd)];exact run_bytesToString w a es.length k ns h1
    ·simp only[Z6];exact⟨_,rfl,by rw[fold_push,e2];simp⟩
   ·cases h
  ·cases h
 all_goals
  exfalso;simp only at h
  split at h <;> cases h
theorem N9 (hX:Xp X P)(H:HR σ s w)(hf:σ s.next=none){src dst e:TypeId}{d:TypeDesc}{l:List UInt8}{v r:AV}{u:Value}{s':St}(hs:X.Zt src=some d)(hd:X.Zt dst=some (.slice e))(hx:Z6 σ (.str l) u)(h:T9 X src dst (.str l) s=some (r,s')) :
  Qb P σ s w (convert src dst u) r s':=by
 obtain⟨bs,rfl,rfl⟩:=YA hx;unfold T9 at h;rw[hs,hd] at h;simp only at h
 split at h
 ·rename_i he
  cases h
  have WU:bs.data.toList.length=bs.size:=by rw[afd];rfl
  generalize LS:bs.size+(w.tape w.drawn (.appendCap bs.size 0 e))%(2^63-bs.size)=cap;have hle:bs.size<=cap:=by omega
  have Uy:((bs.data.map fun b=>Value.int .u8 b.toNat)++Array.replicate (cap-bs.size) (Value.int .u8 0)).size=cap:=by
   simp only[Array.size_append,Array.size_map,Array.size_replicate];have:bs.data.size=bs.size:=rfl;omega
  have g:=P6 (w:=w.drew) (H.of_heap rfl) hf (c:=bs.data.toList.map fun c=>AV.int .u8 c.toNat) (vs:=(bs.data.map fun b=>Value.int .u8 b.toNat)++Array.replicate (cap-bs.size) (Value.int .u8 0)) e (cap,cap+1) (.inr (by rw[Uy];exact aba _)) (by rw[Uy];simp only[ae7,WU];exact hle)
   (by
    intro j a ha;rw[afs] at ha
    cases hj:bs.data.toList[j]? with
    |none=>rw[hj] at ha;cases ha
    |some c =>
     rw[hj] at ha;simp at ha;subst ha;have Zm:j<bs.data.toList.length:=(ae6.1 hj).1;rw[afd] at Zm;refine⟨.int .u8 c.toNat,?_,by simp[Z6]⟩;rw[Array.getElem?_append_left (by simpa using Zm),Array.getElem?_map];rw[afj] at hj;rw[hj];rfl) (fun h=>absurd he (hX.ez _ h))
  rw[Uy] at g;refine⟨_,.slice (some ⟨w.heap.size,0,none⟩) bs.size cap,_,?_,?_,g.w_⟩
  ·have L6:∀k,d≠.int k->True:=fun _ _=>trivial
   have a9:(convert src dst (.string bs)).run P w=(Conv.stringToBytes e bs).run P w:=by
    simp only[convert,Sem.run_bind,ZU (hX.Zt _ _ hs),ZU (hX.Zt _ _ hd),Result.andThen_ok]
    cases d <;> simp[ZU (hX.Zt _ _ he)]
   rw[a9];simp only[Conv.stringToBytes,Sem.run_bind,run_choose,Question.forced,Question.cut,ae1,if_false,Result.andThen_ok,LS,newRow,run_newObj,Sem.run_pure,markStringish,run_shape,World.drew_eq,World.alloc_eq];have Qy:(w.drew.alloc (.cells ((bs.data.map fun b=>Value.int .u8 b.toNat)++Array.replicate (cap-bs.size) (Value.int .u8 0)) e)).shape? w.drew.heap.size=some (e,cap):=by
    simp only[World.shape?,World.alloc];rw[afB,if_pos rfl];simp only[Uy]
   rw[Qy];simp only[run_freeze,Result.andThen_ok]
   congr 1
   simp only[World.freeze,Nat.one_ne_zero,if_false,World.alloc]
   congr 1
   apply Array.ext_getElem?;intro i;rw[Array.getElem?_modify];by_cases hi:w.drew.heap.size=i
   ·subst hi;rw[if_pos rfl,afB,if_pos rfl,afB,if_pos rfl];simp
   ·rw[if_neg hi,afB,afB,if_neg (fun e=>hi e.symm),if_neg (fun e=>hi e.symm)]
  ·rw[WU];simp only[Z6];exact⟨_,_,rfl,hle,⟨_,Sg.Y7 _ _ _,fun _=>by simp,fun _=>by simp⟩,by simp⟩
 ·cases h
theorem vG (hX:Xp X P)(H:HR σ s w){ts:Array TypeId}{ty:TypeId}{x r:AV}{v:Value}{s':St}(hx:Z6 σ x v)(h:YT X .len ts [x] s=some (r,s')):s'=s/\Wz P w σ (Builtin.len_ ts ty #[v]) r:=by
 have e0:(#[v]:Array Value)[0]? = some v:=rfl;simp only[YT] at h
 split at h
 ·rename_i t ht
  split at h
  ·rename_i l hu
   cases h
   obtain⟨bs,rfl,rfl⟩:=YA hx;have WU:bs.data.toList.length=bs.size:=by rw[afd];rfl
   exact⟨rfl,⟨goInt bs.size,by simp only[Builtin.len_,ht,e0,Sem.run_bind,ZU (hX.Zt _ _ hu),Result.andThen_ok,Sem.run_pure],by rw[WU];simp[Z6,goInt]⟩⟩
  ·rename_i e hu
   cases h
   simp only[Z6] at hx;subst hx;exact⟨rfl,⟨goInt (0:Nat),by simp only[Builtin.len_,ht,e0,Sem.run_bind,ZU (hX.Zt _ _ hu),Result.andThen_ok,Sem.run_pure],by simp[Z6,goInt]⟩⟩
  ·rename_i e b o n c z hu
   cases h
   obtain⟨a,k,rfl,_⟩:=Vk hx;exact⟨rfl,⟨goInt n,by simp only[Builtin.len_,ht,e0,Sem.run_bind,ZU (hX.Zt _ _ hu),Result.andThen_ok,Sem.run_pure],by simp[Z6,goInt]⟩⟩
  ·rename_i k es hu
   cases h
   obtain⟨a,c,us,rfl,_⟩:=Qv hx;exact⟨rfl,⟨goInt es.length,by simp only[Builtin.len_,ht,e0,Sem.run_bind,ZU (hX.Zt _ _ hu),Result.andThen_ok,Sem.run_pure],by simp[Z6,goInt]⟩⟩
  ·rename_i k e ks vs hu
   cases h
   obtain⟨r,Xq,clock,rfl,g1,g2,_⟩:=Bw hx;have hl:ks.length=Xq.size:=by have:=g2.length;simpa using this
   exact⟨rfl,⟨goInt Xq.size,by simp only[Builtin.len_,ht,e0,Sem.run_bind,ZU (hX.Zt _ _ hu),Result.andThen_ok,Wo (H.fz _ _ g1).1 (by simp),Sem.run_pure],by rw[hl];simp[Z6,goInt]⟩⟩
  ·rename_i k e hu
   cases h
   simp only[Z6] at hx;subst hx;exact⟨rfl,⟨goInt 0,by simp only[Builtin.len_,ht,e0,Sem.run_bind,ZU (hX.Zt _ _ hu),Result.andThen_ok,Sem.run_pure],by simp[Z6,goInt]⟩⟩
  ·rename_i k e m hu
   split at h
   ·rename_i es ro hg
    cases h
    obtain⟨p,hp,rfl⟩:=Rw hx;obtain⟨Xq,clock,g1,g2⟩:=H.map hp hg;have hl:es.length=Xq.size:=by
     have:∀{es:List (AV×AV)} {l:List MapEntry},ZW σ es l->es.length=l.length:=by
      intro es
      induction es with
      |nil=>intro l hl;simp only[ZW] at hl;subst hl;rfl
      |cons a es ih =>
       intro l hl;obtain⟨k,v⟩:=a;simp only[ZW] at hl;obtain⟨m,r,rfl,_,_,h3⟩:=hl;simp[ih h3]
     have:=this g2
     simpa using this
    exact⟨rfl,⟨goInt Xq.size,by simp only[Builtin.len_,ht,e0,Sem.run_bind,ZU (hX.Zt _ _ hu),Result.andThen_ok,Wo g1 (by simp),Sem.run_pure],by rw[hl];simp[Z6,goInt]⟩⟩
   ·cases h
  ·rename_i _ n e hu
   cases h
   exact⟨rfl,⟨goInt n,by simp only[Builtin.len_,ht,e0,Sem.run_bind,ZU (hX.Zt _ _ hu),Result.andThen_ok,Sem.run_pure],by simp[Z6,goInt]⟩⟩
  ·rename_i p _ hu
   split at h
   ·rename_i n e hp
    cases h
    exact⟨rfl,⟨goInt n,by simp only[Builtin.len_,ht,e0,Sem.run_bind,ZU (hX.Zt _ _ hu),ZU (hX.Zt _ _ hp),Result.andThen_ok,Sem.run_pure],by simp[Z6,goInt]⟩⟩
   ·cases h
  ·cases h
 ·cases h
theorem E7 {k:IntKind}:∀{l:List AV} {x:Int} {vs:List Value} {r:AV},wg k x l=some r->Z5 σ l vs->∃v,(vs.foldlM Builtin.min2 (.int k x):Sem Value).run P w=.ok v w/\Z6 σ r v
 |[],x,vs,r,h,hv=>by
  simp only[wg] at h;cases h;simp only[Z5] at hv;subst hv;exact⟨_,rfl,by simp[Z6]⟩
 |a::l,x,vs,r,h,hv=>by
  cases a <;> simp only[wg] at h <;> try (cases h;done)
  simp only[Z5] at hv;obtain⟨v,y,rfl,h1,h2⟩:=hv;rw[Zx h1];obtain⟨u,g1,g2⟩:=E7 h h2;exact⟨u,by simp only[List.foldlM_cons,Sem.run_bind,Builtin.min2,Sem.run_pure,Result.andThen_ok];exact g1,g2⟩
theorem E6 {k:IntKind}:∀{l:List AV} {x:Int} {vs:List Value} {r:AV},zE k x l=some r->Z5 σ l vs->∃v,(vs.foldlM Builtin.max2 (.int k x):Sem Value).run P w=.ok v w/\Z6 σ r v
 |[],x,vs,r,h,hv=>by
  simp only[zE] at h;cases h;simp only[Z5] at hv;subst hv;exact⟨_,rfl,by simp[Z6]⟩
 |a::l,x,vs,r,h,hv=>by
  cases a <;> simp only[zE] at h <;> try (cases h;done)
  simp only[Z5] at hv;obtain⟨v,y,rfl,h1,h2⟩:=hv;rw[Zx h1];obtain⟨u,g1,g2⟩:=E6 h h2;exact⟨u,by simp only[List.foldlM_cons,Sem.run_bind,Builtin.max2,Sem.run_pure,Result.andThen_ok];exact g1,g2⟩
theorem PY {b:Nat}:∀(ns:List Int) (off:Nat) (acc:ByteArray),(∀i v,(ns.map (Value.int .u8))[i]? = some v->w.cell? ⟨b,off+i,none⟩=some v) ->
  ∃bs,(loadBytes ⟨b,off,none⟩ acc ns.length).run P w=.ok bs w/\bs.data.toList=acc.data.toList++ns.map fun n=>UInt8.ofNat n.toNat
 |[],off,acc,_=>⟨acc,rfl,by simp⟩
 |n::ns,off,acc,h=>by
  have h0:=h 0 (.int .u8 n) rfl;simp only[afD] at h0;obtain⟨bs,h1,h2⟩:=PY ns (off+1) (acc.push n.toNat.toUInt8) (fun i v hv=>by rw[show off+1+i=off+(i+1) from by omega];exact h (i+1) v (by simpa using hv));refine⟨bs,?_,?_⟩
  ·simp only[afc,loadBytes,Sem.run_bind,run_load,h0,Result.andThen_ok,Yz];exact h1
  ·rw[h2];simp[ByteArray.push]
theorem CZ {p:Program}{e:TypeId}{count off n:Nat}(hs:p.cellsOf e=1)(hn:off+n<=count)(hd:∃d,p.depth=d+1):liesAt p p.depth e count off e n=true:=by
 obtain⟨d,hd⟩:=hd;rw[hd,liesAt,hd];have:rowAt p (fun x=>sameLayout p (d+1) x e) (d+1) e count off n=true:=by
  rw[rowAt];simp only[hs,Nat.one_ne_zero,if_false,Nat.mod_one,Nat.div_one];have:sameLayout p (d+1) e e=true:=by rw[sameLayout];simp
  simp[this,hn]
 simp[this]
theorem Vp (ts:Array TypeId)(ty:TypeId)(p:Option Addr)(l:Value):∃(w1:String) (e1 e2:RuntimeError) (u1 u2:Unsupported),Builtin.unsafeString_ ts ty #[.pointer p,l]=(do
  let n <-asInt l
  let some pt:=ts[0]?|stuck w1
  if n<0 then runtimePanic e1
  if n>IntKind.i64.max then unsupported u1
  match p with
  |none =>
   if n=0 then pure (.string .empty)
   else runtimePanic e2
  |some a =>
   if n=0 then pure (.string .empty)
   else if <-variablesAt a (<-elemOf pt) n.toNat then do
    let s <-loadBytes a .empty n.toNat
    freeze a n.toNat
    pure (.string s)
   else unsupported u2):=⟨_,_,_,_,_,rfl⟩
theorem M_ (hX:Xp X P)(H:HR σ s w){ts:Array TypeId}{ty:TypeId}{x r:AV}{k:IntKind}{n:Int}{v:Value}{s':St}(hx:Z6 σ x v)(h:YT X .unsafeString ts [x,.int k n] s=some (r,s'))(ml:∃t,ts[0]? = some t) :
  Qb P σ s w (Builtin.unsafeString_ ts ty #[v,.int k n]) r s':=by
 obtain⟨t,ht⟩:=ml;have vE:¬ts.size=0:=fun e=>by rw[Array.getElem?_eq_none (by omega)] at ht;cases ht
 simp only[YT,if_neg vE] at h
 split at h
 ·split at h
  ·rename_i hn
   cases h;subst hn
   simp only[Z6] at hx;subst hx;refine Wz.o ⟨.string .empty,?_,by simp only[Z6];exact⟨_,rfl,rfl⟩⟩ H;obtain⟨w1,e1,e2,u1,u2,vD⟩:=Vp ts ty _ (.int k 0);rw[vD];simp[asInt,asIntOf,ht]
  ·cases h
 ·rename_i b o;obtain⟨p,hp,rfl⟩:=Yf hx
  split at h
  ·rename_i hn
   cases h;subst hn
   refine Wz.o ⟨.string .empty,?_,by simp only[Z6];exact⟨_,rfl,rfl⟩⟩ H;obtain⟨w1,e1,e2,u1,u2,vD⟩:=Vp ts ty _ (.int k 0);rw[vD];simp[asInt,asIntOf,ht]
  ·rename_i K1
   split at h
   ·cases h
   ·rename_i hnb
    split at h
    ·rename_i c e RA Ss t' hg rE;rw[ht] at rE;cases rE
     split at h
     ·rename_i u hu
      split at h
      ·rename_i hue;obtain⟨rfl,WU⟩:=hue
       split at h
       ·rename_i q hq
        split at h
        ·rename_i bs Bu
         cases h
         have hl:s.look b=some (.cells c u false RA Ss):=St.YO hg (by simp);have hc:s.cells b=some c:=by simp[St.cells,hg]
         obtain⟨cc,fz,k1,k2,k3,k4,k5⟩:=H.cells hp hl;obtain⟨vs,Ix,LR⟩:=H.row hp hc q o (fun i a ha=>SR hq ha);obtain⟨ns,rfl,rfl⟩:=Ws Bu Ix;have hlen:ns.length=n.toNat:=by
          have h1:=(X8 hq).1;have h2:=Ix.length;simp at h2;omega
         obtain⟨b',g1,g2⟩:=PY (P:=P) (w:=w) (b:=p.b) ns (p.sh+o) .empty LR;rw[hlen] at g1;have vC:P.cellsOf u=1:=by
          unfold size at WU
          split at WU
          ·rename_i i hi;simp only[Program.cellsOf,hX.inf _ _ hi,afF,afZ];exact Option.some.inj WU
          ·cases WU
         have aep:0<n.toNat:=by omega
         have hoc:o+n.toNat<=c.length:=by
          have:=(X8 hq).2 (n.toNat-1) (by omega);omega
         have hva:(variablesAt ⟨p.b,p.sh+o,none⟩ u n.toNat).run P w=.ok true w:=by
          simp only[variablesAt,Sem.run_bind,run_program,Result.andThen_ok,run_shape,World.shape?,k1,Sem.run_pure];rw[vC,Nat.div_one,CZ vC (by rw[k2];omega) ⟨2*(P.types.size+Made.depth)+1,rfl⟩]
         refine⟨σ,.string b',w.freeze ⟨p.b,p.sh+o,none⟩ n.toNat,?_,?_,?_⟩
         ·have n1:¬(n<0):=by omega
          have n2:¬(n>IntKind.i64.max):=by rw[IntKind.max_i64];omega
          obtain⟨w1,e1,e2,u1,u2,vD⟩:=Vp ts ty (some ⟨p.b,p.sh+o,none⟩) (.int k n);rw[vD];simp only[asInt,asIntOf,Sem.run_bind,Sem.run_pure,Result.andThen_ok,ht,n1,n2,K1,if_false,elemOf,ZU (hX.Zt _ _ hu),hva,if_true,g1,run_freeze]
         ·simp only[Z6];exact⟨_,rfl,by rw[g2];simp⟩
         ·have MZ:(w.freeze ⟨p.b,p.sh+o,none⟩ n.toNat).heap=w.heap.modify p.b fun
            |.cells c elem (lo,hi)=>.cells c elem (if lo==hi then (p.sh+o,p.sh+o+n.toNat) else (min lo (p.sh+o),max hi (p.sh+o+n.toNat)))
            |o=>o:=by
           unfold World.freeze;rw[if_neg (by omega)];rfl
          obtain⟨lo,hi⟩:=fz;refine Good.put H hp hl rfl (by simp) (by rw[MZ];simp) ?_ (o:=.cells cc u (if lo==hi then (p.sh+o,p.sh+o+n.toNat) else (min lo (p.sh+o),max hi (p.sh+o+n.toNat)))) ?_ ⟨k2,k3,rfl,k4,(fun h=>by cases h),H.spec hp hl⟩ ?_ ?_ ?_
          ·intro d hd;rw[MZ,Array.getElem?_modify,if_neg (fun e=>hd e.symm)]
          ·rw[MZ,Array.getElem?_modify,if_pos rfl,k1];rfl
          ·simp only[World.freeze];split <;> rfl
          ·simp only[World.freeze];split <;> rfl
          ·simp only[World.freeze];split <;> rfl
        ·cases h
       ·cases h
      ·cases h
     ·cases h
    ·cases h
 ·cases h
end
end Go.Am
namespace Go.Am
open Go
section
variable [Stat]
variable {X:Cx}{P:Program}{w:World}{σ:Sg}{s:St}
def gH (nx:Next)(v:Value):Prop:=nx=.value v\/(nx=.skip/\v=Go.undef)
def Ec (P:Program)(σ:Sg)(s:St)(w:World)(m:Sem Next)(a:AV)(s':St):Prop :=
 ∃Y' nx v w',m.run P w=.ok nx w'/\gH nx v/\Z6 Y' a v/\Good σ s w Y' s' w'
theorem Qb.op {m:Sem Value}{a:AV}{s':St}(h:Qb P σ s w m a s'):Ec P σ s w (do pure (.value (<-m))) a s':=by
 obtain⟨Y',v,w',h1,h2,h3⟩:=h;exact⟨Y',.value v,v,w',by simp only[Sem.run_bind,h1,Result.andThen_ok,Sem.run_pure],.inl rfl,h2,h3⟩
theorem Wz.op {m:Sem Value}{a:AV}(h:Wz P w σ m a)(H:HR σ s w):Ec P σ s w (do pure (.value (<-m))) a s:=(h.o H).op
theorem SX:Z6 σ Am.undef Go.undef:=by
 simp only[Am.undef,Z6];exact⟨#[],rfl,by simp[Z5]⟩
theorem Gx {m:Sem Unit}{s':St}(h:∃w',m.run P w=.ok () w'/\Good σ s w σ s' w'):Ec P σ s w (do m;pure .skip) Am.undef s':=by
 obtain⟨w',h1,h2⟩:=h;exact⟨σ,.skip,Go.undef,w',by simp only[Sem.run_bind,h1,Result.andThen_ok,Sem.run_pure],.inr ⟨rfl,rfl⟩,SX,h2⟩
theorem MI (hg:XX X σ){e:Env}{tmps:Array Value}(he:UR σ e tmps){x:Option Operand}{a:Option AV}(h:Rk X e x=some a):Ds σ a (x.map (LD tmps)):=by
 unfold Rk at h
 split at h
 ·cases h;exact trivial
 ·rename_i x
  split at h
  ·rename_i v hv;cases h;exact VO hg he hv
  ·cases h
def QE:Op->Bool
 |.call { callee:=.value _,.. }=>true
 |_=>false
theorem ZE {v:Option AV}{r:AV}{s s':St}(h:ZA v s=some (r,s')):v=some r/\s'=s:=by
 unfold ZA at h
 split at h
 ·cases h;exact⟨rfl,rfl⟩
 ·cases h
theorem Sc {t:Option St}{r:AV}{s':St}(h:Ro t=some (r,s')):t=some s'/\r=Am.undef:=by
 unfold Ro at h
 split at h
 ·cases h;exact⟨rfl,rfl⟩
 ·cases h
theorem JK (hX:Xp X P)(H:HR σ s w)(hf:σ s.next=none){b:Builtin}{ts:Array TypeId}{ty:TypeId}{cs:Array Bool}{vs:List AV}{us:List Value}{r:AV}{s':St}(hv:Z5 σ vs us)
  (h:YT X b ts vs s=some (r,s')):Ec P σ s w (builtin b ts ty cs us.toArray) r s':=by
 have h0:=h;unfold YT at h
 split at h
 ·
  simp only[Z5] at hv;obtain⟨v,y,rfl,h1,rfl⟩:=hv;obtain⟨rfl,h2⟩:=vG (P:=P) (ty:=ty) hX H h1 h0;exact h2.op H
 ·
  simp only[Z5] at hv;obtain⟨v,y,rfl,h1,u,z,rfl,h2,rfl⟩:=hv
  split at h
  ·rename_i t u' ht hu
   split at h
   ·rename_i e hd;exact (L8 (P:=P) hX H hf ht hu ⟨_,hd,by simp⟩ h1 h2 h).op
   ·rename_i hd;exact (L8 (P:=P) hX H hf ht hu ⟨_,hd,by simp⟩ h1 h2 h).op
   ·cases h
  ·cases h
 ·
  rename_i k x l
  split at h
  ·rename_i q hq
   cases h
   simp only[Z5] at hv;obtain⟨v,y,rfl,h1,h2⟩:=hv;rw[Zx h1];obtain⟨u,g1,g2⟩:=E7 (P:=P) (w:=w) hq h2;exact Wz.op (m:=Builtin.min_ ts ty _) ⟨u,g1,g2⟩ H
  ·cases h
 ·
  rename_i k x l
  split at h
  ·rename_i q hq
   cases h
   simp only[Z5] at hv;obtain⟨v,y,rfl,h1,h2⟩:=hv;rw[Zx h1];obtain⟨u,g1,g2⟩:=E6 (P:=P) (w:=w) hq h2;exact Wz.op (m:=Builtin.max_ ts ty _) ⟨u,g1,g2⟩ H
  ·cases h
 ·
  simp only[Z5] at hv;obtain⟨v,y,rfl,h1,rfl⟩:=hv
  split at h
  ·cases h
   simp only[Z6] at h1;subst h1;exact Wz.op (m:=Builtin.unsafeSliceData_ ts ty _) ⟨.pointer none,rfl,by simp[Z6]⟩ H
  ·cases h
   obtain⟨a,c,rfl,hlen,⟨p,hp,ha,_⟩,_⟩:=Vk h1;obtain⟨c',rfl⟩:∃c',c=c'+1:=⟨c-1,by omega⟩;have:=ha (by omega);subst this;exact Wz.op (m:=Builtin.unsafeSliceData_ ts ty _) ⟨.pointer (some ⟨p.b,p.sh+_,none⟩),rfl,by simp only[Z6];exact⟨p,hp,rfl⟩⟩ H
  ·cases h
 ·
  rename_i p k n;simp only[Z5] at hv;obtain⟨v,y,rfl,h1,u,z,rfl,h2,rfl⟩:=hv;rw[Zx h2]
  cases ht:ts[0]? with
  |some t=>exact (M_ (P:=P) (ty:=ty) hX H h1 h0 ⟨t,ht⟩).op
  |none =>
   have:ts.size=0:=by
    rcases Nat.eq_zero_or_pos ts.size with h|h
    ·exact h
    ·rw[afp h] at ht;cases ht
   rw[if_pos this] at h;cases h
 ·cases h
theorem I0 (hX:Xp X P)(hG:XX X σ)(H:HR σ s w)(hf:σ s.next=none){ex:Ex}{e:Env}{tmps:Array Value}(E:UR σ e tmps){o:Oper}{v:AV}{s':St}(hn:QE o.op=false)
  (h:Zb X ex e o.op s=some (v,s')):Ec P σ s w (execOp (LD tmps) o) v s':=by
 obtain⟨dst,op,type,pos,after,guard⟩:=o;simp only at h hn;have ev:∀{x a},eval X e x=some a->Z6 σ a (LD tmps x):=fun h=>VO hG E h
 cases op <;> simp only[Zb] at h <;> try (cases h;done)
 case move x =>
  obtain⟨h1,rfl⟩:=ZE h;exact⟨σ,_,_,w,rfl,.inl rfl,ev h1,Good.refl H⟩
 case assign x =>
  obtain⟨h1,rfl⟩:=ZE h;exact⟨σ,_,_,w,rfl,.inl rfl,ev h1,Good.refl H⟩
 case pick c a b =>
  split at h
  ·rename_i hc;obtain⟨h1,rfl⟩:=ZE h;exact⟨σ,_,_,w,by simp only[execOp,Sem.run_bind,X7 (ev hc),asBool,Sem.run_pure,Result.andThen_ok,if_true],.inl rfl,ev h1,Good.refl H⟩
  ·rename_i hc;obtain⟨h1,rfl⟩:=ZE h;exact⟨σ,_,_,w,by simp only[execOp,Sem.run_bind,X7 (ev hc),asBool,Sem.run_pure,Result.andThen_ok,ae1,if_false],.inl rfl,ev h1,Good.refl H⟩
  ·cases h
 case alloc t =>
  split at h
  ·rename_i z hz
   cases h
   exact (zu (P:=P) hX H hf hz).op
  ·cases h
 case box t x =>
  split at h
  ·rename_i a ha
   cases h
   exact (qx (P:=P) H hf (ev ha)).op
  ·cases h
 case build t ps =>
  split at h
  ·rename_i l hl;obtain⟨h1,rfl⟩:=ZE h;exact (Dx (w:=w) hX (by simpa using Td hG E hl) h1).op H
  ·cases h
 case buildSlice t n ps =>
  split at h
  ·rename_i l hl;exact (LQ (P:=P) hX H hf (by simpa using Td hG E hl) h).op
  ·cases h
 case load t a =>
  split at h
  ·rename_i x hx;obtain⟨h1,rfl⟩:=ZE h;exact (H' (P:=P) hX H (ev hx) h1).op H
  ·cases h
 case store t a x =>
  split at h
  ·rename_i y z hy hz;obtain⟨h1,rfl⟩:=Sc h;exact Gx (Cs (P:=P) hX H (ev hy) (ev hz) h1)
  ·cases h
 case nilCheck x =>
  split at h
  ·rename_i b o hx
   cases h
   have hr:=ev hx;obtain⟨p,hp,hv⟩:=Yf hr;exact⟨σ,.value (LD tmps x),_,w,by simp only[execOp,hv];rfl,.inl rfl,hr,Good.refl H⟩
  ·rename_i c o hx
   cases h
   have hr:=ev hx;obtain⟨b,base,us,cc,e,fz,hv,_⟩:=NU hr;exact⟨σ,.value (LD tmps x),_,w,by simp only[execOp,hv];rfl,.inl rfl,hr,Good.refl H⟩
  ·rename_i f a b hx
   cases h
   have hr:=ev hx;have VX:=hr;simp only[Z6] at VX;obtain⟨f',x',y',hv,Fy,_,_⟩:=VX;simp only[UH] at Fy;subst Fy;exact⟨σ,.value (LD tmps x),_,w,by simp only[execOp,hv];rfl,.inl rfl,hr,Good.refl H⟩
  ·rename_i f a b hx
   cases h
   have hr:=ev hx;have VX:=hr;simp only[Z6] at VX;obtain⟨f',x',y',hv,Fy,_,_⟩:=VX;simp only[UH] at Fy;obtain⟨p,_,rfl⟩:=Fy;exact⟨σ,.value (LD tmps x),_,w,by simp only[execOp,hv];rfl,.inl rfl,hr,Good.refl H⟩
  ·cases h
 case binOp op t x y yt =>
  split at h
  ·rename_i a b ha hb;obtain⟨h1,rfl⟩:=ZE h;exact (tE (w:=w) hX rfl (ev ha) (ev hb) h1).op H
  ·cases h
 case unOp op t x =>
  split at h
  ·rename_i a ha;obtain⟨h1,rfl⟩:=ZE h;exact (oR (P:=P) (w:=w) (ev ha) h1).op H
  ·cases h
 case convert src dst x =>
  split at h
  ·rename_i a ha;have hr:=ev ha
   cases hs:X.Zt src with
   |none=>unfold T9 at h;rw[hs] at h;simp at h
   |some sd =>
    cases hd:X.Zt dst with
    |none=>unfold T9 at h;rw[hs,hd] at h;cases a <;> simp at h
    |some dd =>
     by_cases h1:∃e,sd=.slice e/\dd=.string
     ·obtain⟨e,rfl,rfl⟩:=h1;obtain⟨rfl,h2⟩:=N_ (P:=P) hX H hs hd hr h;exact h2.op H
     ·by_cases h2:∃e l,dd=.slice e/\a=.str l
      ·obtain⟨e,l,rfl,rfl⟩:=h2;exact (N9 (P:=P) (v:=.U') hX H hf hs hd hr h).op
      ·obtain⟨rfl,h3⟩:=zR (P:=P) (w:=w) hX hr h (fun ⟨e,g1,g2⟩=>h1 ⟨e,by rw[hs] at g1;exact Option.some.inj g1,by rw[hd] at g2;exact Option.some.inj g2⟩) (fun ⟨e,l,g1,g2⟩=>h2 ⟨e,l,by rw[hd] at g1;exact Option.some.inj g1,g2⟩);exact h3.op H
  ·cases h
 case makeInterface t x =>
  split at h
  ·rename_i a ha
   split at h
   ·cases h
   ·rename_i d hd fx
    cases h
    exact (OH (P:=P) (w:=w) hX (ev ha) fx (fun ms hm=>by subst hm;exact hd ms rfl)).op H
   ·cases h
  ·cases h
 case makeFunc f a b =>
  split at h
  ·rename_i g
   split at h
   ·rename_i x y hx hy
    cases h
    have PH:=SS hG E hx;have hy':=SS hG E hy;refine Wz.op (m:=Instr.makeFunc (.func g) (a.map (LD tmps)) (b.map (LD tmps))) ⟨.func (.func g) (a.map (LD tmps)) (b.map (LD tmps)),by simp[Instr.makeFunc],?_⟩ H;simp only[Z6];exact⟨_,_,_,rfl,by simp[UH],by simpa using PH,by simpa using hy'⟩
   ·cases h
  ·cases h
 case makeMap t r =>
  split at h
  ·cases h
   exact (Mp (P:=P) H hf).op
  ·rename_i x
   split at h
   ·rename_i k n kt et hx hu
    cases h
    have:=(G1 (P:=P) hX H hf (kn:=k) (n:=n) hu).op;simp only[execOp,afF,Zx (ev hx)];exact this
   ·cases h
 case makeSlice t l c =>
  split at h
  ·rename_i kl l kc c elem hl hc hu
   split at h
   ·rename_i i z hi hz
    split at h
    ·rename_i Tm
     cases h
     have:=(Jd (P:=P) hX H hf (kl:=kl) (kc:=kc) hu hi hz Tm).op;simp only[execOp,Zx (ev hl),Zx (ev hc)];exact this
    ·cases h
   ·cases h
  ·cases h
 case slice t x lo hi mx =>
  split at h
  ·rename_i v lo' Uz mx' hv hl hh hm;obtain⟨h1,rfl⟩:=ZE h;exact (Dr (w:=w) hX (ev hv) (MI hG E hl) (MI hG E hh) (MI hG E hm) h1).op H
  ·cases h
 case fieldAddr t x f =>
  split at h
  ·rename_i a ha;obtain⟨h1,rfl⟩:=ZE h;exact (Ja (w:=w) hX (ev ha) h1).op H
  ·cases h
 case field t x f =>
  split at h
  ·rename_i cs fs hc hu
   split at h
   ·rename_i fd bJ;obtain⟨h1,rfl⟩:=ZE h;exact (yy (w:=w) hX hu (ev hc) bJ h1).op H
   ·cases h
  ·cases h
 case indexAddr t x i =>
  split at h
  ·rename_i a b ha hb;obtain⟨h1,rfl⟩:=ZE h;exact (I_ (w:=w) hX (ev ha) (ev hb) h1).op H
  ·cases h
 case index t x i =>
  split at h
  ·rename_i a b ha hb;obtain⟨h1,rfl⟩:=ZE h;exact (yz (w:=w) hX (ev ha) (ev hb) h1).op H
  ·cases h
 case lookup t m k ok =>
  split at h
  ·rename_i a b ha hb;obtain⟨h1,rfl⟩:=ZE h;exact (FP (P:=P) hX H (ev ha) (ev hb) h1).op H
  ·cases h
 case mapUpdate t m k x =>
  split at h
  ·rename_i a b c ha hb hc;obtain⟨h1,rfl⟩:=Sc h;exact Gx (Mt (P:=P) hX H (ev ha) (ev hb) (ev hc) h1)
  ·cases h
 case insert t m k x =>
  split at h
  ·rename_i a b c ha hb hc;obtain⟨h1,rfl⟩:=Sc h;exact Gx (Mt (P:=P) hX H (ev ha) (ev hb) (ev hc) h1)
  ·cases h
 case range t x =>
  split at h
  ·rename_i b hb hu
   cases h
   exact (zp (P:=P) hX H hf hu (ev hb)).op
  ·cases h
 case next it str =>
  cases str with
  |false=>simp only[Zb] at h;cases h
  |true =>
   simp only[Zb] at h
   split at h
   ·rename_i r hr
    split at h
    ·rename_i b pos hg;have:=vH (P:=P) (ty:=type) H (ev hr) hg
     cases b with
     |nil=>cases h;exact this.op
     |cons c b=>cases h;exact this.op
    ·cases h
   ·cases h
 case extract t i =>
  split at h
  ·rename_i vs Uy;obtain⟨h1,rfl⟩:=ZE h;exact (EH (P:=P) (w:=w) (ev Uy) h1).op H
  ·cases h
 case call c =>
  obtain⟨callee,args,argTypes⟩:=c
  cases callee with
  |value f=>simp[QE] at hn
  |invoke r m=>simp only at h;cases h
  |builtin b =>
   simp only at h
   split at h
   ·rename_i vs Uy;have hv:=SS hG E Uy;have:=JK (P:=P) (ty:=type) (cs:=args.map fun|.const _=>true|_=>false) hX H hf hv h;have he:(args.toList.map (LD tmps)).toArray=args.map (LD tmps):=by
     apply Array.ext';simp
    rw[he] at this;exact this
   ·cases h
end
end Go.Am
namespace Go.Am
open Go
abbrev FW (r:Option Nat):Fence:={ Fence.wide with round:=r }
section
variable [Stat]
def DF (n0:Nat)(σ:Sg)(w:World)(ds:List Deferred):Prop :=
 ∃rs:List Nat,ds=rs.map (fun r=>({ target:=.collected r,args:=#[] }:Deferred))/\rs.Nodup/\∀r∈rs,n0<=r/\w.heap[r]? = some (.deferred (some []))/\(∀i p,σ i=some p->p.b≠r)/\σ.fz r=none
theorem DF.nil (n0:Nat)(σ:Sg)(w:World):DF n0 σ w []:=⟨[],rfl,List.nodup_nil,fun _ h=>by cases h⟩
theorem DF.good {n0:Nat}{σ Y':Sg}{s s':St}{w w':World}{ds:List Deferred}(h:DF n0 σ w ds)(g:Good σ s w Y' s' w'):DF n0 Y' w' ds:=by
 obtain⟨rs,e,hn,hr⟩:=h;refine⟨rs,e,hn,fun r hm=>?_⟩;obtain⟨h1,h2,h3,h4⟩:=hr r hm;have Zm:r<w.heap.size:=(adm.1 h2).1;have TL:¬SO σ s r:=fun ⟨i,p,b,hp,_,_,hb⟩=>h3 i p hp hb
 refine⟨h1,by rw[g.ext.keep r Zm TL];exact h2,fun i p hp hb=>?_,?_⟩
 rotate_left
 ·cases hz:Y'.fz r with
  |none=>rfl
  |some o =>
   rcases g.ext.By r o hz with h5|h5
   ·rw[h4] at h5;cases h5
   ·omega
 by_cases e:σ i=none
 ·rcases g.news i p hp e with hk|hk
  ·omega
  ·exact TL (hb ▸ hk)
 ·cases hq:σ i with
  |none=>exact e hq
  |some q =>
   have:=g.ext.le.p i q hq;rw[hp] at this;cases this;exact h3 i p hq hb
structure Inv (X:Cx)(σ:Sg)(s:St)(w:World)(n0:Nat)(e:Env)(a:Act):Prop where
 hr:HR σ s w
 fresh:Va σ s
 glob:XX X σ
 env:UR σ e a.tmps
 df:DF n0 σ w a.defers
 n0:n0<=w.heap.size
def Tg:Out->Exit->Prop
 |.norm,.normal=>True
 |.exit i,.exit j=>i=j
 |.ret,.ret=>True
 |_,_=>False
def TN (X:Cx)(σ:Sg)(s:St)(w:World)(n0:Nat)(a:Act)(e':Env)(s':St)(a':Act)(w':World):Prop :=
 ∃Y',Good σ s w Y' s' w'/\Inv X Y' s' w' n0 e' a'/\a'.tmps.size=a.tmps.size
def ZV (X:Cx)(σ:Sg)(s:St)(w:World)(n0:Nat)(a:Act)(out:Out)(e':Env)(s':St):Exit->Act->World->Prop :=
 fun ex a' w'=>Tg out ex/\TN X σ s w n0 a e' s' a' w'
theorem XX.mono {X:Cx}{σ τ:Sg}(h:Sg.le σ τ)(k:XX X σ):XX X τ:=fun g hg=>by
 obtain⟨n,hn,hb⟩:=k g hg;refine⟨n,h.p _ _ hn,fun b e=>?_⟩;obtain⟨h1,o,h2,h3⟩:=hb b e;exact⟨h1,o,h.z _ _ h2,h3.mono h.bare⟩
theorem TN.refl {X:Cx}{σ:Sg}{s:St}{w:World}{n0:Nat}{e:Env}{a:Act}(I:Inv X σ s w n0 e a):TN X σ s w n0 a e s a w:=⟨σ,Good.refl I.hr,I,rfl⟩
theorem TN.trans {X:Cx}{σ LH:Sg}{s s1 s2:St}{w w1 w2:World}{n0:Nat}{e2:Env}{a a1 a2:Act}(g:Good σ s w LH s1 w1)(hs:a1.tmps.size=a.tmps.size)(k:TN X LH s1 w1 n0 a1 e2 s2 a2 w2) :
  TN X σ s w n0 a e2 s2 a2 w2:=by
 obtain⟨Gs,g2,i2,h2⟩:=k;exact⟨Gs,g.trans g2,i2,h2.trans hs⟩
theorem UR.put {σ:Sg}{e:Env}{tmps:Array Value}(h:UR σ e tmps){d:Nat}(hd:d<tmps.size){v:AV}{u:Value}(hv:Z6 σ v u):UR σ (Tr.set e d v) (tmps.setIfInBounds d u):=by
 intro t;rw[Env.Ux];by_cases ht:d=t
 ·subst ht;rw[if_pos rfl];simp only[afk,afW,hd,if_true,if_pos,afZ];exact hv
 ·rw[if_neg ht];have:=h t;simp only[afk,afW] at this ⊢;rw[if_neg ht];exact this
def MC (m:Nat)(d:Option Tmp):Prop:=∀t,d=some t->t<m
theorem F4 (a:Act)(d:Option Tmp)(u:Value):(a.put d u).tmps.size=a.tmps.size:=by
 cases d <;> simp[Act.put]
theorem put_defers (a:Act)(d:Option Tmp)(u:Value):(a.put d u).defers=a.defers:=by
 cases d <;> simp[Act.put]
theorem MB {σ:Sg}{e:Env}{a:Act}(h:UR σ e a.tmps){d:Option Tmp}(hd:MC a.tmps.size d){v:AV}{u:Value}(hv:Z6 σ v u):UR σ (Y8 e d v) (a.put d u).tmps:=by
 cases d with
 |none=>exact h
 |some d=>exact h.put (hd d rfl) hv
theorem Inv.put {X:Cx}{σ Y':Sg}{s s':St}{w w':World}{n0:Nat}{e:Env}{a:Act}(I:Inv X σ s w n0 e a)(g:Good σ s w Y' s' w'){d:Option Tmp}(hd:MC a.tmps.size d){v:AV}{u:Value}(hv:Z6 Y' v u) :
  TN X σ s w n0 a (Y8 e d v) s' (a.put d u) w' :=
 ⟨Y',g,⟨g.hr,g.fresh I.fresh,I.glob.mono g.ext.le,MB (I.env.mono g.ext.le) hd hv,by rw[put_defers];exact I.df.good g,afG I.n0 g.ext.size⟩,F4 _ _ _⟩
theorem Vc (a:Act):a.eval=LD a.tmps:=by
 funext x;cases x <;> rfl
theorem I9 {σ:Sg}{a:AV}{b:Bool}(h:Z6 σ a (.bool b)):a=.bool b:=by
 cases a <;> simp only[Z6] at h <;> first
  |(injection h with h;subst h;rfl)
  |(cases h;done)
  |(obtain⟨_,h,_⟩:=h;cases h;done)
  |(obtain⟨_,_,h⟩:=h;cases h;done)
  |(obtain⟨_,_,h,_⟩:=h;cases h;done)
  |(obtain⟨_,_,_,h,_⟩:=h;cases h;done)
  |(obtain⟨_,_,_,_,_,_,h,_⟩:=h;cases h;done)
theorem IW {σ:Sg}{e:Env}{tmps:Array Value}(h:UR σ e tmps)(ops:Array Oper)(o:Oper):Region.wanted o (yielded ops tmps)=YE ops e o:=by
 unfold Region.wanted YE
 cases hg:o.guard with
 |none=>rfl
 |some g =>
  obtain⟨j,want⟩:=g;simp only[yielded]
  cases ho:ops[j]? with
  |none=>simp
  |some oj =>
   cases hd:oj.dst with
   |none=>simp[hd]
   |some d =>
    simp only[Option.bind_some,hd];have ht:=h d;rw[afk] at ht
    cases hv:tmps[d]? with
    |none =>
     rw[hv] at ht;simp only[Option.getD_none] at ht
     cases ha:Env.get e d <;> rw[ha] at ht <;> simp only[Z6] at ht <;> first|rfl|(cases ht;done)
    |some v =>
     rw[hv] at ht;simp only[afZ] at ht
     cases v with
     |bool b =>
      rw[I9 ht];show (some b==some want)=(b==want)
      cases b <;> cases want <;> rfl
     |_ =>
      cases ha:Env.get e d <;> rw[ha] at ht <;> simp only[Z6] at ht <;> first|rfl|(cases ht;done)
def Cj (P:Program)(R:Value->World->Prop):Result Next->Prop
 |.ok (.value v) w'=>R v w'
 |.ok (.enter f args) w'=>Calls P f args w' fun e w''=>∃v,e=.returned v/\R v w''
 |_=>False
def vz (X:Cx)(P:Program)(f:FuncId)(g:List AV->St->Option (AV×St)):Prop :=
 ∀args s v s' σ w (us:Array Value),g args s=some (v,s')->HR σ s w->Va σ s->XX X σ->Z5 σ args us.toList ->
  Cj P (fun u w'=>∃Y',Z6 Y' v u/\Good σ s w Y' s' w') ((callFunc f us).run P w)
structure Full (X:Cx)(P:Program):Prop extends Xp X P where
 stat:∀m c,Stat.ok m c<->∃n,n<=m/\Lu X n c=true/\SK c=true
 fok:∀f fn c,X.fn f=some fn->fn.body=some c->Lu X fn.ntmps c=true
 nm:∀f fn,X.fn f=some fn->(fn.name == "runtime.NumGoroutine")=false
 ext:∀f g,X.ext f=some g->vz X P f g
 mixed:P.follows .mixedOrders=true
 gb:∀i b,X.O_ i=some b->b≠.gone
def xK (X:Cx)(r:Option Nat)(m:Nat)(c:Code):Prop:=∃n,n<=m/\Lu X n c=true/\(r.isSome=true->SK c=true)
theorem JU {r:Option Nat}{n:Nat}{P:Program}{f:FuncId}{args:Array Value}{w:World}{R:Ending->World->Prop}(h:Calls P f args w R):CallsIn (FW r) n P f args w R:=by
 cases r with
 |none=>exact callsIn_wide.2 h
 |some l=>exact CallsIn.inRound l (callsIn_wide.2 h)
theorem NP {F:Fence}{n:Nat}{P:Program}{f:FuncId}{args:Array Value}{w:World}{R R':Ending->World->Prop}(h:CallsIn F n P f args w R)(hr:∀e w',R e w'->R' e w'):CallsIn F n P f args w R' :=
 ⟨h.1,fun cs NO=>let ⟨e,w',fr,r,s⟩:=h.2 cs NO;⟨e,w',fr,hr _ _ r,s⟩⟩
theorem oO {X:Cx}{P:Program}{r:Option Nat}{o:Oper}{a:Act}{TA:Act->World->Prop}{Q:Exit->Act->World->Prop}{m:Result Next}{R:Value->World->Prop}(h:Cj P R m)(hn:∀v w',R v w'->TA (a.put o.dst v) w') :
  o.uponIn (FW r) 0 P a TA Q m:=by
 unfold Cj at h
 split at h
 ·rw[Oper.uponIn_value];exact hn _ _ h
 ·rw[Oper.uponIn_enter];refine⟨fun hd=>(by cases hd),NP (JU h) ?_⟩;rintro e w' ⟨v,rfl,hv⟩;exact hn _ _ hv
 ·exact h.elim
theorem Sv {r:Option Nat}{P:Program}{w:World}{o:Oper}{ρ:Operand->Value}:∀f,o.about P w ρ=some f->(FW r).fn f:=fun _ _=>trivial
theorem Ci {F:Fence}{n:Nat}{P:Program}{Q:Exit->Act->World->Prop}{a:Act}{w:World}{c:Code}(h:c.wpIn F n P (Exit.noGoto Q) a w):(Code.scope c).wpIn F n P Q a w:=by
 intro b k cs rU hb hr;have h0:(lone (b.atR a (.code (.scope c)::k)) cs w).fenced P F:=fenced_calm hb hr rfl;have Xg:step P (lone (b.atR a (.code (.scope c)::k)) cs w)=.next (lone (b.atR a (.code c::.inScope c::k)) cs w):=step_lone_go (by simp[stepG,stepG.exec,Frame.atR]);have Jh:∀a w,step P (lone (b.atR a (.inScope c::k)) cs w)=.next (lone (b.atR a k) cs w):=fun a w=>step_lone_go (by simp[stepG,stepG.exec,Frame.atR])
 obtain⟨e,a₁,w₁,hq,QP⟩:=h b (.inScope c::k) cs rU hb hr
 cases e with
 |normal=>exact⟨.normal,a₁,w₁,hq,.head h0 Xg (StepsIn.trans QP (.one (fenced_calm hb hr rfl) (Jh _ _)))⟩
 |exit id =>
  have hx:exitTo id (.inScope c::k)=exitTo id k:=by simp[exitTo]
  exact⟨.exit id,a₁,w₁,hq,fun k' hk=>.head h0 Xg (QP.1 k' (by rw[hx];exact hk)),fun VX hk=>let ⟨k₁,h1,h2⟩:=QP.2 VX (by rw[hx];exact hk);⟨k₁,h1,.head h0 Xg h2⟩⟩
 |goto l=>exact hq.elim
 |ret=>exact⟨.ret,a₁,w₁,hq,.of_steps (b:=b) (k:=k) (cs:=cs) (e:=.ret) (.one h0 Xg) QP⟩
 |panic ch=>exact⟨.panic ch,a₁,w₁,hq,.of_steps (b:=b) (k:=k) (cs:=cs) (e:=.panic ch) (.one h0 Xg) QP⟩
 |outgrown=>exact⟨.outgrown,a₁,w₁,hq,.of_steps (b:=b) (k:=k) (cs:=cs) (e:=.outgrown) (.one h0 Xg) QP⟩
def SA (F:Fence)(n:Nat)(P:Program)(c:Code)(Q:Exit->Act->World->Prop)(a:Act)(w:World):Prop :=
 ∀(b:Frame) (k:List Item) (cs:List Frame),b.roundOf=F.round->F.fn b.fn->F.room (cs.length+1+n) ->
  ∃e a' w',Q e a' w'/\ArrivesIn (Machine.fenced P F) P (lone (b.atR a (.code c::.inLoop c::k)) cs w) b k cs e a' w'
def oN (F:Fence)(n:Nat)(P:Program)(c:Code)(Q:Exit->Act->World->Prop)(a:Act)(w:World):Prop :=
 match c with
 |.loop b=>SA F n P b Q a w
 |c=>c.wpIn F n P Q a w
theorem oN.wpIn {F:Fence}{n:Nat}{P:Program}{c:Code}{Q:Exit->Act->World->Prop}{a:Act}{w:World}(h:oN F n P c Q a w):c.wpIn F n P Q a w:=by
 unfold oN at h
 split at h
 ·intro b k cs rU hb hr;obtain⟨e,a',w',hq,QP⟩:=h b k cs rU hb hr;exact⟨e,a',w',hq,.of_steps (.one (fenced_calm hb hr rfl) stepR_loop) QP⟩
 ·exact h
theorem Es {F:Fence}{n:Nat}{P:Program}{Q:Exit->Act->World->Prop}{a:Act}{w:World}{c:Code}(h:c.wpIn F n P (Exit.then (SA F n P c Q) Q) a w):SA F n P c Q a w:=by
 intro b k cs rU hb hr;obtain⟨e,a₁,w₁,hq,QP⟩:=h b (.inLoop c::k) cs rU hb hr
 cases e with
 |normal =>
  obtain⟨e2,a2,w2,iq,aaF⟩:=hq b k cs rU hb hr;exact⟨e2,a2,w2,iq,.of_steps (StepsIn.trans QP (.one (fenced_calm hb hr rfl) stepR_inLoop)) aaF⟩
 |exit id=>exact⟨_,a₁,w₁,hq,.pass (x:=.inLoop c) rfl (fun _ _=>.inl (by simp)) QP⟩
 |goto l=>exact⟨_,a₁,w₁,hq,.pass (x:=.inLoop c) rfl (fun _ _=>.inl (by simp)) QP⟩
 |ret=>exact⟨_,a₁,w₁,hq,.pass (x:=.inLoop c) rfl (fun _ _=>.inl (by simp)) QP⟩
 |panic ch=>exact⟨_,a₁,w₁,hq,.pass (x:=.inLoop c) rfl (fun _ _=>.inl (by simp)) QP⟩
 |outgrown=>exact⟨_,a₁,w₁,hq,.pass (x:=.inLoop c) rfl (fun _ _=>.inl (by simp)) QP⟩
def O6 (X:Cx)(P:Program)(ex:Ex):Prop :=
 ∀c e s out e' s',ex c e s=some (out,e',s')->∀r n0 a w σ,xK X r a.tmps.size c->Inv X σ s w n0 e a->oN (FW r) 0 P c (ZV X σ s w n0 a out e' s') a w
end
end Go.Am
namespace Go.Am
open Go
section
variable [Stat]
theorem HR.congr {σ:Sg}{s t:St}{w:World}(H:HR σ s w)(h:∀i,s.look i=t.look i):HR σ t w :=
 ⟨H.lt,fun i p b hp hb=>H.JA i p b hp (by rw[h];exact hb),fun i j p q b c hp hq hb hc he=>H.inj i j p q b c hp hq (by rw[h];exact hb) (by rw[h];exact hc) he,fun c o hc=>⟨(H.fz c o hc).1,fun ⟨i,p,b,h1,h2,h3,h4⟩=>(H.fz c o hc).2 ⟨i,p,b,h1,by rw[h];exact h2,h3,h4⟩⟩⟩
theorem Good.congr {σ Y':Sg}{s s' t:St}{w w':World}(g:Good σ s w Y' s' w')(h:∀i,s'.look i=t.look i)(hn:t.next=s'.next)(hb:t.base=s'.base):Good σ s w Y' t w' where
 hr:=g.hr.congr h
 ext:={ le:=g.ext.le,By:=g.ext.By,size:=g.ext.size,keep:=g.ext.keep,os:=g.ext.os,tape:=g.ext.tape,output:=g.ext.output,owns:=fun c hc ⟨i,p,b,h1,h2,h3,h4⟩=>g.ext.owns c hc ⟨i,p,b,h1,by rw[h];exact h2,h3,h4⟩ }
 Tv:=fun i hi=>g.Tv i (by rw[hn] at hi;exact hi)
 next:=by rw[hn];exact g.next
 dead:=fun i hi hl=>by rw[<-h];exact g.dead i hi hl
 news:=g.news
 glob:=by rw[hb];exact g.glob
theorem Ej (s:St)(l:Nat)(b:UK)(i:Nat):((s.put l b).put l .gone).look i=(s.put l .gone).look i:=by
 rw[St.Ye,St.Ye,St.Ye];by_cases h:l=i <;> simp[h]
theorem Good.hJ {σ:Sg}{s:St}{w:World}(H:HR σ s w)(o:Obj):Good σ s w σ s (w.alloc o) where
 hr:=⟨fun i p h=>by have:=H.lt i p h;simp;omega,fun i p b hp hb=>by
   obtain⟨o',ho,hr⟩:=H.JA i p b hp hb;have:=H.lt i p hp;exact⟨o',by simp only[World.alloc];rw[afB,if_neg (by omega)];exact ho,hr⟩,H.inj,fun c o' hc=>by
   obtain⟨h1,h2⟩:=H.fz c o' hc;have Zm:c<w.heap.size:=(adm.1 h1).1;exact⟨by simp only[World.alloc];rw[afB,if_neg (by omega)];exact h1,h2⟩⟩
 ext:=⟨Sg.le_refl _,fun _ _ h=>.inl h,by simp,fun c hc _=>by simp only[World.alloc];rw[afB,if_neg (by omega)],fun _ _ h=>h,rfl,rfl,rfl⟩
 Tv:=fun _ _=>rfl
 next:=aba _
 dead:=fun _ _ h=>h
 news:=fun i p h k=>by rw[k] at h;cases h
 glob:=rfl
theorem Good.iD {σ Y':Sg}{s s':St}{w w':World}(g:Good σ s w Y' s' w'){r:Nat}(hr:w.heap.size<=r)(TL:∀i p,Y' i=some p->p.b≠r)(hz:Y'.fz r=none)(o:Obj) :
  Good σ s w Y' s' { w' with heap:=w'.heap.setIfInBounds r o } where
 hr:=⟨fun i p h=>by have:=g.hr.lt i p h;simpa using this,fun i p b hp hb=>by
   obtain⟨o',ho,hr⟩:=g.hr.JA i p b hp hb;have:=TL i p hp;exact⟨o',by show (w'.heap.setIfInBounds r o)[p.b]? = some o';rw[afW,if_neg (fun h=>this h.symm)];exact ho,hr⟩,g.hr.inj,fun c o' hc=>by
   obtain⟨h1,h2⟩:=g.hr.fz c o' hc;have ZQ:r≠c:=fun e=>by subst e;rw[hz] at hc;cases hc
   exact⟨by show (w'.heap.setIfInBounds r o)[c]? = some o';rw[afW,if_neg ZQ];exact h1,h2⟩⟩
 ext:=⟨g.ext.le,g.ext.By,by simpa using g.ext.size,fun c hc hn=>by
   show (w'.heap.setIfInBounds r o)[c]? = _;rw[afW,if_neg (by omega)];exact g.ext.keep c hc hn,g.ext.owns,g.ext.os,g.ext.tape,g.ext.output⟩
 Tv:=g.Tv
 next:=g.next
 dead:=g.dead
 news:=g.news
 glob:=g.glob
variable {X:Cx}{P:Program}
theorem results1 (hX:Xp X P){σ:Sg}{s:St}{w:World}(H:HR σ s w){e:Env}{tmps:Array Value}(E:UR σ e tmps){r:ResultVar}{v:AV}(h:Qt X e s r=some v) :
  ∃u,(match r with|.tmp t=>pure (tmps.getD t Go.undef)|.cell a t=>do loadVar t (<-asAddr (tmps.getD a Go.undef)):Sem Value).run P w=.ok u w/\Z6 σ v u:=by
 cases r with
 |tmp t=>simp only[Qt] at h;cases h;exact⟨_,rfl,E t⟩
 |cell a t =>
  simp only[Qt] at h;have UO:=E a;obtain⟨u,h1,h2⟩:=H' (P:=P) hX H UO h
  cases ha:Env.get e a <;> rw[ha] at h <;> simp only[Vd] at h <;> try (cases h;done)
  all_goals rw[ha] at UO
  all_goals
   have hv:∃ad,tmps.getD a Go.undef=.pointer (some ad):=by
    first
     |(obtain⟨p,hp,hv⟩:=Yf UO;exact⟨_,hv⟩)
     |(obtain⟨_,_,_,_,_,_,hv,_⟩:=NU UO;exact⟨_,hv⟩)
   obtain⟨ad,hv⟩:=hv;refine⟨u,?_,h2⟩;show Sem.run P (do loadVar t (<-asAddr (tmps.getD a Go.undef))) w=_;rw[hv] at h1 ⊢;simp only[Instr.loadAt,Instr.sureAddr,Sem.run_bind,Sem.run_pure,Result.andThen_ok] at h1;simp only[asAddr,Sem.run_bind,Sem.run_pure,Result.andThen_ok];exact h1
theorem NL (hX:Xp X P){σ:Sg}{s:St}{w:World}(H:HR σ s w){e:Env}{tmps:Array Value}(E:UR σ e tmps):∀{l:List ResultVar} {vs:List AV},Yy X e s l=some vs ->
  ∃us,(l.mapM fun r=>(match r with|.tmp t=>pure (tmps.getD t Go.undef)|.cell a t=>do loadVar t (<-asAddr (tmps.getD a Go.undef)):Sem Value)).run P w=.ok us w/\Z5 σ vs us
 |[],vs,h=>by simp only[Yy] at h;cases h;exact⟨[],rfl,by simp[Z5]⟩
 |r::l,vs,h=>by
  simp only[Yy] at h
  split at h
  ·rename_i v vs' h1 h2
   cases h
   obtain⟨u,g1,g2⟩:=results1 (P:=P) hX H E h1;obtain⟨us,g3,g4⟩:=NL hX H E h2;refine⟨u::us,?_,by simp only[Z5];exact⟨_,_,rfl,g2,g4⟩⟩;rw[List.mapM_cons,Sem.run_bind,g1,Result.andThen_ok,Sem.run_bind,g3,Result.andThen_ok,Sem.run_pure]
  ·cases h
theorem EA (hX:Xp X P){σ:Sg}{s:St}{w:World}(H:HR σ s w){e:Env}{tmps:Array Value}(E:UR σ e tmps){fn:Func}{v:AV}(h:Wu X fn e s=some v) :
  ∃u,(results fn tmps).run P w=.ok u w/\Z6 σ v u:=by
 unfold Wu at h;have key:∀vs,Yy X e s fn.results.toList=some vs->∃us:Array Value,(fn.results.mapM fun r=>(match r with|.tmp t=>pure (tmps.getD t Go.undef)|.cell a t=>do loadVar t (<-asAddr (tmps.getD a Go.undef)):Sem Value)).run P w=.ok us w/\Z5 σ vs us.toList:=by
  intro vs Uy;obtain⟨us,h1,h2⟩:=NL (P:=P) hX H E Uy;exact⟨us.toArray,Rs _ _ _ h1,by simpa using h2⟩
 split at h
 ·rename_i v' hv
  cases h
  obtain⟨us,h1,h2⟩:=key _ hv;simp only[Z5] at h2;obtain⟨u,y,hu,hr,rfl⟩:=h2;have:us=#[u]:=by apply Array.ext';rw[hu]
  subst this;refine⟨u,?_,hr⟩;unfold results;rw[Sem.run_bind];refine (congrArg (fun m=>Result.andThen m _) h1).trans ?_;simp
 ·rename_i vs ZQ hv
  cases h
  obtain⟨us,h1,h2⟩:=key _ hv;have hl:us.size≠1:=by
   intro hs;have:=h2.length;have h3:us.toList.length=us.size:=rfl;rw[h3,hs] at this
   match vs,this with
   |[x],_=>exact ZQ x rfl
  refine⟨.tuple us,?_,by simp only[Z6];exact⟨_,rfl,h2⟩⟩;unfold results;rw[Sem.run_bind];refine (congrArg (fun m=>Result.andThen m _) h1).trans ?_;simp[hl]
 ·cases h
theorem NK {σ:Sg}:∀(l:List AV) (us:List Value) (i:Nat) (e:Env) (f:Nat->Value),Z5 σ l us->(∀t:Nat,t<i\/i+l.length<=t->Z6 σ (Env.get e t) (f t)) ->
  ∀t:Nat,Z6 σ (Env.get (ZM i l e) t) (if i<=t/\t<i+l.length then (us[t-i]?).getD Go.undef else f t)
 |[],us,i,e,f,h,he,t=>by
  simp only[ZM,List.length_nil,afD];rw[if_neg (by omega)];exact he t (by simp;omega)
 |v::l,us,i,e,f,h,he,t=>by
  simp only[Z5] at h;obtain⟨u,us,rfl,h1,h2⟩:=h;simp only[ZM];have:=NK l us (i+1) (Tr.set e i v) (fun t=>if t=i then u else f t) h2 (fun (t:Nat) ht=>by
   rw[Env.Ux];by_cases hti:i=t
   ·subst hti;simp only[if_pos];exact h1
   ·rw[if_neg hti,if_neg (fun h=>hti h.symm)];exact he t (by simp only[afc];omega)) t
  simp only[afc];by_cases c:i+1<=t/\t<i+1+l.length
  ·rw[if_pos c] at this;rw[if_pos (by omega)];rw[show t-i=(t-(i+1))+1 from by omega,afr];exact this
  ·rw[if_neg c] at this;by_cases ht:t=i
   ·subst ht;rw[if_pos rfl] at this;rw[if_pos (by omega)]
    simpa using this
   ·rw[if_neg ht] at this;rw[if_neg (by omega)];exact this
theorem yp {σ:Sg}{l:List AV}{us:Array Value}(h:Z5 σ l us.toList)(k:Nat):UR σ (ZM 0 l .nil) (us++Array.replicate k Go.undef):=by
 intro (t:Nat);have:=NK l us.toList 0 .nil (fun _=>Go.undef) h (fun t _=>by
  show Z6 σ (Env.get (Tr.nil:Tr AV) t) Go.undef;simp only[Env.get,Tr.get_nil];exact SX) t
 have hl:=h.length;have hl:l.length=us.size:=hl;simp only[ae5,true_and,ad4,Nat.sub_zero] at this;rw[afk,Array.getElem?_append];by_cases c:t<l.length
 ·rw[if_pos c] at this;rw[if_pos (by omega)]
  simpa using this
 ·rw[if_neg c] at this;rw[if_neg (by omega)];rw[Array.getElem?_replicate]
  split <;> simpa using this
end
end Go.Am
namespace Go.Am
open Go
section
variable [Stat]
variable {X:Cx}{P:Program}
mutual
theorem Nc {σ:Sg}:∀{v:AV} {u:Value},still v=true->Z6 σ v u->Z6 σ.bare v u
 |.bool _,_,_,k|.int _ _,_,_,k|.Gt _ _,_,_,k|.str _,_,_,k|.U',_,_,k|.ZR,_,_,k|.RD,_,_,k|.Tx,_,_,k|.TH,_,_,k=>by simpa only[Z6] using k
 |.ptr ..,_,h,_=>by simp[still] at h
 |.sl ..,_,h,_=>by simp[still] at h
 |.map _,_,h,_=>by simp[still] at h
 |.fn f x y,u,h,k=>by
  simp only[still,aab] at h;simp only[Z6] at k ⊢;obtain⟨f',x',y',e,h1,h2,h3⟩:=k;refine⟨f',x',y',e,?_,Vs h.1.2 h2,Vs h.2 h3⟩
  cases f <;> simp only[ae1,false_and,and_false] at h
  simpa only[UH] using h1
 |.iface t x,u,h,k=>by
  simp only[still] at h;simp only[Z6] at k ⊢;obtain⟨y,e,r⟩:=k;exact⟨y,e,Nc h r⟩
 |.agg cs,u,h,k=>by
  simp only[still] at h;simp only[Z6] at k ⊢;obtain⟨y,e,r⟩:=k;exact⟨y,e,Vs h r⟩
 |.X' cs,u,h,k=>by
  simp only[still] at h;simp only[Z6] at k ⊢;obtain⟨y,e,r⟩:=k;exact⟨y,e,Vs h r⟩
 |.fz es,u,h,k=>by
  simp only[Z6] at k ⊢;exact k
 |.fp _ _,u,h,k=>by
  simp only[Z6] at k ⊢;exact k
 |.fm _ _,u,h,k=>by
  simp only[Z6] at k ⊢;exact k
theorem Vs {σ:Sg}:∀{v:List AV} {u:List Value},ZK v=true->Z5 σ v u->Z5 σ.bare v u
 |[],_,_,k=>by simpa only[Z5] using k
 |a::x,u,h,k=>by
  simp only[ZK,aab] at h;simp only[Z5] at k ⊢;obtain⟨v,y,e,h1,h2⟩:=k;exact⟨v,y,e,Nc h.1 h1,Vs h.2 h2⟩
end
mutual
theorem Oj {σ τ:Sg}:∀{v:AV} {u:Value},flat v=true->Z6 σ v u->Z6 τ v u
 |.bool _,_,_,k|.int _ _,_,_,k|.Gt _ _,_,_,k|.str _,_,_,k|.U',_,_,k|.ZR,_,_,k|.RD,_,_,k|.Tx,_,_,k|.TH,_,_,k=>by simpa only[Z6] using k
 |.ptr ..,_,h,_=>by simp[flat] at h
 |.sl ..,_,h,_=>by simp[flat] at h
 |.map _,_,h,_=>by simp[flat] at h
 |.fn f x y,u,h,k=>by
  simp only[flat,aab] at h;simp only[Z6] at k ⊢;obtain⟨f',x',y',e,h1,h2,h3⟩:=k;refine⟨f',x',y',e,?_,SJ h.1.2 h2,SJ h.2 h3⟩
  cases f <;> simp only[ae1,false_and,and_false] at h
  simpa only[UH] using h1
 |.iface t x,u,h,k=>by
  simp only[flat] at h;simp only[Z6] at k ⊢;obtain⟨y,e,r⟩:=k;exact⟨y,e,Oj h r⟩
 |.agg cs,u,h,k=>by
  simp only[flat] at h;simp only[Z6] at k ⊢;obtain⟨y,e,r⟩:=k;exact⟨y,e,SJ h r⟩
 |.X' cs,u,h,k=>by
  simp only[flat] at h;simp only[Z6] at k ⊢;obtain⟨y,e,r⟩:=k;exact⟨y,e,SJ h r⟩
 |.fz es,u,h,k=>by simp[flat] at h
 |.fp _ _,u,h,k=>by simp[flat] at h
 |.fm _ _,u,h,k=>by simp[flat] at h
theorem SJ {σ τ:Sg}:∀{v:List AV} {u:List Value},Ox v=true->Z5 σ v u->Z5 τ v u
 |[],_,_,k=>by simpa only[Z5] using k
 |a::x,u,h,k=>by
  simp only[Ox,aab] at h;simp only[Z5] at k ⊢;obtain⟨v,y,e,h1,h2⟩:=k;exact⟨v,y,e,Oj h.1 h1,SJ h.2 h2⟩
end
theorem YD {σ τ:Sg}{f:AV->Option AV}(hf:∀a b u,f a=some b->Z6 σ a u->Z6 τ b u):∀{l r:List AV} {us:List Value},Zg f l=some r->Z5 σ l us->Z5 τ r us
 |[],r,us,h,k=>by simp only[Zg] at h;cases h;simpa only[Z5] using k
 |x::l,r,us,h,k=>by
  simp only[Zg] at h
  split at h
  ·rename_i y r' h1 h2
   cases h
   simp only[Z5] at k ⊢;obtain⟨v,z,e,k1,k2⟩:=k;exact⟨v,z,e,hf _ _ _ h1 k1,YD hf h2 k2⟩
  ·cases h
def Vh (agg:Bool)(n:Nat):Nat->List Value->List Value
 |0,_=>[]
 |k+1,l=>(match agg,l with|false,x::_=>x|_,_=>.agg (l.take n).toArray)::Vh agg n k (l.drop n)
theorem PB {σ:Sg}{ag:Bool}{n:Nat}(hn:n≠0)(ha:ag=false->n=1):∀(k:Nat) {r:List AV} {vs:List Value},Z5 σ r vs->r.length=k*n->(ag=false->r.all Zw=true) ->
  Z5 σ (Ys ag n k r) (Vh ag n k vs)/\(Vh ag n k vs).flatMap (fun u=>u.cells.toList)=vs/\(∀u∈Vh ag n k vs,u.cells.size=n)/\(Vh ag n k vs).length=k
 |0,r,vs,h,hl,_=>by
  have:r=[]:=by apply afq.1;simpa using hl
  subst this;simp only[Z5] at h;subst h;simp[Ys,Vh,Z5]
 |k+1,r,vs,h,hl,TL=>by
  have IT:=h.length;have hdl:(r.drop n).length=k*n:=by rw[afQ,hl,Nat.add_mul];omega
  obtain⟨i1,i2,i3,i4⟩:=PB hn ha k (h.drop n) hdl (fun e=>by
   have:=TL e;rw[ae9] at this ⊢;exact fun x hx=>this x (List.mem_of_mem_drop hx))
  have IV:n<=r.length:=by rw[hl,Nat.add_mul];omega
  have cH:=h.take n;have hlen:(vs.take n).length=n:=by rw[afH];omega
  cases ag with
  |true =>
   simp only[Ys,Vh,Z5,afn,afc];refine⟨⟨_,_,rfl,by simp only[Z6];exact⟨_,rfl,cH⟩,i1⟩,?_,?_,by rw[i4]⟩
   ·rw[i2];simp[Value.cells]
   ·intro u hu;rcases afa.1 hu with rfl|hu
    ·simp only[Value.cells];simpa using hlen
    ·exact i3 u hu
  |false =>
   have nj:=ha rfl;subst nj
   cases r with
   |nil=>simp at IV
   |cons x r =>
    simp only[Z5] at h;obtain⟨v,y,rfl,h1,h2⟩:=h;have LP:Zw x=true:=by have:=TL rfl;simp only[List.all_cons,aab] at this;exact this.1
    have hc:=(Uc h1 LP).1;simp only[Ys,Vh,Z5,afn,afc] at i1 i2 i3 ⊢;refine⟨⟨_,_,rfl,h1,i1⟩,?_,?_,by rw[i4]⟩
    ·rw[i2,hc];simp
    ·intro u hu;rcases afa.1 hu with rfl|hu
     ·rw[hc];rfl
     ·exact i3 u hu
theorem Lt {σ τ:Sg}{s:St}{w:World}(H:HR σ s w)(hz:∀b o,σ.fz b=some o->τ.fz b=some o)(ho:∀i p b o,σ i=some p->s.look i=some b->b.own=true->w.heap[p.b]? = some o->τ.fz p.b=some o) :
  ∀(d:Nat) (v v':AV) (u:Value),YG X s d v=some v'->Z6 σ v u->Z6 τ.bare v' u
 |0,v,v',u,h,_=>by simp[YG] at h
 |d+1,v,v',u,h,k=>by
  have ih:=Lt H hz ho d;have hle:Sg.le σ.bare τ.bare:=⟨fun _ _ h=>by simp[Sg.bare] at h,hz⟩;have same:still v=true->Z6 τ.bare v u:=fun hs=>Z6.mono hle _ _ (Nc hs k)
  cases v with
  |ptr b o =>
   simp only[YG] at h
   split at h
   ·rename_i c e lo hi hg
    split at h
    ·rename_i c' FX
     cases h
     obtain⟨p,hp,rfl⟩:=Yf k;have hl:=St.YO hg (by simp);obtain⟨cc,fz,h1,h2,h3,h4,_⟩:=H.cells hp hl;have LY:=ho _ _ _ _ hp hl rfl h1;obtain⟨vs,r1,r2⟩:=H.row (s:=s) (c:=c) hp (by simp[St.cells,hg]) c 0 (fun i a ha=>by simpa using ha);simp only[Z6];refine⟨p.b,p.sh,vs,cc,e,fz,rfl,LY,YD ih FX r1,fun i u hu=>?_⟩;have:=r2 i u hu;rw[YJ h1] at this
     simpa using this
    ·cases h
   ·cases h
  |sl b o len cap Xo =>
   simp only[YG] at h
   split at h
   ·rename_i c e lo hi hg
    split at h
    ·rename_i r ag n hr Jc hs
     split at h
     ·rename_i hc;obtain⟨rfl,hn,Tm⟩:=hc
      split at h
      ·rename_i es kj
       cases h
       obtain⟨a,k',rfl,hlen,⟨p,hp,D1,_⟩,_⟩:=Vk k;have hl:=St.YO hg (by simp);obtain⟨cc,fz,h1,h2,h3,h4,_⟩:=H.cells hp hl;have LY:=ho _ _ _ _ hp hl rfl h1;obtain⟨vs,r1,r2⟩:=H.row (s:=s) (c:=c) hp (by simp[St.cells,hg]) r o (fun i a ha=>SR hr ha);have xT:=(X8 hr).1;obtain⟨q1,q2,q3,q4⟩:=PB hn (fun e=>(Tm e).1) len r1 xT (fun e=>(Tm e).2);have q5:=YD ih kj q1;have ki:es.length=len:=by rw[q5.length,q4]
       simp only[Z6];refine⟨a,k',Vh ag Xo len vs,by rw[ki],by omega,q5,?_⟩;by_cases kg:len=0
       ·subst kg;exact .inl rfl
       ·right
        have:=D1 (by omega);subst this;refine⟨rfl,cc,e,fz,Xo,LY,hn,q3,fun i v hv=>?_⟩;rw[q2] at hv;have:=r2 i v hv;rw[YJ h1] at this;exact this
      ·cases h
     ·cases h
    ·cases h
   ·cases h
  |map r =>
   simp only[YG] at h
   split at h
   ·rename_i es hg
    split at h
    ·rename_i ks vs hk hv
     cases h
     obtain⟨p,hp,rfl⟩:=Rw k;obtain⟨Xq,clock,g1,g2⟩:=H.map hp hg;have LY:=ho _ _ _ _ hp (St.YO hg (by simp)) rfl g1;have key:∀(es:List (AV×AV)) (l:List MapEntry),ZW σ es l->Z5 σ (es.map (·.1)) (l.map MapEntry.key)/\Z5 σ (es.map (·.2)) (l.map MapEntry.val):=by
      intro es
      induction es with
      |nil=>intro l hl;simp only[ZW] at hl;subst hl;simp[Z5]
      |cons a es ihe =>
       intro l hl;obtain⟨x,y⟩:=a;simp only[ZW] at hl;obtain⟨m,r,rfl,e1,e2,e3⟩:=hl;obtain⟨j1,j2⟩:=ihe r e3;simp only[afm,Z5];exact⟨⟨_,_,rfl,e1,j1⟩,⟨_,_,rfl,e2,j2⟩⟩
     obtain⟨j1,j2⟩:=key _ _ g2;simp only[Z6];exact⟨p.b,Xq,clock,rfl,LY,YD ih hk j1,YD ih hv j2⟩
    ·cases h
   ·cases h
  |fn f x y =>
   simp only[YG] at h
   split at h
   ·rename_i g
    split at h
    ·rename_i x' y' hx hy
     cases h
     simp only[Z6] at k ⊢;obtain⟨f',x1,y1,e,h1,h2,h3⟩:=k;simp only[UH] at h1 ⊢;exact⟨f',x1,y1,e,h1,YD ih hx h2,YD ih hy h3⟩
    ·cases h
   ·cases h
  |iface t x =>
   simp only[YG] at h
   split at h
   ·rename_i x' hx
    cases h
    simp only[Z6] at k ⊢;obtain⟨y,e,r⟩:=k;exact⟨y,e,ih _ _ _ hx r⟩
   ·cases h
  |agg cs =>
   simp only[YG] at h
   split at h
   ·rename_i x' hx
    cases h
    simp only[Z6] at k ⊢;obtain⟨y,e,r⟩:=k;exact⟨y,e,YD ih hx r⟩
   ·cases h
  |X' cs =>
   simp only[YG] at h
   split at h
   ·rename_i x' hx
    cases h
    simp only[Z6] at k ⊢;obtain⟨y,e,r⟩:=k;exact⟨y,e,YD ih hx r⟩
   ·cases h
  |_=>simp only[YG] at h;cases h;exact same rfl
theorem Fg {σ τ:Sg}{s:St}{w:World}(H:HR σ s w)(ho:∀i p b o,σ i=some p->s.look i=some b->b.own=true->w.heap[p.b]? = some o->τ.fz p.b=some o) :
  ∀(d:Nat) (v v':AV) (u:Value),Xv X s d v=some v'->Z6 σ v u->Z6 τ.bare v' u
 |0,v,v',u,h,_=>by simp[Xv] at h
 |d+1,v,v',u,h,k=>by
  have ih:=Fg H ho d;have same:flat v=true->Z6 τ.bare v u:=fun hs=>Oj hs k
  cases v with
  |ptr b o =>
   simp only[Xv] at h
   split at h
   ·rename_i c e lo hi hg
    split at h
    ·rename_i c' FX
     cases h
     obtain⟨p,hp,rfl⟩:=Yf k;have hl:=St.YO hg (by simp);obtain⟨cc,fz,h1,h2,h3,h4,_⟩:=H.cells hp hl;have LY:=ho _ _ _ _ hp hl rfl h1;obtain⟨vs,r1,r2⟩:=H.row (s:=s) (c:=c) hp (by simp[St.cells,hg]) c 0 (fun i a ha=>by simpa using ha);simp only[Z6];refine⟨p.b,p.sh,vs,cc,e,fz,rfl,LY,YD ih FX r1,fun i u hu=>?_⟩;have:=r2 i u hu;rw[YJ h1] at this
     simpa using this
    ·cases h
   ·cases h
  |sl b o len cap Xo =>
   simp only[Xv] at h
   split at h
   ·rename_i c e lo hi hg
    split at h
    ·rename_i r ag n hr Jc hs
     split at h
     ·rename_i hc;obtain⟨rfl,hn,Tm⟩:=hc
      split at h
      ·rename_i es kj
       cases h
       obtain⟨a,k',rfl,hlen,⟨p,hp,D1,_⟩,_⟩:=Vk k;have hl:=St.YO hg (by simp);obtain⟨cc,fz,h1,h2,h3,h4,_⟩:=H.cells hp hl;have LY:=ho _ _ _ _ hp hl rfl h1;obtain⟨vs,r1,r2⟩:=H.row (s:=s) (c:=c) hp (by simp[St.cells,hg]) r o (fun i a ha=>SR hr ha);have xT:=(X8 hr).1;obtain⟨q1,q2,q3,q4⟩:=PB hn (fun e=>(Tm e).1) len r1 xT (fun e=>(Tm e).2);have q5:=YD ih kj q1;have ki:es.length=len:=by rw[q5.length,q4]
       simp only[Z6];refine⟨a,k',Vh ag Xo len vs,by rw[ki],by omega,q5,?_⟩;by_cases kg:len=0
       ·subst kg;exact .inl rfl
       ·right
        have:=D1 (by omega);subst this;refine⟨rfl,cc,e,fz,Xo,LY,hn,q3,fun i v hv=>?_⟩;rw[q2] at hv;have:=r2 i v hv;rw[YJ h1] at this;exact this
      ·cases h
     ·cases h
    ·cases h
   ·cases h
  |map r =>
   simp only[Xv] at h
   split at h
   ·rename_i es hg
    split at h
    ·rename_i ks vs hk hv
     cases h
     obtain⟨p,hp,rfl⟩:=Rw k;obtain⟨Xq,clock,g1,g2⟩:=H.map hp hg;have LY:=ho _ _ _ _ hp (St.YO hg (by simp)) rfl g1;have key:∀(es:List (AV×AV)) (l:List MapEntry),ZW σ es l->Z5 σ (es.map (·.1)) (l.map MapEntry.key)/\Z5 σ (es.map (·.2)) (l.map MapEntry.val):=by
      intro es
      induction es with
      |nil=>intro l hl;simp only[ZW] at hl;subst hl;simp[Z5]
      |cons a es ihe =>
       intro l hl;obtain⟨x,y⟩:=a;simp only[ZW] at hl;obtain⟨m,r,rfl,e1,e2,e3⟩:=hl;obtain⟨j1,j2⟩:=ihe r e3;simp only[afm,Z5];exact⟨⟨_,_,rfl,e1,j1⟩,⟨_,_,rfl,e2,j2⟩⟩
     obtain⟨j1,j2⟩:=key _ _ g2;simp only[Z6];exact⟨p.b,Xq,clock,rfl,LY,YD ih hk j1,YD ih hv j2⟩
    ·cases h
   ·cases h
  |fn f x y =>
   simp only[Xv] at h
   split at h
   ·rename_i g
    split at h
    ·rename_i x' y' hx hy
     cases h
     simp only[Z6] at k ⊢;obtain⟨f',x1,y1,e,h1,h2,h3⟩:=k;simp only[UH] at h1 ⊢;exact⟨f',x1,y1,e,h1,YD ih hx h2,YD ih hy h3⟩
    ·cases h
   ·cases h
  |iface t x =>
   simp only[Xv] at h
   split at h
   ·rename_i x' hx
    cases h
    simp only[Z6] at k ⊢;obtain⟨y,e,r⟩:=k;exact⟨y,e,ih _ _ _ hx r⟩
   ·cases h
  |agg cs =>
   simp only[Xv] at h
   split at h
   ·rename_i x' hx
    cases h
    simp only[Z6] at k ⊢;obtain⟨y,e,r⟩:=k;exact⟨y,e,YD ih hx r⟩
   ·cases h
  |X' cs =>
   simp only[Xv] at h
   split at h
   ·rename_i x' hx
    cases h
    simp only[Z6] at k ⊢;obtain⟨y,e,r⟩:=k;exact⟨y,e,YD ih hx r⟩
   ·cases h
  |fz _=>simp[Xv] at h
  |fp _ _=>simp[Xv] at h
  |fm _ _=>simp[Xv] at h
  |_=>simp only[Xv] at h;cases h;exact same rfl
end
end Go.Am
namespace Go.Am
open Go
section
variable [Stat]
variable {X:Cx}{P:Program}
theorem NS (hX:Xp X P){F:Fence}{n:Nat}{Wg σ:Sg}{s0 s:St}{w0:World}{e:Env}{fn:Func}{v:AV}{tmps:Array Value}(E:UR σ e tmps)(Kc:Wu X fn e s=some v) :
  ∀(rs:List Nat) (w:World),Good Wg s0 w0 σ s w->rs.Nodup->(∀r∈rs,w0.heap.size<=r/\w.heap[r]? = some (.deferred (some []))/\(∀i p,σ i=some p->p.b≠r)/\σ.fz r=none) ->
   LeavesInM F n P fn tmps (fun en w'=>∃u Y',en=.returned u/\Z6 Y' v u/\Good Wg s0 w0 Y' s w') (rs.map fun r=>({ target:=.collected r,args:=#[] }:Deferred)) .returning w
 |[],w,g,_,_=>by
  obtain⟨u,h1,h2⟩:=EA (P:=P) hX g.hr E Kc;exact⟨u,h1,u,σ,rfl,h2,g⟩
 |r::rs,w,g,hn,hm=>by
  obtain⟨h1,h2,h3,h4⟩:=hm r (aeZ ..);refine⟨by simp,.inl ⟨r,w.putObj r (.deferred none),rfl,run_takeDeferred h2,?_⟩⟩;rw[afI] at hn;refine NS hX E Kc rs _ (g.iD h1 h3 h4 _) hn.2 fun r' VX=>?_
  obtain⟨g1,g2,g3⟩:=hm r' (abc _ VX);refine⟨g1,?_,g3⟩;show (w.heap.setIfInBounds r _)[r']? = _;rw[afW,if_neg (fun h:r=r'=>hn.1 (by rw[h];exact VX))];exact g2
theorem Ti (hX:Full X P){ex:Ex}(hE:O6 X P ex){f:FuncId}{args:List AV}{s s':St}{v:AV}(h:P7 X ex f args s=some (v,s')){σ:Sg}{w:World}{us:Array Value}
  (H:HR σ s w)(F:Va σ s)(G:XX X σ)(hv:Z5 σ args us.toList) :
  (callFunc f us).run P w=.ok (.enter f us) w/\Calls P f us w fun en w'=>∃u Y',en=.returned u/\Z6 Y' v u/\Good σ s w Y' s' w':=by
 unfold P7 at h
 split at h
 ·rename_i fn wU
  split at h
  ·rename_i c hb;have hf:=hX.fn f fn wU;refine⟨?_,?_⟩
   ·have BQ:¬fn.name = "runtime.NumGoroutine":=by have:=hX.nm f fn wU;simpa using this
    simp[callFunc,Sem.run_bind,Result.andThen,hf,BQ,hb]
   ·refine callsIn_wide.1 (callsIn_of_wp_marks (F:=FW none) (n:=0) hf hb trivial ?_);have I:Inv X σ s w w.heap.size (ZM 0 args .nil) { tmps:=us++Array.replicate (fn.ntmps-us.size) Go.undef,defers:=[] } :=
     ⟨H,F,G,yp hv _,DF.nil _ _ _,aba _⟩
    have Yv:xK X none (us++Array.replicate (fn.ntmps-us.size) Go.undef).size c:=⟨fn.ntmps,by simp;omega,hX.fok f fn c wU hb,by simp⟩;have key:∀out e s1,ex c (ZM 0 args .nil) s=some (out,e,s1)->out=.norm\/out=.ret->Wu X fn e s1=some v->s1=s' ->
      c.wpIn (FW none) 0 P (bodyPostM (FW none) 0 P fn fun en w'=>∃u Y',en=.returned u/\Z6 Y' v u/\Good σ s w Y' s' w') { tmps:=us++Array.replicate (fn.ntmps-us.size) Go.undef,defers:=[] } w:=by
     intro out e s1 hex PN Kc hs;subst hs;refine wpIn_mono (hE c _ _ _ _ _ hex none _ _ w σ Yv I).wpIn ?_;rintro en a' w' ⟨hx,Y',g,i',_⟩;have hl:LeavesInM (FW none) 0 P fn a'.tmps (fun en w'=>∃u Y',en=.returned u/\Z6 Y' v u/\Good σ s w Y' s1 w') a'.defers .returning w':=by
      obtain⟨rs,xS,hn,hm⟩:=i'.df;rw[xS];exact NS hX.toXp i'.env Kc rs w' g hn hm
     rcases PN with rfl|rfl <;> cases en <;> simp only[Tg] at hx
     ·exact hl
     ·exact hl
    split at h
    ·rename_i e s1 hex
     split at h
     ·rename_i u Kc;cases h;exact key _ _ _ hex (.inl rfl) Kc rfl
     ·cases h
    ·rename_i e s1 hex
     split at h
     ·rename_i u Kc;cases h;exact key _ _ _ hex (.inr rfl) Kc rfl
     ·cases h
    ·cases h
  ·cases h
 ·cases h
def Sg.low (σ:Sg)(n:Nat)(z:Nat->Option Obj):Sg:={ m:=fun i=>if i<n then σ i else none,fz:=z }
theorem QU {σ:Sg}{n:Nat}{z:Nat->Option Obj}{i:Nat}{p:Pl}(h:(σ.low n z) i=some p):i<n/\σ i=some p:=by
 unfold Sg.low at h;simp only at h
 split at h
 ·exact⟨‹_›,h⟩
 ·cases h
theorem Cr {σ:Sg}{w:World}(G:XX X σ)(Zm:∀i p,σ i=some p->p.b<w.heap.size)(hg:∀c o,σ.fz c=some o->w.heap[c]? = some o)(z:Nat->Option Obj)(hz:∀c o,σ.fz c=some o->z c=some o)(nP:∀c o,z c=some o->w.heap[c]? = some o)
  (hb:∀i b,X.O_ i=some b->b≠.gone):HR (σ.low X.glob z) (YH X) w/\Va (σ.low X.glob z) (YH X)/\XX X (σ.low X.glob z)/\∀c,¬SO (σ.low X.glob z) (YH X) c:=by
 have hle:Sg.le σ.bare (σ.low X.glob z).bare:=⟨fun _ _ h=>by simp[Sg.bare] at h,hz⟩;have look:∀i b,(YH X).look i=some b->X.O_ i=some b:=by
  intro i b h;unfold St.look St.get YH at h;simp only[Tr.get_nil] at h
  split at h
  ·cases h
  ·exact h
 have TL:∀c,¬SO (σ.low X.glob z) (YH X) c:=by
  rintro c ⟨i,p,b,hp,hl,ho,_⟩;obtain⟨hi,_⟩:=QU hp;obtain⟨n,_,UF⟩:=G i hi;rw[(UF b (look i b hl)).1] at ho;cases ho
 refine⟨⟨fun i p hp=>Zm i p (QU hp).2,fun i p b hp hl=>?_,fun i j p q b c hp hq hl oZ he=>?_,fun c o hc=>⟨nP c o hc,TL c⟩⟩,fun i hi=>?_,fun g hgl=>?_,TL⟩
 ·obtain⟨hi,hs⟩:=QU hp;obtain⟨n,hn,UF⟩:=G i hi;rw[hn] at hs;cases hs;obtain⟨_,o,ho,D0⟩:=UF b (look i b hl);exact⟨o,hg _ _ ho,(D0.mono hle).mono (Sg.VM _)⟩
 ·obtain⟨hi,hs⟩:=QU hp;obtain⟨hj,ht⟩:=QU hq;obtain⟨n,hn,_⟩:=G i hi;obtain⟨m,hm,_⟩:=G j hj;rw[hn] at hs;cases hs;rw[hm] at ht;cases ht;exact he
 ·show (if i<X.glob then σ i else none)=none;rw[if_neg];exact Nat.not_lt.2 hi
 ·obtain⟨n,hn,UF⟩:=G g hgl;refine⟨n,?_,fun b RQ=>?_⟩
  ·show (if g<X.glob then σ g else none)=_;rw[if_pos hgl];exact hn
  ·obtain⟨h1,o,h2,h3⟩:=UF b RQ;exact⟨h1,o,hz _ _ h2,h3.mono hle⟩
theorem J8 {σ Wg LH Gs:Sg}{s t t':St}{w w':World}(H:HR σ s w)(g:Good Wg t w LH t' w')(TL:∀c,¬SO Wg t c)(hm:Gs.m=σ.m)(h1:∀c o,σ.fz c=some o->Gs.fz c=some o)
  (h2:∀c o,Gs.fz c=some o->σ.fz c=some o\/(w.heap.size<=c/\w'.heap[c]? = some o)):Good σ s w Gs s w':=by
 have hle:Sg.le σ Gs:=⟨fun i p hp=>by rw[hm];exact hp,h1⟩;have keep:∀c,c<w.heap.size->w'.heap[c]? = w.heap[c]? := fun c hc=>g.ext.keep c hc (TL c)
 have own:∀c,SO Gs s c->SO σ s c:=fun c ⟨i,p,b,hp,hl,ho,he⟩=>⟨i,p,b,by rw[hm] at hp;exact hp,hl,ho,he⟩
 refine⟨⟨fun i p hp=>?_,fun i p b hp hl=>?_,fun i j p q b c hp hq=>?_,fun c o hc=>?_⟩,⟨hle,fun c o hc=>?_,g.ext.size,fun c hc _=>keep c hc,fun c _ ho=>own c ho,g.ext.os,g.ext.tape,g.ext.output⟩,fun i _=>by rw[hm],aba _,fun _ _ h=>h,fun i p hp hn=>?_,rfl⟩
 ·rw[hm] at hp;exact Nat.lt_of_lt_of_le (H.lt i p hp) g.ext.size
 ·rw[hm] at hp;obtain⟨o,ho,D0⟩:=H.JA i p b hp hl;exact⟨o,by rw[keep _ (H.lt i p hp)];exact ho,D0.mono hle⟩
 ·rw[hm] at hp hq;exact H.inj i j p q b c hp hq
 ·rcases h2 c o hc with hs|⟨SY,hs⟩
  ·obtain⟨k1,k2⟩:=H.fz c o hs;have Zm:c<w.heap.size:=(adm.1 k1).1;exact⟨by rw[keep c Zm];exact k1,fun ho=>k2 (own c ho)⟩
  ·refine⟨hs,fun ho=>?_⟩;obtain⟨i,p,b,hp,_,_,he⟩:=own c ho;have:=H.lt i p hp;omega
 ·rcases h2 c o hc with hs|⟨SY,_⟩
  ·exact .inl hs
  ·exact .inr SY
 ·rw[hm,hn] at hp;cases hp
theorem Ez (hX:Full X P){ex:Ex}(hE:O6 X P ex){f:FuncId}{args:List AV}{s s':St}{v:AV}(h:Rm X ex f args s=some (v,s')){σ:Sg}{w:World}{us:Array Value}
  (H:HR σ s w)(F:Va σ s)(G:XX X σ)(hv:Z5 σ args us.toList) :
  (callFunc f us).run P w=.ok (.enter f us) w/\Calls P f us w fun en w'=>∃u Y',en=.returned u/\Z6 Y' v u/\Good σ s w Y' s' w':=by
 have hg:∀c o,σ.fz c=some o->w.heap[c]? = some o:=fun c o hc=>(H.fz c o hc).1
 unfold Rm at h
 split at h
 ·rename_i A8 J7
  split at h
  ·rename_i v1 hq
   cases h
   unfold YV at hq
   split at hq
   ·rename_i v2 s1 TD;unfold Yb at J7
    split at J7
    ·rename_i Xg
     cases J7
     rw[Xg] at hq;simp only[if_true] at hq;obtain⟨a1,a2,a3,a4⟩:=Cr (X:=X) G H.lt hg σ.fz (fun _ _ h=>h) hg hX.gb;have Rt:Z5 (σ.low X.glob σ.fz) args us.toList:=Z5.mono (show Sg.le σ.bare (σ.low X.glob σ.fz) from⟨fun _ _ h=>by simp[Sg.bare] at h,fun _ _ h=>h⟩) _ _ (Vs Xg hv);obtain⟨c1,c2⟩:=Ti hX hE TD a1 a2 a3 Rt;refine⟨c1,Calls.mono c2 ?_⟩;rintro en w' ⟨u,LH,rfl,hu,g⟩;have tQ:∀b o,σ.fz b=some o->b<w.heap.size:=fun b o hb=>(adm.1 (hg b o hb)).1
     let z:Nat->Option Obj:=fun b=>match σ.fz b with|some o=>some o|none=>if w.heap.size<=b then w'.heap[b]? else none
     have BS:∀b o,σ.fz b=some o->z b=some o:=fun b o hb=>by simp only[z,hb]
     have w7:∀b o,w.heap.size<=b->w'.heap[b]? = some o->z b=some o:=fun b o hb ho=>by
      cases hs:σ.fz b with
      |some o'=>have:=tQ b o' hs;omega
      |none=>simp only[z,hs];rw[if_pos hb];exact ho
     have hz3:∀b o,z b=some o->σ.fz b=some o\/(w.heap.size<=b/\w'.heap[b]? = some o):=fun b o hb=>by
      simp only[z] at hb
      cases hs:σ.fz b with
      |some o'=>rw[hs] at hb;exact .inl hb
      |none =>
       rw[hs] at hb;simp only at hb
       split at hb
       ·exact .inr ⟨‹_›,hb⟩
       ·cases hb
     refine⟨u,{ m:=σ.m,fz:=z },rfl,?_,J8 H g a4 rfl BS hz3⟩;have:=Lt (X:=X) (τ:={ m:=σ.m,fz:=z }) g.hr (fun b o hb=>?_) (fun i p b o hp hl UQ ho=>?_) _ _ _ _ hq hu
     ·exact Z6.mono (Sg.VM _) _ _ this
     ·rcases g.ext.By b o hb with UF|UF
      ·exact BS b o UF
      ·exact w7 b o UF (g.hr.fz b o hb).1
     ·refine w7 _ _ (Nat.le_of_not_lt fun Zm=>?_) ho;exact a4 _ (g.ext.owns _ Zm ⟨i,p,b,hp,hl,UQ,rfl⟩)
    ·rename_i Xg;rw[if_neg Xg] at hq
     split at hq
     ·rename_i Sx
      cases hq
      obtain⟨a1,a2,a3,a4⟩:=Cr (X:=X) G H.lt hg (fun c=>w.heap[c]?) hg (fun _ _ h=>h) hX.gb;have Rt:Z5 (σ.low X.glob fun c=>w.heap[c]?) A8 us.toList:=by
       have:=YD (τ:=(σ.low X.glob fun c=>w.heap[c]?).bare) (Lt (X:=X) H hg (fun i p b o _ _ _ ho=>ho) _) J7 hv;exact Z5.mono (Sg.VM _) _ _ this
      obtain⟨c1,c2⟩:=Ti hX hE TD a1 a2 a3 Rt;refine⟨c1,Calls.mono c2 ?_⟩;rintro en w' ⟨u,LH,rfl,hu,g⟩;exact⟨u,σ,rfl,Oj Sx hu,J8 H g a4 rfl (fun _ _ h=>h) (fun _ _ h=>.inl h)⟩
     ·obtain⟨a1,a2,a3,a4⟩:=Cr (X:=X) G H.lt hg (fun c=>w.heap[c]?) hg (fun _ _ h=>h) hX.gb;have Rt:Z5 (σ.low X.glob fun c=>w.heap[c]?) A8 us.toList:=by
       have:=YD (τ:=(σ.low X.glob fun c=>w.heap[c]?).bare) (Lt (X:=X) H hg (fun i p b o _ _ _ ho=>ho) _) J7 hv;exact Z5.mono (Sg.VM _) _ _ this
      obtain⟨c1,c2⟩:=Ti hX hE TD a1 a2 a3 Rt;refine⟨c1,Calls.mono c2 ?_⟩;rintro en w' ⟨u,LH,rfl,hu,g⟩;have tQ:∀b o,σ.fz b=some o->b<w.heap.size:=fun b o hb=>(adm.1 (hg b o hb)).1
      let z:Nat->Option Obj:=fun b=>match σ.fz b with|some o=>some o|none=>if w.heap.size<=b then w'.heap[b]? else none
      have BS:∀b o,σ.fz b=some o->z b=some o:=fun b o hb=>by simp only[z,hb]
      have w7:∀b o,w.heap.size<=b->w'.heap[b]? = some o->z b=some o:=fun b o hb ho=>by
       cases hs:σ.fz b with
       |some o'=>have:=tQ b o' hs;omega
       |none=>simp only[z,hs];rw[if_pos hb];exact ho
      have hz3:∀b o,z b=some o->σ.fz b=some o\/(w.heap.size<=b/\w'.heap[b]? = some o):=fun b o hb=>by
       simp only[z] at hb
       cases hs:σ.fz b with
       |some o'=>rw[hs] at hb;exact .inl hb
       |none =>
        rw[hs] at hb;simp only at hb
        split at hb
        ·exact .inr ⟨‹_›,hb⟩
        ·cases hb
      refine⟨u,{ m:=σ.m,fz:=z },rfl,?_,J8 H g a4 rfl BS hz3⟩;have:=Fg (X:=X) (τ:={ m:=σ.m,fz:=z }) g.hr (fun i p b o hp hl UQ ho=>?_) _ _ _ _ hq hu
      ·exact Z6.mono (Sg.VM _) _ _ this
      ·refine w7 _ _ (Nat.le_of_not_lt fun Zm=>?_) ho;exact a4 _ (g.ext.owns _ Zm ⟨i,p,b,hp,hl,UQ,rfl⟩)
   ·cases hq
  ·cases h
 ·cases h
theorem QT (hX:Full X P){ex:Ex}(hE:O6 X P ex){f:FuncId}(OZ:X.ext f=none){args:List AV}{s s':St}{v:AV}(h:Wa X ex f args s=some (v,s')){σ:Sg}{w:World}{us:Array Value}
  (H:HR σ s w)(F:Va σ s)(G:XX X σ)(hv:Z5 σ args us.toList) :
  (callFunc f us).run P w=.ok (.enter f us) w/\Calls P f us w fun en w'=>∃u Y',en=.returned u/\Z6 Y' v u/\Good σ s w Y' s' w':=by
 unfold Wa at h;rw[OZ] at h;simp only at h
 split at h
 ·exact Ez hX hE h H F G hv
 ·exact Ti hX hE h H F G hv
theorem tP (hX:Full X P){ex:Ex}(hE:O6 X P ex)(f:FuncId):vz X P f (Wa X ex f):=by
 intro args s v s' σ w us h H F G hv
 cases OZ:X.ext f with
 |none =>
  obtain⟨h1,h2⟩:=QT hX hE OZ h H F G hv;rw[h1];refine Calls.mono h2 ?_;rintro en w' ⟨u,Y',rfl,h3,h4⟩;exact⟨u,rfl,Y',h3,h4⟩
 |some g =>
  unfold Wa at h;rw[OZ] at h;exact hX.ext f g OZ args s v s' σ w us h H F G hv
theorem J0 {σ:Sg}:∀(ps:List Tmp) (as:List AV) (us:List Value) (e:Env) (tmps:Array Value),UR σ e tmps->Z5 σ as us->(∀t∈ps,t<tmps.size) ->
  UR σ ((ps.zip as).foldl (fun e (t,a)=>Tr.set e t a) e) ((ps.zip us).foldl (fun tmps (t,a)=>tmps.setIfInBounds t a) tmps)/\((ps.zip us).foldl (fun tmps (t,a)=>tmps.setIfInBounds t a) tmps).size=tmps.size
 |[],as,us,e,tmps,h,_,_=>⟨h,rfl⟩
 |p::ps,[],us,e,tmps,h,hv,_=>by
  simp only[Z5] at hv;subst hv;exact⟨h,rfl⟩
 |p::ps,a::as,us,e,tmps,h,hv,hp=>by
  simp only[Z5] at hv;obtain⟨u,us,rfl,h1,h2⟩:=hv;simp only[List.zip_cons_cons,List.foldl_cons];have:=J0 ps as us (Tr.set e p a) (tmps.setIfInBounds p u) (h.put (hp p (aeZ ..)) h1) h2 (fun t ht=>by simpa using hp t (abc _ ht));exact⟨this.1,by simpa using this.2⟩
theorem tO (ps:Array Tmp)(us tmps:Array Value):(ps.zip us).foldl (fun tmps (t,a)=>tmps.setIfInBounds t a) tmps=(ps.toList.zip us.toList).foldl (fun tmps (t,a)=>tmps.setIfInBounds t a) tmps:=by
 rw[<-Array.foldl_toList,Array.toList_zip]
theorem JZ {σ:Sg}{s:St}{w:World}(H:HR σ s w){l:Nat}{p:Pl}(hp:σ l=some p){st:Nat}{pe:Option Code}{env:Env}{ps:List Tmp}{as bo:Code}(hg:s.get l=some (.loop st pe env ps as bo))
  {r:Loop}(hr:w.heap[p.b]? = some (.loop r))(st':Nat)(pe':Option Code) :
  Good σ s w σ (s.put l (.loop st' pe' env ps as bo)) (w.putObj p.b (.loop { r with state:=Uk st',pending:=pe' })):=by
 have hl:s.look l=some (.loop st pe env ps as bo):=St.YO hg (by simp);obtain⟨o,ho,D0⟩:=H.JA l p _ hp hl;rw[hr] at ho;cases ho;have Zm:=H.lt l p hp;simp only[BR] at D0;obtain⟨_,_,h3⟩:=D0;refine Good.put H hp hl rfl (by simp) (by simp[World.putObj]) (fun c hc=>World.putObj_heap_other hc) (World.putObj_heap_same Zm) ?_ rfl rfl rfl;show BR σ p (.loop st' pe' env ps as bo) _;unfold BR;exact⟨rfl,rfl,h3⟩
theorem NR {σ:Sg}{s:St}{w:World}(H:HR σ s w){l:Nat}{p:Pl}(hp:σ l=some p){st:Nat}{pe:Option Code}{env:Env}{ps:List Tmp}{as bo:Code}(hg:s.get l=some (.loop st pe env ps as bo)) :
  ∃r:Loop,w.heap[p.b]? = some (.loop r)/\BR σ p (.loop st pe env ps as bo) (.loop r):=by
 have hl:s.look l=some (.loop st pe env ps as bo):=St.YO hg (by simp);obtain⟨o,ho,D0⟩:=H.JA l p _ hp hl
 cases o <;> simp only[BR] at D0
 exact⟨_,ho,D0⟩
theorem JY {l:Nat}{o:Out}{e:Env}{q:List Tmp}{a b:Code}{s s':St}{v:AV}(h:Qs l o e q a b s=some (v,s')) :
  ∃j:Option Code,v=.bool j.isNone/\s'=s.put l (.loop (if j.isNone then 0 else 2) j e q a b)/\(match o with|.norm=>j=none|.exit i=>j=some (.exit i)|.ret=>j=some .ret):=by
 cases o <;> simp only[Qs] at h <;> cases h
 ·exact⟨none,rfl,rfl,rfl⟩
 ·exact⟨some (.exit _),rfl,rfl,rfl⟩
 ·exact⟨some .ret,rfl,rfl,rfl⟩
theorem tN (hX:Full X P){ex:Ex}(hE:O6 X P ex){l:Nat}{args:List AV}{s s':St}{v:AV}(h:Kx ex l args s=some (v,s')){σ:Sg}{w:World}{us:Array Value}{p:Pl}(hp:σ l=some p)
  (H:HR σ s w)(F:Va σ s)(G:XX X σ)(hv:Z5 σ args us.toList){ro:Option Nat} :
  ∃f tmps assign body,(Instr.yield p.b us).run P w=.ok (.round p.b f tmps assign body) w /\
   RoundIn (FW ro) 0 P p.b f tmps assign body w fun en w'=>∃u Y',en=.returned u/\Z6 Y' v u/\Good σ s w Y' s' w':=by
 unfold Kx at h
 split at h
 ·rename_i pe env params assign body hg;obtain⟨r,hr,D0⟩:=NR H hp hg;simp only[BR] at D0;obtain⟨b1,b2,b3,b4,b5,b6,b7,b8,b9⟩:=D0
  split at h
  ·rename_i hlen;have WU:us.size=r.params.size:=by
    have h1:=hv.length;have h2:us.toList.length=us.size:=rfl;have h3:r.params.toList.length=r.params.size:=rfl;rw[<-h2,<-h3,<-h1,hlen,b4]
   refine⟨_,_,_,_,run_yield hr WU,?_⟩;rw[tO,b4,b5,b6];obtain⟨e1,e2⟩:=J0 params args us.toList env r.tmps b3 hv b9;refine roundIn_of_wpIn trivial ?_;have I:Inv X σ s w w.heap.size ((params.zip args).foldl (fun e (t,a)=>Tr.set e t a) env) { tmps:=(params.zip us.toList).foldl (fun tmps (t,a)=>tmps.setIfInBounds t a) r.tmps,defers:=[] } :=
    ⟨H,F,G,e1,DF.nil _ _ _,aba _⟩
   have cok:∀c,Stat.ok r.tmps.size c->∀m,m=r.tmps.size->xK X (some p.b) m c:=by
    intro c hc m hm;subst hm;obtain⟨n,h1,h2,h3⟩:=(hX.stat _ _).1 hc;exact⟨n,h1,h2,fun _=>h3⟩
   simp only at h
   split at h
   ·rename_i wb s1 adC
    split at h
    ·rename_i p1 vV q1 a1 c1 wD
     split at h
     ·rename_i o2 eg s2 adD
      split at h
      ·rename_i st3 p3 en3 q3 a3 c3 r_;have xQ:=(hE _ _ _ _ _ _ adC (some p.b) _ _ w σ (cok assign b7 _ e2) I).wpIn;refine wpIn_mono xQ ?_;rintro en fc w1 ⟨hx,LH,g1,i1,Ur⟩
       cases en <;> simp only[Tg] at hx
       have Je:=g1.ext.le.p _ _ hp;obtain⟨r1,aas,yn⟩:=NR g1.hr Je wD;have Xg:r1.state=.ready:=by simp only[BR] at yn;exact yn.1
       have gp:=JZ g1.hr Je wD aas 1 p1;have hw:({ r1 with state:=Uk 1,pending:=p1 }:Loop)={ r1 with state:=.busy }:=by
        simp only[BR] at yn;rw[<-yn.2.1];rfl
       rw[hw] at gp;refine⟨_,run_beginRound aas Xg,?_⟩;have g2:=g1.trans gp;have I2:Inv X LH (s1.put l (.loop 1 p1 vV q1 a1 c1)) (w1.putObj p.b (.loop { r1 with state:=.busy })) w.heap.size wb fc :=
        ⟨gp.hr,gp.fresh i1.fresh,i1.glob,i1.env,i1.df.good gp,by simpa[World.putObj] using i1.n0⟩
       have sy:=(hE _ _ _ _ _ _ adD (some p.b) _ _ _ LH (cok body b8 _ (Ur.trans e2)) I2).wpIn;refine wpIn_mono sy ?_;rintro en2 a2' w2 ⟨nJ,Gs,g3,i2,_⟩;obtain⟨j,rfl,rfl,hj⟩:=JY h;have Pn:=g3.ext.le.p _ _ Je;obtain⟨r2,aat,aeM⟩:=NR g3.hr Pn r_;have fin:∀j',j=j'->∃v w',(Instr.endRound p.b j').run P w2=.ok v w'/\∃u Y',(Ending.returned v)=.returned u/\Z6 Y' (.bool j.isNone) u/\Good σ s w Y' (s2.put l (.loop (if j.isNone then 0 else 2) j en3 q3 a3 c3)) w':=by
        intro j' rX;subst rX;have gp2:=JZ g3.hr Pn r_ aat (if j.isNone then 0 else 2) j;refine⟨_,_,run_endRound j aat,_,Gs,rfl,by simp only[Z6],?_⟩;have Jh:Uk (if j.isNone then 0 else 2)=(if j.isNone then LoopState.ready else .done):=by cases j <;> rfl
        rw[Jh] at gp2;exact (g2.trans g3).trans gp2
       cases o2 <;> cases en2 <;> simp only[Tg] at nJ
       ·exact fin none hj
       ·subst nJ;exact fin _ hj
       ·exact fin _ hj
      ·cases h
     ·cases h
    ·cases h
   ·cases h
  ·cases h
 ·cases h
end
end Go.Am
namespace Go.Am
open Go
section
variable [Stat]
variable {X:Cx}{P:Program}
theorem S7 {ρ:Operand->Value}{f:Operand}{args:Array Operand}{Qf:Array TypeId}{ty:TypeId}{fn:Fn}{x y:Array Value}{w:World}(h:ρ f=.func fn x y) :
  (resolve ρ { callee:=.value f,args,argTypes:=Qf } ty).run P w=.ok { target:=.fn fn y,args:=x++args.map ρ } w:=by
 simp[resolve,h,Deferred.ofValue]
theorem O5 (hX:Full X P){ex:Ex}(hE:O6 X P ex){r:Option Nat}{o:Oper}{e:Env}{s s':St}{v:AV}{a:Act}{σ:Sg}{w:World}{n0:Nat}(I:Inv X σ s w n0 e a)(h:Zb X ex e o.op s=some (v,s'))
  {TA:Act->World->Prop}{Q:Exit->Act->World->Prop}(hn:∀u w' Y',Z6 Y' v u->Good σ s w Y' s' w'->TA (a.put o.dst u) w'):o.wpIn (FW r) 0 P a w TA Q:=by
 refine⟨Sv,?_⟩;rw[Oper.semAt_eq _ _ _ (fun c hc=>by rw[hc] at h;simp[Zb] at h),Vc]
 cases hc:QE o.op with
 |false =>
  obtain⟨Y',nx,u,w',h1,h2,h3,h4⟩:=I0 (P:=P) hX.toXp I.glob I.hr (I.fresh _ (aba _)) I.env hc h;rw[h1];rcases h2 with rfl|⟨rfl,rfl⟩
  ·rw[Oper.uponIn_value];exact hn _ _ _ h3 h4
  ·rw[Oper.uponIn_skip];exact hn _ _ _ h3 h4
 |true =>
  obtain⟨dst,op,type,pos,after,guard⟩:=o;simp only at h hc hn ⊢
  cases op <;> simp only[QE] at hc <;> try (cases hc;done)
  rename_i c;obtain⟨callee,args,Qf⟩:=c
  cases callee <;> simp only at hc <;> try (cases hc;done)
  rename_i f;simp only[Zb] at h
  split at h
  ·rename_i fv vs hf Uy;have MZ:=VO I.glob I.env hf;have hvr:=SS I.glob I.env Uy;unfold To at h
   split at h
   ·cases h
   rename_i hqv;clear hqv;unfold OE at h
   split at h
   ·rename_i g first cap
    simp only[Z6] at MZ;obtain⟨f',x',y',hfv,Fy,hx,hy⟩:=MZ;simp only[UH] at Fy;subst Fy;have UO:Z5 σ (first++vs++cap) ((x'++args.map (LD a.tmps))++y').toList:=by
     simp only[Array.toList_append];exact (hx.append (by simpa using hvr)).append hy
    have:=tP hX hE g _ _ _ _ _ w _ h I.hr I.fresh I.glob UO;have Zp:(execOp (LD a.tmps) { dst:=dst,op:=.call { callee:=.value f,args:=args,argTypes:=Qf },type:=type,pos:=pos,after:=after,guard:=guard }).run P w=(callFunc g ((x'++args.map (LD a.tmps))++y')).run P w:=by
     simp only[execOp,Sem.run_bind,S7 hfv,Result.andThen_ok,invoke]
    rw[Zp];exact oO (X:=X) this fun u w' ⟨Y',h1,h2⟩=>hn u w' Y' h1 h2
   ·rename_i l first cap
    simp only[Z6] at MZ;obtain⟨f',x',y',hfv,Fy,hx,hy⟩:=MZ;simp only[UH] at Fy;obtain⟨p,hp,rfl⟩:=Fy;have UO:Z5 σ (first++vs) (x'++args.map (LD a.tmps)).toList:=by
     simp only[Array.toList_append];exact hx.append (by simpa using hvr)
    obtain⟨fn,tmps,assign,body,h1,h2⟩:=tN hX hE h hp I.hr I.fresh I.glob UO (ro:=r);have Zp:(execOp (LD a.tmps) { dst:=dst,op:=.call { callee:=.value f,args:=args,argTypes:=Qf },type:=type,pos:=pos,after:=after,guard:=guard }).run P w=.ok (.round p.b fn tmps assign body) w:=by
     simp only[execOp,Sem.run_bind,S7 hfv,Result.andThen_ok,invoke];exact h1
    rw[Zp,Oper.uponIn_round];refine⟨fun hd=>(by cases hd),RoundIn.mono h2 ?_⟩;rintro en w' ⟨u,Y',rfl,h3,h4⟩;exact hn u w' Y' h3 h4
   ·cases h
  ·cases h
theorem Pv (hX:Full X P){ex:Ex}(hE:O6 X P ex){r:Option Nat}{ops:Array Oper}{Q:Exit->Act->World->Prop}{out:Env×St}{n0:Nat} :
  ∀(k i:Nat) (e:Env) (s:St) (a:Act) (w:World) (σ:Sg),i+k=ops.size->Ow X ex ops (ops.toList.drop i) e s=some out->(∀o∈ops.toList,MC a.tmps.size o.dst)->Inv X σ s w n0 e a ->
   (∀a' w',TN X σ s w n0 a out.1 out.2 a' w'->Q .normal a' w')->wpOpsIn (FW r) 0 P ops Q (List.range' i k) a w
 |0,i,e,s,a,w,σ,hk,h,hd,I,hq=>by
  rw[List.drop_of_length_le (by simp;omega)] at h;simp only[Ow] at h
  cases h
  exact hq _ _ (TN.refl I)
 |k+1,i,e,s,a,w,σ,hk,h,hd,I,hq=>by
  have hi:i<ops.size:=by omega
  have hl:ops.toList.drop i=ops[i]::ops.toList.drop (i+1):=by
   rw[aeY (by simpa using hi)];simp
  rw[hl] at h;rw[List.range'_succ];simp only[wpOpsIn,afp hi];have hdi:=hd ops[i] (by simp);simp only[Ow] at h;rw[IW I.env]
  split at h
  ·rename_i hw;rw[if_pos hw]
   split at h
   ·rename_i v s1 D3;refine O5 hX hE I D3 fun u w' Y' hv g=>?_
    have hA:=I.put g hdi hv;obtain⟨τ,gτ,Iτ,WU⟩:=hA;exact Pv hX hE k (i+1) _ _ _ _ τ (by omega) h (fun o ho=>by rw[WU];exact hd o ho) Iτ fun a' w'' bU=>hq _ _ (bU.trans gτ WU)
   ·cases h
  ·rename_i hw;rw[if_neg hw];refine⟨Sv,?_⟩;obtain⟨τ,gτ,Iτ,WU⟩:=I.put (Good.refl I.hr) hdi (SX (σ:=σ));exact Pv hX hE k (i+1) _ _ _ _ τ (by omega) h (fun o ho=>by rw[WU];exact hd o ho) Iτ fun a' w'' bU=>hq _ _ (bU.trans gτ WU)
def Hr (X:Cx)(P:Program):Prop :=
 ∀ex,O6 X P ex->∀(r:Option Nat) (ops:Array Oper) (e e':Env) (s s':St) (a:Act) (w:World) (σ:Sg) (n0 t:Nat) (Q:Exit->Act->World->Prop),
  RF X ex ops e s=some (e',s')->nu X ops=true->(∀o∈ops.toList,MC a.tmps.size o.dst)->Inv X σ s w n0 e a->(∀a' w',TN X σ s w n0 a e' s' a' w'->Q .normal a' w') ->
  wpOpsIn (FW r) 0 P ops Q (Region.linearise .any ops t) a w
theorem sF {X:Cx}{σ:Sg}{s:St}{w:World}{e:Env}{a:Act}{n0:Nat}(I:Inv X σ s w n0 e a)(fn:FuncId)(ps:Array Tmp)(assign body:Code)(ha:Stat.ok a.tmps.size assign)(hb:Stat.ok a.tmps.size body)(hp:∀t∈ps.toList,t<a.tmps.size) :
  Good σ s w (σ.add s.next ⟨w.heap.size+1,0,0⟩) (s.new (.loop 0 none e ps.toList assign body)) ((w.alloc (.deferred (some []))).alloc (.loop { state:=.ready,pending:=none,fn,tmps:=a.tmps,params:=ps,assign,body,defers:=w.heap.size })):=by
 have g0:=Good.hJ I.hr (.deferred (some []));have hf:=I.fresh s.next (aba _);have g1:=Good.new g0.hr hf (.loop 0 none e ps.toList assign body) (by simp) (.loop { state:=.ready,pending:=none,fn,tmps:=a.tmps,params:=ps,assign,body,defers:=w.heap.size }) 0 (by
  unfold BR;exact⟨rfl,rfl,I.env.mono (Sg.PO hf),rfl,rfl,rfl,ha,hb,hp⟩)
 have:(w.alloc (.deferred (some []))).heap.size=w.heap.size+1:=by simp
 rw[this] at g1;exact g0.trans g1
theorem I7 {p:Option Code}{e e':Env}{s s':St}{out:Out}(h:Ov p e s=some (out,e',s')):e'=e/\s'=s/\((p=none/\out=.norm)\/(∃i,p=some (.exit i)/\out=.exit i)\/(p=some .ret/\out=.ret)):=by
 unfold Ov at h
 split at h <;> cases h
 ·exact⟨rfl,rfl,.inl ⟨rfl,rfl⟩⟩
 ·exact⟨rfl,rfl,.inr (.inl ⟨_,rfl,rfl⟩)⟩
 ·exact⟨rfl,rfl,.inr (.inr ⟨rfl,rfl⟩)⟩
theorem LN (hX:Full X P){ex:Ex}(hE:O6 X P ex){gop:Operand}{ps:Array Tmp}{assign body:Code}{e e':Env}{s s':St}{out:Out}(h:Yc X ex (.rangeFunc gop ps assign body) e s=some (out,e',s'))
  {a:Act}{σ:Sg}{w:World}{n0:Nat}(I:Inv X σ s w n0 e a)(Yv:xK X none a.tmps.size (.rangeFunc gop ps assign body)) :
  (Code.rangeFunc gop ps assign body).wpIn (FW none) 0 P (ZV X σ s w n0 a out e' s') a w:=by
 obtain⟨n,hn,Yv,_⟩:=Yv;simp only[Lu,aab,ae9,decide_eq_true_eq] at Yv;obtain⟨⟨⟨⟨k1,k2⟩,k3⟩,k4⟩,k5⟩:=Yv;have ha:Stat.ok a.tmps.size assign:=(hX.stat _ _).2 ⟨n,hn,k2,k4⟩;have hb:Stat.ok a.tmps.size body:=(hX.stat _ _).2 ⟨n,hn,k3,k5⟩;simp only[Yc] at h
 split at h
 ·rename_i g first cap hf
  split at h
  ·rename_i OZ;rw[afK] at OZ
   split at h
   ·rename_i rv s1 TD
    split at h
    ·rename_i st p e1 q1 a1 b1 wD
     split at h
     ·cases h
     ·rename_i Xg;obtain⟨rfl,rfl,PN⟩:=I7 h;have MZ:=VO I.glob I.env hf;simp only[Z6] at MZ;obtain⟨f',x',y',hfv,Fy,hx,hy⟩:=MZ;simp only[UH] at Fy;subst Fy;refine wpIn_rangeFunc fun fn _=>?_
      have gl:=sF I fn ps assign body ha hb (fun t ht=>Nat.lt_of_lt_of_le (k1 t ht) hn);have aef:a.eval gop=.func (.func g) x' y':=by rw[Vc];exact hfv
      have hle:=gl.ext.le;have gC:Z6 (σ.add s.next ⟨w.heap.size+1,0,0⟩) (.fn (.yield s.next) [] []) (.func (.yield (w.heap.size+1)) #[] #[]):=by
       simp only[Z6];exact⟨_,_,_,rfl,by simp only[UH];exact⟨_,Sg.Y7 _ _ _,rfl⟩,by simp[Z5],by simp[Z5]⟩
      have UO:Z5 (σ.add s.next ⟨w.heap.size+1,0,0⟩) (first++[.fn (.yield s.next) [] []]++cap) ((x'++#[Value.func (.yield (w.heap.size+1)) #[] #[]])++y').toList:=by
       simp only[Array.toList_append];exact ((Z5.mono hle _ _ hx).append (Nn gC)).append (Z5.mono hle _ _ hy)
      obtain⟨c1,c2⟩:=QT hX hE OZ TD gl.hr (gl.fresh I.fresh) (I.glob.mono hle) UO;refine⟨w.heap.size+1,[{ target:=.collected w.heap.size,args:=#[] }],_,_,_,g,(x'++#[Value.func (.yield (w.heap.size+1)) #[] #[]])++y',(w.alloc (.deferred (some []))).alloc (.loop { state:=.ready,pending:=none,fn,tmps:=a.tmps,params:=ps,assign,body,defers:=w.heap.size }),run_enterLoop_outer fn a.tmps ps assign body,S7 aef,fun _ _=>trivial,?_,fun hd=>(by cases hd),?_⟩
      ·have hm:Array.map a.eval #[Operand.const (Value.func (.yield (w.heap.size+1)) #[] #[])]=#[Value.func (.yield (w.heap.size+1)) #[] #[]]:=by simp[Act.eval]
       simp only[invoke];rw[hm];exact c1
      ·refine NP (JU c2) ?_;rintro en w' ⟨u,Y',rfl,_,g2⟩;have Je:=g2.ext.le.p _ _ (Sg.Y7 σ s.next ⟨w.heap.size+1,0,0⟩);obtain⟨r1,xQ,yn⟩:=NR g2.hr Je wD;have mz:=yn;simp only[BR] at mz;obtain⟨Ur,aa7,_⟩:=mz;have hnb:r1.state≠.busy:=by
        rw[Ur];unfold Uk
        split <;> simp_all
       have gp:=JZ g2.hr Je wD xQ 3 p;have hw:({ r1 with state:=Uk 3,pending:=p }:Loop)={ r1 with state:=.exhausted }:=by
        rw[<-aa7];rfl
       rw[hw] at gp;have gd:=Good.drop gp.hr (b:=s.next) (b0:=.loop 3 p e1 q1 a1 b1) (by rw[St.Ye,if_pos rfl]);have g3:=(gl.trans (g2.trans gp)).trans gd;have g4:Good σ s w Y' (s1.put s.next .gone) _:=g3.congr (Ej _ _ _) rfl rfl;have hD0:DF n0 (σ.add s.next ⟨w.heap.size+1,0,0⟩) ((w.alloc (.deferred (some []))).alloc (.loop { state:=.ready,pending:=none,fn,tmps:=a.tmps,params:=ps,assign,body,defers:=w.heap.size })) ([{ target:=.collected w.heap.size,args:=#[] }]++a.defers):=by
        obtain⟨rs,xS,LX,hm⟩:=I.df.good gl;obtain⟨rs0,aa8,aeg,hm0⟩:=I.df;refine⟨w.heap.size::rs0,by simp[aa8],afI.2 ⟨fun R4=>?_,aeg⟩,fun r' VX=>?_⟩
        ·have:=(adm.1 (hm0 _ R4).2.1).1;omega
        ·rcases afa.1 VX with rfl|VX
         ·refine⟨I.n0,?_,fun i q hq=>?_,?_⟩
          ·simp only[World.alloc];rw[afB,if_neg (by simp)];simp
          ·by_cases hi:i=s.next
           ·subst hi;rw[Sg.Y7] at hq;cases hq;simp
           ·rw[Sg.XW _ _ hi] at hq;have:=I.hr.lt i q hq;omega
          ·show σ.fz w.heap.size=none
           cases hz:σ.fz w.heap.size with
           |none=>rfl
           |some o =>
            have:=(adm.1 (I.hr.fz _ o hz).1).1;omega
         ·have heq:rs=rs0:=by
           have:=xS.symm.trans aa8;exact List.map_inj_right (by intro x y Ge;simpa using Ge) |>.1 this
          subst heq;exact hm r' VX
       have I':Inv X Y' (s1.put s.next .gone) (w'.putObj (w.heap.size+1) (.loop { r1 with state:=.exhausted })) n0 e' { a with defers:=[{ target:=.collected w.heap.size,args:=#[] }]++a.defers } :=
        ⟨g4.hr,g4.fresh I.fresh,I.glob.mono g4.ext.le,I.env.mono g4.ext.le,((hD0.good g2).good gp).good gd,afG I.n0 g4.ext.size⟩
       have hA:TN X σ s w n0 a e' (s1.put s.next .gone) { a with defers:=[{ target:=.collected w.heap.size,args:=#[] }]++a.defers } (w'.putObj (w.heap.size+1) (.loop { r1 with state:=.exhausted })):=⟨Y',g4,I',rfl⟩;refine⟨p,w'.putObj (w.heap.size+1) (.loop { r1 with state:=.exhausted }),(run_endLoop xQ hnb).trans (congrArg (fun x=>Result.ok x _) aa7),?_⟩;rcases PN with⟨rfl,rfl⟩|⟨i,rfl,rfl⟩|⟨rfl,rfl⟩
       ·exact⟨trivial,hA⟩
       ·exact wpIn_exit ⟨rfl,hA⟩
       ·exact wpIn_ret ⟨trivial,hA⟩
    ·cases h
   ·cases h
  ·cases h
 ·cases h
end
end Go.Am
