/- A part of the proof of a statement of this seat: the machine on which the program is read, and what it computes; for every input. -/
import GoSem.Dispatch
import Derived.RowKit3
import Derived.Laws.OwnMore
import Derived.Laws.Sem
import Derived.Laws.Strings
import Derived.Laws.StructEq
import Derived.Laws.Slices
import Derived.Laws.Cells
import Derived.Laws.BytesString
import Derived.Laws.Entries
import Derived.Laws.Bits
import Derived.RangeFuncLeaves
import Derived.Orders
import Derived.RangeFuncCalls
import Derived.Scope
import Derived.RangeFuncRecord
set_option linter.all false
namespace Go.Am
def aaa:=@List.getElem?_eq_getElem
def aab:=@List.mem_cons_of_mem
def aba:=@List.mem_cons_self
def abc:=@List.drop_eq_getElem_cons
def adm:=@List.getElem_mem
def agw:=@Bool.and_eq_true
def agy:=@List.length_append
def agz:=@Array.getElem?_eq_some_iff
def agB:=@Nat.le_refl
def agC:=@List.length_map
def ah1:=@Nat.mul_one
def aic:=@Nat.zero_le
def akc:=@Nat.add_assoc
def akd:=@List.length_cons
def ake:=@List.mem_singleton
def ald:=@Nat.zero_add
def alh:=@Nat.lt_irrefl
def ali:=@Bool.false_eq_true
def alK:=@List.all_eq_true
def alL:=@List.mem_cons
def alM:=@List.getD_eq_getElem?_getD
def alN:=@List.mem_map
def alO:=@List.drop_length
def alP:=@List.mem_iff_getElem
def alQ:=@List.getElem?_eq_some_iff
def alR:=@Array.length_toList
def alS:=@List.append_assoc
def alT:=@List.map_cons
def alU:=@List.cons_append
def alV:=@List.getElem?_map
def alW:=@List.length_singleton
def alX:=@List.take_succ_eq_append_getElem
def alY:=@List.map_append
def alZ:=@List.append_nil
def al0:=@List.getElem?_append_left
def al1:=@Array.getElem?_toList
def al2:=@List.getElem_append_left
def al3:=@Array.getD_eq_getD_getElem?
def al4:=@List.mem_range
def al5:=@List.getElem_append_right
def al6:=@List.length_eq_zero_iff
def al7:=@List.flatMap_cons
def al8:=@Array.getElem?_eq_getElem
def al9:=@Bool.true_and
def ama:=@Bool.not_true
def amb:=@List.mem_append
def amc:=@List.map_congr_left
def amd:=@List.drop_zero
def ame:=@Bool.or_eq_false_iff
def amf:=@Bool.false_or
def amg:=@List.nil_append
def amh:=@Array.getElem?_push
def ami:=@List.length_set
def amj:=@Bool.eq_iff_iff
def amk:=@Nat.one_mul
def aml:=@List.getElem?_cons_succ
def amm:=@List.getElem?_eq_none
def amn:=@Int.toNat_natCast
def amo:=@Option.map_some
def amp:=@Bool.not_false
def amq:=@Bool.false_and
def amr:=@List.length_take
def ams:=@Bool.not_eq_true'
def amt:=@Nat.mul_le_mul_right
def amu:=@List.mem_of_getElem?
def amv:=@List.nodup_cons
def amw:=@Nat.lt_of_le_of_lt
def amx:=@Nat.add_mul
def amy:=@List.drop_left
def amz:=@Option.isNone_iff_eq_none
def amA:=@Nat.le_trans
def amB:=@Option.map_eq_some_iff
def amC:=@List.getElem_singleton
def amD:=@Array.getElem?_setIfInBounds
def amE:=@Bool.or_eq_true
def amF:=@List.take_zero
def amG:=@Option.getD_some
def amH:=@List.take_length
def amI:=@List.getElem?_append_right
open Go
inductive AV where
 |bool (b:Bool)|int (k:IntKind) (n:Int)|mF (k:FloatKind) (bits:Nat)|str (s:List UInt8)
 |Vk|ptr (b o:Nat)
 |ZW|sl (b o len:Nat) (cap:Option Nat) (VH:Nat)
 |PG|map (r:Nat)|Wa|fn (f:Fn) (first cap:List AV)
 |TO|iface (t:TypeId) (v:AV)|agg (cs:List AV)|XU (vs:List AV)
 |fz (es:List AV)|fp (cs:List AV) (o:Nat)|fm (ks vs:List AV)
 deriving Inhabited
inductive Tr (α:Type) where
 |nil
 |n (v:Option α) (l r:Tr α)
def Tr.get {α:Type}:Tr α->Nat->Option α
 |.nil,_=>none
 |.n v l r,k=>match k with
  |0=>v
  |k'+1=>cond (Nat.beq (k'%2) 0) (l.get (k' / 2)) (r.get (k' / 2))
def Tr.OZ {α:Type}:Nat->Tr α->Nat->α->Tr α
 |0,t,_,_=>t
 |f+1,.nil,k,x=>match k with
  |0=>.n (some x) .nil .nil
  |k'+1=>cond (Nat.beq (k'%2) 0) (.n none (Tr.OZ f .nil (k' / 2) x) .nil) (.n none .nil (Tr.OZ f .nil (k' / 2) x))
 |f+1,.n v l r,k,x=>match k with
  |0=>.n (some x) l r
  |k'+1=>cond (Nat.beq (k'%2) 0) (.n v (Tr.OZ f l (k' / 2) x) r) (.n v l (Tr.OZ f r (k' / 2) x))
def Tr.set {α:Type}(t:Tr α)(k:Nat)(x:α):Tr α:=Tr.OZ (k+1) t k x
abbrev Env:=Tr AV
inductive Uy where
 |cells (c:List AV) (elem:TypeId) (ro:Bool) (OM PF:Nat)
 |gone
 |map (es:List (AV×AV)) (ro:Bool)
 |iter (s:List UInt8) (pos:Nat)
 |loop (state:Nat) (pending:Option Code) (env:Env) (params:List Tmp) (assign body:Code)
structure St where
 t:Tr Uy
 base:Nat->Option Uy
 next:Nat
def St.get (s:St)(b:Nat):Option Uy:=match s.t.get b with
 |some x=>some x
 |none=>s.base b
def St.put (s:St)(b:Nat)(x:Uy):St:={ s with t:=s.t.set b x }
def St.new (s:St)(x:Uy):St:={ s with t:=s.t.set s.next x,next:=s.next+1 }
structure Cx where
 Zd:TypeId->Option TypeDesc
 inf:TypeId->Option TypeInfo
 fn:FuncId->Option Func
 glob:Nat
 Ay:TypeId->Bool
 ext:FuncId->Option (List AV->St->Option (AV×St))
 LK:Nat->Option Uy
 pure:FuncId->Bool
 spec:TypeId->Bool
def undef:AV:=.XU []
def Env.get (e:Env)(t:Tmp):AV:=match Tr.get e t with
 |some v=>v
 |none=>undef
def mS:Nat->Value->Option AV
 |0,_=>none
 |n+1,v=>match v with
  |.bool b=>some (.bool b)
  |.int k i=>some (.int k i)
  |.float k b=>some (.mF k b)
  |.string s=>some (.str s.data.toList)
  |.pointer none=>some .Vk
  |.slice none 0 0=>some .ZW
  |.map none=>some .PG
  |.nilFunc=>some .Wa
  |.nilIface=>some .TO
  |.agg cs=>(cs.toList.mapM (mS n)).map .agg
  |.tuple cs=>(cs.toList.mapM (mS n)).map .XU
  |_=>none
def AV.cells:AV->List AV
 |.agg cs=>cs
 |v=>[v]
mutual
def same:AV->AV->Bool
 |.bool a,.bool b=>a==b
 |.int k a,.int j b=>decide (k=j)&&a==b
 |.mF k a,.mF j b=>decide (k=j)&&a==b
 |.str a,.str b=>a==b
 |.Vk,.Vk=>true
 |.ptr a b,.ptr c d=>a==c&&b==d
 |.ZW,.ZW=>true
 |.sl a b c d e,.sl a' b' c' d' e'=>a==a'&&b==b'&&c==c'&&d==d'&&e==e'
 |.PG,.PG=>true
 |.map a,.map b=>a==b
 |.Wa,.Wa=>true
 |.fn f x y,.fn g x' y'=>decide (f=g)&&VU x x'&&VU y y'
 |.TO,.TO=>true
 |.iface t x,.iface u y=>t==u&&same x y
 |.agg a,.agg b=>VU a b
 |.XU a,.XU b=>VU a b
 |.fz a,.fz b=>VU a b
 |.fp a o,.fp b o'=>o==o'&&VU a b
 |.fm a b,.fm a' b'=>VU a a'&&VU b b'
 |_,_=>false
def VU:List AV->List AV->Bool
 |[],[]=>true
 |a::x,b::y=>same a b&&VU x y
 |_,_=>false
end
section
variable (X:Cx)
def eval (e:Env):Operand->Option AV
 |.tmp t=>some (Env.get e t)
 |.const v=>mS 3 v
 |.global g=>if g<X.glob then some (.ptr g 0) else none
 |.func f=>some (.fn (.func f) [] [])
def size (t:TypeId):Option Nat:=match X.inf t with
 |some i=>some i.size
 |none=>none
def YC (t:TypeId):Option Bool:=match X.Zd t with
 |some (.struct _)=>some true
 |some (.array _ _)=>some true
 |some _=>some false
 |none=>none
def zero (t:TypeId):Option AV:=match X.inf t with
 |some i=>match i.zero with
  |some z=>mS 3 z
  |none=>none
 |none=>none
def St.cells (s:St)(b:Nat):Option (List AV):=match s.get b with
 |some (.cells c _ _ _ _)=>some c
 |_=>none
def XA:Nat->Nat->List AV->Option (List AV)
 |0,_,_=>some []
 |_+1,_,[]=>none
 |n+1,0,x::l=>match XA n 0 l with
  |some r=>some (x::r)
  |none=>none
 |n+1,o+1,_::l=>XA (n+1) o l
def lay:Nat->List AV->List AV->Option (List AV)
 |_,[],l=>some l
 |_,_::_,[]=>none
 |0,v::vs,_::l=>match lay 0 vs l with
  |some r=>some (v::r)
  |none=>none
 |o+1,v::vs,x::l=>match lay o (v::vs) l with
  |some r=>some (x::r)
  |none=>none
def cell (s:St)(b o:Nat):Option AV:=match s.cells b with
 |some c=>c[o]?
 |none=>none
def Vc (t:TypeId)(a:AV)(s:St):Option AV:=match a with
 |.ptr b o=>match YC X t with
  |some true=>match size X t,s.cells b with
   |some n,some c=>match XA n o c with
    |some r=>some (.agg r)
    |none=>none
   |_,_=>none
  |some false=>cell s b o
  |none=>none
 |.fp c o=>match YC X t with
  |some true=>match size X t with
   |some n=>match XA n o c with
    |some r=>some (.agg r)
    |none=>none
   |none=>none
  |some false=>c[o]?
  |none=>none
 |_=>none
def Zz:AV->Bool
 |.agg _=>false
 |.XU _=>false
 |_=>true
def Xi (s:St)(b o:Nat)(vs:List AV):Option St:=match s.get b with
 |some (.cells c e false OM PF) =>
  if (o+vs.length<=OM||PF<=o)&&vs.all Zz then
   match lay o vs c with
   |some c'=>some (s.put b (.cells c' e false OM PF))
   |none=>none
  else none
 |_=>none
def Md (t:TypeId)(a v:AV)(s:St):Option St:=match a with
 |.ptr b o=>match size X t with
  |some n=>if v.cells.length=n then Xi s b o v.cells else none
  |none=>none
 |_=>none
def Q_ (t:TypeId)(cs:List AV)(off:Nat):Option AV:=match YC X t with
 |some true=>match size X t with
  |some n=>match XA n off cs with
   |some r=>some (.agg r)
   |none=>none
  |none=>none
 |some false=>cs[off]?
 |none=>none
def Ld (place:Nat->Option (Nat×Nat))(cells:List AV):List (Nat×AV)->Option (List AV)
 |[]=>some cells
 |(i,v)::rest=>match place i with
  |none=>none
  |some (off,n)=>if v.cells.length=n/\off+n<=cells.length then
    match lay off v.cells cells with
    |some c=>Ld place c rest
    |none=>none
   else none
def VX (e:Env):List (Nat×Operand)->Option (List (Nat×AV))
 |[]=>some []
 |(i,x)::l=>match eval X e x,VX e l with
  |some v,some r=>some ((i,v)::r)
  |_,_=>none
def Wk (e:Env):List Operand->Option (List AV)
 |[]=>some []
 |x::l=>match eval X e x,Wk e l with
  |some v,some r=>some (v::r)
  |_,_=>none
def UW:Nat->List AV->List AV
 |0,_=>[]
 |n+1,l=>l++UW n l
def NF:List Field->Option (List (Nat×Nat))
 |[]=>some []
 |f::l=>match size X f.type,NF l with
  |some n,some r=>some ((f.offset,n)::r)
  |_,_=>none
def GH (t:TypeId)(parts:List (Nat×AV)):Option AV:=match zero X t with
 |some (.agg z)=>match X.Zd t with
  |some (.struct fs)=>match NF X fs.toList with
   |some pl=>match Ld (fun i=>pl[i]?) z parts with
    |some c=>some (.agg c)
    |none=>none
   |none=>none
  |some (.array _ elem)=>match size X elem with
   |some n=>match Ld (fun i=>some (i*n,n)) z parts with
    |some c=>some (.agg c)
    |none=>none
   |none=>none
  |_=>none
 |_=>none
def Vt (s:St)(c:List AV)(e:TypeId):AV×St:=(.ptr s.next 0,s.new (.cells c e false 0 0))
def Ul (t:TypeId)(len:Nat)(parts:List (Nat×AV))(s:St):Option (AV×St):=match X.Zd t with
 |some (.slice elem)=>match size X elem,zero X elem with
  |some n,some z =>
   if z.cells.length=n/\n≠0/\len*n<=2^24 then match Ld (fun i=>some (i*n,n)) (UW len z.cells) parts with
   |some c=>some (.sl s.next 0 len (some len) n,s.new (.cells c elem false 0 0))
   |none=>none
   else none
  |_,_=>none
 |_=>none
def Sw:List UInt8->List UInt8->Bool
 |_,[]=>false
 |[],_::_=>true
 |a::x,b::y=>a<b||(a==b&&Sw x y)
def PH (f:AV->AV->Option Bool)(cut:Nat->List AV->Option AV)(n:Nat):Nat->Nat->List AV->List AV->Option Bool
 |0,_,_,_=>some true
 |k+1,i,a,b=>match cut (i*n) a,cut (i*n) b with
  |some x,some y=>match f x y with
   |some true=>PH f cut n k (i+1) a b
   |some false=>some false
   |none=>none
  |_,_=>none
def NK (f:TypeId->AV->AV->Option Bool)(cut:TypeId->Nat->List AV->Option AV):List Field->List AV->List AV->Option Bool
 |[],_,_=>some true
 |fd::fs,a,b=>if fd.name = "_" then none else match cut fd.type fd.offset a,cut fd.type fd.offset b with
  |some x,some y=>match f fd.type x y with
   |some true=>NK f cut fs a b
   |some false=>some false
   |none=>none
  |_,_=>none
def Au:Nat->TypeId->AV->AV->Option Bool
 |0,_,_,_=>none
 |d+1,t,x,y=>match X.Zd t,x,y with
  |some .bool,.bool a,.bool b=>some (a==b)
  |some (.int _),.int k a,.int k' b=>if k=k' then some (a==b) else none
  |some .string,.str a,.str b=>some (a==b)
  |some (.pointer _),.Vk,.Vk=>some true
  |some (.pointer _),.Vk,.ptr _ _=>some false
  |some (.pointer _),.ptr _ _,.Vk=>some false
  |some (.pointer e),.ptr b o,.ptr b' o'=>match size X e with
   |some (_+1)=>if b=b' then some (o==o') else none
   |_=>none
  |some (.slice _),.ZW,.ZW=>some true
  |some (.slice _),.ZW,.sl ..=>some false
  |some (.slice _),.sl ..,.ZW=>some false
  |some (.slice _),.ZW,.fz _=>some false
  |some (.slice _),.fz _,.ZW=>some false
  |some (.map _ _),.PG,.PG=>some true
  |some (.map _ _),.PG,.map _=>some false
  |some (.map _ _),.map _,.PG=>some false
  |some (.func _ _ _),.Wa,.Wa=>some true
  |some (.func _ _ _),.Wa,.fn ..=>some false
  |some (.func _ _ _),.fn ..,.Wa=>some false
  |some (.interface _),.TO,.TO=>some true
  |some (.interface _),.TO,.iface ..=>some false
  |some (.interface _),.iface ..,.TO=>some false
  |some (.struct fs),.agg a,.agg b=>if X.Ay t then NK (Au d) (fun t o l=>Q_ X t l o) fs.toList a b else none
  |some (.array len e),.agg a,.agg b=>match size X e with
   |some n=>PH (Au d e) (fun o l=>Q_ X e l o) n len 0 a b
   |none=>none
  |_,_,_=>none
def IY (cst:Bool)(t:TypeId)(x y:AV):Option Bool:=match x,y with
 |.TO,.TO=>if cst then Au X 20 t .TO .TO else none
 |.agg a,.agg b=>if X.Ay t then Au X 20 t (.agg a) (.agg b) else none
 |x,y=>Au X 20 t x y
def TW:Operand->Bool
 |.const _=>true
 |_=>false
def JN (op:BinOp)(k:IntKind)(x y:Int):Option AV :=
 if y<0 then none else
 let n:=min y.toNat k.bits
 match op with
 |.shl=>some (.int k (k.wrap (x*2^n)))
 |.shr=>some (.int k (x.fdiv (2^n)))
 |_=>none
def Mc (op:BinOp)(k:IntKind)(x y:Int):Option AV:=match op with
 |.add=>some (.int k (k.wrap (x+y)))
 |.sub=>some (.int k (k.wrap (x-y)))
 |.mul=>some (.int k (k.wrap (x*y)))
 |.quo=>if y=0 then none else some (.int k (k.wrap (x.tdiv y)))
 |.rem=>if y=0 then none else some (.int k (x.tmod y))
 |.and=>some (.int k (k.wrap ((BitVec.ofInt k.bits x &&& BitVec.ofInt k.bits y).toNat)))
 |.or=>some (.int k (k.wrap ((BitVec.ofInt k.bits x ||| BitVec.ofInt k.bits y).toNat)))
 |.xor=>some (.int k (k.wrap ((BitVec.ofInt k.bits x ^^^ BitVec.ofInt k.bits y).toNat)))
 |.andNot=>some (.int k (k.wrap ((BitVec.ofInt k.bits x &&& ~~~ BitVec.ofInt k.bits y).toNat)))
 |.eql=>some (.bool (x==y))
 |.neq=>some (.bool (x != y))
 |.lss=>some (.bool (x<y))
 |.leq=>some (.bool (x<=y))
 |.gtr=>some (.bool (x>y))
 |.geq=>some (.bool (x>=y))
 |_=>none
def lF (op:BinOp)(x y:List UInt8):Option AV:=match op with
 |.add=>if x.length+y.length<2^62 then some (.str (x++y)) else none
 |.eql=>some (.bool (x==y))
 |.neq=>some (.bool !(x==y))
 |.lss=>some (.bool (Sw x y))
 |.leq=>some (.bool (Sw x y||x==y))
 |.gtr=>some (.bool !(Sw x y||x==y))
 |.geq=>some (.bool !(Sw x y))
 |_=>none
def Wg (op:BinOp)(t:TypeId)(cst:Bool)(x y:AV):Option AV:=match op,x,y with
 |.shl,.int k a,.int _ b=>JN .shl k a b
 |.shr,.int k a,.int _ b=>JN .shr k a b
 |op,.int k a,.int k' b=>if k=k' then Mc op k a b else none
 |op,.str a,.str b=>lF op a b
 |.eql,x,y=>match IY X cst t x y with|some b=>some (.bool b)|none=>none
 |.neq,x,y=>match IY X cst t x y with|some b=>some (.bool !b)|none=>none
 |_,_,_=>none
def o0 (op:UnOp)(x:AV):Option AV:=match op,x with
 |.neg,.int k n=>some (.int k (k.wrap (0-n)))
 |.xor,.int k n=>Mc .xor k (if k.signed then -1 else k.max) n
 |.not,.bool b=>some (.bool !b)
 |_,_=>none
def Xh:List AV->Option (List UInt8)
 |[]=>some []
 |.int .u8 n::l=>match Xh l with
  |some r=>some (UInt8.ofNat n.toNat::r)
  |none=>none
 |_=>none
def RP (src dst:TypeId)(x:AV)(s:St):Option (AV×St):=match X.Zd src,X.Zd dst,x with
 |some _,some (.int k),.int _ n=>some (.int k (k.wrap n),s)
 |some _,some .string,.int _ n=>some (.str (Utf8.encode n).data.toList,s)
 |some _,some .string,.str b=>some (.str b,s)
 |some _,some (.slice e),.str b=>match X.Zd e with
  |some (.int .u8)=>some (.sl s.next 0 b.length none 1,s.new (.cells (b.map fun c=>.int .u8 c.toNat) e false 0 0))
  |_=>none
 |some (.slice e),some .string,x=>match X.Zd e with
  |some (.int .u8)=>match x with
   |.ZW=>some (.str [],s)
   |.sl b o len _ _=>match s.cells b with
    |some c=>match XA len o c with
     |some r=>match Xh r with
      |some bs=>some (.str bs,s)
      |none=>none
     |none=>none
    |none=>none
   |.fz es=>match Xh es with
    |some bs=>some (.str bs,s)
    |none=>none
   |_=>none
  |_=>none
 |_,_,_=>none
def Yz (x:Option AV)(wF y:Nat):Option Nat:=match x with
 |none=>some wF
 |some (.int _ i)=>if 0<=i/\i<=y then some i.toNat else none
 |_=>none
def Py (t:TypeId)(x:AV)(lo hi mx:Option AV):Option AV:=match X.Zd t,x with
 |some .string,.str b=>match mx,Yz hi b.length b.length with
  |none,some h=>match Yz lo 0 h with
   |some l=>some (.str ((b.take h).drop l))
   |none=>none
  |_,_=>none
 |some (.slice e),.sl b o len cap VH=>match size X e,mx with
  |some n,none=>match Yz hi len (cap.getD len) with
   |some h=>match Yz lo 0 h with
    |some l=>some (.sl b (o+l*n) (h-l) (cap.map (·-l)) (if VH=n then n else 0))
    |none=>none
   |none=>none
  |some n,some m=>match Yz (some m) 0 (cap.getD len),hi with
   |some m',some _=>match Yz hi 0 m' with
    |some h=>match Yz lo 0 h with
     |some l=>some (.sl b (o+l*n) (h-l) (some (m'-l)) (if VH=n then n else 0))
     |none=>none
    |none=>none
   |_,_=>none
  |none,_=>none
 |some (.slice e),.ZW=>match size X e,mx,Yz hi 0 0 with
  |some _,none,some h=>match Yz lo 0 h with
   |some _=>some .ZW
   |none=>none
  |_,_,_=>none
 |some (.slice e),.fz es=>match size X e,mx,Yz hi es.length es.length with
  |some n,none,some h=>match Yz lo 0 h with
   |some l=>if es.all (fun x=>x.cells.length==n) then some (.fz ((es.take h).drop l)) else none
   |none=>none
  |_,_,_=>none
 |some (.array n e),.ptr b o=>match size X e,mx,Yz hi n n with
  |some z,none,some h=>match Yz lo 0 h with
   |some l=>some (.sl b (o+l*z) (h-l) (some (n-l)) 0)
   |none=>none
  |_,_,_=>none
 |_,_=>none
def RD (t:TypeId)(x:AV)(f:Nat):Option AV:=match X.Zd t,x with
 |some (.struct fs),.ptr b o=>match fs[f]? with
  |some fd=>match size X fd.type with
   |some (_+1)=>some (.ptr b (o+fd.offset))
   |_=>none
  |none=>none
 |some (.struct fs),.fp c o=>match fs[f]? with
  |some fd=>match size X fd.type with
   |some (_+1)=>some (.fp c (o+fd.offset))
   |_=>none
  |none=>none
 |_,_=>none
def VB (t:TypeId)(x i:AV):Option AV:=match i with
 |.int _ i=>match X.Zd t,x with
  |some (.slice e),.sl b o len _ _=>if 0<=i/\i<len then
    match size X e with|some n=>some (.ptr b (o+i.toNat*n))|none=>none
   else none
  |some (.array len e),.ptr b o=>if 0<=i/\i<len then
    match size X e with|some n=>some (.ptr b (o+i.toNat*n))|none=>none
   else none
  |some (.slice e),.fz es=>if 0<=i then match es[i.toNat]?,size X e with
   |some x,some n=>if x.cells.length=n/\n≠0 then some (.fp x.cells 0) else none
   |_,_=>none
   else none
  |some (.array len e),.fp c o=>if 0<=i/\i<len then
    match size X e with|some n=>some (.fp c (o+i.toNat*n))|none=>none
   else none
  |_,_=>none
 |_=>none
def Gq (t:TypeId)(x i:AV):Option AV:=match i with
 |.int _ i=>match X.Zd t,x with
  |some (.array len e),.agg cs=>if 0<=i/\i<len then
    match size X e with|some n=>Q_ X e cs (i.toNat*n)|none=>none
   else none
  |some .string,.str b=>if 0<=i then
    match b[i.toNat]? with|some c=>some (.int .u8 c.toNat)|none=>none
   else none
  |_,_=>none
 |_=>none
def VG:List AV->Bool
 |[]=>true
 |.int .i64 _::l=>VG l
 |_=>false
def Uq (t:TypeId)(k:AV):Bool:=match X.Zd t,k with
 |some (.int k),.int k' _=>decide (k=k')
 |some .string,.str _=>true
 |some .bool,.bool _=>true
 |some (.array len e),.agg cs=>VG cs&&cs.length==len&&(match X.Zd e,size X e with|some (.int .i64),some 1=>true|_,_=>false)
 |_,_=>false
def VQ:AV->AV->Option Bool
 |.int k a,.int k' b=>if k=k' then some (a==b) else none
 |.str a,.str b=>some (a==b)
 |.bool a,.bool b=>some (a==b)
 |.agg a,.agg b=>if VG a&&VG b&&a.length==b.length then some (VU a b) else none
 |_,_=>none
def UM (k:AV):List (AV×AV)->Option (Option AV)
 |[]=>some none
 |(k',v)::l=>match VQ k k' with
  |some true=>some (some v)
  |some false=>UM k l
  |none=>none
def Ir (k v:AV):List (AV×AV)->Option (List (AV×AV))
 |[]=>some [(k,v)]
 |(k',v')::l=>match VQ k k' with
  |some true=>some ((k,v)::l)
  |some false=>match Ir k v l with|some r=>some ((k',v')::r)|none=>none
  |none=>none
def VK (t:TypeId)(m k:AV)(ok:Bool)(s:St):Option AV:=match X.Zd t with
 |some (.map key elem)=>if Uq X key k then
  let r:Option (Option AV):=match m with
   |.PG=>some none
   |.map b=>match s.get b with
    |some (.map es _)=>UM k es
    |_=>none
   |.fm ks vs=>UM k (ks.zip vs)
   |_=>none
  match r with
  |some (some v)=>some (if ok then .XU [v,.bool true] else v)
  |some none=>match zero X elem with
   |some z=>some (if ok then .XU [z,.bool false] else z)
   |none=>none
  |none=>none
  else none
 |_=>none
def UX (t:TypeId)(m k v:AV)(s:St):Option St:=match X.Zd t,m with
 |some (.map key _),.map b=>if Uq X key k then match s.get b with
  |some (.map es false)=>match Ir k v es with
   |some ew=>some (s.put b (.map ew false))
   |none=>none
  |_=>none
  else none
 |_,_=>none
def Wc (n:Nat)(x:AV)(s:St):Option (Nat×List AV):=match x with
 |.ZW=>some (0,[])
 |.sl b o len _ _=>match s.cells b with
  |some c=>match XA (len*n) o c with
   |some r=>some (len,r)
   |none=>none
  |none=>none
 |.str b=>some (b.length,b.map fun c=>.int .u8 c.toNat)
 |.fz es=>if es.all (fun x=>x.cells.length==n)&&n != 0 then some (es.length,es.flatMap AV.cells) else none
 |_=>none
def Xj:AV->Nat
 |.sl _ _ n _ _=>n
 |.fz es=>es.length
 |_=>0
def HL (z:Option Value)(n:Nat):Bool:=match z with
 |some z=>z.cells.size != n
 |none=>true
def Nx (t:TypeId)(d x:AV)(s:St):Option (AV×St):=match X.Zd t with
 |some (.slice elem)=>match X.inf elem,size X elem with
  |some ei,some n=>match Wc n x s with
   |some (m,new) =>
    if new.length≠m*n\/(Xj d+m)*ei.bytes>2^40\/ei.bytes>2^20\/Xj d+m>2^40\/n=0\/ei.bytes=0\/HL ei.zero n=true\/X.spec elem=true then none
    else if m=0 then match d with
     |.ZW=>some (d,s)
     |.sl ..=>some (d,s)
     |.fz _=>some (d,s)
     |_=>none
    else match d with
    |.ZW=>some (.sl s.next 0 m none n,s.new (.cells new elem false 0 0))
    |.sl b o len cap VH=>match s.cells b with
     |some c=>match XA (len*n) o c with
      |some old =>
       match cap with
       |some k=>if len+m<=k then
         if VH=n then match Xi s b (o+len*n) new with
          |some s'=>some (.sl b o (len+m) (some k) n,s')
          |none=>none
         else none
        else some (.sl s.next 0 (len+m) none n,s.new (.cells (old++new) elem false 0 0))
       |none=>match s.get b with
        |some (.cells _ e0 false OM PF) =>
         if VH=n/\PF<=o+len*n/\e0=elem/\new.all Zz=true then
          some (.sl s.next 0 (len+m) none n,(s.put b .gone).new (.cells (old++new) elem false (OM-o) (PF-o)))
         else none
        |_=>none
      |none=>none
     |none=>none
    |_=>none
   |none=>none
  |_,_=>none
 |_=>none
def qG (k:IntKind):Int->List AV->Option AV
 |x,[]=>some (.int k x)
 |x,.int _ y::l=>qG k (if y<x then y else x) l
 |_,_=>none
def vZ (k:IntKind):Int->List AV->Option AV
 |x,[]=>some (.int k x)
 |x,.int _ y::l=>vZ k (if y>x then y else x) l
 |_,_=>none
def Yj (b:Builtin)(ts:Array TypeId)(args:List AV)(s:St):Option (AV×St):=match b,args with
 |.len,[x]=>match ts[0]? with
  |some t=>match X.Zd t,x with
   |some .string,.str l=>some (.int .i64 l.length,s)
   |some (.slice _),.ZW=>some (.int .i64 0,s)
   |some (.slice _),.sl _ _ n _ _=>some (.int .i64 n,s)
   |some (.slice _),.fz es=>some (.int .i64 es.length,s)
   |some (.map _ _),.fm ks _=>some (.int .i64 ks.length,s)
   |some (.map _ _),.PG=>some (.int .i64 0,s)
   |some (.map _ _),.map r=>match s.get r with
    |some (.map es _)=>some (.int .i64 es.length,s)
    |_=>none
   |some (.array n _),_=>some (.int .i64 n,s)
   |some (.pointer p),_=>match X.Zd p with
    |some (.array n _)=>some (.int .i64 n,s)
    |_=>none
   |_,_=>none
  |none=>none
 |.append,[d,x]=>match ts[0]?,ts[1]? with
  |some t,some u=>match X.Zd u with
   |some (.slice _)=>Nx X t d x s
   |some .string=>Nx X t d x s
   |_=>none
  |_,_=>none
 |.min,.int k x::l=>match qG k x l with
  |some v=>some (v,s)
  |none=>none
 |.max,.int k x::l=>match vZ k x l with
  |some v=>some (v,s)
  |none=>none
 |.unsafeSliceData,[x]=>match x with
  |.ZW=>some (.Vk,s)
  |.sl b o (_+1) _ _=>some (.ptr b o,s)
  |_=>none
 |.unsafeString,[p,.int _ n]=>if ts.size=0 then none else match p with
  |.Vk=>if n=0 then some (.str [],s) else none
  |.ptr b o=>if n=0 then some (.str [],s) else if n<0\/n>2^40 then none else match s.get b,ts[0]? with
   |some (.cells c e false _ _),some t=>match X.Zd t with
    |some (.pointer u)=>if u=e/\size X e=some 1 then match XA n.toNat o c with
     |some r=>match Xh r with
      |some bs=>some (.str bs,s.put b (.cells c e true 0 0))
      |none=>none
     |none=>none
     else none
    |_=>none
   |_,_=>none
  |_=>none
 |_,_=>none
def TV (s:List UInt8):Nat×Nat :=
 let g:=fun (k:Nat)=>((s[k]?).getD 0).toNat
 let cont:=fun (k:Nat)=>decide (k<s.length)&&g k / 64==2
 let b0:=g 0
 if b0<0x80 then (b0,1)
 else if b0 / 32==6&&cont 1 then
  let c:=(b0%32)*64+g 1%64
  if c>=0x80 then (c,2) else (Utf8.runeError,1)
 else if b0 / 16==14&&cont 1&&cont 2 then
  let c:=(b0%16)*4096+(g 1%64)*64+g 2%64
  if c>=0x800&&Utf8.valid c then (c,3) else (Utf8.runeError,1)
 else if b0 / 8==30&&cont 1&&cont 2&&cont 3 then
  let c:=(b0%8)*262144+(g 1%64)*4096+(g 2%64)*64+g 3%64
  if c>=0x10000&&Utf8.valid c then (c,4) else (Utf8.runeError,1)
 else (Utf8.runeError,1)
inductive Out where
 |norm
 |exit (id:Nat)
 |ret
 deriving DecidableEq,Inhabited
abbrev Ex:=Code->Env->St->Option (Out×Env×St)
def YX:Nat->List AV->Env->Env
 |_,[],e=>e
 |i,v::l,e=>YX (i+1) l (Tr.set e i v)
def Nw (e:Env)(s:St):ResultVar->Option AV
 |.tmp t=>some (Env.get e t)
 |.cell a t=>Vc X t (Env.get e a) s
def Xt (e:Env)(s:St):List ResultVar->Option (List AV)
 |[]=>some []
 |r::l=>match Nw X e s r,Xt e s l with
  |some v,some vs=>some (v::vs)
  |_,_=>none
def Uz (f:Func)(e:Env)(s:St):Option AV:=match Xt X e s f.results.toList with
 |some [v]=>some v
 |some vs=>some (.XU vs)
 |none=>none
def Oj (ex:Ex)(f:FuncId)(args:List AV)(s:St):Option (AV×St):=match X.fn f with
  |some fn=>match fn.body with
   |some c=>match ex c (YX 0 args .nil) s with
    |some (.norm,e,s')=>match Uz X fn e s' with|some v=>some (v,s')|none=>none
    |some (.ret,e,s')=>match Uz X fn e s' with|some v=>some (v,s')|none=>none
    |_=>none
   |none=>none
  |none=>none
mutual
def still:AV->Bool
 |.ptr ..=>false
 |.sl ..=>false
 |.map _=>false
 |.fn f x y=>(match f with|.func _=>true|_=>false)&&ZU x&&ZU y
 |.iface _ v=>still v
 |.agg cs=>ZU cs
 |.XU cs=>ZU cs
 |.fz es=>true
 |.fp _ _=>true
 |.fm _ _=>true
 |.bool _=>true
 |.int _ _=>true
 |.mF _ _=>true
 |.str _=>true
 |.Vk=>true
 |.ZW=>true
 |.PG=>true
 |.Wa=>true
 |.TO=>true
def ZU:List AV->Bool
 |[]=>true
 |x::l=>still x&&ZU l
end
mutual
def flat:AV->Bool
 |.ptr ..=>false
 |.sl ..=>false
 |.map _=>false
 |.fn f x y=>(match f with|.func _=>true|_=>false)&&K4 x&&K4 y
 |.iface _ v=>flat v
 |.agg cs=>K4 cs
 |.XU cs=>K4 cs
 |.fz es=>false
 |.fp _ _=>false
 |.fm _ _=>false
 |.bool _=>true
 |.int _ _=>true
 |.mF _ _=>true
 |.str _=>true
 |.Vk=>true
 |.ZW=>true
 |.PG=>true
 |.Wa=>true
 |.TO=>true
def K4:List AV->Bool
 |[]=>true
 |x::l=>flat x&&K4 l
end
def Xm (agg:Bool)(n:Nat):Nat->List AV->List AV
 |0,_=>[]
 |k+1,l=>(match agg,l with|false,x::_=>x|_,_=>.agg (l.take n))::Xm agg n k (l.drop n)
def Y' (f:AV->Option AV):List AV->Option (List AV)
 |[]=>some []
 |x::l=>match f x,Y' f l with
  |some y,some r=>some (y::r)
  |_,_=>none
def Yn (s:St):Nat->AV->Option AV
 |0,_=>none
 |d+1,v=>match v with
  |.ptr b o=>match s.get b with
   |some (.cells c _ false _ _)=>match Y' (Yn s d) c with
    |some c'=>some (.fp c' o)
    |none=>none
   |_=>none
  |.sl b o len _ VH=>match s.get b with
   |some (.cells c e false _ _)=>match XA (len*VH) o c,YC X e,size X e with
    |some r,some ag,some n=>if VH=n/\n≠0/\(ag=false->n=1/\r.all Zz=true) then match Y' (Yn s d) (Xm ag n len r) with
     |some es=>some (.fz es)
     |none=>none
     else none
    |_,_,_=>none
   |_=>none
  |.map r=>match s.get r with
   |some (.map es false)=>match Y' (Yn s d) (es.map (·.1)),Y' (Yn s d) (es.map (·.2)) with
    |some ks,some vs=>some (.fm ks vs)
    |_,_=>none
   |_=>none
  |.fn f x y=>match f with
   |.func g=>match Y' (Yn s d) x,Y' (Yn s d) y with
    |some x',some y'=>some (.fn (.func g) x' y')
    |_,_=>none
   |_=>none
  |.iface t x=>match Yn s d x with
   |some x'=>some (.iface t x')
   |none=>none
  |.agg cs=>match Y' (Yn s d) cs with
   |some oc=>some (.agg oc)
   |none=>none
  |.XU cs=>match Y' (Yn s d) cs with
   |some oc=>some (.XU oc)
   |none=>none
  |v=>some v
def XC (s:St):Nat->AV->Option AV
 |0,_=>none
 |d+1,v=>match v with
  |.ptr b o=>match s.get b with
   |some (.cells c _ false _ _)=>match Y' (XC s d) c with
    |some c'=>some (.fp c' o)
    |none=>none
   |_=>none
  |.sl b o len _ VH=>match s.get b with
   |some (.cells c e false _ _)=>match XA (len*VH) o c,YC X e,size X e with
    |some r,some ag,some n=>if VH=n/\n≠0/\(ag=false->n=1/\r.all Zz=true) then match Y' (XC s d) (Xm ag n len r) with
     |some es=>some (.fz es)
     |none=>none
     else none
    |_,_,_=>none
   |_=>none
  |.map r=>match s.get r with
   |some (.map es false)=>match Y' (XC s d) (es.map (·.1)),Y' (XC s d) (es.map (·.2)) with
    |some ks,some vs=>some (.fm ks vs)
    |_,_=>none
   |_=>none
  |.fn f x y=>match f with
   |.func g=>match Y' (XC s d) x,Y' (XC s d) y with
    |some x',some y'=>some (.fn (.func g) x' y')
    |_,_=>none
   |_=>none
  |.iface t x=>match XC s d x with
   |some x'=>some (.iface t x')
   |none=>none
  |.agg cs=>match Y' (XC s d) cs with
   |some oc=>some (.agg oc)
   |none=>none
  |.XU cs=>match Y' (XC s d) cs with
   |some oc=>some (.XU oc)
   |none=>none
  |.fz _=>none
  |.fp _ _=>none
  |.fm _ _=>none
  |v=>some v
def X8:St:={ t:=.nil,base:=X.LK,next:=X.glob }
def Tc:Nat:=40
def Vf (s:St)(args:List AV):Option (List AV):=if ZU args then some args else Y' (Yn X s Tc) args
def Yg (ex:Ex)(f:FuncId)(args:List AV)(st:Bool):Option AV:=match Oj X ex f args (X8 X) with
 |some (v,s')=>if st then Yn X s' Tc v else if flat v then some v else XC X s' Tc v
 |none=>none
def Ox (ex:Ex)(f:FuncId)(args:List AV)(s:St):Option (AV×St):=match Vf X s args with
 |some sW=>match Yg X ex f sW (ZU args) with
  |some v=>some (v,s)
  |none=>none
 |none=>none
def Uk (ex:Ex)(f:FuncId)(args:List AV)(s:St):Option (AV×St):=match X.ext f with
 |some g=>g args s
 |none=>if X.pure f then Ox X ex f args s else Oj X ex f args s
def Nv (l:Nat)(o:Out)(e:Env)(q:List Tmp)(a b:Code)(s:St):Option (AV×St):=match o with
 |.norm=>some (.bool true,s.put l (.loop 0 none e q a b))
 |.exit i=>some (.bool false,s.put l (.loop 2 (some (.exit i)) e q a b))
 |.ret=>some (.bool false,s.put l (.loop 2 (some .ret) e q a b))
def Gp (ex:Ex)(l:Nat)(args:List AV)(s:St):Option (AV×St):=match s.get l with
 |some (.loop 0 p env params assign body) =>
  if args.length=params.length then
   let aio:=(params.zip args).foldl (fun e (t,a)=>Tr.set e t a) env
   match ex assign aio s with
   |some (.norm,lE,s1)=>match s1.get l with
    |some (.loop 0 p1 e1 q1 a1 b1)=>match ex body lE (s1.put l (.loop 1 p1 e1 q1 a1 b1)) with
     |some (o,_,s2)=>match s2.get l with
      |some (.loop _ _ e2 q2 a2 b2)=>Nv l o e2 q2 a2 b2 s2
      |_=>none
     |none=>none
    |_=>none
   |_=>none
  else none
 |_=>none
def Gx (ex:Ex)(f:AV)(args:List AV)(s:St):Option (AV×St):=match f with
 |.fn (.func g) first cap=>Uk X ex g (first++args++cap) s
 |.fn (.yield l) first cap=>Gp ex l (first++args) s
 |_=>none
def Zm (v:Option AV)(s:St):Option (AV×St):=match v with
 |some v=>some (v,s)
 |none=>none
def OA (s:Option St):Option (AV×St):=match s with
 |some s=>some (undef,s)
 |none=>none
def Ov (e:Env)(x:Option Operand):Option (Option AV):=match x with
 |none=>some none
 |some x=>match eval X e x with
  |some v=>some (some v)
  |none=>none
def YI (ex:Ex)(e:Env)(o:Op)(s:St):Option (AV×St):=match o with
 |.move x=>Zm (eval X e x) s
 |.assign x=>Zm (eval X e x) s
 |.pick c a b=>match eval X e c with
  |some (.bool true)=>Zm (eval X e a) s
  |some (.bool false)=>Zm (eval X e b) s
  |_=>none
 |.alloc t=>match zero X t with
  |some z=>some (Vt s z.cells t)
  |none=>none
 |.box t x=>match eval X e x with
  |some v=>some (Vt s v.cells t)
  |none=>none
 |.build t ps=>match VX X e ps.toList with
  |some l=>Zm (GH X t l) s
  |none=>none
 |.buildSlice t n ps=>match VX X e ps.toList with
  |some l=>Ul X t n l s
  |none=>none
 |.load t a=>match eval X e a with
  |some a=>Zm (Vc X t a s) s
  |none=>none
 |.store t a x=>match eval X e a,eval X e x with
  |some a,some v=>OA (Md X t a v s)
  |_,_=>none
 |.nilCheck x=>match eval X e x with
  |some (.ptr b o)=>some (.ptr b o,s)
  |some (.fp c o)=>some (.fp c o,s)
  |some (.fn (.func f) x y)=>some (.fn (.func f) x y,s)
  |some (.fn (.yield f) x y)=>some (.fn (.yield f) x y,s)
  |_=>none
 |.binOp op t x y _=>match eval X e x,eval X e y with
  |some a,some b=>Zm (Wg X op t (TW x||TW y) a b) s
  |_,_=>none
 |.unOp op _ x=>match eval X e x with
  |some a=>Zm (o0 op a) s
  |none=>none
 |.convert a b x=>match eval X e x with
  |some v=>RP X a b v s
  |none=>none
 |.makeInterface t x=>match eval X e x with
  |some v=>match X.Zd t with
   |some (.interface _)=>none
   |some _=>some (.iface t v,s)
   |none=>none
  |none=>none
 |.makeFunc f a b=>match f with
  |.func g=>match Wk X e a.toList,Wk X e b.toList with
   |some x,some y=>some (.fn (.func g) x y,s)
   |_,_=>none
  |_=>none
 |.makeMap t r=>match r with
  |none=>some (.map s.next,s.new (.map [] false))
  |some x=>match eval X e x,X.Zd t with
   |some (.int _ _),some (.map _ _)=>some (.map s.next,s.new (.map [] false))
   |_,_=>none
 |.makeSlice t l c=>match eval X e l,eval X e c,X.Zd t with
  |some (.int _ l),some (.int _ c),some (.slice elem)=>match X.inf elem,zero X elem with
   |some i,some z=>if 0<=l/\l<=c/\c*i.bytes<=2^47/\c<2^47/\z.cells.length=i.size/\i.size≠0 then
     some (.sl s.next 0 l.toNat (some c.toNat) i.size,s.new (.cells (UW c.toNat z.cells) elem false 0 0))
    else none
   |_,_=>none
  |_,_,_=>none
 |.slice t x lo hi mx=>match eval X e x,Ov X e lo,Ov X e hi,Ov X e mx with
  |some v,some lo,some hi,some mx=>Zm (Py X t v lo hi mx) s
  |_,_,_,_=>none
 |.fieldAddr t x f=>match eval X e x with
  |some v=>Zm (RD X t v f) s
  |none=>none
 |.field t x f=>match eval X e x,X.Zd t with
  |some (.agg cs),some (.struct fs)=>match fs[f]? with
   |some fd=>Zm (Q_ X fd.type cs fd.offset) s
   |none=>none
  |_,_=>none
 |.indexAddr t x i=>match eval X e x,eval X e i with
  |some v,some i=>Zm (VB X t v i) s
  |_,_=>none
 |.index t x i=>match eval X e x,eval X e i with
  |some v,some i=>Zm (Gq X t v i) s
  |_,_=>none
 |.lookup t m k ok=>match eval X e m,eval X e k with
  |some m,some k=>Zm (VK X t m k ok s) s
  |_,_=>none
 |.mapUpdate t m k v=>match eval X e m,eval X e k,eval X e v with
  |some m,some k,some v=>OA (UX X t m k v s)
  |_,_,_=>none
 |.insert t m k v=>match eval X e m,eval X e k,eval X e v with
  |some m,some k,some v=>OA (UX X t m k v s)
  |_,_,_=>none
 |.range t x=>match eval X e x,X.Zd t with
  |some (.str b),some .string=>some (.ptr s.next 0,s.new (.iter b 0))
  |_,_=>none
 |.next it true=>match eval X e it with
  |some (.ptr r 0)=>match s.get r with
   |some (.iter b pos)=>match b with
    |[]=>some (.XU [.bool false],s)
    |_::_ =>
     let (c,w):=TV b
     some (.XU [.bool true,.int .i64 pos,.int .i32 c],s.put r (.iter (b.drop w) (pos+w)))
   |_=>none
  |_=>none
 |.extract t i=>match eval X e t with
  |some (.XU vs)=>Zm vs[i]? s
  |_=>none
 |.call c=>match c.callee with
  |.builtin b=>match Wk X e c.args.toList with
   |some vs=>Yj X b c.argTypes vs s
   |none=>none
  |.value f=>match eval X e f,Wk X e c.args.toList with
   |some f,some vs=>Gx X ex f vs s
   |_,_=>none
  |.invoke _ _=>none
 |_=>none
def Yt (e:Env)(d:Option Tmp)(v:AV):Env:=match d with
 |some d=>Tr.set e d v
 |none=>e
def XQ (ops:Array Oper)(e:Env)(o:Oper):Bool:=match o.guard with
 |none=>true
 |some (j,want)=>match ops[j]? with
  |some oj=>match oj.dst with
   |some d=>match Env.get e d with
    |.bool b=>b==want
    |_=>false
   |none=>false
  |none=>false
def K3 (ex:Ex)(ops:Array Oper):List Oper->Env->St->Option (Env×St)
 |[],e,s=>some (e,s)
 |o::l,e,s =>
  if XQ ops e o then match YI X ex e o.op s with
   |some (v,s')=>K3 ex ops l (Yt e o.dst v) s'
   |none=>none
  else K3 ex ops l (Yt e o.dst undef) s
inductive Bd where
 |p|r|a|w|q
def Bd.Ye:Bd->Bool|.r=>true|_=>false
def Bd.BY:Bd->Bool|.a=>true|_=>false
def Bd.qA:Bd->Bool|.w=>true|_=>false
def cls:Op->Bd
 |.move _|.assign _|.pick ..|.build ..|.nilCheck _|.binOp ..|.unOp ..|.makeInterface ..|.makeFunc ..|.slice ..|.fieldAddr ..|.field ..
 |.indexAddr ..|.index ..|.extract ..=>.p
 |.convert s d _=>match X.Zd s,X.Zd d with
  |some (.slice _),some .string=>.r
  |some (.slice _),_=>.w
  |_,some (.slice _)=>.a
  |some _,some _=>.p
  |_,_=>.w
 |.load ..|.lookup ..=>.r
 |.alloc _|.box ..|.buildSlice ..|.makeSlice ..|.makeMap ..=>.a
 |.call { callee:=.builtin b,.. }=>match b with
  |.len=>.r
  |.min|.max|.unsafeSliceData=>.p
  |_=>.w
 |.call { callee:=.value (.func f),.. }=>if X.pure f&&(X.ext f).isNone then .q else .w
 |_=>.w
def Xy (ops:Array Oper)(i j:Nat):Bool:=((Region.before ops).getD j 0).testBit i
def Ty:Op->Bool
 |.store ..=>true
 |_=>false
def qz:Nat->List Oper->List Nat
 |_,[]=>[]
 |i,o::l=>if Ty o.op then i::qz (i+1) l else qz (i+1) l
def abw (ops:Array Oper):Bool :=
 let l:=qz 0 ops.toList
 l.any fun i=>l.any fun j=>!(i==j)&&!Xy ops i j&&!Xy ops j i
def lD (ops:Array Oper)(i:Nat):Bool:=match ops[i]? with
 |some o=>Ty o.op&&o.guard.isNone&&(List.range ops.size).all fun k=>k==i||Xy ops k i||(match ops[k]? with
  |some ok=>Ty ok.op||(match cls X ok.op with|.p=>true|.a=>true|_=>false)
  |none=>true)
 |none=>false
def Nu (ops:Array Oper):Bool:=abw ops&&(qz 0 ops.toList).all (lD X ops)
def late (ops:Array Oper)(i:Nat):Bool:=Nu X ops&&(match ops[i]? with|some o=>Ty o.op|none=>false)
def SF (ex:Ex)(ops:Array Oper)(base i:Nat)(o:Oper)(e:Env)(s:St):Option (Env×St) :=
 if XQ ops e o then
  match cls X o.op with
  |.a=>match YI X ex e o.op { s with next:=base+i } with
   |some (v,s')=>some (Yt e o.dst v,{ s' with next:=s.next })
   |none=>none
  |_=>match YI X ex e o.op s with
   |some (v,s')=>some (Yt e o.dst v,s')
   |none=>none
 else some (Yt e o.dst undef,s)
def xD (ex:Ex)(ops:Array Oper)(base:Nat):Nat->List Oper->Env->St->Option (List (Env×St))
 |_,[],e,s=>some [(e,s)]
 |i,o::l,e,s=>match SF X ex ops base i o e s with
  |some (e',s')=>match xD ex ops base (i+1) l e' s' with
   |some r=>some ((e,s)::r)
   |none=>none
  |none=>none
def Zh (ops:Array Oper):Nat->List Oper->List Nat
 |_,[]=>[]
 |i,o::l=>if (cls X o.op).qA&&!late X ops i then i::Zh ops (i+1) l else Zh ops (i+1) l
def Tz (e:Env):Op->Option Nat
 |.store _ a _=>match eval X e a with
  |some (.ptr b _)=>some b
  |_=>none
 |_=>none
def Tv (ops:Array Oper):Nat->List Oper->List (Env×St)->List (Option Nat)
 |i,o::l,(e,_)::tr=>if late X ops i then Tz X e o.op::Tv ops (i+1) l tr else Tv ops (i+1) l tr
 |_,_,_=>[]
def Oi (base n:Nat):List (Option Nat)->Bool
 |[]=>true
 |none::_=>false
 |some b::l=>(decide (b<base)||decide (base+n<=b))&&l.all (fun x=>!(x==some b))&&Oi base n l
def Sv (tr:List (Env×St)):List Nat->Option (List (Nat×St))
 |[]=>some []
 |j::l=>match tr[j+1]?,Sv tr l with
  |some (_,s),some r=>some ((j+1,s)::r)
  |_,_=>none
def UI:Nat->List Oper->List Nat
 |_,[]=>[]
 |i,o::l=>if (cls X o.op).BY then i::UI (i+1) l else UI (i+1) l
def TU (ops:Array Oper)(base i m:Nat)(tr:List (Env×St)):List Nat->St->St
 |[],s=>s
 |j::l,s=>if m<=j&&Xy ops j i then match tr[j+1]? with
   |some (_,s1)=>match s1.get (base+j) with
    |some b=>TU ops base i m tr l (s.put (base+j) b)
    |none=>TU ops base i m tr l s
   |none=>TU ops base i m tr l s
  else TU ops base i m tr l s
def WS (ex:Ex)(ops:Array Oper)(base i:Nat)(as:List Nat)(tr:List (Env×St))(e:Env)(o:Op)(v:AV):List (Nat×St)->Bool
 |[]=>true
 |(m,s)::l=>match YI X ex e o (TU ops base i m tr as s) with
  |some (u,_)=>same u v&&WS ex ops base i as tr e o v l
  |none=>false
def Ta (ops:Array Oper)(base i:Nat)(as:List Nat)(tr:List (Env×St))(vs us:List AV):List (Nat×St)->Bool
 |[]=>true
 |(m,s)::l=>match Vf X (TU ops base i m tr as s) vs with
  |some us'=>VU us' us&&Ta ops base i as tr vs us l
  |none=>false
def Yk (p:Nat->Bool):List Nat->Nat
 |[]=>0
 |j::l=>if p j then Yk p l+1 else Yk p l
def Uu (ops:Array Oper)(ws:List Nat)(ss:List (Nat×St))(i:Nat):List (Nat×St) :=
 (ss.take (Yk (fun j=>!Xy ops i j) ws+1)).drop (Yk (fun j=>Xy ops j i) ws)
def TD (ex:Ex)(ops:Array Oper)(base:Nat)(ws as:List Nat)(ss:List (Nat×St))(vU:List (Env×St)):Nat->List Oper->List (Env×St)->Bool
 |i,o::l,(e,s)::tr =>
  (match cls X o.op with
   |.r=>!XQ ops e o||(match YI X ex e o.op s with
    |some (v,_)=>WS X ex ops base i as vU e o.op v (Uu ops ws ss i)
    |none=>false)
   |.q=>!XQ ops e o||(match o.op with
    |.call c=>match Wk X e c.args.toList with
     |some vs=>ZU vs||(match Vf X s vs with
      |some us=>Ta X ops base i as vU vs us (Uu ops ws ss i)
      |none=>false)
     |none=>false
    |_=>false)
   |_=>true)&&TD ex ops base ws as ss vU (i+1) l tr
 |_,_,_=>true
def Gn (base:Nat)(s:St):Nat->List Oper->Bool
 |_,[]=>true
 |i,o::l=>(!(cls X o.op).BY||(s.get (base+i)).isNone)&&Gn base s (i+1) l
def Ss (ops:Array Oper)(base:Nat):List (Nat×St)->Bool
 |[]=>true
 |(m,s)::l=>Gn X base s m (ops.toList.drop m)&&Ss ops base l
def Gl:List (Env×St)->Option (Env×St)
 |[]=>none
 |[x]=>some x
 |_::l=>Gl l
def OQ (ex:Ex)(ops:Array Oper)(e:Env)(s:St):Option (Env×St) :=
 match xD X ex ops s.next 0 ops.toList e { s with next:=s.next+ops.size } with
 |some tr =>
  let ws:=Zh X ops 0 ops.toList
  match Sv tr ws with
  |some ss =>
   if Oi s.next ops.size (Tv X ops 0 ops.toList tr)&&TD X ex ops s.next ws (UI X 0 ops.toList) ((0,{ s with next:=s.next+ops.size })::ss) tr 0 ops.toList tr&&Ss X ops s.next ((0,{ s with next:=s.next+ops.size })::ss)
   then Gl tr else none
  |none=>none
 |none=>none
def MY (ops:Array Oper)(o:Oper):List Tmp :=
 (o.op.operands.toList.filterMap fun|.tmp t=>some t|_=>none) ++
 (match o.guard with
  |some (g,_)=>match ops[g]? with|some x=>x.dst.toList|none=>[]
  |none=>[])
def BX (ops:Array Oper)(x y:Oper):Bool :=
 (match x.dst with
  |some d=>!(MY ops y).contains d&&y.dst != some d
  |none=>true) &&
 (match y.dst with
  |some d=>!(MY ops x).contains d
  |none=>true)
def lC (ops:Array Oper)(i j:Nat)(oi oj:Oper):Bool :=
 Xy ops i j||(BX ops oi oj &&
  match cls X oi.op,cls X oj.op with
  |.a,.w=>late X ops j
  |.w,.w=>late X ops i&&late X ops j
  |_,_=>true)
def Xw (ops:Array Oper):Bool :=
 ((List.range ops.size).all fun j=>match ops[j]? with
  |some oj=>(oj.after.toList.all fun e=>!Region.binds .any e||decide (e.on<j)) &&
   (match oj.guard with|some (g,_)=>decide (g<ops.size)|none=>true) &&
   (List.range j).all fun i=>match ops[i]? with
    |some oi=>lC X ops i j oi oj
    |none=>true
  |none=>true)
def K0 (p:Option Code)(e:Env)(s:St):Option (Out×Env×St):=match p with
 |none=>some (.norm,e,s)
 |some (.exit i)=>some (.exit i,e,s)
 |some .ret=>some (.ret,e,s)
 |_=>none
def Xc (ex:Ex)(c:Code)(e:Env)(s:St):Option (Out×Env×St):=match c with
 |.skip=>some (.norm,e,s)
 |.label _=>some (.norm,e,s)
 |.region _ ops d=>if d then match OQ X ex ops e s with
   |some (e,s)=>some (.norm,e,s)
   |none=>none
  else match K3 X ex ops ops.toList e s with
  |some (e,s)=>some (.norm,e,s)
  |none=>none
 |.seq a b=>match ex a e s with
  |some (.norm,e,s)=>ex b e s
  |r=>r
 |.cond c a b=>match eval X e c with
  |some (.bool true)=>ex a e s
  |some (.bool false)=>ex b e s
  |_=>none
 |.block id b=>match ex b e s with
  |some (.exit i,e,s)=>if i=id then some (.norm,e,s) else some (.exit i,e,s)
  |r=>r
 |.loop b=>match ex b e s with
  |some (.norm,e,s)=>ex (.loop b) e s
  |r=>r
 |.scope b=>ex b e s
 |.exit id=>some (.exit id,e,s)
 |.ret=>some (.ret,e,s)
 |.rangeFunc f params assign body=>match eval X e f with
  |some (.fn (.func g) first cap)=>if (X.ext g).isNone then
   match Uk X ex g (first++[.fn (.yield s.next) [] []]++cap) (s.new (.loop 0 none e params.toList assign body)) with
   |some (_,s1)=>match s1.get s.next with
    |some (.loop st p _ _ _ _)=>if st=1 then none else K0 p e (s1.put s.next .gone)
    |_=>none
   |none=>none
   else none
  |_=>none
 |_=>none
def Qh:Code->Bool
 |.seq a b=>Qh a&&Qh b
 |.cond _ a b=>Qh a&&Qh b
 |.block _ b=>Qh b
 |.loop b=>Qh b
 |.scope b=>Qh b
 |.rangeFunc ..=>false
 |_=>true
def HK (n:Nat):Code->Bool
 |.region _ ops d=>(ops.toList.all fun o=>match o.dst with|some t=>decide (t<n)|none=>true)&&(!d||Xw X ops)
 |.seq a b=>HK n a&&HK n b
 |.cond _ a b=>HK n a&&HK n b
 |.block _ b=>HK n b
 |.loop b=>HK n b
 |.scope b=>HK n b
 |.rangeFunc _ ps a b=>(ps.toList.all fun t=>decide (t<n))&&HK n a&&HK n b&&Qh a&&Qh b
 |_=>true
def exec:Nat->Ex
 |0=>fun _ _ _=>none
 |n+1=>Xc X (exec n)
def run (n:Nat)(f:FuncId)(args:List AV)(s:St):Option (AV×St):=Uk X (exec X n) f args s
end
abbrev iI (n:Int):AV:=.int .i64 n
abbrev bF:AV:=.bool false
abbrev bT:AV:=.bool true
end Go.Am
namespace Go.Am
open Go
structure Pl where
 b:Nat
 sh:Nat
 n:Nat
structure Sg where
 m:Nat->Option Pl
 fz:Nat->Option Obj
instance:CoeFun Sg (fun _=>Nat->Option Pl):=⟨Sg.m⟩
structure Sg.le (σ τ:Sg):Prop where
 p:∀i p,σ i=some p->τ i=some p
 z:∀b o,σ.fz b=some o->τ.fz b=some o
def Sg.bare (σ:Sg):Sg:={ m:=fun _=>none,fz:=σ.fz }
theorem Sg.le_refl (σ:Sg):Sg.le σ σ:=⟨fun _ _ h=>h,fun _ _ h=>h⟩
theorem Sg.le_trans {a b c:Sg}(h:Sg.le a b)(k:Sg.le b c):Sg.le a c:=⟨fun i p e=>k.p i p (h.p i p e),fun b o e=>k.z b o (h.z b o e)⟩
theorem Sg.le.bare {σ τ:Sg}(h:Sg.le σ τ):Sg.le σ.bare τ.bare:=⟨fun _ _ h=>h,h.z⟩
theorem Sg.T7 (σ:Sg):Sg.le σ.bare σ:=⟨fun i p h=>(by simp[Sg.bare] at h),fun _ _ h=>h⟩
def SG (σ:Sg):Fn->Fn->Prop
 |.func g,f=>f=.func g
 |.yield l,f=>∃p,σ l=some p/\f=.yield p.b
 |_,_=>False
structure DW (σ:Sg)(b o len:Nat)(cap:Option Nat)(VH:Nat)(a:Addr)(c:Nat):Prop where
 len:len<=c
 at_:∃p,σ b=some p/\(c≠0->a=⟨p.b,p.sh+o,none⟩)/\(VH≠0->p.sh+o+c*VH<=p.n)
 cap:∀k,cap=some k->c=k
def JW (σ:Sg)(a:Addr)(us:List Value):Prop:=a.spot=none/\∃cc e fz n,σ.fz a.block=some (.cells cc e fz)/\n≠0/\(∀u∈us,u.cells.size=n)/\∀i v,(us.flatMap fun u=>u.cells.toList)[i]? = some v->cc[a.off+i]? = some v
mutual
def ZY:Sg->AV->Value->Prop
 |_,.bool b,v=>v=.bool b
 |_,.int k n,v=>v=.int k n
 |_,.mF k n,v=>v=.float k n
 |_,.str s,v=>∃bs:ByteArray,v=.string bs/\bs.data.toList=s
 |_,.Vk,v=>v=.pointer none
 |σ,.ptr b o,v=>∃p,σ b=some p/\v=.pointer (some ⟨p.b,p.sh+o,none⟩)
 |_,.ZW,v=>v=.slice none 0 0
 |σ,.sl b o len cap VH,v=>∃a c,v=.slice (some a) len c/\DW σ b o len cap VH a c
 |_,.PG,v=>v=.map none
 |σ,.map r,v=>∃p,σ r=some p/\v=.map (some p.b)
 |_,.Wa,v=>v=.nilFunc
 |σ,.fn f x y,v=>∃f' x' y',v=.func f' x' y'/\SG σ f f'/\ZZ σ x x'.toList/\ZZ σ y y'.toList
 |_,.TO,v=>v=.nilIface
 |σ,.iface t x,v=>∃y,v=.iface t y/\ZY σ x y
 |σ,.agg cs,v=>∃vs,v=.agg vs/\ZZ σ cs vs.toList
 |σ,.XU cs,v=>∃vs,v=.tuple vs/\ZZ σ cs vs.toList
 |σ,.fz es,v=>∃a c us,v=.slice (some a) es.length c/\es.length<=c/\ZZ σ.bare es us/\(us=[]\/JW σ a us)
 |σ,.fp cs o,v=>∃b base us cc e fz,v=.pointer (some ⟨b,base+o,none⟩)/\σ.fz b=some (.cells cc e fz)/\ZZ σ.bare cs us/\∀i u,us[i]? = some u->cc[base+i]? = some u
 |σ,.fm ks vs,v=>∃r VO clock,v=.map (some r)/\σ.fz r=some (.map VO clock)/\ZZ σ.bare ks (VO.toList.map MapEntry.key)/\ZZ σ.bare vs (VO.toList.map MapEntry.val)
def ZZ:Sg->List AV->List Value->Prop
 |_,[],l=>l=[]
 |σ,a::x,l=>∃v y,l=v::y/\ZY σ a v/\ZZ σ x y
end
theorem SG.mono {σ τ:Sg}(h:Sg.le σ τ){f f':Fn}(k:SG σ f f'):SG τ f f':=by
 cases f <;> simp only[SG] at * <;> first|exact k|skip
 obtain⟨p,hp,e⟩:=k;exact⟨p,h.p _ _ hp,e⟩
theorem DW.mono {σ τ:Sg}(h:Sg.le σ τ){b o len:Nat}{cap:Option Nat}{VH:Nat}{a:Addr}{c:Nat}(k:DW σ b o len cap VH a c):DW τ b o len cap VH a c:=by
 obtain⟨h1,⟨p,hp,h2⟩,h3⟩:=k;exact⟨h1,⟨p,h.p _ _ hp,h2⟩,h3⟩
theorem JW.mono {σ τ:Sg}(h:Sg.le σ τ){a:Addr}{us:List Value}(k:JW σ a us):JW τ a us:=by
 obtain⟨h0,cc,e,fz,n,h1,h2⟩:=k;exact⟨h0,cc,e,fz,n,h.z _ _ h1,h2⟩
mutual
theorem ZY.mono {σ τ:Sg}:∀(_:Sg.le σ τ) (a:AV) (v:Value),ZY σ a v->ZY τ a v
 |_,.bool _,_,k|_,.int _ _,_,k|_,.mF _ _,_,k|_,.str _,_,k|_,.Vk,_,k|_,.ZW,_,k|_,.PG,_,k|_,.Wa,_,k|_,.TO,_,k=>by simpa only[ZY] using k
 |h,.ptr b o,v,k=>by
  simp only[ZY] at *;obtain⟨p,hp,e⟩:=k;exact⟨p,h.p _ _ hp,e⟩
 |h,.sl ..,v,k=>by
  simp only[ZY] at *;obtain⟨a,c,e,r⟩:=k;exact⟨a,c,e,r.mono h⟩
 |h,.map b,v,k=>by
  simp only[ZY] at *;obtain⟨p,hp,e⟩:=k;exact⟨p,h.p _ _ hp,e⟩
 |h,.fn f x y,v,k=>by
  simp only[ZY] at *;obtain⟨f',x',y',e,hf,hx,hy⟩:=k;exact⟨f',x',y',e,hf.mono h,ZZ.mono h _ _ hx,ZZ.mono h _ _ hy⟩
 |h,.iface t x,v,k=>by
  simp only[ZY] at *;obtain⟨y,e,r⟩:=k;exact⟨y,e,ZY.mono h _ _ r⟩
 |h,.agg cs,v,k=>by
  simp only[ZY] at *;obtain⟨y,e,r⟩:=k;exact⟨y,e,ZZ.mono h _ _ r⟩
 |h,.XU cs,v,k=>by
  simp only[ZY] at *;obtain⟨y,e,r⟩:=k;exact⟨y,e,ZZ.mono h _ _ r⟩
 |h,.fz es,v,k=>by
  simp only[ZY] at *;obtain⟨a,c,us,e,hl,r,ho⟩:=k;exact⟨a,c,us,e,hl,ZZ.mono h.bare _ _ r,ho.imp id (JW.mono h)⟩
 |h,.fp cs o,v,k=>by
  simp only[ZY] at *;obtain⟨b,base,us,cc,e,fz,e1,e2,r,e3⟩:=k;exact⟨b,base,us,cc,e,fz,e1,h.z _ _ e2,ZZ.mono h.bare _ _ r,e3⟩
 |h,.fm ks vs,v,k=>by
  simp only[ZY] at *;obtain⟨b,VO,clock,e1,e2,r,r'⟩:=k;exact⟨b,VO,clock,e1,h.z _ _ e2,ZZ.mono h.bare _ _ r,ZZ.mono h.bare _ _ r'⟩
theorem ZZ.mono {σ τ:Sg}:∀(_:Sg.le σ τ) (a:List AV) (v:List Value),ZZ σ a v->ZZ τ a v
 |_,[],v,k=>by simpa only[ZZ] using k
 |h,a::x,v,k=>by
  simp only[ZZ] at *;obtain⟨u,y,e,h1,h2⟩:=k;exact⟨u,y,e,ZY.mono h _ _ h1,ZZ.mono h _ _ h2⟩
end
theorem ZZ.length {σ:Sg}:∀{x:List AV} {l:List Value},ZZ σ x l->x.length=l.length
 |[],l,h=>by simp only[ZZ] at h;simp[h]
 |a::x,l,h=>by
  simp only[ZZ] at h;obtain⟨v,y,rfl,_,h2⟩:=h;simp[ZZ.length h2]
theorem ZZ.get {σ:Sg}:∀{x:List AV} {l:List Value},ZZ σ x l->∀(i:Nat) (a:AV),x[i]? = some a->∃v,l[i]? = some v/\ZY σ a v
 |[],l,h,i,a,e=>by simp at e
 |b::x,l,h,i,a,e=>by
  simp only[ZZ] at h;obtain⟨v,y,rfl,h1,h2⟩:=h
  cases i with
  |zero=>simp at e;subst e;exact⟨v,by simp,h1⟩
  |succ i=>simp at e;simpa using ZZ.get h2 i a e
theorem ZZ.append {σ:Sg}:∀{x y:List AV} {l m:List Value},ZZ σ x l->ZZ σ y m->ZZ σ (x++y) (l++m)
 |[],y,l,m,h,k=>by simp only[ZZ] at h;simpa[h] using k
 |a::x,y,l,m,h,k=>by
  simp only[ZZ] at h;obtain⟨v,z,rfl,h1,h2⟩:=h;simp only[alU,ZZ];exact⟨v,z++m,rfl,h1,ZZ.append h2 k⟩
theorem ZZ.Ci {σ:Sg}:∀{x:List AV} {l:List Value},x.length=l.length->(∀i (h:i<x.length) (h':i<l.length),ZY σ x[i] l[i])->ZZ σ x l
 |[],l,h,_=>by simp only[ZZ];exact al6.1 (by simpa using h.symm)
 |a::x,[],h,_=>by simp at h
 |a::x,v::l,h,k=>by
  simp only[ZZ];exact⟨v,l,rfl,k 0 (Nat.succ_pos _) (Nat.succ_pos _),ZZ.Ci (Nat.succ.inj h) fun i hi MW=>k (i+1) (Nat.succ_lt_succ hi) (Nat.succ_lt_succ MW)⟩
theorem JV {σ:Sg}{a:AV}{v:Value}(h:ZY σ a v):ZZ σ [a] [v]:=by
 simp only[ZZ];exact⟨v,[],rfl,h,rfl⟩
theorem RW {σ:Sg}{a:AV}{v:Value}(h:ZY σ a v)(hn:Zz a=true):v.cells=#[v]/\(∀cs,v≠.agg cs)/\(∀cs,v≠.tuple cs):=by
 cases a <;> simp only[Zz] at hn <;> simp only[ZY] at h <;>
  first
  |(subst h;simp[Value.cells];done)
  |(obtain⟨x,rfl,_⟩:=h;simp[Value.cells];done)
  |(obtain⟨x,y,rfl⟩:=h;simp[Value.cells];done)
  |(obtain⟨x,y,rfl,_⟩:=h;simp[Value.cells];done)
  |(obtain⟨x,y,z,rfl,_⟩:=h;simp[Value.cells];done)
  |(obtain⟨_,_,_,_,_,_,rfl,_⟩:=h;simp[Value.cells];done)
  |(cases hn)
theorem Wp {σ:Sg}{a:AV}{v:Value}(h:ZY σ a v):ZZ σ a.cells v.cells.toList:=by
 cases a with
 |agg cs=>simp only[ZY] at h;obtain⟨vs,rfl,h⟩:=h;exact h
 |XU cs =>
  have h0:=h;simp only[ZY] at h;obtain⟨vs,rfl,_⟩:=h;exact JV h0
 |_=>rw[(RW h rfl).1];exact JV h
def SU (σ:Sg)(e:Env)(tmps:Array Value):Prop:=∀t,ZY σ (Env.get e t) (tmps.getD t Go.undef)
theorem SU.mono {σ τ:Sg}(h:Sg.le σ τ){e:Env}{tmps:Array Value}(k:SU σ e tmps):SU τ e tmps:=fun t=>ZY.mono h _ _ (k t)
theorem Tr.get_nil {α:Type}(k:Nat):(Tr.nil:Tr α).get k=none:=rfl
theorem Tr.UG {α:Type}:∀(f:Nat) (t:Tr α) (k:Nat) (x:α),k<f->(Tr.OZ f t k x).get k=some x
 |0,_,_,_,h=>by omega
 |f+1,.nil,0,x,_=>rfl
 |f+1,.n v l r,0,x,_=>rfl
 |f+1,.nil,k+1,x,h=>by
  unfold Tr.OZ;by_cases hb:Nat.beq (k%2) 0=true
  ·simp only[hb,cond_true,Tr.get];exact Tr.UG f .nil (k / 2) x (by omega)
  ·simp only[Bool.not_eq_true] at hb;simp only[hb,cond_false,Tr.get];exact Tr.UG f .nil (k / 2) x (by omega)
 |f+1,.n v l r,k+1,x,h=>by
  unfold Tr.OZ;by_cases hb:Nat.beq (k%2) 0=true
  ·simp only[hb,cond_true,Tr.get];exact Tr.UG f l (k / 2) x (by omega)
  ·simp only[Bool.not_eq_true] at hb;simp only[hb,cond_false,Tr.get];exact Tr.UG f r (k / 2) x (by omega)
theorem Ch {k j:Nat}(h:k+1≠j+1)(hp:Nat.beq (k%2) 0=Nat.beq (j%2) 0):k / 2≠j / 2:=by
 intro e;have h1:k%2=j%2:=by
  have a1:k%2=0\/k%2=1:=by omega
  have a2:j%2=0\/j%2=1:=by omega
  rcases a1 with a1|a1 <;> rcases a2 with a2|a2 <;> simp[a1,a2] at hp ⊢
 omega
theorem Tr.Ra {α:Type}:∀(f:Nat) (t:Tr α) (k j:Nat) (x:α),k≠j->(Tr.OZ f t k x).get j=t.get j
 |0,_,_,_,_,_=>rfl
 |f+1,.nil,0,j,x,h=>by
  cases j with
  |zero=>exact absurd rfl h
  |succ j=>unfold Tr.OZ;simp[Tr.get]
 |f+1,.n v l r,0,j,x,h=>by
  cases j with
  |zero=>exact absurd rfl h
  |succ j=>unfold Tr.OZ;simp[Tr.get]
 |f+1,.nil,k+1,0,x,_=>by
  unfold Tr.OZ;rcases Bool.eq_false_or_eq_true (Nat.beq (k%2) 0) with hb|hb <;> simp only[hb,cond_true,cond_false,Tr.get]
 |f+1,.n v l r,k+1,0,x,_=>by
  unfold Tr.OZ;rcases Bool.eq_false_or_eq_true (Nat.beq (k%2) 0) with hb|hb <;> simp only[hb,cond_true,cond_false,Tr.get]
 |f+1,.nil,k+1,j+1,x,h=>by
  unfold Tr.OZ;have ih:=fun hp=>Tr.Ra f (Tr.nil:Tr α) (k / 2) (j / 2) x (Ch h hp)
  rcases Bool.eq_false_or_eq_true (Nat.beq (k%2) 0) with hb|hb <;> rcases Bool.eq_false_or_eq_true (Nat.beq (j%2) 0) with hj|hj <;> simp only[hb,cond_true,cond_false,Tr.get,hj]
  ·exact ih (by rw[hb,hj])
  ·exact ih (by rw[hb,hj])
 |f+1,.n v l r,k+1,j+1,x,h=>by
  unfold Tr.OZ;have EJ:=fun hp=>Tr.Ra f l (k / 2) (j / 2) x (Ch h hp)
  have ihr:=fun hp=>Tr.Ra f r (k / 2) (j / 2) x (Ch h hp)
  rcases Bool.eq_false_or_eq_true (Nat.beq (k%2) 0) with hb|hb <;> rcases Bool.eq_false_or_eq_true (Nat.beq (j%2) 0) with hj|hj <;> simp only[hb,cond_true,cond_false,Tr.get,hj]
  ·exact EJ (by rw[hb,hj])
  ·exact ihr (by rw[hb,hj])
theorem Tr.Cg {α:Type}(t:Tr α)(k:Nat)(x:α):(t.set k x).get k=some x:=Tr.UG _ _ _ _ (Nat.lt_succ_self k)
theorem Tr.wZ {α:Type}(t:Tr α){k j:Nat}(x:α)(h:k≠j):(t.set k x).get j=t.get j:=Tr.Ra _ _ _ _ _ h
theorem Tr.Sz {α:Type}(t:Tr α)(k j:Nat)(x:α):(t.set k x).get j=if k=j then some x else t.get j:=by
 by_cases h:k=j
 ·subst h;simp[Tr.Cg]
 ·simp[h,Tr.wZ]
theorem Env.Sz (e:Env)(k j:Nat)(x:AV):Env.get (Tr.set e k x) j=if k=j then x else Env.get e j:=by
 unfold Env.get;rw[Tr.Sz];by_cases h:k=j <;> simp[h]
theorem St.Z9 (s:St)(k j:Nat)(x:Uy):(s.put k x).get j=if k=j then some x else s.get j:=by
 unfold St.put St.get;simp only[Tr.Sz];by_cases h:k=j <;> simp[h]
theorem St.Z7 (s:St)(j:Nat)(x:Uy):(s.new x).get j=if s.next=j then some x else s.get j:=by
 unfold St.new St.get;simp only[Tr.Sz];by_cases h:s.next=j <;> simp[h]
theorem St.Z' (s:St)(k:Nat)(x:Uy):(s.put k x).next=s.next:=rfl
theorem St.Z_ (s:St)(x:Uy):(s.new x).next=s.next+1:=rfl
def St.look (s:St)(i:Nat):Option Uy:=match s.get i with
 |some .gone=>none
 |r=>r
theorem St.Xe (s:St)(k j:Nat)(x:Uy):(s.put k x).look j=if k=j then (match x with|.gone=>none|x=>some x) else s.look j:=by
 unfold St.look;rw[St.Z9];by_cases h:k=j
 ·subst h;cases x <;> simp
 ·simp[h]
theorem St.UJ (s:St)(j:Nat)(x:Uy)(hx:x≠.gone):(s.new x).look j=if s.next=j then some x else s.look j:=by
 unfold St.look;rw[St.Z7];by_cases h:s.next=j
 ·subst h;cases x <;> simp at hx ⊢
 ·simp[h]
theorem St.X4 {s:St}{i:Nat}{b:Uy}(h:s.get i=some b)(hb:b≠.gone):s.look i=some b:=by
 unfold St.look;rw[h];cases b <;> simp at hb ⊢
def Uy.own:Uy->Bool
 |.cells _ _ ro _ _=>!ro
 |.gone=>false
 |.map _ ro=>!ro
 |.iter _ _=>true
 |.loop ..=>true
def ZQ (σ:Sg):List (AV×AV)->List MapEntry->Prop
 |[],l=>l=[]
 |(k,v)::es,l=>∃m r,l=m::r/\ZY σ k m.key/\ZY σ v m.val/\ZQ σ es r
theorem ZQ.mono {σ τ:Sg}(h:Sg.le σ τ):∀{x:List (AV×AV)} {l:List MapEntry},ZQ σ x l->ZQ τ x l
 |[],l,k=>k
 |(a,b)::x,l,k=>by
  simp only[ZQ] at *;obtain⟨m,r,e,h1,h2,h3⟩:=k;exact⟨m,r,e,ZY.mono h _ _ h1,ZY.mono h _ _ h2,ZQ.mono h h3⟩
def Sl:Nat->LoopState
 |0=>.ready
 |1=>.busy
 |2=>.done
 |_=>.exhausted
class Stat where
 ok:Nat->Code->Prop
 spec:TypeId->Bool
variable [Stat]
def BR (σ:Sg)(p:Pl):Uy->Obj->Prop
 |.cells c e ro OM PF,.cells cc e' fz=>cc.size=p.n/\p.sh+c.length<=p.n/\e=e' /\
   (∀j a,c[j]? = some a->∃v,cc[p.sh+j]? = some v/\ZY σ a v) /\
   (ro=false->∀j,fz.1<=p.sh+j->p.sh+j<fz.2->p.sh+j<p.n->OM<=j/\j<PF) /\
   (Stat.spec e=true->p.sh=0/\p.n=c.length)
 |.map es _,.map VO _=>ZQ σ es VO.toList
 |.iter s pos,.stringIter bs pos'=>p.sh=0/\pos=pos'/\bs.data.toList.drop pos=s
 |.loop st pe env params assign body,.loop r=>r.state=Sl st/\r.pending=pe/\SU σ env r.tmps/\r.params.toList=params/\r.assign=assign/\r.body=body/\Stat.ok r.tmps.size assign/\Stat.ok r.tmps.size body/\(∀t∈params,t<r.tmps.size)
 |_,_=>False
theorem BR.mono {σ τ:Sg}(h:Sg.le σ τ){p:Pl}{b:Uy}{o:Obj}(k:BR σ p b o):BR τ p b o:=by
 cases b <;> cases o <;> simp only[BR] at * <;> first|exact k|skip
 ·obtain⟨h1,h2,h3,h4,h5⟩:=k;exact⟨h1,h2,h3,fun j a e=>by obtain⟨v,hv,hr⟩:=h4 j a e;exact⟨v,hv,ZY.mono h _ _ hr⟩,h5⟩
 ·exact ZQ.mono h k
 ·obtain⟨h1,h2,h3,h4⟩:=k;exact⟨h1,h2,h3.mono h,h4⟩
def Qr (σ:Sg)(s:St)(c:Nat):Prop:=∃i p b,σ i=some p/\s.look i=some b/\b.own=true/\p.b=c
structure HR (σ:Sg)(s:St)(w:World):Prop where
 lt:∀i p,σ i=some p->p.b<w.heap.size
 E1:∀i p b,σ i=some p->s.look i=some b->∃o,w.heap[p.b]? = some o/\BR σ p b o
 inj:∀i j p q b c,σ i=some p->σ j=some q->s.look i=some b->s.look j=some c->p.b=q.b->i=j
 fz:∀c o,σ.fz c=some o->w.heap[c]? = some o/\¬Qr σ s c
structure Ext (σ:Sg)(s:St)(w:World)(Yx:Sg)(s':St)(w':World):Prop where
 le:Sg.le σ Yx
 tI:∀c o,Yx.fz c=some o->σ.fz c=some o\/w.heap.size<=c
 size:w.heap.size<=w'.heap.size
 keep:∀c,c<w.heap.size->¬Qr σ s c->w'.heap[c]? = w.heap[c]?
 owns:∀c,c<w.heap.size->Qr Yx s' c->Qr σ s c
 os:w'.os=w.os
 tape:w'.tape=w.tape
 output:w'.output=w.output
theorem Ext.refl (σ:Sg)(s:St)(w:World):Ext σ s w σ s w :=
 ⟨Sg.le_refl _,fun _ _ h=>.inl h,agB _,fun _ _ _=>rfl,fun _ _ h=>h,rfl,rfl,rfl⟩
theorem Ext.trans {HZ Bh σ3:Sg}{s1 s2 s3:St}{w1 w2 w3:World}(h:Ext HZ s1 w1 Bh s2 w2)(k:Ext Bh s2 w2 σ3 s3 w3):Ext HZ s1 w1 σ3 s3 w3 where
 le:=Sg.le_trans h.le k.le
 tI:=fun c o hc=>by
  rcases k.tI c o hc with h1|h1
  ·exact h.tI c o h1
  ·exact .inr (amA h.size h1)
 size:=amA h.size k.size
 keep:=fun c hc hn=>by
  rw[k.keep c (Nat.lt_of_lt_of_le hc h.size) (fun ho=>hn (h.owns c hc ho)),h.keep c hc hn]
 owns:=fun c hc ho=>h.owns c hc (k.owns c (Nat.lt_of_lt_of_le hc h.size) ho)
 os:=k.os.trans h.os
 tape:=k.tape.trans h.tape
 output:=k.output.trans h.output
def Tn (σ:Sg)(s:St):Prop:=∀i,s.next<=i->σ i=none
def Sg.add (σ:Sg)(i:Nat)(p:Pl):Sg:={ σ with m:=fun j=>if j=i then some p else σ j }
theorem Sg.Mn {σ:Sg}{i:Nat}{p:Pl}(h:σ i=none):Sg.le σ (σ.add i p):=by
 refine⟨?_,fun _ _ h=>h⟩;intro j q hq;unfold Sg.add;by_cases e:j=i
 ·subst e;rw[h] at hq;cases hq
 ·simp[e,hq]
theorem Sg.Yr (σ:Sg)(i:Nat)(p:Pl):(σ.add i p) i=some p:=by simp[Sg.add]
theorem Sg.WC (σ:Sg){i j:Nat}(p:Pl)(h:j≠i):(σ.add i p) j=σ j:=by simp[Sg.add,h]
theorem HR.new {σ:Sg}{s:St}{w:World}(h:HR σ s w)(hf:σ s.next=none)(b:Uy)(hb:b≠.gone)(o:Obj)(n:Nat)
  (hr:BR (σ.add s.next ⟨w.heap.size,0,n⟩) ⟨w.heap.size,0,n⟩ b o) :
  HR (σ.add s.next ⟨w.heap.size,0,n⟩) (s.new b) (w.alloc o):=by
 have hle:Sg.le σ (σ.add s.next ⟨w.heap.size,0,n⟩):=Sg.Mn hf;refine⟨?_,?_,?_,?_⟩
 ·intro i p hp;by_cases e:i=s.next
  ·subst e;rw[Sg.Yr] at hp;cases hp;simp
  ·rw[Sg.WC _ _ e] at hp;have:=h.lt i p hp;simp;omega
 ·intro i p c hp hc;rw[St.UJ _ _ _ hb] at hc;by_cases e:i=s.next
  ·subst e;rw[Sg.Yr] at hp;cases hp;simp at hc;subst hc;exact⟨o,by show (w.heap.push o)[w.heap.size]? = some o;simp,hr⟩
  ·rw[Sg.WC _ _ e] at hp;rw[if_neg (fun h=>e h.symm)] at hc;obtain⟨o',ho,xG⟩:=h.E1 i p c hp hc;have:=h.lt i p hp;refine⟨o',?_,xG.mono hle⟩;simp only[World.alloc];rw[amh,if_neg (by omega)];exact ho
 ·intro i j p q c d hp hq hc hd tH;rw[St.UJ _ _ _ hb] at hc hd;by_cases e:i=s.next <;> by_cases e':j=s.next
  ·rw[e,e']
  ·subst e;rw[Sg.Yr] at hp;cases hp;rw[Sg.WC _ _ e'] at hq;have:=h.lt j q hq;simp at tH;omega
  ·subst e';rw[Sg.Yr] at hq;cases hq;rw[Sg.WC _ _ e] at hp;have:=h.lt i p hp;simp at tH;omega
  ·rw[Sg.WC _ _ e] at hp;rw[Sg.WC _ _ e'] at hq;rw[if_neg (fun h=>e h.symm)] at hc;rw[if_neg (fun h=>e' h.symm)] at hd;exact h.inj i j p q c d hp hq hc hd tH
 ·intro c o' hc;obtain⟨h1,h2⟩:=h.fz c o' hc;have Yh:c<w.heap.size:=(agz.1 h1).1;refine⟨by simp only[World.alloc];rw[amh,if_neg (by omega)];exact h1,?_⟩;rintro⟨i,p,d,hp,hd,SQ,rfl⟩;rw[St.UJ _ _ _ hb] at hd;by_cases e:i=s.next
  ·subst e;rw[Sg.Yr] at hp;cases hp;simp at Yh
  ·rw[Sg.WC _ _ e] at hp;rw[if_neg (fun h=>e h.symm)] at hd;exact h2 ⟨i,p,d,hp,hd,SQ,rfl⟩
theorem Ext.new {σ:Sg}{s:St}{w:World}(hf:σ s.next=none)(b:Uy)(hb:b≠.gone)(o:Obj)(n:Nat) :
  Ext σ s w (σ.add s.next ⟨w.heap.size,0,n⟩) (s.new b) (w.alloc o):=by
 refine⟨Sg.Mn hf,fun _ _ h=>.inl h,by simp,?_,?_,rfl,rfl,rfl⟩
 ·intro c hc _;simp only[World.alloc];rw[amh,if_neg (by omega)]
 ·rintro c hc ⟨i,p,d,hp,hd,SQ,rfl⟩;rw[St.UJ _ _ _ hb] at hd;by_cases e:i=s.next
  ·subst e;rw[Sg.Yr] at hp;cases hp;simp at hc
  ·rw[Sg.WC _ _ e] at hp;rw[if_neg (fun h=>e h.symm)] at hd;exact⟨i,p,d,hp,hd,SQ,rfl⟩
theorem Tn.new {σ:Sg}{s:St}(h:Tn σ s)(b:Uy)(p:Pl):Tn (σ.add s.next p) (s.new b):=by
 intro i hi;rw[St.Z_] at hi;rw[Sg.WC _ _ (by omega)];exact h i (by omega)
theorem HR.put {σ:Sg}{s:St}{w:World}(h:HR σ s w){i:Nat}{p:Pl}{b0 b:Uy}(hp:σ i=some p)(hl:s.look i=some b0)(SQ:b0.own=true)(hb:b≠.gone){w':World}(VY:w'.heap.size=w.heap.size)
  (UF:∀c,c≠p.b->w'.heap[c]? = w.heap[c]?){o:Obj}(ho:w'.heap[p.b]? = some o)(hr:BR σ p b o):HR σ (s.put i b) w':=by
 refine⟨fun j q hq=>by rw[VY];exact h.lt j q hq,?_,?_,?_⟩
 ·intro j q c hq hc;rw[St.Xe] at hc;by_cases e:i=j
  ·subst e;rw[hp] at hq;cases hq;rw[if_pos rfl] at hc;have:c=b:=by cases b <;> simp at hb hc ⊢ <;> exact hc.symm
   subst this;exact⟨o,ho,hr⟩
  ·rw[if_neg e] at hc;obtain⟨o',Vo,Ur⟩:=h.E1 j q c hq hc;have ZC:q.b≠p.b:=fun he=>e (h.inj j i q p c b0 hq hp hc hl he).symm
   exact⟨o',by rw[UF _ ZC];exact Vo,Ur⟩
 ·intro j k q r c d hq Ur hc hd he;have look:∀j c,(s.put i b).look j=some c->∃c',s.look j=some c':=by
   intro j c hc;rw[St.Xe] at hc;by_cases e:i=j
   ·subst e;exact⟨b0,hl⟩
   ·rw[if_neg e] at hc;exact⟨c,hc⟩
  obtain⟨c',Iu⟩:=look j c hc;obtain⟨d',LR⟩:=look k d hd;exact h.inj j k q r c' d' hq Ur Iu LR he
 ·intro c o' hc;obtain⟨h1,h2⟩:=h.fz c o' hc;refine⟨by rw[UF c (fun e=>h2 ⟨i,p,b0,hp,hl,SQ,e.symm⟩)];exact h1,?_⟩;rintro⟨j,q,d,hq,hd,Vo,rfl⟩;rw[St.Xe] at hd;by_cases e:i=j
  ·subst e;rw[hp] at hq;cases hq;exact h2 ⟨i,p,b0,hp,hl,SQ,rfl⟩
  ·rw[if_neg e] at hd;exact h2 ⟨j,q,d,hq,hd,Vo,rfl⟩
theorem Ext.put {σ:Sg}{s:St}{w:World}{i:Nat}{p:Pl}{b0 b:Uy}(hp:σ i=some p)(hl:s.look i=some b0)(SQ:b0.own=true){w':World}(VY:w'.heap.size=w.heap.size)
  (UF:∀c,c≠p.b->w'.heap[c]? = w.heap[c]?)(EX:w'.os=w.os)(ht:w'.tape=w.tape)(Mm:w'.output=w.output):Ext σ s w σ (s.put i b) w':=by
 refine⟨Sg.le_refl _,fun _ _ h=>.inl h,by omega,?_,?_,EX,ht,Mm⟩
 ·intro c _ hn;exact UF c (fun e=>hn ⟨i,p,b0,hp,hl,SQ,e.symm⟩)
 ·rintro c _ ⟨j,q,d,hq,hd,ho,rfl⟩;rw[St.Xe] at hd;by_cases e:i=j
  ·subst e;rw[hp] at hq;cases hq;exact⟨i,p,b0,hp,hl,SQ,rfl⟩
  ·rw[if_neg e] at hd;exact⟨j,q,d,hq,hd,ho,rfl⟩
structure Good (σ:Sg)(s:St)(w:World)(Yx:Sg)(s':St)(w':World):Prop where
 hr:HR Yx s' w'
 ext:Ext σ s w Yx s' w'
 Na:∀i,i<s.next\/s'.next<=i->Yx i=σ i
 next:s.next<=s'.next
 dead:∀i,i<s.next->s.look i=none->s'.look i=none
 news:∀i p,Yx i=some p->σ i=none->w.heap.size<=p.b\/Qr σ s p.b
 glob:s'.base=s.base
theorem Good.refl {σ:Sg}{s:St}{w:World}(h:HR σ s w):Good σ s w σ s w :=
 ⟨h,Ext.refl _ _ _,fun _ _=>rfl,agB _,fun _ _ h=>h,fun i p h k=>(by rw[k] at h;cases h),rfl⟩
theorem Good.trans {HZ Bh σ3:Sg}{s1 s2 s3:St}{w1 w2 w3:World}(h:Good HZ s1 w1 Bh s2 w2)(k:Good Bh s2 w2 σ3 s3 w3):Good HZ s1 w1 σ3 s3 w3 where
 hr:=k.hr
 ext:=h.ext.trans k.ext
 Na:=fun i hi=>by
  have h1:=h.next;have h2:=k.next;rw[k.Na i (by omega),h.Na i (by omega)]
 next:=amA h.next k.next
 dead:=fun i hi hl=>k.dead i (Nat.lt_of_lt_of_le hi h.next) (h.dead i hi hl)
 news:=fun i p hp hn=>by
  by_cases e:Bh i=none
  ·rcases k.news i p hp e with hk|hk
   ·exact .inl (amA h.ext.size hk)
   ·by_cases hb:p.b<w1.heap.size
    ·exact .inr (h.ext.owns _ hb hk)
    ·exact .inl (by omega)
  ·cases hq:Bh i with
   |none=>exact absurd hq e
   |some q =>
    have:=k.ext.le.p i q hq;rw[hp] at this;cases this;exact h.news i p hq hn
 glob:=k.glob.trans h.glob
theorem Good.fresh {σ Yx:Sg}{s s':St}{w w':World}(h:Good σ s w Yx s' w')(hf:Tn σ s):Tn Yx s':=fun i hi=>by
 rw[h.Na i (.inr hi)];exact hf i (amA h.next hi)
theorem HR.of_heap {σ:Sg}{s:St}{w w':World}(h:HR σ s w)(e:w'.heap=w.heap):HR σ s w' :=
 ⟨fun i p hp=>by rw[e];exact h.lt i p hp,fun i p b hp hb=>by rw[e];exact h.E1 i p b hp hb,h.inj,fun c o hc=>by rw[e];exact h.fz c o hc⟩
theorem Good.drew {σ Yx:Sg}{s s':St}{w w':World}(h:Good σ s w Yx s' w'):Good σ s w Yx s' w'.drew :=
 ⟨h.hr.of_heap rfl,⟨h.ext.le,h.ext.tI,h.ext.size,h.ext.keep,h.ext.owns,h.ext.os,h.ext.tape,h.ext.output⟩,h.Na,h.next,h.dead,h.news,h.glob⟩
theorem Good.mE {σ Yx:Sg}{s s':St}{w w':World}(h:Good σ s w.drew Yx s' w'):Good σ s w Yx s' w' :=
 ⟨h.hr,⟨h.ext.le,h.ext.tI,h.ext.size,h.ext.keep,h.ext.owns,h.ext.os,h.ext.tape,h.ext.output⟩,h.Na,h.next,h.dead,h.news,h.glob⟩
theorem Good.new {σ:Sg}{s:St}{w:World}(h:HR σ s w)(hf:σ s.next=none)(b:Uy)(hb:b≠.gone)(o:Obj)(n:Nat)
  (hr:BR (σ.add s.next ⟨w.heap.size,0,n⟩) ⟨w.heap.size,0,n⟩ b o) :
  Good σ s w (σ.add s.next ⟨w.heap.size,0,n⟩) (s.new b) (w.alloc o) where
 hr:=h.new hf b hb o n hr
 ext:=Ext.new hf b hb o n
 Na:=fun i hi=>by
  rw[St.Z_] at hi;exact Sg.WC _ _ (by omega)
 next:=by rw[St.Z_];omega
 dead:=fun i hi hl=>by
  rw[St.UJ _ _ _ hb,if_neg (by omega)];exact hl
 news:=fun i p hp hn=>by
  by_cases e:i=s.next
  ·subst e;rw[Sg.Yr] at hp;cases hp;exact .inl (agB _)
  ·rw[Sg.WC _ _ e,hn] at hp;cases hp
 glob:=rfl
theorem Good.put {σ:Sg}{s:St}{w:World}(h:HR σ s w){i:Nat}{p:Pl}{b0 b:Uy}(hp:σ i=some p)(hl:s.look i=some b0)(SQ:b0.own=true)(hb:b≠.gone){w':World}(VY:w'.heap.size=w.heap.size)
  (UF:∀c,c≠p.b->w'.heap[c]? = w.heap[c]?){o:Obj}(ho:w'.heap[p.b]? = some o)(hr:BR σ p b o)(EX:w'.os=w.os)(ht:w'.tape=w.tape)(Mm:w'.output=w.output):Good σ s w σ (s.put i b) w' where
 hr:=h.put hp hl SQ hb VY UF ho hr
 ext:=Ext.put hp hl SQ VY UF EX ht Mm
 Na:=fun _ _=>rfl
 next:=agB _
 dead:=fun j _ hj=>by
  rw[St.Xe];by_cases e:i=j
  ·subst e;rw[hl] at hj;cases hj
  ·rw[if_neg e];exact hj
 news:=fun j q h1 h2=>by rw[h2] at h1;cases h1
 glob:=rfl
end Go.Am
namespace Go.Am
open Go
structure VI [Stat] (X:Cx)(P:Program):Prop where
 Zd:∀t d,X.Zd t=some d->P.underlying t=some d
 inf:∀t i,X.inf t=some i->P.info? t=some i
 fn:∀f fn,X.fn f=some fn->P.funcs[f]? = some fn
 Ay:∀t,X.Ay t=true->P.eqGuardType P.depth t=false/\P.stoodInHeld t=false
 spec:∀t,Stat.spec t=true->X.spec t=true
 adR:∀t,Stat.spec t=true->X.Zd t≠some (.int .u8)
def WD [Stat] (X:Cx)(σ:Sg):Prop:=∀g,g<X.glob->∃n,σ g=some ⟨g,0,n⟩/\∀b,X.LK g=some b->b.own=false/\∃o,σ.fz g=some o/\BR σ.bare ⟨g,0,n⟩ b o
section
variable {P:Program}{w:World}
theorem ZP {t:TypeId}{d:TypeDesc}(h:P.underlying t=some d):(underlying t).run P w=.ok d w:=by
 simp[underlying,h]
theorem HY {t:TypeId}{i:TypeInfo}(h:P.info? t=some i):(typeInfo t).run P w=.ok i w:=by
 simp[typeInfo,h]
theorem mT {t:TypeId}{i:TypeInfo}(h:P.info? t=some i):(sizeOf t).run P w=.ok i.size w:=by
 simp[sizeOf,HY h]
theorem Ax {t:TypeId}{i:TypeInfo}{z:Value}(h:P.info? t=some i)(hz:i.zero=some z):(zeroValue t).run P w=.ok z w:=by
 simp[zeroValue,HY h,hz]
end
section
variable [Stat] {X:Cx}{P:Program}(hX:VI X P){w:World}
include hX
theorem YS {t:TypeId}{n:Nat}(h:size X t=some n):(sizeOf t).run P w=.ok n w:=by
 unfold size at h
 split at h
 ·rename_i i hi;cases h;exact mT (hX.inf _ _ hi)
 ·cases h
theorem TG {t:TypeId}{b:Bool}(h:YC X t=some b):(isAgg t).run P w=.ok b w:=by
 unfold YC at h
 split at h <;> cases h <;> rename_i hd
 ·simp[isAgg,ZP (hX.Zd _ _ hd)]
 ·simp[isAgg,ZP (hX.Zd _ _ hd)]
 ·simp only[isAgg,Sem.run_bind,ZP (hX.Zd _ _ hd),Result.andThen_ok];rfl
end
theorem tL (σ:Sg):∀(n:Nat) (v:Value) (a:AV),mS n v=some a->ZY σ a v:=by
 intro n
 induction n with
 |zero=>intro v a h;simp[mS] at h
 |succ n ih =>
  have hl:∀(l:List Value) (as:List AV),l.mapM (mS n)=some as->ZZ σ as l:=by
   intro l
   induction l with
   |nil=>intro as h;simp at h;subst h;simp[ZZ]
   |cons v l EJ =>
    intro as h;simp only[List.mapM_cons,Option.bind_eq_bind,Option.bind_eq_some_iff,Option.pure_def,Option.some.injEq] at h;obtain⟨a,ha,as',has,rfl⟩:=h;simp only[ZZ];exact⟨v,l,rfl,ih v a ha,EJ as' has⟩
  intro v a h;unfold mS at h
  split at h <;> first|(cases h;simp[ZY];done)|(cases h;done)|skip
  ·simp only[amB] at h;obtain⟨as,has,rfl⟩:=h;simp only[ZY];exact⟨_,rfl,hl _ _ has⟩
  ·simp only[amB] at h;obtain⟨as,has,rfl⟩:=h;simp only[ZY];exact⟨_,rfl,hl _ _ has⟩
def HX (tmps:Array Value):Operand->Value
 |.tmp t=>tmps.getD t Go.undef
 |.const v=>v
 |.global g=>.pointer (some ⟨g,0,none⟩)
 |.func f=>.func (.func f) #[] #[]
theorem T_ [Stat] {X:Cx}{σ:Sg}(hg:WD X σ){e:Env}{tmps:Array Value}(he:SU σ e tmps){x:Operand}{a:AV}(h:eval X e x=some a):ZY σ a (HX tmps x):=by
 cases x <;> simp only[eval] at h
 ·cases h;exact he _
 ·exact tL σ _ _ _ h
 ·rename_i g
  split at h
  ·rename_i Yh
   cases h
   obtain⟨n,hn,_⟩:=hg g Yh;simp only[ZY,HX];exact⟨_,hn,rfl⟩
  ·cases h
 ·cases h
  simp only[ZY,HX];exact⟨_,_,_,rfl,rfl,by simp[ZZ],by simp[ZZ]⟩
theorem Qx [Stat] {X:Cx}{σ:Sg}(hg:WD X σ){e:Env}{tmps:Array Value}(he:SU σ e tmps):∀{l:List Operand} {as:List AV},Wk X e l=some as->ZZ σ as (l.map (HX tmps))
 |[],as,h=>by simp[Wk] at h;subst h;simp[ZZ]
 |x::l,as,h=>by
  simp only[Wk] at h
  split at h
  ·rename_i v r h1 h2
   cases h
   simp only[alT,ZZ];exact⟨_,_,rfl,T_ hg he h1,Qx hg he h2⟩
  ·cases h
def T9 (σ:Sg):List (Nat×AV)->List (Nat×Value)->Prop
 |[],l=>l=[]
 |(i,a)::x,l=>∃v y,l=(i,v)::y/\ZY σ a v/\T9 σ x y
theorem QU [Stat] {X:Cx}{σ:Sg}(hg:WD X σ){e:Env}{tmps:Array Value}(he:SU σ e tmps):∀{l:List (Nat×Operand)} {as:List (Nat×AV)},VX X e l=some as->T9 σ as (l.map fun (i,x)=>(i,HX tmps x))
 |[],as,h=>by simp[VX] at h;subst h;simp[T9]
 |(i,x)::l,as,h=>by
  simp only[VX] at h
  split at h
  ·rename_i v r h1 h2
   cases h
   simp only[alT,T9];exact⟨_,_,rfl,T_ hg he h1,QU hg he h2⟩
  ·cases h
theorem WV:∀{n o:Nat} {l r:List AV},XA n o l=some r->r.length=n/\∀i,i<n->r[i]? = l[o+i]?/\o+i<l.length
 |0,_,_,r,h=>by simp[XA] at h;subst h;exact⟨rfl,fun i hi=>by omega⟩
 |n+1,_,[],r,h=>by simp[XA] at h
 |n+1,0,x::l,r,h=>by
  simp only[XA] at h
  split at h
  ·rename_i r' h'
   cases h
   obtain⟨h1,h2⟩:=WV h';refine⟨by simp[h1],fun i hi=>?_⟩
   cases i with
   |zero=>simp
   |succ i =>
    have:=h2 i (by omega);simp only[ald] at this;simp only[ald,aml,akd];exact⟨this.1,by omega⟩
  ·cases h
 |n+1,o+1,x::l,r,h=>by
  simp only[XA] at h;obtain⟨h1,h2⟩:=WV h;refine⟨h1,fun i hi=>?_⟩;have:=h2 i hi;rw[show o+1+i=(o+i)+1 from by omega];simp only[aml,akd];exact⟨this.1,by omega⟩
theorem Qw {n o:Nat}{l r:List AV}(h:XA n o l=some r){i:Nat}{a:AV}(ha:r[i]? = some a):l[o+i]? = some a:=by
 obtain⟨h1,h2⟩:=WV h;have:i<n:=by
  have:=(alQ.1 ha).1;omega
 rw[<-(h2 i this).1];exact ha
theorem Lw:∀{o:Nat} {vs l r:List AV},lay o vs l=some r->r.length=l.length/\(vs≠[]->o+vs.length<=l.length)/\∀i,r[i]? = if o<=i/\i<o+vs.length then vs[i-o]? else l[i]?
 |o,[],l,r,h=>by
  simp[lay] at h;subst h;refine⟨rfl,fun h=>absurd rfl h,fun i=>?_⟩;rw[if_neg (by simp)]
 |o,v::vs,[],r,h=>by cases o <;> simp[lay] at h
 |0,v::vs,x::l,r,h=>by
  simp only[lay] at h
  split at h
  ·rename_i r' h'
   cases h
   obtain⟨h1,h2,h3⟩:=Lw h';refine⟨by simp[h1],fun _=>?_,fun i=>?_⟩
   ·by_cases hv:vs=[]
    ·subst hv;simp
    ·have:=h2 hv;simp;omega
   ·cases i with
    |zero=>simp
    |succ i =>
     have:=h3 i;simp only[ald,aic,true_and,Nat.sub_zero] at this;simp only[ald,aic,true_and,Nat.sub_zero,akd,aml,this];by_cases hc:i<vs.length
     ·rw[if_pos hc,if_pos (by omega)]
     ·rw[if_neg hc,if_neg (by omega)]
  ·cases h
 |o+1,v::vs,x::l,r,h=>by
  simp only[lay] at h
  split at h
  ·rename_i r' h'
   cases h
   obtain⟨h1,h2,h3⟩:=Lw h';refine⟨by simp[h1],fun _=>?_,fun i=>?_⟩
   ·have:=h2 (by simp);simp at this ⊢;omega
   ·cases i with
    |zero=>rw[if_neg (by omega)];simp
    |succ i =>
     have:=h3 i;simp only[aml,this];by_cases hc:o<=i/\i<o+(v::vs).length
     ·rw[if_pos hc,if_pos (by omega)]
      congr 1
      omega
     ·rw[if_neg hc,if_neg (by omega)]
  ·cases h
end Go.Am
namespace Go.Am
open Go
def UC (P:Program)(w:World)(σ:Sg)(m:Sem Value)(a:AV):Prop:=∃v,m.run P w=.ok v w/\ZY σ a v
section
variable [Stat] {X:Cx}{P:Program}(hX:VI X P){w:World}{σ:Sg}
theorem Zf {k:IntKind}{n:Int}{v:Value}(h:ZY σ (.int k n) v):v=.int k n:=by simpa only[ZY] using h
theorem WU {b:Bool}{v:Value}(h:ZY σ (.bool b) v):v=.bool b:=by simpa only[ZY] using h
theorem XJ {s:List UInt8}{v:Value}(h:ZY σ (.str s) v):∃bs:ByteArray,v=.string bs/\bs.data.toList=s:=by simpa only[ZY] using h
theorem Xf {b o:Nat}{v:Value}(h:ZY σ (.ptr b o) v):∃p,σ b=some p/\v=.pointer (some ⟨p.b,p.sh+o,none⟩):=by simpa only[ZY] using h
theorem Tw {b o n:Nat}{c:Option Nat}{z:Nat}{v:Value}(h:ZY σ (.sl b o n c z) v):∃a k,v=.slice (some a) n k/\DW σ b o n c z a k:=by simpa only[ZY] using h
theorem Wv {cs:List AV}{v:Value}(h:ZY σ (.agg cs) v):∃vs,v=.agg vs/\ZZ σ cs vs.toList:=by simpa only[ZY] using h
theorem ji {cs:List AV}{v:Value}(h:ZY σ (.XU cs) v):∃vs,v=.tuple vs/\ZZ σ cs vs.toList:=by simpa only[ZY] using h
theorem OH {r:Nat}{v:Value}(h:ZY σ (.map r) v):∃p,σ r=some p/\v=.map (some p.b):=by simpa only[ZY] using h
theorem Nz {es:List AV}{v:Value}(h:ZY σ (.fz es) v):∃a c us,v=.slice (some a) es.length c/\es.length<=c/\ZZ σ.bare es us/\(us=[]\/JW σ a us):=by simpa only[ZY] using h
theorem KH {cs:List AV}{o:Nat}{v:Value}(h:ZY σ (.fp cs o) v):∃b base us cc e fz,v=.pointer (some ⟨b,base+o,none⟩)/\σ.fz b=some (.cells cc e fz)/\ZZ σ.bare cs us/\∀i u,us[i]? = some u->cc[base+i]? = some u:=by simpa only[ZY] using h
theorem yE {α β:Type}(f:α->List β)(n:Nat):∀(l:List α),(∀u∈l,(f u).length=n)->∀(i j:Nat) (u:α),l[i]? = some u->j<n->(l.flatMap f)[i*n+j]? = (f u)[j]?
 |[],_,i,j,u,h,_=>by simp at h
 |x::l,hl,0,j,u,h,hj=>by
  simp at h;subst h;have:=hl x (aba ..);rw[al7,Nat.zero_mul,ald,al0 (by omega)]
 |x::l,hl,i+1,j,u,h,hj=>by
  simp at h;have hx:=hl x (aba ..);rw[al7,amI (by rw[hx,amx];omega),hx,amx,amk,show i*n+n+j-n=i*n+j by omega];exact yE f n l (fun u hu=>hl u (aab _ hu)) i j u h hj
theorem XG (b o n:Nat):(⟨b,o,none⟩:Addr).add n=⟨b,o+n,none⟩:=by
 unfold Addr.add;split
 ·subst_vars;rfl
 ·rfl
include hX
theorem Ep {t:TypeId}{x:AV}{v:Value}{f:Nat}{a:AV}(hx:ZY σ x v)(h:RD X t x f=some a):UC P w σ (Instr.fieldAt t v f) a:=by
 unfold RD at h
 split at h
 ·rename_i fs b o hu
  split at h
  ·rename_i fd hf
   split at h
   ·rename_i n hs
    cases h
    obtain⟨p,hp,rfl⟩:=Xf hx;refine⟨.pointer (some ⟨p.b,p.sh+(o+fd.offset),none⟩),?_,?_⟩
    ·simp only[Instr.fieldAt,Sem.run_bind,ZP (hX.Zd _ _ hu),Result.andThen_ok,hf,Instr.sureAddr,Sem.run_pure,fieldPlace,YS hX hs];simp[XG,akc]
    ·simp only[ZY];exact⟨p,hp,rfl⟩
   ·cases h
  ·cases h
 ·rename_i fs c o hu
  split at h
  ·rename_i fd hf
   split at h
   ·rename_i n hs
    cases h
    obtain⟨b,base,us,cc,e,fz,rfl,h1,h2,h3⟩:=KH hx;refine⟨.pointer (some ⟨b,base+(o+fd.offset),none⟩),?_,?_⟩
    ·simp only[Instr.fieldAt,Sem.run_bind,ZP (hX.Zd _ _ hu),Result.andThen_ok,hf,Instr.sureAddr,Sem.run_pure,fieldPlace,YS hX hs];simp[XG,akc]
    ·simp only[ZY];exact⟨b,base,us,cc,e,fz,rfl,h1,h2,h3⟩
   ·cases h
  ·cases h
 ·cases h
theorem Eo {t:TypeId}{x i:AV}{v u:Value}{a:AV}(hx:ZY σ x v)(hi:ZY σ i u)(h:VB X t x i=some a):UC P w σ (Instr.indexAt t v u) a:=by
 unfold VB at h
 split at h
 ·rename_i k i;have:=Zf hi;subst this
  split at h
  ·rename_i e b o len cap VH hu
   split at h
   ·rename_i Yh
    split at h
    ·rename_i n hs
     cases h
     obtain⟨ad,c,rfl,LP⟩:=Tw hx;obtain⟨p,hp,xH,_⟩:=LP.at_;have hlen:=LP.len;have hc:c≠0:=by omega
     have:=xH hc;subst this;refine⟨.pointer (some ⟨p.b,p.sh+(o+i.toNat*n),none⟩),?_,?_⟩
     ·simp only[Instr.indexAt,asIntOf,Sem.run_bind,Sem.run_pure,Result.andThen_ok,ZP (hX.Zd _ _ hu),Yh,and_self,if_true,YS hX hs];simp[XG,akc]
     ·simp only[ZY];exact⟨p,hp,rfl⟩
    ·cases h
   ·cases h
  ·rename_i len e b o hu
   split at h
   ·rename_i Yh
    split at h
    ·rename_i n hs
     cases h
     obtain⟨p,hp,rfl⟩:=Xf hx;refine⟨.pointer (some ⟨p.b,p.sh+(o+i.toNat*n),none⟩),?_,?_⟩
     ·simp only[Instr.indexAt,asIntOf,Sem.run_bind,Sem.run_pure,Result.andThen_ok,ZP (hX.Zd _ _ hu),Instr.sureAddr,Yh,and_self,if_true,YS hX hs];simp[XG,akc]
     ·simp only[ZY];exact⟨p,hp,rfl⟩
    ·cases h
   ·cases h
  ·rename_i e es hu
   split at h
   ·rename_i h0
    split at h
    ·rename_i x n R_ hs
     split at h
     ·rename_i hxn
      cases h
      obtain⟨a,c,us,rfl,ng,SO,M_⟩:=Nz hx;obtain⟨u,GJ,OC⟩:=SO.get _ _ R_;have Yh:i.toNat<es.length:=(alQ.1 R_).1;have Oa:=Wp OC;have hun:u.cells.size=n:=by have:=Oa.length;simpa[hxn.1] using this.symm
      rcases M_ with rfl|⟨Kf,cc,ee,fz,m,g1,g2,g3,g4⟩
      ·simp at GJ
      ·have hm:u.cells.size=m:=g3 u (amu GJ);have tS:m=n:=by omega
       subst tS;have ZC:¬(m=0):=g2;obtain⟨ab,ao,asp⟩:=a;simp only at Kf g1 g4;subst Kf;refine⟨.pointer (some ⟨ab,ao+i.toNat*m+0,none⟩),?_,?_⟩
       ·have ajp:0<=i/\i<(es.length:Int):=⟨h0,by omega⟩;simp only[Instr.indexAt,asIntOf,Sem.run_bind,Sem.run_pure,Result.andThen_ok,ZP (hX.Zd _ _ hu),ajp,and_self,if_true,YS hX hs];simp[XG]
       ·simp only[ZY];refine⟨ab,ao+i.toNat*m,u.cells.toList,cc,ee,fz,rfl,g1,Oa,fun j y hj=>?_⟩;have hjm:j<m:=by rw[<-hm];exact (alQ.1 hj).1
        have:=yE (fun u:Value=>u.cells.toList) m us (fun u hu=>by simpa using g3 u hu) i.toNat j u GJ hjm;rw[hj] at this;rw[akc];exact g4 _ _ this
     ·cases h
    ·cases h
   ·cases h
  ·rename_i len e c o hu
   split at h
   ·rename_i Yh
    split at h
    ·rename_i n hs
     cases h
     obtain⟨b,base,us,cc,ee,fz,rfl,h1,h2,h3⟩:=KH hx;refine⟨.pointer (some ⟨b,base+(o+i.toNat*n),none⟩),?_,?_⟩
     ·simp only[Instr.indexAt,asIntOf,Sem.run_bind,Sem.run_pure,Result.andThen_ok,ZP (hX.Zd _ _ hu),Instr.sureAddr,Yh,and_self,if_true,YS hX hs];simp[XG,akc]
     ·simp only[ZY];exact⟨b,base,us,cc,ee,fz,rfl,h1,h2,h3⟩
    ·cases h
   ·cases h
  ·cases h
 ·cases h
theorem Qt {t:TypeId}{cs:List AV}{vs:Array Value}{off:Nat}{a:AV}(hv:ZZ σ cs vs.toList)(h:Q_ X t cs off=some a):UC P w σ (part t vs off) a:=by
 unfold Q_ at h
 split at h
 ·rename_i Lm
  split at h
  ·rename_i n hs
   split at h
   ·rename_i r hr
    cases h
    refine⟨.agg (vs.extract off (off+n)),?_,?_⟩
    ·simp only[part,Sem.run_bind,TG hX Lm,Result.andThen_ok,if_true,YS hX hs,Sem.run_pure]
    ·simp only[ZY];refine⟨_,rfl,?_⟩;obtain⟨h1,h2⟩:=WV hr;have hlen:=hv.length;have VY:off+n<=vs.size\/n=0:=by
      by_cases hn:n=0
      ·exact .inr hn
      ·have:=(h2 (n-1) (by omega)).2;simp at hlen;left;omega
     apply ZZ.Ci
     ·simp[h1];omega
     ·intro i hi MW;have Ue:i<n:=by omega
      obtain⟨h3,h4⟩:=h2 i Ue;obtain⟨u,GJ,OC⟩:=ZZ.get hv (off+i) cs[off+i] (aaa h4);have e1:r[i]=cs[off+i]:=by
       rw[aaa hi,aaa h4] at h3;exact Option.some.inj h3
      rw[e1];have e2:(vs.extract off (off+n)).toList[i]=u:=by
       have:off+i<vs.size:=by simp at hlen;omega
       simp only[Array.getElem_toList,Array.getElem_extract];rw[al1,al8 this] at GJ;exact Option.some.inj GJ
      rw[e2];exact OC
   ·cases h
  ·cases h
 ·rename_i Lm;obtain⟨u,GJ,OC⟩:=ZZ.get hv _ _ h;refine⟨u,?_,OC⟩;rw[al1] at GJ;simp only[part,Sem.run_bind,TG hX Lm,Result.andThen_ok,ali,if_false,GJ,Sem.run_pure]
 ·cases h
theorem o9 {t:TypeId}{x i:AV}{v u:Value}{a:AV}(hx:ZY σ x v)(hi:ZY σ i u)(h:Gq X t x i=some a):UC P w σ (Instr.index t v u) a:=by
 unfold Gq at h
 split at h
 ·rename_i k i;have:=Zf hi;subst this
  split at h
  ·rename_i len e cs hu
   split at h
   ·rename_i Yh
    split at h
    ·rename_i n hs;obtain⟨vs,rfl,SI⟩:=Wv hx;obtain⟨r,AK,hr2⟩:=Qt hX (w:=w) SI h;refine⟨r,?_,hr2⟩;simp only[Instr.index,asIntOf,Sem.run_bind,Sem.run_pure,Result.andThen_ok,ZP (hX.Zd _ _ hu),Yh,and_self,if_true,YS hX hs,AK]
    ·cases h
   ·cases h
  ·rename_i b hu
   split at h
   ·rename_i h0
    split at h
    ·rename_i c hc
     cases h
     obtain⟨bs,rfl,rfl⟩:=XJ hx;refine⟨.int .u8 c.toNat,?_,by simp[ZY]⟩;have Yh:i.toNat<bs.size:=by
      have:=(alQ.1 hc).1;rw[alR] at this;exact this
     have hb:bs[i.toNat]? = some c:=by
      rw[ByteArray.getElem?_lt' _ _ Yh];obtain⟨h1,h2⟩:=alQ.1 hc
      simpa[ByteArray.getElem_eq_getElem_data] using h2
     simp only[Instr.index,asIntOf,Sem.run_bind,Sem.run_pure,Result.andThen_ok,ZP (hX.Zd _ _ hu),h0,if_true,hb]
    ·cases h
   ·cases h
  ·cases h
 ·cases h
theorem o8 {t:TypeId}{fs:Array Field}{cs:List AV}{v:Value}{f:Nat}{fd:Field}{a:AV}(hu:X.Zd t=some (.struct fs))(hx:ZY σ (.agg cs) v)(hf:fs[f]? = some fd)(h:Q_ X fd.type cs fd.offset=some a) :
  UC P w σ (Instr.field t v f) a:=by
 obtain⟨vs,rfl,SI⟩:=Wv hx;obtain⟨r,AK,hr2⟩:=Qt hX (w:=w) SI h;refine⟨r,?_,hr2⟩;simp only[Instr.field,Sem.run_bind,ZP (hX.Zd _ _ hu),Result.andThen_ok,hf,asAgg,Sem.run_pure,AK]
omit hX in
theorem yD {vs:List AV}{v:Value}{i:Nat}{a:AV}(hx:ZY σ (.XU vs) v)(h:vs[i]? = some a):UC P w σ (Instr.extract v i) a:=by
 obtain⟨us,rfl,MC⟩:=ji hx;obtain⟨u,GJ,OC⟩:=ZZ.get MC _ _ h;rw[al1] at GJ;exact⟨u,by simp[Instr.extract,GJ],OC⟩
end
end Go.Am
namespace Go.Am
open Go
section
variable [Stat] {X:Cx}{P:Program}(hX:VI X P){w:World}{σ:Sg}
theorem bytes_beq (a b:ByteArray):(a==b)=(a.data.toList==b.data.toList):=by
 rw[beq_toListBytes,ByteArray.toList_eq,ByteArray.toList_eq]
def Qu (d:Nat)(elem:TypeId)(n:Nat)(xs ys:Array Value):List Nat->Sem Bool
 |[]=>pure true
 |i::l=>do
  let a <-part elem xs (i*n)
  let b <-part elem ys (i*n)
  let r <-Op.equalIn d elem a b
  if (!r)=true then pure false else Qu d elem n xs ys l
theorem run_equalIn_array {d:Nat}{t:TypeId}{len:Nat}{elem:TypeId}{n:Nat}{xs ys:Array Value}(ht:P.underlying t=some (.array len elem))
  (hs:∀w,(sizeOf elem).run P w=.ok n w):(Op.equalIn (d+1) t (.agg xs) (.agg ys)).run P w=(Qu d elem n xs ys (List.range' 0 len)).run P w:=by
 simp only[Op.equalIn,Sem.run_bind,ZP ht,Result.andThen_ok,hs];rw[Std.Legacy.Range.forIn_eq_forIn_range'];simp only[Std.Legacy.Range.size,Nat.sub_zero,Nat.add_sub_cancel,Nat.div_one];generalize List.range' 0 len=l
 induction l generalizing w with
 |nil=>simp[Qu]
 |cons i l ih =>
  simp only[List.forIn_cons,Qu,Sem.run_bind,Sem.run_ite];generalize (part elem xs (i*n)).run P w=r1
  cases r1 with
  |halt x w1=>simp[Result.andThen]
  |ok a w1 =>
   simp only[Result.andThen_ok];generalize (part elem ys (i*n)).run P w1=r2
   cases r2 with
   |halt x w1=>simp[Result.andThen]
   |ok b w2 =>
    simp only[Result.andThen_ok];generalize (Op.equalIn d elem a b).run P w2=r3
    cases r3 with
    |halt x w1=>simp[Result.andThen]
    |ok r w3 =>
     cases r
     ·simp only[Result.andThen_ok,amp,if_true,Sem.run_pure]
     ·simp only[Result.andThen_ok,ama,ali,if_false,Sem.run_pure];exact ih
include hX
theorem HW:∀(d:Nat) (t:TypeId) (x y:AV) (b:Bool),Au X d t x y=some b->∀(u v:Value),ZY σ x u->ZY σ y v->∀D,d<=D->∀w,(Op.equalIn D t u v).run P w=.ok b w:=by
 intro d
 induction d with
 |zero=>intro t x y b h;simp[Au] at h
 |succ d ih =>
  intro t x y b h u v hu hv D hD w;obtain⟨D,rfl⟩:∃D',D=D'+1:=⟨D-1,by omega⟩;have hD':d<=D:=by omega
  unfold Au at h
  split at h <;> try (cases h;done)
  ·rename_i ht
   cases h;rw[WU hu,WU hv]
   exact run_equalIn_bool w D t _ _ (hX.Zd _ _ ht)
  ·rename_i k1 k a k' b' ht
   split at h
   ·rename_i hk;cases h;rw[Zf hu,Zf hv];subst hk;exact run_equalIn_int w D t _ _ _ _ (hX.Zd _ _ ht)
   ·cases h
  ·rename_i a b' ht
   cases h
   obtain⟨p,rfl,rfl⟩:=XJ hu;obtain⟨q,rfl,rfl⟩:=XJ hv;rw[run_equalIn_string w D t _ _ (hX.Zd _ _ ht),ByteArray.toList_eq,ByteArray.toList_eq]
  ·rename_i e ht
   cases h;simp only[ZY] at hu hv;subst hu;subst hv
   simp[Op.equalIn,ZP (hX.Zd _ _ ht)]
  ·rename_i e b o ht
   cases h;obtain⟨p,_,rfl⟩:=Xf hv;simp only[ZY] at hu;subst hu
   simp[Op.equalIn,ZP (hX.Zd _ _ ht)]
  ·rename_i e b o ht
   cases h;obtain⟨p,_,rfl⟩:=Xf hu;simp only[ZY] at hv;subst hv
   simp[Op.equalIn,ZP (hX.Zd _ _ ht)]
  ·rename_i e b1 o1 b2 o2 ht
   split at h
   ·rename_i n hs
    split at h
    ·rename_i hb;subst hb;cases h;obtain⟨p,hp,rfl⟩:=Xf hu;obtain⟨q,hq,rfl⟩:=Xf hv;rw[hp] at hq;cases hq;simp only[Op.equalIn,Sem.run_bind,ZP (hX.Zd _ _ ht),Result.andThen_ok,YS hX hs];have hn:n.succ≠0:=Nat.succ_ne_zero n;rw[if_pos hn];simp only[sameAddr,beq_self_eq_true,if_true];show Result.ok (({ block:=p.b,off:=p.sh+o1 }:Addr)=={ block:=p.b,off:=p.sh+o2 }) w=Result.ok (o1==o2) w
     congr 1
     rw[amj];simp
    ·cases h
   ·cases h
  all_goals first
   |(rename_i ht;cases h;simp only[ZY] at hu hv;subst hu;subst hv;simp[Op.equalIn,ZP (hX.Zd _ _ ht)];done)
   |(rename_i ht;cases h;simp only[ZY] at hu hv;obtain⟨_,_,rfl,_⟩:=hu;subst hv;simp[Op.equalIn,ZP (hX.Zd _ _ ht)];done)
   |(rename_i ht;cases h;simp only[ZY] at hu hv;obtain⟨_,_,rfl,_⟩:=hv;subst hu;simp[Op.equalIn,ZP (hX.Zd _ _ ht)];done)
   |(rename_i ht;cases h;simp only[ZY] at hu hv;obtain⟨_,_,rfl⟩:=hu;subst hv;simp[Op.equalIn,ZP (hX.Zd _ _ ht)];done)
   |(rename_i ht;cases h;simp only[ZY] at hu hv;obtain⟨_,_,rfl⟩:=hv;subst hu;simp[Op.equalIn,ZP (hX.Zd _ _ ht)];done)
   |(rename_i ht;cases h;simp only[ZY] at hu hv;obtain⟨_,_,_,rfl,_⟩:=hu;subst hv;simp[Op.equalIn,ZP (hX.Zd _ _ ht)];done)
   |(rename_i ht;cases h;simp only[ZY] at hu hv;obtain⟨_,_,_,rfl,_⟩:=hv;subst hu;simp[Op.equalIn,ZP (hX.Zd _ _ ht)];done)
   |(rename_i ht;cases h;simp only[ZY] at hu hv;obtain⟨_,rfl,_⟩:=hu;subst hv;simp[Op.equalIn,ZP (hX.Zd _ _ ht)];done)
   |(rename_i ht;cases h;simp only[ZY] at hu hv;obtain⟨_,rfl,_⟩:=hv;subst hu;simp[Op.equalIn,ZP (hX.Zd _ _ ht)];done)
   |skip
  ·
   rename_i fs a b' ht
   split at h
   ·rename_i X5;obtain⟨us,rfl,MC⟩:=Wv hu;obtain⟨vs,rfl,SI⟩:=Wv hv;have hfo:P.fieldsOf t=fs:=by unfold Program.fieldsOf;rw[hX.Zd _ _ ht]
    rw[run_equalIn_struct w D t us vs (by rw[hfo];exact hX.Zd _ _ ht) (hX.Ay _ X5).2,hfo];generalize fs.toList=l at h;clear hfo ht
    induction l generalizing w with
    |nil=>simp only[NK] at h;cases h;simp[Op.eqFields]
    |cons f l EJ =>
     simp only[NK] at h
     split at h
     ·cases h
     ·rename_i hn
      split at h
      ·rename_i x1 y1 h1 h2;obtain⟨x2,Jw,EI⟩:=Qt hX (w:=w) MC h1;obtain⟨y2,aQ,gj⟩:=Qt hX (w:=w) SI h2;simp only[Op.eqFields,ne_eq,hn,not_false_eq_true,if_true,Sem.run_bind,Jw,Result.andThen_ok,aQ]
       split at h
       ·rename_i he;rw[ih _ _ _ _ he _ _ EI gj D hD' w];simp only[Result.andThen_ok,ama,ali,if_false];exact EJ w h
       ·rename_i he
        cases h
        rw[ih _ _ _ _ he _ _ EI gj D hD' w];simp
       ·cases h
      ·cases h
   ·cases h
  ·
   rename_i len e a b' ht
   split at h
   ·rename_i n hs;obtain⟨us,rfl,MC⟩:=Wv hu;obtain⟨vs,rfl,SI⟩:=Wv hv;rw[run_equalIn_array (hX.Zd _ _ ht) (fun w=>YS hX hs)];clear ht;generalize 0=i at h
    induction len generalizing w i with
    |zero=>simp only[PH] at h;cases h;simp[Qu]
    |succ len EJ =>
     simp only[PH] at h
     split at h
     ·rename_i x1 y1 h1 h2;obtain⟨x2,Jw,EI⟩:=Qt hX (w:=w) MC h1;obtain⟨y2,aQ,gj⟩:=Qt hX (w:=w) SI h2;rw[List.range'_succ];simp only[Qu,Sem.run_bind,Jw,Result.andThen_ok,aQ]
      split at h
      ·rename_i he;rw[ih _ _ _ _ he _ _ EI gj D hD' w];simp only[Result.andThen_ok,ama,ali,if_false];exact EJ w _ h
      ·rename_i he
       cases h
       rw[ih _ _ _ _ he _ _ EI gj D hD' w];simp
      ·cases h
     ·cases h
   ·cases h
end
end Go.Am
namespace Go.Am
open Go
section
variable [Stat] {X:Cx}{P:Program}(hX:VI X P){w:World}{σ:Sg}
theorem uB (a b:List UInt8):Sw a b=Op.bytesLess a b:=by
 induction a generalizing b with
 |nil=>cases b <;> simp[Sw,Op.bytesLess]
 |cons x a ih=>cases b with
  |nil=>simp[Sw,Op.bytesLess]
  |cons y b=>simp[Sw,Op.bytesLess,ih]
theorem iF {op:BinOp}{t:TypeId}{k:IntKind}{a b:Int}{r:AV}(h:Mc op k a b=some r):UC P w σ (binOp op t (.int k a) (.int k b)) r:=by
 cases op <;> simp only[Mc] at h <;> try (cases h;done)
 all_goals first
  |(cases h;exact⟨_,by simp[binOp,Op.intArith,Op.intCmp,Op.intBits];rfl,by simp[ZY]⟩)
  |(split at h
    ·cases h
    ·rename_i hb;cases h;exact⟨_,by simp[binOp,Op.intDiv,hb];rfl,by simp[ZY]⟩)
theorem FE {op:BinOp}{t:TypeId}{k yk:IntKind}{a b:Int}{r:AV}(ho:op=.shl\/op=.shr)(h:JN op k a b=some r):UC P w σ (binOp op t (.int k a) (.int yk b)) r:=by
 unfold JN at h
 split at h
 ·cases h
 ·rename_i hb;rcases ho with rfl|rfl
  ·cases h;exact⟨_,by simp[binOp,Op.shift,hb];rfl,by simp[ZY]⟩
  ·cases h;exact⟨_,by simp[binOp,Op.shift,hb];rfl,by simp[ZY]⟩
theorem iE {op:BinOp}{t:TypeId}{a b:ByteArray}{r:AV}(h:lF op a.data.toList b.data.toList=some r):UC P w σ (binOp op t (.string a) (.string b)) r:=by
 cases op <;> simp only[lF] at h <;> try (cases h;done)
 case add =>
  split at h
  ·rename_i Yh
   cases h
   refine⟨.string (a++b),?_,?_⟩
   ·have h1:a.size=a.data.toList.length:=by rw[alR];rfl
    have h2:b.size=b.data.toList.length:=by rw[alR];rfl
    have:¬((a.size+b.size:Nat):Int)>IntKind.i64.max:=by rw[h1,h2,IntKind.max_i64];omega
    simp only[binOp,Op.stringOp,this,if_false,Sem.run_pure]
   ·simp only[ZY];exact⟨_,rfl,by simp[ByteArray.data_append]⟩
  ·cases h
 all_goals
  cases h
  exact⟨_,by simp only[binOp,Op.stringOp,Sem.run_pure];rfl,by simp[ZY,uB,ByteArray.toList_eq]⟩
theorem Ky {op:BinOp}{t:TypeId}{xo yo:Operand}{u v:Value}(h1:¬(u=.nilIface/\v=.nilIface))(h2:∀a b,¬(u=.agg a/\v=.agg b)):(eqGuard op t xo yo u v).run P w=.ok () w:=by
 have:eqGuard op t xo yo u v=pure ():=by
  cases u
  case nilIface=>cases v <;> first|(exact absurd ⟨rfl,rfl⟩ h1)|(cases op <;> rfl)
  case agg a=>cases v <;> first|(exact absurd ⟨rfl,rfl⟩ (h2 _ _))|(cases op <;> rfl)
  all_goals (cases op <;> rfl)
 rw[this];rfl
theorem Hq {x:AV}{k:IntKind}{n:Int}(h:ZY σ x (.int k n)):x=.int k n:=by
 cases x <;> simp only[ZY] at h <;> first|(cases h;rfl)|(cases h;done)|(obtain⟨_,h,_⟩:=h;cases h;done)|(obtain⟨_,_,h⟩:=h;cases h;done)|(obtain⟨_,_,h,_⟩:=h;cases h;done)|(obtain⟨_,_,_,h,_⟩:=h;cases h;done)|(obtain⟨_,_,_,_,_,_,h,_⟩:=h;cases h;done)
theorem Hp {x:AV}{k:FloatKind}{n:Nat}(h:ZY σ x (.float k n)):x=.mF k n:=by
 cases x <;> simp only[ZY] at h <;> first|(cases h;rfl)|(cases h;done)|(obtain⟨_,h,_⟩:=h;cases h;done)|(obtain⟨_,_,h⟩:=h;cases h;done)|(obtain⟨_,_,h,_⟩:=h;cases h;done)|(obtain⟨_,_,_,h,_⟩:=h;cases h;done)|(obtain⟨_,_,_,_,_,_,h,_⟩:=h;cases h;done)
theorem IK {x:AV}{k:FloatKind}{n m:Nat}(h:ZY σ x (.complex k n m)):False:=by
 cases x <;> simp only[ZY] at h <;> first|(cases h;done)|(obtain⟨_,h,_⟩:=h;cases h;done)|(obtain⟨_,_,h⟩:=h;cases h;done)|(obtain⟨_,_,h,_⟩:=h;cases h;done)|(obtain⟨_,_,_,h,_⟩:=h;cases h;done)|(obtain⟨_,_,_,_,_,_,h,_⟩:=h;cases h;done)
theorem Ho {x:AV}{s:ByteArray}(h:ZY σ x (.string s)):x=.str s.data.toList:=by
 cases x <;> simp only[ZY] at h <;> first|(cases h;done)|(obtain⟨_,h,e⟩:=h;cases h;rw[<-e];done)|(obtain⟨_,h,_⟩:=h;cases h;done)|(obtain⟨_,_,h⟩:=h;cases h;done)|(obtain⟨_,_,h,_⟩:=h;cases h;done)|(obtain⟨_,_,_,h,_⟩:=h;cases h;done)|(obtain⟨_,_,_,_,_,_,h,_⟩:=h;cases h;done)
theorem yn {x:AV}(h:ZY σ x .nilIface):x=.TO:=by
 cases x <;> simp only[ZY] at h <;> first|rfl|(cases h;done)|(obtain⟨_,h,_⟩:=h;cases h;done)|(obtain⟨_,_,h⟩:=h;cases h;done)|(obtain⟨_,_,h,_⟩:=h;cases h;done)|(obtain⟨_,_,_,h,_⟩:=h;cases h;done)|(obtain⟨_,_,_,_,_,_,h,_⟩:=h;cases h;done)
theorem rZ {x:AV}{a:Array Value}(h:ZY σ x (.agg a)):∃c,x=.agg c:=by
 cases x <;> simp only[ZY] at h <;> first|exact⟨_,rfl⟩|(cases h;done)|(obtain⟨_,h,_⟩:=h;cases h;done)|(obtain⟨_,_,h⟩:=h;cases h;done)|(obtain⟨_,_,h,_⟩:=h;cases h;done)|(obtain⟨_,_,_,h,_⟩:=h;cases h;done)|(obtain⟨_,_,_,_,_,_,h,_⟩:=h;cases h;done)
theorem O4 {t:TypeId}{u v:Value}(h1:∀k a j b,¬(u=.int k a/\v=.int j b))(h2:∀a b,¬(u=.string a/\v=.string b))(h3:∀k a j b,¬(u=.float k a/\v=.float j b))(h4:∀k a c,u≠.complex k a c) :
  binOp .eql t u v=(do pure (.bool (<-Op.equal t u v)))/\binOp .neq t u v=(do pure (.bool (!(<-Op.equal t u v)))):=by
 cases u <;> cases v <;> first
  |(exact⟨rfl,rfl⟩)
  |(exact absurd ⟨rfl,rfl⟩ (h1 _ _ _ _))
  |(exact absurd ⟨rfl,rfl⟩ (h2 _ _))
  |(exact absurd ⟨rfl,rfl⟩ (h3 _ _ _ _))
  |(exact absurd rfl (h4 _ _ _))
include hX
theorem Db {cst:Bool}{t:TypeId}{x y:AV}{b:Bool}{u v:Value}{xo yo:Operand}(hc:cst=(TW xo||TW yo))(hu:ZY σ x u)(hv:ZY σ y v)(h:IY X cst t x y=some b)(op:BinOp) :
  (eqGuard op t xo yo u v).run P w=.ok () w/\(Op.equal t u v).run P w=.ok b w:=by
 unfold IY at h
 split at h
 ·split at h
  ·rename_i ags;have A8:=hu;have ck:=hv;simp only[ZY] at A8 ck;subst A8;subst ck;refine⟨?_,HW hX _ _ _ _ _ h _ _ hu hv 10000 (by omega) w⟩;rw[hc] at ags
   cases xo <;> cases yo <;> simp[TW] at ags <;> first
    |(rw[eqGuard_nil_constL];rfl)
    |(rw[eqGuard_nil_constR];rfl)
  ·cases h
 ·split at h
  ·rename_i X5;obtain⟨us,GJ,_⟩:=Wv hu;obtain⟨vs,Pd,_⟩:=Wv hv;subst GJ;subst Pd;exact⟨run_eqGuard_agg w op t xo yo us vs (hX.Ay _ X5).1,HW hX _ _ _ _ _ h _ _ hu hv 10000 (by omega) w⟩
  ·cases h
 ·rename_i h1 h2;refine⟨Ky ?_ ?_,HW hX _ _ _ _ _ h _ _ hu hv 10000 (by omega) w⟩
  ·rintro⟨rfl,rfl⟩;exact h1 (yn hu) (yn hv)
  ·rintro a b' ⟨rfl,rfl⟩;obtain⟨c,rfl⟩:=rZ hu;obtain⟨d,rfl⟩:=rZ hv;exact h2 c d rfl rfl
theorem iD {op:BinOp}{cst:Bool}{t:TypeId}{x y r:AV}{u v:Value}{xo yo:Operand}(hc:cst=(TW xo||TW yo))(hu:ZY σ x u)(hv:ZY σ y v)(h:Wg X op t cst x y=some r) :
  UC P w σ (do eqGuard op t xo yo u v;binOp op t u v) r:=by
 unfold Wg at h
 split at h
 ·rw[Zf hu,Zf hv];obtain⟨q,hq,hr⟩:=FE (P:=P) (w:=w) (σ:=σ) (t:=t) (.inl rfl) h;exact⟨q,by simpa[eqGuard_shl] using hq,hr⟩
 ·rw[Zf hu,Zf hv];obtain⟨q,hq,hr⟩:=FE (P:=P) (w:=w) (σ:=σ) (t:=t) (.inr rfl) h;exact⟨q,by simpa[eqGuard_shr] using hq,hr⟩
 ·rename_i op k a k' b h1 h2
  split at h
  ·rename_i hk;subst hk;rw[Zf hu,Zf hv];obtain⟨q,hq,hr⟩:=iF (P:=P) (w:=w) (σ:=σ) (t:=t) h;exact⟨q,by simpa[eqGuard_at_int] using hq,hr⟩
  ·cases h
 ·obtain⟨p,rfl,rfl⟩:=XJ hu;obtain⟨q,rfl,rfl⟩:=XJ hv;obtain⟨q,hq,hr⟩:=iE (P:=P) (w:=w) (σ:=σ) (t:=t) h;exact⟨q,by simpa[eqGuard_at_string] using hq,hr⟩
 ·rename_i hni bL
  split at h
  ·rename_i b hb
   cases h
   obtain⟨g1,g2⟩:=Db hX (w:=w) (xo:=xo) (yo:=yo) hc hu hv hb .eql;obtain⟨e1,e2⟩:=O4 (t:=t) (u:=u) (v:=v)
    (by rintro k a j b' ⟨rfl,rfl⟩;exact hni _ _ _ _ (Hq hu) (Hq hv))
    (by rintro a b' ⟨rfl,rfl⟩;exact bL _ _ (Ho hu) (Ho hv))
    (by rintro k a j b' ⟨rfl,rfl⟩;rw[Hp hu,Hp hv] at hb;simp[IY,Au] at hb)
    (by rintro k a c rfl;exact IK hu)
   refine⟨.bool b,?_,by simp[ZY]⟩;simp only[Sem.run_bind,g1,Result.andThen_ok,e1,g2,Sem.run_pure]
  ·cases h
 ·rename_i hni bL
  split at h
  ·rename_i b hb
   cases h
   obtain⟨g1,g2⟩:=Db hX (w:=w) (xo:=xo) (yo:=yo) hc hu hv hb .neq;obtain⟨e1,e2⟩:=O4 (t:=t) (u:=u) (v:=v)
    (by rintro k a j b' ⟨rfl,rfl⟩;exact hni _ _ _ _ (Hq hu) (Hq hv))
    (by rintro a b' ⟨rfl,rfl⟩;exact bL _ _ (Ho hu) (Ho hv))
    (by rintro k a j b' ⟨rfl,rfl⟩;rw[Hp hu,Hp hv] at hb;simp[IY,Au] at hb)
    (by rintro k a c rfl;exact IK hu)
   refine⟨.bool !b,?_,by simp[ZY]⟩;simp only[Sem.run_bind,g1,Result.andThen_ok,e2,g2,Sem.run_pure]
  ·cases h
 ·cases h
omit hX in
theorem bK {op:UnOp}{x r:AV}{u:Value}(hu:ZY σ x u)(h:o0 op x=some r):UC P w σ (Op.unary op u) r:=by
 unfold o0 at h
 split at h
 ·rw[Zf hu];cases h;exact⟨_,by simp[Op.unary,Op.intArith];rfl,by simp[ZY]⟩
 ·rw[Zf hu];simp only[Mc] at h;cases h;exact⟨_,by simp[Op.unary,Op.intBits];rfl,by simp[ZY]⟩
 ·rw[WU hu];cases h;exact⟨_,by simp[Op.unary];rfl,by simp[ZY]⟩
 ·cases h
end
end Go.Am
namespace Go.Am
open Go
section
variable [Stat] {X:Cx}{P:Program}(hX:VI X P){w:World}{σ:Sg}
theorem wG {x:Option AV}{xv:Option Value}{wF y r:Nat}(hx:match x,xv with|none,none=>True|some a,some v=>ZY σ a v|_,_=>False)(h:Yz x wF y=some r) :
  (x=none/\xv=none/\r=wF)\/∃k i,xv=some (.int k i)/\0<=i/\i<=(y:Int)/\r=i.toNat/\r<=y/\∃k',x=some (.int k' i):=by
 unfold Yz at h
 split at h
 ·cases xv with
  |none=>cases h;exact .inl ⟨rfl,rfl,rfl⟩
  |some v=>exact hx.elim
 ·rename_i k i
  split at h
  ·rename_i hi
   cases xv with
   |none=>exact hx.elim
   |some v =>
    have:=Zf (σ:=σ) hx;subst this
    cases h
    exact .inr ⟨k,i,rfl,hi.1,hi.2,rfl,by omega,_,rfl⟩
  ·cases h
 ·cases h
def wE (σ:Sg):Option AV->Option Value->Prop
 |none,none=>True
 |some a,some v=>ZY σ a v
 |_,_=>False
theorem Um {x:Option AV}{xv:Option Value}{wF y r:Nat}(hx:wE σ x xv)(h:Yz x wF y=some r) :
  (x=none/\xv=none/\r=wF)\/∃k i,xv=some (.int k i)/\0<=i/\i<=(y:Int)/\r=i.toNat/\r<=y/\∃k',x=some (.int k' i):=by
 refine wG (σ:=σ) ?_ h
 cases x <;> cases xv <;> exact hx
theorem RI {P:Program}{w:World}{isSlice:Bool}{len cap:Nat}{lo hi:Option AV}{lv hv:Option Value}{h l top:Nat}(og:wE σ lo lv)(eU:wE σ hi hv)(hb:Yz hi len top=some h)(lb:Yz lo 0 h=some l)
  (aei:top<=cap)(hl:len<=cap):(Instr.sliceBounds isSlice len cap lv hv none).run P w=.ok (l,h,cap) w/\l<=h/\h<=cap:=by
 rcases Um eU hb with⟨rfl,rfl,rfl⟩|⟨k,i,rfl,h0,h1,rfl,h2,k',rfl⟩
 ·rcases Um og lb with⟨rfl,rfl,rfl⟩|⟨kl,j,rfl,g0,g1,rfl,g2,kl',rfl⟩
  ·simp[Instr.sliceBounds,hl]
  ·simp[Instr.sliceBounds,Instr.sliceBound,asIntOf,g0,g1,hl,g2]
 ·have h3:i<=(cap:Int):=by omega
  have h4:i.toNat<=cap:=by omega
  have h5:(i.toNat:Int)=i:=Int.toNat_of_nonneg h0;rcases Um og lb with⟨rfl,rfl,rfl⟩|⟨kl,j,rfl,g0,g1,rfl,g2,kl',rfl⟩
  ·simp[Instr.sliceBounds,Instr.sliceBound,asIntOf,h0,h3]
  ·rw[h5] at g1;have g3:j.toNat<=i.toNat:=by omega
   simp only[Instr.sliceBounds,Instr.sliceBound,asIntOf,Sem.run_bind,Sem.run_pure,Result.andThen_ok,h0,h3,g0,g1,h5,and_self,if_true];exact⟨trivial,g3,h4⟩
theorem extract_toList (bs:ByteArray)(l h:Nat):(bs.extract l h).data.toList=(bs.data.toList.take h).drop l:=by
 rw[ByteArray.data_extract,Array.toList_extract,List.extract_eq_take_drop,List.take_drop];by_cases hlh:l<=h
 ·rw[show l+(h-l)=h from by omega]
 ·rw[show h-l=0 from by omega];simp only[Nat.add_zero];rw[List.drop_eq_nil_of_le,List.drop_eq_nil_of_le]
  ·rw[amr];omega
  ·rw[amr];omega
theorem DL {α β:Type}(f:α->List β)(n:Nat):∀(l:List α),(∀u∈l,(f u).length=n)->∀k,(l.take k).flatMap f=(l.flatMap f).take (k*n)
 |[],_,k=>by simp
 |x::l,hl,0=>by simp
 |x::l,hl,k+1=>by
  have hx:=hl x (aba ..);rw[List.take_succ_cons,al7,al7,DL f n l (fun u hu=>hl u (aab _ hu)) k,List.take_append,hx,
   show (k+1)*n-n=k*n by rw[amx];omega,List.take_of_length_le (l:=f x) (by rw[hx,amx];omega)]
theorem DK {α β:Type}(f:α->List β)(n:Nat):∀(l:List α),(∀u∈l,(f u).length=n)->∀k,(l.drop k).flatMap f=(l.flatMap f).drop (k*n)
 |[],_,k=>by simp
 |x::l,hl,0=>by simp
 |x::l,hl,k+1=>by
  have hx:=hl x (aba ..);rw[List.drop_succ_cons,al7,DK f n l (fun u hu=>hl u (aab _ hu)) k,List.drop_append,hx,
   show (k+1)*n-n=k*n by rw[amx];omega,List.drop_eq_nil_of_le (as:=f x) (by rw[hx,amx];omega),amg]
theorem ZZ.take {σ:Sg}:∀{x:List AV} {l:List Value},ZZ σ x l->∀k,ZZ σ (x.take k) (l.take k)
 |[],l,h,k=>by simp only[ZZ] at h;simp[h,ZZ]
 |a::x,l,h,0=>by simp[ZZ]
 |a::x,l,h,k+1=>by
  simp only[ZZ] at h;obtain⟨v,y,rfl,h1,h2⟩:=h;simp only[List.take_succ_cons,ZZ];exact⟨v,y.take k,rfl,h1,h2.take k⟩
theorem ZZ.drop {σ:Sg}:∀{x:List AV} {l:List Value},ZZ σ x l->∀k,ZZ σ (x.drop k) (l.drop k)
 |[],l,h,k=>by simp only[ZZ] at h;simp[h,ZZ]
 |a::x,l,h,0=>by simpa using h
 |a::x,l,h,k+1=>by
  simp only[ZZ] at h;obtain⟨v,y,rfl,h1,h2⟩:=h
  simpa using h2.drop k
theorem qM {x:Option AV}{d y r:Nat}(h:Yz x d y=some r)(hd:d<=y:=by exact agB _):r<=y:=by
 unfold Yz at h
 split at h
 ·cases h;exact hd
 ·split at h
  ·cases h;omega
  ·cases h
 ·cases h
include hX
theorem wD {t:TypeId}{x r:AV}{v:Value}{lo hi mx:Option AV}{lv hv mv:Option Value}(hx:ZY σ x v)(og:wE σ lo lv)(eU:wE σ hi hv)(gk:wE σ mx mv)(h:Py X t x lo hi mx=some r) :
  UC P w σ (Instr.sliceAt t v lv hv mv) r:=by
 unfold Py at h
 split at h
 ·
  rename_i b hu;obtain⟨bs,rfl,rfl⟩:=XJ hx
  split at h
  ·rename_i h' hb
   split at h
   ·rename_i l hl
    cases h
    cases mv with
    |some _=>exact gk.elim
    |none =>
     have VY:bs.data.toList.length=bs.size:=by rw[alR];rfl
     rw[VY] at hb;obtain⟨e,e1,e2⟩:=RI (P:=P) (w:=w) (isSlice:=false) og eU hb hl (agB _) (agB _);refine⟨.string (bs.extract l h'),?_,?_⟩
     ·simp[Instr.sliceAt,Instr.slice,ZP (hX.Zd _ _ hu),e]
     ·simp only[ZY];exact⟨_,rfl,extract_toList _ _ _⟩
   ·cases h
  ·cases h
 ·
  rename_i el b o len cap VH hu;obtain⟨a,c,rfl,hlen,⟨p,hp,ha,rq⟩,TN⟩:=Tw hx;have aei:cap.getD len<=c:=by
   cases cap with
   |none=>exact hlen
   |some k=>exact Nat.le_of_eq (TN k rfl).symm
  have bd:∀(n l m:Nat),l<=m->m<=c->(if VH=n then n else 0)≠0->p.sh+(o+l*n)+(m-l)*(if VH=n then n else 0)<=p.n:=by
   intro n l m qZ qI hz
   split at hz
   ·rename_i hez;subst hez;have h1:=rq hz;rw[if_pos rfl];have h2:l*VH+(m-l)*VH=m*VH:=by rw[<-amx];congr 1;omega
    have h3:m*VH<=c*VH:=amt _ qI;omega
   ·exact absurd rfl hz
  split at h
  ·
   rename_i n hs
   cases mv with
   |some _=>exact gk.elim
   |none =>
    split at h
    ·rename_i h' hb
     split at h
     ·rename_i l hl
      cases h
      obtain⟨e,e1,e2⟩:=RI (P:=P) (w:=w) (isSlice:=true) og eU hb hl aei hlen;refine⟨.slice (if c=l then some a else some (a.add (l*n))) (h'-l) (c-l),?_,?_⟩
      ·simp[Instr.sliceAt,Instr.slice,ZP (hX.Zd _ _ hu),e,YS hX hs]
      ·simp only[ZY];refine⟨if c=l then a else a.add (l*n),c-l,?_,by omega,⟨p,hp,?_,?_⟩,?_⟩
       ·split <;> rfl
       ·intro ZC;rw[if_neg (by omega),ha (by omega),XG,akc]
       ·exact bd n l c (by omega) (agB _)
       ·intro k hk
        cases cap with
        |none=>cases hk
        |some q=>have:=TN q rfl;simp at hk;omega
     ·cases h
    ·cases h
  ·
   rename_i n m hs
   cases mv with
   |none=>exact gk.elim
   |some mv =>
    split at h
    ·rename_i m' MW hm
     split at h
     ·rename_i h' hb
      split at h
      ·rename_i l hl
       cases h
       rcases Um (x:=some m) (xv:=some mv) gk hm with⟨e,_,_⟩|⟨km,im,e1,m0,m1,rfl,m2,_,_⟩
       ·cases e
       cases e1
       rcases Um eU hb with⟨e,_,_⟩|⟨kh,ih,rfl,h0,h1,rfl,h2,_,_⟩
       ·cases e
       have em:(im.toNat:Int)=im:=Int.toNat_of_nonneg m0;have eh:(ih.toNat:Int)=ih:=Int.toNat_of_nonneg h0;have Be:im<=(c:Int):=by omega
       have hr:∃l',(Instr.sliceBounds true len c lv (some (.int kh ih)) (some (.int km im))).run P w=.ok (l',ih.toNat,im.toNat) w/\l'=l/\l<=ih.toNat:=by
        rcases Um og hl with⟨rfl,rfl,rfl⟩|⟨kl,j,rfl,g0,g1,rfl,g2,kl',rfl⟩
        ·exact⟨0,by simp only[Instr.sliceBounds,Instr.sliceBound,asIntOf,Sem.run_bind,Sem.run_pure,Result.andThen_ok,m0,Be,h0,h1,and_self,if_true],rfl,aic _⟩
        ·exact⟨j.toNat,by simp only[Instr.sliceBounds,Instr.sliceBound,asIntOf,Sem.run_bind,Sem.run_pure,Result.andThen_ok,m0,Be,h0,h1,g0,g1,and_self,if_true],rfl,g2⟩
       obtain⟨l',e,rfl,hle⟩:=hr;refine⟨.slice (if im.toNat=l' then some a else some (a.add (l'*n))) (ih.toNat-l') (im.toNat-l'),?_,?_⟩
       ·simp[Instr.sliceAt,Instr.slice,ZP (hX.Zd _ _ hu),e,YS hX hs]
       ·simp only[ZY];refine⟨if im.toNat=l' then a else a.add (l'*n),im.toNat-l',?_,by omega,⟨p,hp,?_,?_⟩,?_⟩
        ·split <;> rfl
        ·intro ZC;rw[if_neg (by omega),ha (by omega),XG,akc]
        ·exact bd n l' im.toNat (by omega) (by omega)
        ·intro k hk
         cases hk;rfl
      ·cases h
     ·cases h
    ·cases h
  ·cases h
 ·
  rename_i el hu;have NI:=hx;simp only[ZY] at NI;subst NI
  split at h
  ·rename_i n h' hs hb
   split at h
   ·rename_i l hl
    cases h
    cases mv with
    |some _=>exact gk.elim
    |none =>
     obtain⟨e,e1,e2⟩:=RI (P:=P) (w:=w) (isSlice:=true) (len:=0) (cap:=0) og eU hb hl (agB _) (agB _);refine⟨.slice none 0 0,?_,by simp[ZY]⟩;have e3:h'=0:=by omega
     subst e3;simp[Instr.sliceAt,Instr.slice,ZP (hX.Zd _ _ hu),e,YS hX hs]
   ·cases h
  ·cases h
 ·
  rename_i el es hu;obtain⟨a,c,us,rfl,ng,SO,M_⟩:=Nz hx
  split at h
  ·rename_i n h' hs hb
   split at h
   ·rename_i l hl
    split at h
    ·rename_i Xa
     cases h
     cases mv with
     |some _=>exact gk.elim
     |none =>
      obtain⟨e,e1,e2⟩:=RI (P:=P) (w:=w) (isSlice:=true) og eU hb hl ng ng;have hle:h'<=es.length:=qM hb;have EK:=SO.length;have VY:∀u∈us,u.cells.size=n:=by
       intro u A8;obtain⟨i,hi⟩:=List.getElem?_of_mem A8;have Yh:i<es.length:=by rw[EK];exact (alQ.1 hi).1
       obtain⟨u',h1,h2⟩:=SO.get i _ (aaa Yh);rw[hi] at h1;cases h1;have:=(Wp h2).length;have h3:=alK.1 Xa _ (adm Yh);simp at h3 this;omega
      refine⟨.slice (if c=l then some a else some (a.add (l*n))) (h'-l) (c-l),?_,?_⟩
      ·simp[Instr.sliceAt,Instr.slice,ZP (hX.Zd _ _ hu),e,YS hX hs]
      ·simp only[ZY];refine⟨if c=l then a else a.add (l*n),c-l,(us.take h').drop l,?_,?_,?_,?_⟩
       ·have:((es.take h').drop l).length=h'-l:=by rw[List.length_drop,amr];omega
        rw[this]
        split <;> rfl
       ·rw[List.length_drop,amr];omega
       ·exact (SO.take h').drop l
       ·rcases M_ with rfl|⟨Kf,cc,ee,fz,m,g1,g2,g3,g4⟩
        ·exact .inl (by simp)
        ·by_cases tQ:c=l
         ·left
          rw[List.drop_eq_nil_of_le];rw[amr];omega
         ·right
          rw[if_neg tQ];by_cases hem:us=[]
          ·subst hem;obtain⟨ab,ao,asp⟩:=a;simp only at Kf g1;subst Kf;rw[XG];exact⟨rfl,cc,ee,fz,m,g1,g2,by simp,by simp⟩
          ·obtain⟨u,A8⟩:=List.exists_mem_of_ne_nil us hem;have tS:m=n:=by rw[<-g3 u A8,VY u A8]
           subst tS;obtain⟨ab,ao,asp⟩:=a;simp only at Kf g1 g4;subst Kf;rw[XG];refine⟨rfl,cc,ee,fz,m,g1,g2,fun u hu=>g3 u (List.mem_of_mem_take (List.mem_of_mem_drop hu)),fun i v hv=>?_⟩;show cc[ao+l*m+i]? = some v;rw[akc];refine g4 _ _ ?_;have h1:=DL (fun u:Value=>u.cells.toList) m us (fun u hu=>by simpa using g3 u hu) h';have h2:=DK (fun u:Value=>u.cells.toList) m (us.take h') (fun u hu=>by simpa using g3 u (List.mem_of_mem_take hu)) l;rw[h2,h1,List.getElem?_drop,List.getElem?_take] at hv
           split at hv
           ·exact hv
           ·cases hv
    ·cases h
   ·cases h
  ·cases h
 ·
  rename_i n el b o hu;obtain⟨p,hp,rfl⟩:=Xf hx
  split at h
  ·rename_i z h' hs hb
   split at h
   ·rename_i l hl
    cases h
    cases mv with
    |some _=>exact gk.elim
    |none =>
     obtain⟨e,e1,e2⟩:=RI (P:=P) (w:=w) (isSlice:=false) (len:=n) (cap:=n) og eU hb hl (agB _) (agB _);refine⟨.slice (some (if n=l then ⟨p.b,p.sh+o,none⟩ else (⟨p.b,p.sh+o,none⟩:Addr).add (l*z))) (h'-l) (n-l),?_,?_⟩
     ·simp[Instr.sliceAt,Instr.sureAddr,ZP (hX.Zd _ _ hu),e,YS hX hs]
     ·simp only[ZY];refine⟨_,n-l,rfl,by omega,⟨p,hp,?_,?_⟩,?_⟩
      ·intro ZC;rw[if_neg (by omega),XG,akc]
      ·intro hz;exact absurd rfl hz
      ·intro k hk;cases hk;rfl
   ·cases h
  ·cases h
 ·cases h
end
end Go.Am
namespace Go.Am
open Go
section
variable [Stat] {X:Cx}{P:Program}(hX:VI X P){w:World}{σ:Sg}
theorem tq (off:Nat):∀(l:List Value) (k:Nat) (cells:Array Value),
  ((l.zipIdx k).foldl (fun cs (p:Value×Nat)=>cs.setIfInBounds (off+p.2) p.1) cells).size=cells.size /\
  (off+k+l.length<=cells.size->∀i,((l.zipIdx k).foldl (fun cs (p:Value×Nat)=>cs.setIfInBounds (off+p.2) p.1) cells)[i]? = if off+k<=i/\i<off+k+l.length then l[i-(off+k)]? else cells[i]?)
 |[],k,cells=>⟨rfl,fun _ i=>by rw[if_neg (by simp)];rfl⟩
 |v::l,k,cells=>by
  obtain⟨h1,h2⟩:=tq off l (k+1) (cells.setIfInBounds (off+k) v);rw[List.zipIdx_cons,List.foldl_cons];refine⟨by rw[h1];simp,fun VY i=>?_⟩;have Yh:off+k<cells.size:=by simp at VY;omega
  rw[h2 (by simp at VY ⊢;omega) i];by_cases hi:off+(k+1)<=i/\i<off+(k+1)+l.length
  ·rw[if_pos hi,if_pos (by simp;omega)];rw[show i-(off+k)=(i-(off+(k+1)))+1 from by omega];simp
  ·rw[if_neg hi];by_cases he:i=off+k
   ·subst he;rw[if_pos (by simp),Nat.sub_self];simp[Yh]
   ·rw[if_neg (by simp;omega)];rw[Array.getElem?_setIfInBounds_ne (by omega)]
theorem ED (off:Nat)(vs cells:Array Value):vs.zipIdx.foldl (fun cs (p:Value×Nat)=>cs.setIfInBounds (off+p.2) p.1) cells=(vs.toList.zipIdx 0).foldl (fun cs (p:Value×Nat)=>cs.setIfInBounds (off+p.2) p.1) cells:=by
 rw[<-Array.foldl_toList,Array.toList_zipIdx]
theorem qS {off:Nat}{xs cells c:List AV}{vs cs:Array Value}(h:lay off xs cells=some c)(hx:ZZ σ xs vs.toList)(hc:ZZ σ cells cs.toList)(hle:off+xs.length<=cells.length) :
  ZZ σ c (vs.zipIdx.foldl (fun cs (p:Value×Nat)=>cs.setIfInBounds (off+p.2) p.1) cs).toList/\(vs.zipIdx.foldl (fun cs (p:Value×Nat)=>cs.setIfInBounds (off+p.2) p.1) cs).size=cs.size:=by
 obtain⟨h1,_,h3⟩:=Lw h;obtain⟨o1,o2⟩:=tq off vs.toList 0 cs;have gg:=hx.length;have tQ:=hc.length;rw[ED];have hlen:c.length=cs.size:=by rw[h1,tQ];simp
 have hvl:vs.toList.length=vs.size:=alR;have alm:cs.toList.length=cs.size:=alR;have o2:=o2 (by omega);generalize (vs.toList.zipIdx 0).foldl (fun cs (p:Value×Nat)=>cs.setIfInBounds (off+p.2) p.1) cs=R at o1 o2 ⊢;refine⟨?_,o1⟩;apply ZZ.Ci
 ·have:R.toList.length=R.size:=alR;omega
 ·intro i hi MW;have e1:=h3 i;have e2:=o2 i;rw[aaa hi] at e1;have ahZ:i<R.size:=by rw[<-alR];exact MW
  rw[al8 ahZ] at e2;simp only[Nat.add_zero] at e2;have e3:R.toList[i]=R[i]:=by simp
  rw[e3];by_cases hr:off<=i/\i<off+xs.length
  ·rw[if_pos hr] at e1;rw[if_pos (by omega)] at e2;obtain⟨u,GJ,OC⟩:=ZZ.get hx _ _ e1.symm;rw[GJ] at e2;rw[Option.some.inj e2];exact OC
  ·rw[if_neg hr] at e1;rw[if_neg (by omega)] at e2;obtain⟨u,GJ,OC⟩:=ZZ.get hc _ _ e1.symm;rw[al1] at GJ;rw[GJ] at e2;rw[Option.some.inj e2];exact OC
theorem Le {place pl:Nat->Option (Nat×Nat)}(hp:∀i x,pl i=some x->place i=some x):∀{parts:List (Nat×AV)} {ps:List (Nat×Value)} {cells c:List AV} {cs:Array Value},
  Ld pl cells parts=some c->T9 σ parts ps->ZZ σ cells cs.toList->∃c',Instr.fill place cs ps=some c'/\ZZ σ c c'.toList/\c'.size=cs.size
 |[],ps,cells,c,cs,h,hq,hc=>by
  simp only[T9] at hq;subst hq;simp only[Ld] at h;cases h;exact⟨cs,rfl,hc,rfl⟩
 |(i,a)::parts,ps,cells,c,cs,h,hq,hc=>by
  simp only[T9] at hq;obtain⟨v,y,rfl,hv,hy⟩:=hq;simp only[Ld] at h
  split at h
  ·cases h
  ·rename_i off n Mw
   split at h
   ·rename_i hn
    split at h
    ·rename_i c1 OE;have hvc:=Wp hv;have Af:=hvc.length;have B_:=hc.length;obtain⟨g1,g2⟩:=qS OE hvc hc (by omega);obtain⟨c',e1,e2,e3⟩:=Le hp h hy g1;refine⟨c',?_,e2,by rw[e3,g2]⟩;simp only[Instr.fill,hp _ _ Mw];rw[if_neg]
     ·exact e1
     ·simp only[alR] at Af B_;simp only[ne_eq,amE,not_or,decide_eq_true_eq,Decidable.not_not,Nat.not_lt];omega
    ·cases h
   ·cases h
theorem GI (hX:VI X P):∀{fs:List Field} {pl:List (Nat×Nat)},NF X fs=some pl->(fs.mapM fun f=>do pure (f.offset,<-sizeOf f.type):Sem (List (Nat×Nat))).run P w=.ok pl w
 |[],pl,h=>by simp only[NF] at h;cases h;rfl
 |f::fs,pl,h=>by
  simp only[NF] at h
  split at h
  ·rename_i n r hs hr
   cases h
   simp only[List.mapM_cons,Sem.run_bind,YS hX hs,Result.andThen_ok,Sem.run_pure,GI hX hr]
  ·cases h
theorem OB {α β:Type}(f:α->Sem β)(l:Array α)(r:List β)(h:(l.toList.mapM f).run P w=.ok r w):(l.mapM f).run P w=.ok r.toArray w:=by
 rw[Array.mapM_eq_mapM_toList];simp only[Sem.run_map,h,Result.andThen_ok]
theorem OI (hX:VI X P){t:TypeId}{z:AV}(h:zero X t=some z):∃zv,(zeroValue t).run P w=.ok zv w/\ZY σ z zv:=by
 unfold zero at h
 split at h
 ·rename_i i hi
  split at h
  ·rename_i zv hz;exact⟨zv,Ax (hX.inf _ _ hi) hz,tL σ _ _ _ h⟩
  ·cases h
 ·cases h
include hX
theorem wQ {t:TypeId}{parts:List (Nat×AV)}{ps:Array (Nat×Value)}{r:AV}(hq:T9 σ parts ps.toList)(h:GH X t parts=some r):UC P w σ (Instr.build t ps) r:=by
 unfold GH at h
 split at h
 ·rename_i z hz;obtain⟨zv,tV,eI⟩:=OI (w:=w) (σ:=σ) hX hz;obtain⟨zc,rfl,ak⟩:=Wv eI
  split at h
  ·rename_i fs hu
   split at h
   ·rename_i pl Mw
    split at h
    ·rename_i c hc
     cases h
     obtain⟨c',e1,e2,_⟩:=Le (place:=fun i=>pl.toArray[i]?) (fun i x hx=>by simpa using hx) hc hq ak;refine⟨.agg c',?_,by simp only[ZY];exact⟨_,rfl,e2⟩⟩;have hm:=OB (P:=P) (w:=w) (fun f:Field=>do pure (f.offset,<-sizeOf f.type)) fs pl (GI hX Mw);simp only[Instr.build,Sem.run_bind,tV,Result.andThen_ok,ZP (hX.Zd _ _ hu),hm,Value.cells,e1,Sem.run_pure]
    ·cases h
   ·cases h
  ·rename_i n e hu
   split at h
   ·rename_i n hs
    split at h
    ·rename_i c hc
     cases h
     obtain⟨c',e1,e2,_⟩:=Le (place:=fun i=>some (i*n,n)) (fun i x hx=>hx) hc hq ak;refine⟨.agg c',?_,by simp only[ZY];exact⟨_,rfl,e2⟩⟩;simp only[Instr.build,Sem.run_bind,tV,Result.andThen_ok,ZP (hX.Zd _ _ hu),YS hX hs,Value.cells,e1,Sem.run_pure]
    ·cases h
   ·cases h
  ·cases h
 ·cases h
theorem Lc {t:TypeId}{x:AV}{v:Value}{d:TypeDesc}(hx:ZY σ x v)(hu:X.Zd t=some d)(hd:∀ms,d≠.interface ms):UC P w σ (Instr.makeInterface t v) (.iface t x):=by
 refine⟨.iface t v,?_,by simp only[ZY];exact⟨_,rfl,hx⟩⟩;simp only[Instr.makeInterface,Sem.run_bind,ZP (hX.Zd _ _ hu),Result.andThen_ok]
 cases d <;> first|rfl|exact absurd rfl (hd _)
theorem qR {src dst:TypeId}{x r:AV}{v:Value}{s s':St}(hx:ZY σ x v)(h:RP X src dst x s=some (r,s'))
  (hc1:¬∃e,X.Zd src=some (.slice e)/\X.Zd dst=some .string)(xJ:¬∃e l,X.Zd dst=some (.slice e)/\x=.str l):s'=s/\UC P w σ (convert src dst v) r:=by
 unfold RP at h
 split at h
 ·rename_i d1 k k' n h1 h2
  cases h
  refine⟨rfl,.int k (k.wrap n),?_,by simp[ZY]⟩;rw[Zf hx];simp[convert,ZP (hX.Zd _ _ h1),ZP (hX.Zd _ _ h2),Conv.intToInt]
 ·rename_i d1 k' n h1 h2
  cases h
  refine⟨rfl,.string (Utf8.encode n),?_,by simp only[ZY];exact⟨_,rfl,rfl⟩⟩;rw[Zf hx];simp[convert,ZP (hX.Zd _ _ h1),ZP (hX.Zd _ _ h2),Conv.intToString]
 ·rename_i d1 b h1 h2
  cases h
  obtain⟨bs,rfl,rfl⟩:=XJ hx;refine⟨rfl,.string bs,?_,by simp only[ZY];exact⟨_,rfl,rfl⟩⟩;simp[convert,ZP (hX.Zd _ _ h1),ZP (hX.Zd _ _ h2)]
 ·rename_i d1 e b _ h1 h2;exact absurd ⟨_,_,h2,rfl⟩ xJ
 ·rename_i e h1 h2 _ _;exact absurd ⟨_,h1,h2⟩ hc1
 ·cases h
end
end Go.Am
namespace Go.Am
open Go
section
variable [Stat]
variable {X:Cx}{P:Program}{w:World}{σ:Sg}{s:St}
theorem FQ {b:Nat}{c:List AV}(h:s.cells b=some c):∃e ro lo hi,s.look b=some (.cells c e ro lo hi)/\s.get b=some (.cells c e ro lo hi):=by
 unfold St.cells at h
 split at h
 ·rename_i c' e ro lo hi hg
  cases h
  exact⟨e,ro,lo,hi,by rw[St.X4 hg (by simp)],hg⟩
 ·cases h
theorem HR.cells (H:HR σ s w){b:Nat}{p:Pl}{c:List AV}{e:TypeId}{ro:Bool}{lo hi:Nat}(hp:σ b=some p)(hc:s.look b=some (.cells c e ro lo hi)) :
  ∃cc fz,w.heap[p.b]? = some (.cells cc e fz)/\cc.size=p.n/\p.sh+c.length<=p.n/\(∀j a,c[j]? = some a->∃v,cc[p.sh+j]? = some v/\ZY σ a v) /\
   (ro=false->∀j,fz.1<=p.sh+j->p.sh+j<fz.2->p.sh+j<p.n->lo<=j/\j<hi):=by
 obtain⟨o,ho,hb⟩:=H.E1 b p _ hp hc
 cases o <;> simp only[BR] at hb
 obtain⟨h1,h2,h3,h4,h5,_⟩:=hb;subst h3;exact⟨_,_,ho,h1,h2,h4,h5⟩
theorem HR.spec (H:HR σ s w){b:Nat}{p:Pl}{c:List AV}{e:TypeId}{ro:Bool}{lo hi:Nat}(hp:σ b=some p)(hc:s.look b=some (.cells c e ro lo hi))(he:Stat.spec e=true):p.sh=0/\p.n=c.length:=by
 obtain⟨o,ho,hb⟩:=H.E1 b p _ hp hc
 cases o <;> simp only[BR] at hb
 obtain⟨_,_,_,_,_,h6⟩:=hb;exact h6 he
theorem XT {b o:Nat}{cc:Array Value}{e:TypeId}{fz:Nat×Nat}(h:w.heap[b]? = some (.cells cc e fz)):w.cell? ⟨b,o,none⟩=cc[o]? := by
 simp[World.cell?,h]
theorem HR.cell (H:HR σ s w){b:Nat}{p:Pl}{c:List AV}(hp:σ b=some p)(hc:s.cells b=some c){o:Nat}{a:AV}(ha:c[o]? = some a) :
  ∃v,w.cell? ⟨p.b,p.sh+o,none⟩=some v/\ZY σ a v:=by
 obtain⟨e,ro,lo,hi,hl,_⟩:=FQ hc;obtain⟨cc,fz,h1,_,_,h4,_⟩:=H.cells hp hl;obtain⟨v,hv,hr⟩:=h4 o a ha;exact⟨v,by rw[XT h1];exact hv,hr⟩
theorem HR.row (H:HR σ s w){b:Nat}{p:Pl}{c:List AV}(hp:σ b=some p)(hc:s.cells b=some c):∀(r:List AV) (o:Nat),(∀i a,r[i]? = some a->c[o+i]? = some a) ->
  ∃vs:List Value,ZZ σ r vs/\∀i v,vs[i]? = some v->w.cell? ⟨p.b,p.sh+o+i,none⟩=some v
 |[],o,_=>⟨[],by simp[ZZ],by simp⟩
 |a::r,o,h=>by
  obtain⟨v,hv,hr⟩:=H.cell hp hc (h 0 a (by simp));obtain⟨vs,h1,h2⟩:=HR.row H hp hc r (o+1) (fun i x hx=>by rw[show o+1+i=o+(i+1) from by omega];exact h (i+1) x (by simpa using hx));refine⟨v::vs,by simp only[ZZ];exact⟨v,vs,rfl,hr,h1⟩,fun i u hu=>?_⟩
  cases i with
  |zero=>simp at hu;subst hu;simpa using hv
  |succ i =>
   have:=h2 i u (by simpa using hu);rw[show p.sh+o+(i+1)=p.sh+(o+1)+i from by omega];exact this
theorem cell_of_heap {w w':World}(h:w'.heap=w.heap)(a:Addr):w'.cell? a=w.cell? a:=by
 simp only[World.cell?,h]
theorem QN (H:HR σ s w){b:Nat}{p:Pl}{c r:List AV}{n o:Nat}(hp:σ b=some p)(hc:s.cells b=some c)(hg:XA n o c=some r) :
  ∃vs:List Value,(∀w',w'.heap=w.heap->(loadCells ⟨p.b,p.sh+o,none⟩ n).run P w'=.ok vs.toArray w')/\ZZ σ r vs:=by
 obtain⟨vs,h1,h2⟩:=H.row hp hc r o (fun i a ha=>Qw hg ha);refine⟨vs,fun w' hw=>?_,h1⟩;have:=run_loadCells_list (P:=P) w' ⟨p.b,p.sh+o,none⟩ vs (fun j v hv=>by rw[XG,cell_of_heap hw];exact h2 j v hv)
 rwa [<-h1.length,(WV hg).1] at this
theorem ZZ.sub {σ:Sg}:∀{r c:List AV} {us:List Value} {o:Nat},ZZ σ c us->(∀i a,r[i]? = some a->c[o+i]? = some a)->∃vs,ZZ σ r vs/\∀i v,vs[i]? = some v->us[o+i]? = some v
 |[],_,us,o,_,_=>⟨[],by simp[ZZ],by simp⟩
 |a::r,c,us,o,h,k=>by
  obtain⟨v,hv,hr⟩:=h.get (o+0) a (k 0 a (by simp));obtain⟨vs,h1,h2⟩:=ZZ.sub (r:=r) (o:=o+1) h (fun i x hx=>by rw[show o+1+i=o+(i+1) from by omega];exact k (i+1) x (by simpa using hx));refine⟨v::vs,by simp only[ZZ];exact⟨v,vs,rfl,hr,h1⟩,fun i u hu=>?_⟩
  cases i with
  |zero=>simp at hu;subst hu;exact hv
  |succ i=>rw[show o+(i+1)=o+1+i from by omega];exact h2 i u (by simpa using hu)
theorem uM (H:HR σ s w){b base o n:Nat}{us:List Value}{cs r:List AV}{cc:Array Value}{e:TypeId}{fz:Nat×Nat}(hz:σ.fz b=some (.cells cc e fz))(hr:ZZ σ.bare cs us)(hc:∀i u,us[i]? = some u->cc[base+i]? = some u)
  (hg:XA n o cs=some r):∃vs:List Value,(∀w',w'.heap=w.heap->(loadCells ⟨b,base+o,none⟩ n).run P w'=.ok vs.toArray w')/\ZZ σ r vs:=by
 obtain⟨vs,h1,h2⟩:=hr.sub (fun i a ha=>Qw hg ha);refine⟨vs,fun w' hw=>?_,ZZ.mono (Sg.T7 σ) _ _ h1⟩;have:=run_loadCells_list (P:=P) w' ⟨b,base+o,none⟩ vs (fun j v hv=>by
  rw[XG,cell_of_heap hw,XT (H.fz _ _ hz).1,akc];exact hc _ _ (h2 j v hv))
 rwa [<-h1.length,(WV hg).1] at this
theorem Dd (hX:VI X P)(H:HR σ s w){t:TypeId}{x r:AV}{u:Value}(hx:ZY σ x u)(h:Vc X t x s=some r):UC P w σ (Instr.loadAt t u) r:=by
 unfold Vc at h
 split at h
 ·rename_i b o;obtain⟨p,hp,rfl⟩:=Xf hx
  split at h
  ·rename_i Lm
   split at h
   ·rename_i n c hs hc
    split at h
    ·rename_i r' hg
     cases h
     obtain⟨vs,h1,h2⟩:=QN (P:=P) H hp hc hg;refine⟨.agg vs.toArray,?_,by simp only[ZY];exact⟨_,rfl,h2⟩⟩;simp only[Instr.loadAt,Instr.sureAddr,loadVar,Sem.run_bind,Sem.run_pure,Result.andThen_ok,TG hX Lm,if_true,YS hX hs,h1 w rfl]
    ·cases h
   ·cases h
  ·rename_i Lm;unfold cell at h
   split at h
   ·rename_i c hc;obtain⟨v,hv,hr⟩:=H.cell hp hc h;refine⟨v,?_,hr⟩;simp only[Instr.loadAt,Instr.sureAddr,loadVar,Sem.run_bind,Sem.run_pure,Result.andThen_ok,TG hX Lm,ali,if_false,run_load,hv]
   ·cases h
  ·cases h
 ·rename_i c o;obtain⟨b,base,us,cc,e,fz,rfl,hz,hr,fF⟩:=KH hx
  split at h
  ·rename_i Lm
   split at h
   ·rename_i n hs
    split at h
    ·rename_i r' hg
     cases h
     obtain⟨vs,h1,h2⟩:=uM (P:=P) H hz hr fF hg;refine⟨.agg vs.toArray,?_,by simp only[ZY];exact⟨_,rfl,h2⟩⟩;simp only[Instr.loadAt,Instr.sureAddr,loadVar,Sem.run_bind,Sem.run_pure,Result.andThen_ok,TG hX Lm,if_true,YS hX hs,h1 w rfl]
    ·cases h
   ·cases h
  ·rename_i Lm;obtain⟨v,hv,SO⟩:=hr.get _ _ h;refine⟨v,?_,ZY.mono (Sg.T7 σ) _ _ SO⟩;have Oa:w.cell? ⟨b,base+o,none⟩=some v:=by rw[XT (H.fz _ _ hz).1];exact fF _ _ hv
   simp only[Instr.loadAt,Instr.sureAddr,loadVar,Sem.run_bind,Sem.run_pure,Result.andThen_ok,TG hX Lm,ali,if_false,run_load,Oa]
  ·cases h
 ·cases h
theorem P8 {a:AV}{v:Value}(h:ZY σ a v)(hn:Zz a=true):v.oneCell'=true:=by
 obtain⟨_,h1,h2⟩:=RW h hn
 cases v <;> first|rfl|exact absurd rfl (h1 _)|exact absurd rfl (h2 _)
theorem Rq {b:Nat}{e:TypeId}{fz:Nat×Nat}:∀(us:List Value) (off i:Nat) (w:World) (cc:Array Value),w.heap[b]? = some (.cells cc e fz)->(∀v∈us,v.oneCell'=true)->off+i+us.length<=cc.size ->
  (∀j,off+i<=j->j<off+i+us.length->¬(fz.1<=j/\j<fz.2)) ->
  ∃w' ai,(storeCells ⟨b,off,none⟩ us i).run P w=.ok () w'/\w'.heap.size=w.heap.size/\(∀c,c≠b->w'.heap[c]? = w.heap[c]?)/\w'.heap[b]? = some (.cells ai e fz)/\ai.size=cc.size /\
   (∀j,ai[j]? = if off+i<=j/\j<off+i+us.length then us[j-(off+i)]? else cc[j]?)/\w'.os=w.os/\w'.tape=w.tape/\w'.output=w.output
 |[],off,i,w,cc,hb,_,_,_=>⟨w,cc,rfl,rfl,fun _ _=>rfl,hb,rfl,fun j=>by rw[if_neg (by simp)],rfl,rfl,rfl⟩
 |u::us,off,i,w,cc,hb,hv,VY,Rk=>by
  have Yh:off+i<cc.size:=by simp at VY;omega
  have Oa:w.cell? ⟨b,off+i,none⟩=some cc[off+i]:=by rw[XT hb];simp[Yh]
  have PX:w.frozen? ⟨b,off+i,none⟩=false:=by
   have:=Rk (off+i) (agB _) (by simp);obtain⟨OM,PF⟩:=fz;simp only[World.frozen?,hb];simp only at this;rw[Bool.eq_false_iff];intro hh;simp only[agw,decide_eq_true_eq] at hh;exact this hh
  have als:b<w.heap.size:=(agz.1 hb).1;have QR:(w.setCell ⟨b,off+i,none⟩ u).heap[b]? = some (.cells (cc.setIfInBounds (off+i) u) e fz):=by
   simp[World.setCell,Array.getElem?_modify,hb]
  obtain⟨w',ai,h1,h2,h3,h4,h5,h6,h7,h8,h9⟩:=Rq us off (i+1) (w.setCell ⟨b,off+i,none⟩ u) (cc.setIfInBounds (off+i) u) QR (fun v hm=>hv v (aab _ hm)) (by simp at VY ⊢;omega)
   (fun j hj wJ=>Rk j (by omega) (by simp;omega))
  refine⟨w',ai,?_,by rw[h2];simp,?_,h4,by rw[h5];simp,?_,h7,h8,h9⟩
  ·simp only[storeCells,Sem.run_bind,XG];rw[run_store P w _ u .plain (hv u (aba ..))];simp only[Oa,PX,ali,if_false,Result.andThen_ok];exact h1
  ·intro c hc;rw[h3 c hc];simp only[World.setCell,Array.getElem?_modify];rw[if_neg (fun h=>hc h.symm)]
  ·intro j;rw[h6 j];by_cases hj:off+(i+1)<=j/\j<off+(i+1)+us.length
   ·rw[if_pos hj,if_pos (by simp;omega)];rw[show j-(off+i)=(j-(off+(i+1)))+1 from by omega];simp
   ·rw[if_neg hj];by_cases he:j=off+i
    ·subst he;rw[if_pos (by simp),Nat.sub_self];simp[Yh]
    ·rw[if_neg (by simp;omega)];rw[Array.getElem?_setIfInBounds_ne (by omega)]
theorem Rv (H:HR σ s w){b o:Nat}{p:Pl}{xs:List AV}{us:List Value}{s':St}(hp:σ b=some p)(hx:ZZ σ xs us)(h:Xi s b o xs=some s') :
  ∃w',(storeCells ⟨p.b,p.sh+o,none⟩ us).run P w=.ok () w'/\Good σ s w σ s' w':=by
 unfold Xi at h
 split at h
 ·rename_i c e OM PF hg
  split at h
  ·rename_i Q5;simp only[agw,amE,decide_eq_true_eq,alK] at Q5;obtain⟨jf,uL⟩:=Q5
   split at h
   ·rename_i c' OE
    cases h
    have hl:s.look b=some (.cells c e false OM PF):=St.X4 hg (by simp);obtain⟨cc,fz,h1,h2,h3,h4,h5⟩:=H.cells hp hl;obtain⟨g1,g2,g3⟩:=Lw OE;have hlen:=hx.length;have hb:o+xs.length<=c.length\/us=[]:=by
     by_cases hn:xs=[]
     ·subst hn;simp only[ZZ] at hx;exact .inr hx
     ·exact .inl (g2 hn)
    rcases hb with hb|rfl
    case inr =>
     have:xs=[]:=by cases xs with|nil=>rfl|cons a l=>simp at hlen
     subst this;have e1:c=c':=by cases o <;> simp[lay] at OE <;> exact OE
     subst e1;refine⟨w,rfl,?_⟩;exact Good.put H hp hl rfl (by simp) rfl (fun _ _=>rfl) h1 ⟨h2,h3,rfl,h4,h5,H.spec hp hl⟩ rfl rfl rfl
    case inl =>
    have je:∀v∈us,v.oneCell'=true:=by
     intro v hv;obtain⟨i,hi,rfl⟩:=alP.1 hv;have hix:i<xs.length:=by omega
     obtain⟨v',Pd,Mv⟩:=ZZ.get hx i xs[i] (aaa hix);rw[aaa hi] at Pd;cases Pd;exact P8 Mv (uL _ (adm hix))
    obtain⟨w',ai,k1,k2,k3,k4,k5,k6,k7,k8,k9⟩:=Rq (P:=P) (b:=p.b) (e:=e) (fz:=fz) us (p.sh+o) 0 w cc h1 je (by rw[h2];omega)
     (fun j hj wJ hf=>by
      obtain⟨q1,q2⟩:=h5 rfl (j-p.sh) (by rw[show p.sh+(j-p.sh)=j from by omega];exact hf.1) (by rw[show p.sh+(j-p.sh)=j from by omega];exact hf.2) (by omega);rcases jf with jf|jf <;> omega)
    refine⟨w',k1,?_⟩;refine Good.put H hp hl rfl (by simp) k2 k3 k4 ⟨by rw[k5,h2],by rw[g1];exact h3,rfl,?_,?_,by rw[g1];exact H.spec hp hl⟩ k7 k8 k9
    ·intro j a ha;rw[g3 j] at ha;rw[k6];simp only[Nat.add_zero];by_cases hj:o<=j/\j<o+xs.length
     ·rw[if_pos hj] at ha;rw[if_pos (by omega)];obtain⟨v,Pd,Mv⟩:=ZZ.get hx _ _ ha;refine⟨v,?_,Mv⟩;rw[show p.sh+j-(p.sh+o)=j-o from by omega];exact Pd
     ·rw[if_neg hj] at ha;rw[if_neg (by omega)];exact h4 j a ha
    ·exact h5
   ·cases h
  ·cases h
 ·cases h
theorem uK (hX:VI X P)(H:HR σ s w){t:TypeId}{x y:AV}{u v:Value}{s':St}(hx:ZY σ x u)(hy:ZY σ y v)(h:Md X t x y s=some s') :
  ∃w',(Instr.storeAt t u v).run P w=.ok () w'/\Good σ s w σ s' w':=by
 unfold Md at h
 split at h
 ·rename_i b o;obtain⟨p,hp,rfl⟩:=Xf hx
  split at h
  ·rename_i n hs
   split at h
   ·rename_i hn;have hc:=Wp hy;obtain⟨w',h1,h2⟩:=Rv (P:=P) H hp hc h;refine⟨w',?_,h2⟩;have hl:=hc.length;have VY:v.cells.size=n:=by rw[<-alR];omega
    simp only[Instr.storeAt,Instr.sureAddr,storeVar,Sem.run_bind,Sem.run_pure,Result.andThen_ok,YS hX hs,VY,ne_eq,not_true_eq_false,if_false];exact h1
   ·cases h
  ·cases h
 ·cases h
end
end Go.Am
namespace Go.Am
open Go
variable [Stat]
def M6 (P:Program)(σ:Sg)(s:St)(w:World)(m:Sem Value)(a:AV)(s':St):Prop:=∃Yx v w',m.run P w=.ok v w'/\ZY Yx a v/\Good σ s w Yx s' w'
theorem UC.o {P:Program}{σ:Sg}{s:St}{w:World}{m:Sem Value}{a:AV}(h:UC P w σ m a)(H:HR σ s w):M6 P σ s w m a s:=by
 obtain⟨v,h1,h2⟩:=h;exact⟨σ,v,w,h1,h2,Good.refl H⟩
section
variable {X:Cx}{P:Program}{w:World}{σ:Sg}{s:St}
theorem ZZ.size {x:List AV}{a:Array Value}(h:ZZ σ x a.toList):x.length=a.size:=by
 have h1:=h.length;have h2:a.toList.length=a.size:=alR;omega
theorem MO (H:HR σ s w)(hf:σ s.next=none){c:List AV}{vs:Array Value}(e:TypeId)(fz:Nat×Nat)(Rk:fz=(0,0)\/vs.size<=fz.1)(hle:c.length<=vs.size)(hc:∀(j:Nat) (a:AV),c[j]? = some a->∃v,vs[j]? = some v/\ZY σ a v)(Kf:Stat.spec e=true->vs.size=c.length) :
  Good σ s w (σ.add s.next ⟨w.heap.size,0,vs.size⟩) (s.new (.cells c e false 0 0)) (w.alloc (.cells vs e fz)):=by
 refine Good.new H hf _ (by simp) _ _ ⟨rfl,by simpa using hle,rfl,?_,?_,fun h=>⟨rfl,Kf h⟩⟩
 ·intro j a ha;obtain⟨v,hv,hr⟩:=hc j a ha;exact⟨v,by simpa using hv,ZY.mono (Sg.Mn hf) _ _ hr⟩
 ·intro _ j h1 h2 h3;rcases Rk with rfl|Rk
  ·simp at h2
  ·dsimp only at h1 h2 h3;omega
theorem Rz (H:HR σ s w)(hf:σ s.next=none){c:List AV}{vs:Array Value}(e:TypeId)(hc:ZZ σ c vs.toList) :
  Good σ s w (σ.add s.next ⟨w.heap.size,0,vs.size⟩) (s.new (.cells c e false 0 0)) (w.alloc (.cells vs e)):=by
 have hl:=hc.size;refine MO H hf e (0,0) (.inl rfl) (by omega) (fun j a ha=>?_) (fun _=>by omega);obtain⟨v,hv,hr⟩:=hc.get j a ha;exact⟨v,by rw[al1] at hv;exact hv,hr⟩
theorem Gk (H:HR σ s w)(hf:σ s.next=none){c:List AV}{vs:Array Value}(e:TypeId)(hc:ZZ σ c vs.toList) :
  M6 P σ s w (do pure (.pointer (some (<-newRow e vs)))) (.ptr s.next 0) (s.new (.cells c e false 0 0)):=by
 refine⟨_,.pointer (some ⟨w.heap.size,0,none⟩),w.alloc (.cells vs e),?_,?_,Rz H hf e hc⟩
 ·simp only[newRow,Sem.run_bind,run_newObj,Result.andThen_ok,Sem.run_pure,World.alloc_eq]
 ·simp only[ZY];exact⟨_,Sg.Yr _ _ _,by simp⟩
theorem Ry:∀(k:Nat) (l:List AV),(UW k l).length=k*l.length
 |0,l=>by simp[UW]
 |k+1,l=>by simp[UW,Ry k l,amx];omega
theorem IX:∀(k:Nat) (l:List AV) (i:Nat),i<k*l.length->(UW k l)[i]? = l[i%l.length]?
 |0,l,i,h=>by simp at h
 |k+1,l,i,h=>by
  simp only[UW];by_cases hi:i<l.length
  ·rw[al0 hi,Nat.mod_eq_of_lt hi]
  ·rw[amI (by omega),IX k l (i-l.length) (by rw[amx] at h;omega)]
   congr 1
   rw[<-Nat.mod_eq_sub_mod (by omega)]
theorem IW {zc:List AV}{zs:Array Value}(h:ZZ σ zc zs.toList)(hz:zs.size≠0)(k:Nat):ZZ σ (UW k zc) ((Array.range (k*zs.size)).map (fun i=>zs[i%zs.size]!)).toList:=by
 have hl:=h.size;apply ZZ.Ci
 ·rw[Ry,hl];simp
 ·intro i hi MW;have hk:i<k*zc.length:=by rw[Ry] at hi;exact hi
  have e:=IX k zc i hk;rw[aaa hi] at e;obtain⟨v,hv,hr⟩:=h.get _ _ e.symm;have e2:((Array.range (k*zs.size)).map (fun i=>zs[i%zs.size]!)).toList[i]=v:=by
   rw[al1] at hv;rw[hl] at hv;simp[getElem!_def,hv]
  rw[e2];exact hr
theorem qu (hX:VI X P)(H:HR σ s w)(hf:σ s.next=none){t:TypeId}{z:AV}(h:zero X t=some z):M6 P σ s w (Instr.alloc t true (.tuple #[])) (Vt s z.cells t).1 (Vt s z.cells t).2:=by
 obtain⟨zv,h1,h2⟩:=OI (w:=w) (σ:=σ) hX h;obtain⟨Yx,v,w',g1,g2,g3⟩:=Gk (P:=P) H hf t (Wp h2);exact⟨Yx,v,w',by simp only[Instr.alloc,Sem.run_bind,h1,Result.andThen_ok,newVar];simpa using g1,g2,g3⟩
theorem dY (H:HR σ s w)(hf:σ s.next=none){t:TypeId}{x:AV}{u:Value}(hx:ZY σ x u):M6 P σ s w (Instr.box t u) (Vt s x.cells t).1 (Vt s x.cells t).2:=by
 obtain⟨Yx,v,w',g1,g2,g3⟩:=Gk (P:=P) H hf t (Wp hx);exact⟨Yx,v,w',by simp only[Instr.box,newVar];exact g1,g2,g3⟩
theorem KZ {b n len cap VH:Nat}{sz:Nat}(hn:len<=cap)(hz:cap*VH<=sz):ZY (σ.add b ⟨n,0,sz⟩) (.sl b 0 len (some cap) VH) (.slice (some ⟨n,0,none⟩) len cap):=by
 simp only[ZY];exact⟨_,_,rfl,hn,⟨_,Sg.Yr _ _ _,fun _=>by simp,fun _=>by simpa using hz⟩,fun k hk=>by cases hk;rfl⟩
theorem Im (hX:VI X P)(H:HR σ s w)(hf:σ s.next=none){t:TypeId}{len:Nat}{parts:List (Nat×AV)}{ps:Array (Nat×Value)}{r:AV}{s':St}(hq:T9 σ parts ps.toList)(h:Ul X t len parts s=some (r,s')) :
  M6 P σ s w (Instr.buildSlice t len ps) r s':=by
 unfold Ul at h
 split at h
 ·rename_i elem hu
  split at h
  ·rename_i n z hs hz
   split at h
   ·rename_i Q5;obtain⟨hzl,EO,Gj⟩:=Q5
    split at h
    ·rename_i c hc
     cases h
     obtain⟨zv,h1,h2⟩:=OI (w:=w) (σ:=σ) hX hz;have ak:=Wp h2;have fL:zv.cells.size=n:=by have:=ak.size;omega
     have aby:=IW ak (by omega) len;obtain⟨c',e1,e2,e3⟩:=Le (place:=fun i=>some (i*n,n)) (fun i x hx=>hx) hc hq aby;have VY:c'.size=len*n:=by rw[e3,fL];simp
     refine⟨_,.slice (some ⟨w.heap.size,0,none⟩) len len,w.alloc (.cells c' elem),?_,KZ (agB _) (by omega),Rz H hf elem e2⟩;have aB:¬(len*n>2^24):=by omega
     simp only[Instr.buildSlice,Sem.run_bind,ZP (hX.Zd _ _ hu),Result.andThen_ok,YS hX hs,aB,if_false];by_cases h0:len*n=0
     ·rw[fL,h0] at e1;simp only[h0,if_true,Sem.run_bind,Sem.run_pure,Result.andThen_ok];have:(Array.range 0).map (fun i=>(#[]:Array Value)[i%(#[]:Array Value).size]!)=(Array.range 0).map (fun i=>zv.cells[i%n]!):=by simp
      rw[this,e1];simp only[newRow,Sem.run_bind,run_newObj,Result.andThen_ok,Sem.run_pure,World.alloc_eq]
     ·rw[fL] at e1;simp only[h0,if_false,Sem.run_bind,Sem.run_pure,Result.andThen_ok,h1,fL,e1,newRow,run_newObj,World.alloc_eq]
    ·cases h
   ·cases h
  ·cases h
 ·cases h
theorem Oh (f:Nat->Value):(Array.range 0).map f=#[]:=by
 have:Array.range 0=#[]:=by rw[Array.range_zero']
 rw[this];simp
theorem Eu (hX:VI X P)(H:HR σ s w)(hf:σ s.next=none){t elem:TypeId}{l c:Int}{kl kc:IntKind}{i:TypeInfo}{z:AV}(hu:X.Zd t=some (.slice elem))(hi:X.inf elem=some i)(hz:zero X elem=some z)
  (hc:0<=l/\l<=c/\c*i.bytes<=2^47/\c<2^47/\z.cells.length=i.size/\i.size≠0) :
  M6 P σ s w (Instr.makeSlice t (.int kl l) (.int kc c)) (.sl s.next 0 l.toNat (some c.toNat) i.size) (s.new (.cells (UW c.toNat z.cells) elem false 0 0)):=by
 obtain⟨h0,h1,h2,h3,h4,h5⟩:=hc;obtain⟨zv,g1,g2⟩:=OI (w:=w) (σ:=σ) hX hz;have ak:=Wp g2;have fL:zv.cells.size=i.size:=by have:=ak.size;omega
 have aby:=IW ak (by omega) c.toNat;have sR:X.inf elem=some i->size X elem=some i.size:=fun h=>by simp[size,h]
 have wl:IntKind.i64.wrap l=l:=by rw[IntKind.wrap_i64];omega
 have wc:IntKind.i64.wrap c=c:=by rw[IntKind.wrap_i64];omega
 refine⟨_,.slice (some ⟨w.heap.size,0,none⟩) l.toNat c.toNat,w.alloc (.cells ((Array.range (c.toNat*zv.cells.size)).map (fun i=>zv.cells[i%zv.cells.size]!)) elem),?_,KZ (by omega) (by simp[fL]),Rz H hf elem aby⟩;have big:((i.bytes:Int)*c>2^48)=False:=by
  rw[eq_iff_iff,iff_false];rw[Int.mul_comm];omega
 simp only[Instr.makeSlice,Sem.run_bind,ZP (hX.Zd _ _ hu),Result.andThen_ok,asInt,asIntOf,Sem.run_pure,HY (hX.inf _ _ hi),wl,wc,big,run_askRoom,YS hX (sR hi)];have n1:¬(c<0):=by omega
 have n2:¬(l<0):=by omega
 have n3:¬(l>c):=by omega
 simp only[n1,n2,n3,decide_false,Bool.or_false,ali,if_false,Sem.run_pure,Result.andThen_ok,run_askRoom,newRow,Sem.run_bind,run_newObj,World.alloc_eq,YS hX (sR hi)];by_cases h0:c.toNat*i.size=0
 ·simp only[h0,if_true,Sem.run_bind,Sem.run_pure,Result.andThen_ok,run_newObj,World.alloc_eq,fL];rw[Oh,Oh]
 ·simp only[h0,if_false,Sem.run_bind,Sem.run_pure,Result.andThen_ok,g1,run_newObj,World.alloc_eq,fL]
theorem IV (H:HR σ s w)(hf:σ s.next=none){t:TypeId}:M6 P σ s w (Instr.makeMap t none) (.map s.next) (s.new (.map [] false)):=by
 refine⟨_,.map (some w.heap.size),w.alloc (.map #[] 0),rfl,?_,Good.new H hf (.map [] false) (by simp) _ 0 (by simp[BR,ZQ])⟩;simp only[ZY];exact⟨_,Sg.Yr _ _ _,rfl⟩
theorem BS (hX:VI X P)(H:HR σ s w)(hf:σ s.next=none){t k e:TypeId}{kn:IntKind}{n:Int}(hu:X.Zd t=some (.map k e)):M6 P σ s w (Instr.makeMap t (some (.int kn n))) (.map s.next) (s.new (.map [] false)):=by
 obtain⟨Yx,v,w',g1,g2,g3⟩:=IV (P:=P) H hf (t:=t);refine⟨Yx,v,w',?_,g2,g3⟩;rw[<-g1];simp[Instr.makeMap,ZP (hX.Zd _ _ hu),asInt,asIntOf]
end
end Go.Am
namespace Go.Am
open Go
section
variable [Stat]
variable {X:Cx}{P:Program}{w:World}{σ:Sg}{s:St}
theorem Ut {r:Nat}{o:Obj}(h:w.heap[r]? = some o)(hc:∀c e f,o≠.cells c e f):(getObj r).run P w=.ok o w:=by
 cases o <;> first|(exact absurd rfl (hc _ _ _))|simp[getObj,Sem.run,h]
theorem Mj {r:Nat}{o o':Obj}(h:w.heap[r]? = some o)(hc:∀c e f,o≠.cells c e f):(setObj r o').run P w=.ok () { w with heap:=w.heap.setIfInBounds r o' }:=by
 cases o <;> first|(exact absurd rfl (hc _ _ _))|simp[setObj,Sem.run,h]
theorem T6 {a:AV}{l:List AV}(h:VG (a::l)=true):(∃n,a=.int .i64 n)/\VG l=true:=by
 cases a <;> try (simp only[VG] at h;cases h;done)
 rename_i k n
 cases k <;> simp only[VG] at h <;> first|exact⟨⟨n,rfl⟩,h⟩|(cases h;done)
theorem Q':∀{l:List AV},VG l=true->∀(i:Nat) (a:AV),l[i]? = some a->∃n,a=AV.int .i64 n
 |[],_,i,a,h=>by simp at h
 |x::l,h,i,a,e=>by
  obtain⟨h1,h2⟩:=T6 h
  cases i with
  |zero=>simp at e;rw[<-e];exact h1
  |succ i=>exact Q' h2 i a (by simpa using e)
theorem wU {t:TypeId}{cs:Array Value}{off:Nat}{v:Value}(hu:P.underlying t=some (.int .i64))(hv:cs[off]? = some v):(part t cs off).run P w=.ok v w:=by
 simp[part,isAgg,ZP hu,hv]
theorem Tx {b:Bool}{d:Nat}{t:TypeId}{v:Value}{td:TypeDesc}(hu:P.underlying t=some td)(h1:∀m,td≠.interface m)(h2:∀n e,td≠.array n e)(h3:∀f,td≠.struct f):(Instr.checkKey b (d+1) t v).run P w=.ok () w:=by
 rw[Instr.checkKey];simp only[Sem.run_bind,ZP hu,Result.andThen_ok]
 cases td <;> first|rfl|(exact absurd rfl (h1 _))|(exact absurd rfl (h2 _ _))|(exact absurd rfl (h3 _))
theorem PC (hX:VI X P){b:Bool}{t:TypeId}{k:AV}{kv:Value}(hk:ZY σ k kv)(h:Uq X t k=true):(Instr.checkKey b 10000 t kv).run P w=.ok () w:=by
 show (Instr.checkKey b (9999+1) t kv).run P w=.ok () w;unfold Uq at h
 split at h
 ·rename_i hu;exact Tx (hX.Zd _ _ hu) (by simp) (by simp) (by simp)
 ·rename_i hu;exact Tx (hX.Zd _ _ hu) (by simp) (by simp) (by simp)
 ·rename_i hu;exact Tx (hX.Zd _ _ hu) (by simp) (by simp) (by simp)
 ·rename_i len e cs hu;simp only[agw,beq_iff_eq] at h;obtain⟨⟨h1,h2⟩,h3⟩:=h
  split at h3
  ·rename_i he hs;obtain⟨vs,rfl,SI⟩:=Wv hk;have VY:=SI.size;rw[Instr.checkKey];simp only[Sem.run_bind,ZP (hX.Zd _ _ hu),Result.andThen_ok];rw[Std.Legacy.Range.forIn_eq_forIn_range'];simp only[Std.Legacy.Range.size,Nat.sub_zero,Nat.add_sub_cancel,Nat.div_one];have key:∀(l:List Nat),(∀i∈l,i<len)->∀f:Nat->PUnit->Sem (ForInStep PUnit),(∀i,i<len->(f i PUnit.unit).run P w=.ok (ForInStep.yield PUnit.unit) w)->(forIn l PUnit.unit f).run P w=.ok PUnit.unit w:=by
    intro l hl f hf
    induction l with
    |nil=>rfl
    |cons i l ih =>
     simp only[List.forIn_cons,Sem.run_bind,hf i (hl i (by simp)),Result.andThen_ok];exact ih (fun j hj=>hl j (by simp[hj]))
   rw[key (List.range' 0 len) (by intro i hi;simp at hi;omega) _ (by
    intro i hi;have hic:i<cs.length:=by omega
    obtain⟨v,hv,hr⟩:=SI.get i cs[i] (aaa hic);rw[al1] at hv;obtain⟨n,hn⟩:=Q' h1 i cs[i] (aaa hic);rw[hn] at hr;have:=Zf hr;subst this;simp only[Sem.run_bind,YS hX hs,Result.andThen_ok,ah1,wU (hX.Zd _ _ he) hv];rw[Tx (d:=9998) (hX.Zd _ _ he) (by simp) (by simp) (by simp)];rfl)]
   rfl
  ·cases h3
 ·cases h
theorem An:∀{a b:List AV},VU a b=true->VG a=true->VG b=true->a=b
 |[],[],_,_,_=>rfl
 |[],_::_,h,_,_=>by simp[VU] at h
 |_::_,[],h,_,_=>by simp[VU] at h
 |x::a,y::b,h,h1,h2=>by
  obtain⟨⟨n,rfl⟩,h1⟩:=T6 h1;obtain⟨⟨m,rfl⟩,h2⟩:=T6 h2;simp only[VU,same,decide_true,al9,agw,beq_iff_eq] at h;rw[h.1,An h.2 h1 h2]
theorem Ln {d:Nat}{e:TypeId}(hu:X.Zd e=some (.int .i64)):∀(k i:Nat) (a b:List AV),VG a=true->VG b=true->a.length=i+k->b.length=i+k ->
  PH (Au X (d+1) e) (fun o l=>Q_ X e l o) 1 k i a b=some (VU (a.drop i) (b.drop i))
 |0,i,a,b,_,_,h1,h2=>by
  simp only[PH];rw[List.drop_eq_nil_of_le (by omega),List.drop_eq_nil_of_le (by omega)];simp[VU]
 |k+1,i,a,b,ha,hb,h1,h2=>by
  have hi:i<a.length:=by omega
  have hj:i<b.length:=by omega
  obtain⟨n,hn⟩:=Q' ha i a[i] (aaa hi);obtain⟨m,hm⟩:=Q' hb i b[i] (aaa hj);have Lm:YC X e=some false:=by simp[YC,hu]
  have e1:Q_ X e a (i*1)=some (.int .i64 n):=by
   simp only[Q_,Lm,ah1];rw[aaa hi,hn]
  have e2:Q_ X e b (i*1)=some (.int .i64 m):=by
   simp only[Q_,Lm,ah1];rw[aaa hj,hm]
  have e3:Au X (d+1) e (.int .i64 n) (.int .i64 m)=some (n==m):=by simp[Au,hu]
  simp only[PH,e1,e2,e3];rw[abc hi,abc hj,hn,hm];have ih:=Ln hu (d:=d) k (i+1) a b ha hb (by omega) (by omega)
  cases EV:(n==m)
  ·simp[VU,same,EV]
  ·simp only[ih,VU,same,EV,decide_true,al9]
theorem DT (hX:VI X P){t:TypeId}{len:Nat}{e:TypeId}{a b:List AV}{u v:Value}{r:Bool}(hu:X.Zd t=some (.array len e))(ha:ZY σ (.agg a) u)(hb:ZY σ (.agg b) v)(hk:Uq X t (.agg a)=true)(h:VQ (.agg a) (.agg b)=some r) :
  (Op.equal t u v).run P w=.ok r w:=by
 simp only[Uq,hu,agw,beq_iff_eq] at hk;obtain⟨⟨h1,h2⟩,h3⟩:=hk
 split at h3
 ·rename_i he hs;simp only[VQ,agw,beq_iff_eq] at h
  split at h
  ·rename_i hc
   cases h
   have:Au X 3 t (.agg a) (.agg b)=some (VU a b):=by
    have:=Ln (X:=X) (d:=1) he len 0 a b h1 hc.1.2 (by omega) (by omega);simp only[amd] at this;unfold Au;rw[hu];simp only[hs];exact this
   exact HW hX 3 t _ _ _ this u v ha hb 10000 (by omega) w
  ·cases h
 ·cases h3
def GQ (σ:Sg):Option AV->Option (Nat×Value)->Prop
 |none,none=>True
 |some a,some (_,v)=>ZY σ a v
 |_,_=>False
theorem Q9 {k:AV}{kv:Value}{d:TypeDesc}(hk:ZY σ k kv)(hd:match d,k with|.int _,.int _ _=>True|.string,.str _=>True|.bool,.bool _=>True|_,_=>False) :
  ∀{es:List (AV×AV)} {VO:List MapEntry} {r:Option AV} (n:Nat),ZQ σ es VO->UM k es=some r->∃q,Instr.findNow d kv VO n=some q/\GQ σ r q
 |[],VO,r,n,he,h=>by
  simp only[ZQ] at he;subst he;simp only[UM] at h;cases h;exact⟨none,rfl,trivial⟩
 |(k',v)::es,VO,r,n,he,h=>by
  simp only[ZQ] at he;obtain⟨m,y,rfl,h1,h2,h3⟩:=he;simp only[UM] at h;have key:∀b,VQ k k'=some b->Instr.sameNow d kv m.key=some b:=by
   intro b hb
   cases k <;> try (simp only[VQ] at hb;cases hb;done)
   all_goals (cases d <;> try (exact hd.elim))
   all_goals (cases k' <;> simp only[VQ] at hb <;> try (cases hb;done))
   ·cases hb
    rw[WU hk,WU h1];rfl
   ·rename_i k1 n1 _ k2 n2
    split at hb
    ·rename_i eJ;subst eJ
     cases hb
     rw[Zf hk,Zf h1];simp[Instr.sameNow]
    ·cases hb
   ·cases hb
    obtain⟨p,e1,e2⟩:=XJ hk;obtain⟨q,e3,e4⟩:=XJ h1;rw[e1,e3,<-e2,<-e4];simp only[Instr.sameNow,bytes_beq]
  split at h
  ·rename_i hb
   cases h
   exact⟨some (n,m.val),by simp[Instr.findNow,key _ hb],h2⟩
  ·rename_i hb;obtain⟨q,h4,h5⟩:=Q9 hk hd (n+1) h3 h;exact⟨q,by simp only[Instr.findNow,key _ hb];exact h4,h5⟩
  ·cases h
theorem OJ (hX:VI X P){t:TypeId}{len:Nat}{e:TypeId}{a:List AV}{kv:Value}(hu:X.Zd t=some (.array len e))(hk:ZY σ (.agg a) kv)(X5:Uq X t (.agg a)=true) :
  ∀{es:List (AV×AV)} {VO:List MapEntry} {r:Option AV} (n:Nat),ZQ σ es VO->UM (.agg a) es=some r->∃q,(Instr.findAsking t kv VO n).run P w=.ok q w/\GQ σ r q
 |[],VO,r,n,he,h=>by
  simp only[ZQ] at he;subst he;simp only[UM] at h;cases h;exact⟨none,rfl,trivial⟩
 |(k',v)::es,VO,r,n,he,h=>by
  simp only[ZQ] at he;obtain⟨m,y,rfl,h1,h2,h3⟩:=he;simp only[UM] at h;have key:∀b,VQ (.agg a) k'=some b->(Op.equal t kv m.key).run P w=.ok b w:=by
   intro b hb
   cases k' <;> try (simp only[VQ] at hb;cases hb;done)
   exact DT hX hu hk h1 X5 hb
  split at h
  ·rename_i hb
   cases h
   exact⟨some (n,m.val),by simp[Instr.findAsking,key _ hb],h2⟩
  ·rename_i hb;obtain⟨q,h4,h5⟩:=OJ hX hu hk X5 (n+1) h3 h;exact⟨q,by simp only[Instr.findAsking,Sem.run_bind,key _ hb,Result.andThen_ok,ali,if_false];exact h4,h5⟩
  ·cases h
theorem Al (hX:VI X P){t:TypeId}{k:AV}{kv:Value}(hk:ZY σ k kv)(X5:Uq X t k=true){es:List (AV×AV)}{VO:List MapEntry}{r:Option AV}(he:ZQ σ es VO)(h:UM k es=some r) :
  ∃q,(Instr.findKey t kv VO).run P w=.ok q w/\GQ σ r q:=by
 have aa':=X5;unfold Uq at X5
 split at X5
 ·rename_i kk k' n hu;obtain⟨q,h1,h2⟩:=Q9 (d:=.int kk) hk trivial 0 he h;exact⟨q,by simp only[Instr.findKey,Sem.run_bind,ZP (hX.Zd _ _ hu),Result.andThen_ok,h1,Sem.run_pure],h2⟩
 ·rename_i b hu;obtain⟨q,h1,h2⟩:=Q9 (d:=.string) hk trivial 0 he h;exact⟨q,by simp only[Instr.findKey,Sem.run_bind,ZP (hX.Zd _ _ hu),Result.andThen_ok,h1,Sem.run_pure],h2⟩
 ·rename_i b hu;obtain⟨q,h1,h2⟩:=Q9 (d:=.bool) hk trivial 0 he h;exact⟨q,by simp only[Instr.findKey,Sem.run_bind,ZP (hX.Zd _ _ hu),Result.andThen_ok,h1,Sem.run_pure],h2⟩
 ·rename_i len e cs hu;obtain⟨q,h1,h2⟩:=OJ (P:=P) (w:=w) hX hu hk aa' 0 he h;refine⟨q,?_,h2⟩;simp only[Instr.findKey,Sem.run_bind,ZP (hX.Zd _ _ hu),Result.andThen_ok];obtain⟨vs,rfl,_⟩:=Wv hk
  cases VO with
  |nil=>simp only[Instr.findNow,Sem.run_pure];simpa[Instr.findAsking] using h1
  |cons m y=>simp only[Instr.findNow,Instr.sameNow];exact h1
 ·cases X5
theorem HR.map (H:HR σ s w){r:Nat}{p:Pl}{es:List (AV×AV)}{ro:Bool}(hp:σ r=some p)(hg:s.get r=some (.map es ro)):∃VO clock,w.heap[p.b]? = some (.map VO clock)/\ZQ σ es VO.toList:=by
 obtain⟨o,ho,hb⟩:=H.E1 r p _ hp (St.X4 hg (by simp))
 cases o <;> simp only[BR] at hb
 exact⟨_,_,ho,hb⟩
theorem re {t key elem:TypeId}{kv:Value}{ok:Bool}{q:Option (Nat×Value)}{mv:Value}{VO:Array MapEntry}(hu:P.underlying t=some (.map key elem))
  (hm:(mv=.map none/\VO=#[])\/∃r clock,mv=.map (some r)/\w.heap[r]? = some (.map VO clock))
  (hck:∀b,(Instr.checkKey b 10000 key kv).run P w=.ok () w)(hf:(Instr.findKey key kv VO.toList).run P w=.ok q w) :
  (Instr.lookup t mv kv ok).run P w=match q with
   |some (_,v)=>.ok (if ok then .tuple #[v,.bool true] else v) w
   |none=>((zeroValue elem).run P w).andThen fun z w=>.ok (if ok then .tuple #[z,.bool false] else z) w:=by
 rcases hm with⟨rfl,rfl⟩|⟨r,clock,rfl,hr⟩
 ·simp only[Instr.lookup,Sem.run_bind,ZP hu,Result.andThen_ok,Sem.run_pure,hck,hf]
  cases q with
  |none=>simp only[Sem.run_bind,Sem.run_pure,Result.andThen_ok]
  |some q=>obtain⟨i,v⟩:=q;simp only[Sem.run_bind,Sem.run_pure,Result.andThen_ok]
 ·simp only[Instr.lookup,Sem.run_bind,ZP hu,Result.andThen_ok,Sem.run_pure,Ut hr (by simp),hck,hf]
  cases q with
  |none=>simp only[Sem.run_bind,Sem.run_pure,Result.andThen_ok]
  |some q=>obtain⟨i,v⟩:=q;simp only[Sem.run_bind,Sem.run_pure,Result.andThen_ok]
theorem Mi (hX:VI X P){t key elem:TypeId}{k:AV}{kv:Value}{ok:Bool}{mv:Value}{VO:Array MapEntry}{es:List (AV×AV)}{q0:Option AV}{r:AV}(hu:X.Zd t=some (.map key elem))(hk:ZY σ k kv)(X5:Uq X key k=true)
  (hm:(mv=.map none/\VO=#[])\/∃r clock,mv=.map (some r)/\w.heap[r]? = some (.map VO clock))
  (he:ZQ σ es VO.toList)(hf:UM k es=some q0)
  (hr:(match q0 with
   |some v=>some (if ok=true then AV.XU [v,.bool true] else v)
   |none=>match zero X elem with
    |some z=>some (if ok=true then AV.XU [z,.bool false] else z)
    |none=>none)=some r):UC P w σ (Instr.lookup t mv kv ok) r:=by
 obtain⟨q,h1,h2⟩:=Al (P:=P) (w:=w) hX hk X5 he hf;unfold UC;rw[re (hX.Zd _ _ hu) hm (fun b=>PC hX hk X5) h1]
 cases q0 with
 |some a =>
  cases q with
  |none=>exact h2.elim
  |some q =>
   obtain⟨i,v⟩:=q
   cases hr
   refine⟨if ok then .tuple #[v,.bool true] else v,rfl,?_⟩
   cases ok
   ·exact h2
   ·simp only[if_true,ZY];exact⟨_,rfl,by simp only[ZZ];exact⟨_,_,rfl,h2,_,_,rfl,by simp[ZY],rfl⟩⟩
 |none =>
  cases q with
  |some q=>exact h2.elim
  |none =>
   simp only at hr
   split at hr
   ·rename_i z hz
    cases hr
    obtain⟨zv,tV,eI⟩:=OI (w:=w) (σ:=σ) hX hz;refine⟨if ok then .tuple #[zv,.bool false] else zv,by simp only[tV,Result.andThen_ok],?_⟩
    cases ok
    ·exact eI
    ·simp only[if_true,ZY];exact⟨_,rfl,by simp only[ZZ];exact⟨_,_,rfl,eI,_,_,rfl,by simp[ZY],rfl⟩⟩
   ·cases hr
theorem tF {ks vs:List AV}{v:Value}(h:ZY σ (.fm ks vs) v):∃r VO clock,v=.map (some r)/\σ.fz r=some (.map VO clock)/\ZZ σ.bare ks (VO.toList.map MapEntry.key)/\ZZ σ.bare vs (VO.toList.map MapEntry.val):=by simpa only[ZY] using h
theorem Jc {σ:Sg}:∀{ks vs:List AV} {l:List MapEntry},ZZ σ ks (l.map MapEntry.key)->ZZ σ vs (l.map MapEntry.val)->ZQ σ (ks.zip vs) l
 |[],vs,l,h,k=>by
  simp only[ZZ,List.map_eq_nil_iff] at h;subst h;simp[ZQ]
 |a::ks,[],l,h,k=>by
  simp only[ZZ,List.map_eq_nil_iff] at k;subst k;simp[ZZ] at h
 |a::ks,b::vs,l,h,k=>by
  cases l with
  |nil=>simp[ZZ] at h
  |cons m l =>
   simp only[alT,ZZ] at h k;obtain⟨v,y,e,h1,h2⟩:=h;obtain⟨v',y',e',k1,k2⟩:=k
   cases e;cases e'
   simp only[List.zip_cons_cons,ZQ];exact⟨m,l,rfl,h1,k1,Jc h2 k2⟩
theorem Ak (hX:VI X P)(H:HR σ s w){t:TypeId}{m k r:AV}{mv kv:Value}{ok:Bool}(hm:ZY σ m mv)(hk:ZY σ k kv)(h:VK X t m k ok s=some r):UC P w σ (Instr.lookup t mv kv ok) r:=by
 unfold VK at h
 split at h
 ·rename_i key elem hu
  split at h
  ·rename_i X5
   cases m <;> simp only at h <;> try (cases h;done)
   ·
    simp only[ZY] at hm;subst hm;exact Mi hX hu hk X5 (.inl ⟨rfl,rfl⟩) (es:=[]) (q0:=none) (by simp[ZQ]) rfl h
   ·rename_i b;obtain⟨p,hp,rfl⟩:=OH hm
    cases hg:s.get b with
    |none=>rw[hg] at h;cases h
    |some E1 =>
     rw[hg] at h
     cases E1 <;> simp only at h <;> try (cases h;done)
     rename_i es ro
     cases hf:UM k es with
     |none=>rw[hf] at h;cases h
     |some q0 =>
      rw[hf] at h;obtain⟨VO,clock,g1,g2⟩:=H.map hp hg;refine Mi hX hu hk X5 (.inr ⟨p.b,clock,rfl,g1⟩) g2 hf ?_
      cases q0 <;> exact h
   ·rename_i ks vs;obtain⟨b,VO,clock,rfl,g1,g2,g3⟩:=tF hm
    cases hf:UM k (ks.zip vs) with
    |none=>rw[hf] at h;cases h
    |some q0 =>
     rw[hf] at h;refine Mi hX hu hk X5 (.inr ⟨b,clock,rfl,(H.fz _ _ g1).1⟩) ((Jc g2 g3).mono (Sg.T7 σ)) hf ?_
     cases q0 <;> exact h
  ·cases h
 ·cases h
end
end Go.Am
namespace Go.Am
open Go
section
variable [Stat]
variable {X:Cx}{P:Program}{w:World}{σ:Sg}{s:St}
def Mf (k:AV):List (AV×AV)->Option (Option Nat)
 |[]=>some none
 |(k',_)::es=>match VQ k k' with
  |some true=>some (some 0)
  |some false=>match Mf k es with
   |some (some i)=>some (some (i+1))
   |some none=>some none
   |none=>none
  |none=>none
theorem s_ {k v:AV}:∀{es ew:List (AV×AV)},Ir k v es=some ew->∃o,Mf k es=some o/\ew=(match o with|none=>es++[(k,v)]|some i=>es.set i (k,v))/\(∀i,o=some i->i<es.length)
 |[],ew,h=>by
  simp only[Ir] at h;cases h;exact⟨none,rfl,rfl,by simp⟩
 |(k',v')::es,ew,h=>by
  simp only[Ir] at h
  split at h
  ·rename_i hb
   cases h
   exact⟨some 0,by simp only[Mf,hb],rfl,by simp⟩
  ·rename_i hb
   split at h
   ·rename_i r hr
    cases h
    obtain⟨o,h1,h2,h3⟩:=s_ hr
    cases o with
    |none=>exact⟨none,by simp only[Mf,hb,h1],by simp[h2],by simp⟩
    |some i=>exact⟨some (i+1),by simp only[Mf,hb,h1],by simp[h2],fun j hj=>by cases hj;have:=h3 i rfl;simp;omega⟩
   ·cases h
  ·cases h
theorem RH {k:AV}{kv:Value}{d:TypeDesc}(hk:ZY σ k kv)(hd:match d,k with|.int _,.int _ _=>True|.string,.str _=>True|.bool,.bool _=>True|_,_=>False) :
  ∀{es:List (AV×AV)} {VO:List MapEntry} {o:Option Nat} (n:Nat),ZQ σ es VO->Mf k es=some o->∃q,Instr.findNow d kv VO n=some q/\(o=none->q=none)/\(∀i,o=some i->∃v,q=some (n+i,v))
 |[],VO,o,n,he,h=>by
  simp only[ZQ] at he;subst he;simp only[Mf] at h;cases h;exact⟨none,rfl,fun _=>rfl,by simp⟩
 |(k',v)::es,VO,o,n,he,h=>by
  simp only[ZQ] at he;obtain⟨m,y,rfl,h1,h2,h3⟩:=he;simp only[Mf] at h;have key:∀b,VQ k k'=some b->Instr.sameNow d kv m.key=some b:=by
   intro b hb
   cases k <;> try (simp only[VQ] at hb;cases hb;done)
   all_goals (cases d <;> try (exact hd.elim))
   all_goals (cases k' <;> simp only[VQ] at hb <;> try (cases hb;done))
   ·cases hb
    rw[WU hk,WU h1];rfl
   ·rename_i k1 n1 _ k2 n2
    split at hb
    ·rename_i eJ;subst eJ
     cases hb
     rw[Zf hk,Zf h1];simp[Instr.sameNow]
    ·cases hb
   ·cases hb
    obtain⟨p,e1,e2⟩:=XJ hk;obtain⟨q,e3,e4⟩:=XJ h1;rw[e1,e3,<-e2,<-e4];simp only[Instr.sameNow,bytes_beq]
  split at h
  ·rename_i hb
   cases h
   exact⟨some (n,m.val),by simp[Instr.findNow,key _ hb],by simp,fun i hi=>by cases hi;exact⟨_,rfl⟩⟩
  ·rename_i hb
   split at h
   ·rename_i i hi
    cases h
    obtain⟨q,h4,h5,h6⟩:=RH hk hd (n+1) h3 hi;refine⟨q,by simp only[Instr.findNow,key _ hb];exact h4,by simp,fun j hj=>?_⟩
    cases hj
    obtain⟨v,hv⟩:=h6 i rfl;exact⟨v,by rw[hv];congr 2;omega⟩
   ·rename_i hi
    cases h
    obtain⟨q,h4,h5,h6⟩:=RH hk hd (n+1) h3 hi;exact⟨q,by simp only[Instr.findNow,key _ hb];exact h4,fun _=>h5 rfl,by simp⟩
   ·cases h
  ·cases h
theorem QP (hX:VI X P){t:TypeId}{len:Nat}{e:TypeId}{a:List AV}{kv:Value}(hu:X.Zd t=some (.array len e))(hk:ZY σ (.agg a) kv)(X5:Uq X t (.agg a)=true) :
  ∀{es:List (AV×AV)} {VO:List MapEntry} {o:Option Nat} (n:Nat),ZQ σ es VO->Mf (.agg a) es=some o->∃q,(Instr.findAsking t kv VO n).run P w=.ok q w/\(o=none->q=none)/\(∀i,o=some i->∃v,q=some (n+i,v))
 |[],VO,o,n,he,h=>by
  simp only[ZQ] at he;subst he;simp only[Mf] at h;cases h;exact⟨none,rfl,fun _=>rfl,by simp⟩
 |(k',v)::es,VO,o,n,he,h=>by
  simp only[ZQ] at he;obtain⟨m,y,rfl,h1,h2,h3⟩:=he;simp only[Mf] at h;have key:∀b,VQ (.agg a) k'=some b->(Op.equal t kv m.key).run P w=.ok b w:=by
   intro b hb
   cases k' <;> try (simp only[VQ] at hb;cases hb;done)
   exact DT hX hu hk h1 X5 hb
  split at h
  ·rename_i hb
   cases h
   exact⟨some (n,m.val),by simp[Instr.findAsking,key _ hb],by simp,fun i hi=>by cases hi;exact⟨_,rfl⟩⟩
  ·rename_i hb
   split at h
   ·rename_i i hi
    cases h
    obtain⟨q,h4,h5,h6⟩:=QP hX hu hk X5 (n+1) h3 hi;refine⟨q,by simp only[Instr.findAsking,Sem.run_bind,key _ hb,Result.andThen_ok,ali,if_false];exact h4,by simp,fun j hj=>?_⟩
    cases hj
    obtain⟨v,hv⟩:=h6 i rfl;exact⟨v,by rw[hv];congr 2;omega⟩
   ·rename_i hi
    cases h
    obtain⟨q,h4,h5,h6⟩:=QP hX hu hk X5 (n+1) h3 hi;exact⟨q,by simp only[Instr.findAsking,Sem.run_bind,key _ hb,Result.andThen_ok,ali,if_false];exact h4,fun _=>h5 rfl,by simp⟩
   ·cases h
  ·cases h
theorem wB (hX:VI X P){t:TypeId}{k:AV}{kv:Value}(hk:ZY σ k kv)(X5:Uq X t k=true){es:List (AV×AV)}{VO:List MapEntry}{o:Option Nat}(he:ZQ σ es VO)(h:Mf k es=some o) :
  ∃q,(Instr.findKey t kv VO).run P w=.ok q w/\(o=none->q=none)/\(∀i,o=some i->∃v,q=some (i,v)):=by
 have aa':=X5;unfold Uq at X5
 split at X5
 ·rename_i kk k' n hu;obtain⟨q,h1,h2,h3⟩:=RH (d:=.int kk) hk trivial 0 he h;exact⟨q,by simp only[Instr.findKey,Sem.run_bind,ZP (hX.Zd _ _ hu),Result.andThen_ok,h1,Sem.run_pure],h2,by simpa using h3⟩
 ·rename_i b hu;obtain⟨q,h1,h2,h3⟩:=RH (d:=.string) hk trivial 0 he h;exact⟨q,by simp only[Instr.findKey,Sem.run_bind,ZP (hX.Zd _ _ hu),Result.andThen_ok,h1,Sem.run_pure],h2,by simpa using h3⟩
 ·rename_i b hu;obtain⟨q,h1,h2,h3⟩:=RH (d:=.bool) hk trivial 0 he h;exact⟨q,by simp only[Instr.findKey,Sem.run_bind,ZP (hX.Zd _ _ hu),Result.andThen_ok,h1,Sem.run_pure],h2,by simpa using h3⟩
 ·rename_i len e cs hu;obtain⟨q,h1,h2,h3⟩:=QP (P:=P) (w:=w) hX hu hk aa' 0 he h;refine⟨q,?_,h2,by simpa using h3⟩;simp only[Instr.findKey,Sem.run_bind,ZP (hX.Zd _ _ hu),Result.andThen_ok];obtain⟨vs,rfl,_⟩:=Wv hk
  cases VO with
  |nil=>simp only[Instr.findNow,Sem.run_pure];simpa[Instr.findAsking] using h1
  |cons m y=>simp only[Instr.findNow,Instr.sameNow];exact h1
 ·cases X5
theorem DE:∀{a:List AV} {u v:List Value},VG a=true->ZZ σ a u->ZZ σ a v->u=v
 |[],u,v,_,h1,h2=>by simp only[ZZ] at h1 h2;rw[h1,h2]
 |x::a,u,v,h,h1,h2=>by
  obtain⟨⟨n,rfl⟩,h'⟩:=T6 h;simp only[ZZ] at h1 h2;obtain⟨p,y,rfl,e1,e2⟩:=h1;obtain⟨q,z,rfl,e3,e4⟩:=h2;rw[Zf e1,Zf e3,DE h' e2 e4]
theorem RG:∀{a:List AV} {u:List Value},VG a=true->ZZ σ a u->(u.zip u).all (fun (x,y)=>Instr.sameBits 9999 x y)=true
 |[],u,_,h1=>by simp only[ZZ] at h1;subst h1;rfl
 |x::a,u,h,h1=>by
  obtain⟨⟨n,rfl⟩,h'⟩:=T6 h;simp only[ZZ] at h1;obtain⟨p,y,rfl,e1,e2⟩:=h1;rw[Zf e1];simp only[List.zip_cons_cons,List.all_cons,agw];refine⟨?_,RG h' e2⟩;show Instr.sameBits (9998+1) _ _=true;rw[Instr.sameBits];simp
theorem K7 {k k':AV}{kv mk:Value}(hk:ZY σ k kv)(hm:ZY σ k' mk)(h:VQ k k'=some true):Instr.sameBits 10000 mk kv=true:=by
 show Instr.sameBits (9999+1) mk kv=true
 cases k <;> try (simp only[VQ] at h;cases h;done)
 all_goals (cases k' <;> simp only[VQ] at h <;> try (cases h;done))
 ·rw[WU hk,WU hm,Instr.sameBits];simp at h;simp[h]
 ·split at h
  ·rename_i eJ;subst eJ;rw[Zf hk,Zf hm,Instr.sameBits];simp at h;simp[h]
  ·cases h
 ·obtain⟨p,e1,e2⟩:=XJ hk;obtain⟨q,e3,e4⟩:=XJ hm;rw[e1,e3,Instr.sameBits,bytes_beq];simp at h;simp[e2,e4,h]
 ·split at h
  ·rename_i hc;simp only[agw,beq_iff_eq] at hc;have e:=An (Option.some.inj h) hc.1.1 hc.1.2;subst e;obtain⟨us,rfl,MC⟩:=Wv hk;obtain⟨vs,rfl,SI⟩:=Wv hm;have e:=DE hc.1.1 MC SI;have e':us=vs:=by cases us;cases vs;simpa using e
   subst e';rw[Instr.sameBits];simp only[beq_self_eq_true,al9];exact RG hc.1.1 MC
  ·cases h
theorem zU {k:AV}:∀{es:List (AV×AV)} {i:Nat},Mf k es=some (some i)->∃k' v',es[i]? = some (k',v')/\VQ k k'=some true
 |[],i,h=>by simp only[Mf] at h;cases h
 |(k',v')::es,i,h=>by
  simp only[Mf] at h
  split at h
  ·rename_i hb;cases h;exact⟨k',v',rfl,hb⟩
  ·split at h
   ·rename_i j hj;cases h;obtain⟨a,b,h1,h2⟩:=zU hj;exact⟨a,b,by simpa using h1,h2⟩
   ·cases h
   ·cases h
  ·cases h
theorem Oq:∀{es:List (AV×AV)} {VO:List MapEntry},ZQ σ es VO->∀(i:Nat) (k v:AV),es[i]? = some (k,v)->∃m,VO[i]? = some m/\ZY σ k m.key/\ZY σ v m.val
 |[],VO,_,i,k,v,h=>by simp at h
 |(k',v')::es,VO,he,i,k,v,h=>by
  simp only[ZQ] at he;obtain⟨m,y,rfl,h1,h2,h3⟩:=he
  cases i with
  |zero=>simp at h;exact⟨m,rfl,h.1 ▸ h1,h.2 ▸ h2⟩
  |succ i=>simpa using Oq h3 i k v (by simpa using h)
theorem Oo {k v:AV}{kv vv:Value}(hk:ZY σ k kv)(hv:ZY σ v vv):∀{es:List (AV×AV)} {VO:List MapEntry} (i:Nat),ZQ σ es VO->ZQ σ (es.set i (k,v)) (VO.modify i fun e=>{ e with key:=kv,val:=vv })
 |[],VO,i,h=>by simp only[ZQ] at h;subst h;simp[ZQ]
 |(k',v')::es,VO,i,h=>by
  simp only[ZQ] at h;obtain⟨m,y,rfl,h1,h2,h3⟩:=h
  cases i with
  |zero=>simp only[List.set_cons_zero,List.modify_zero_cons,ZQ];exact⟨_,_,rfl,hk,hv,h3⟩
  |succ i=>simp only[List.set_cons_succ,List.modify_succ_cons,ZQ];exact⟨_,_,rfl,h1,h2,Oo hk hv i h3⟩
theorem Pc {k v:AV}{m:MapEntry}(hk:ZY σ k m.key)(hv:ZY σ v m.val):∀{es:List (AV×AV)} {VO:List MapEntry},ZQ σ es VO->ZQ σ (es++[(k,v)]) (VO++[m])
 |[],VO,h=>by simp only[ZQ] at h;subst h;simp only[amg,ZQ];exact⟨_,_,rfl,hk,hv,rfl⟩
 |(k',v')::es,VO,h=>by
  simp only[ZQ] at h;obtain⟨m',y,rfl,h1,h2,h3⟩:=h;simp only[alU,ZQ];exact⟨_,_,rfl,h1,h2,Pc hk hv h3⟩
theorem I_ (hX:VI X P)(H:HR σ s w){t:TypeId}{m k v:AV}{mv kv vv:Value}{s':St}(hm:ZY σ m mv)(hk:ZY σ k kv)(hv:ZY σ v vv)(h:UX X t m k v s=some s') :
  ∃w',(Instr.mapUpdate t mv kv vv).run P w=.ok () w'/\Good σ s w σ s' w':=by
 unfold UX at h
 split at h
 ·rename_i key elem b hu
  split at h
  ·rename_i X5
   split at h
   ·rename_i es hg
    split at h
    ·rename_i ew zT
     cases h
     obtain⟨p,hp,rfl⟩:=OH hm;obtain⟨VO,clock,g1,g2⟩:=H.map hp hg;obtain⟨o,h1,h2,h3⟩:=s_ zT;obtain⟨q,f1,f2,f3⟩:=wB (P:=P) (w:=w) hX hk X5 g2 h1;have Yh:p.b<w.heap.size:=H.lt _ _ hp;have hl:s.look b=some (.map es false):=St.X4 hg (by simp);have fin:∀(eu:Array MapEntry) (wA:Nat),ZQ σ ew eu.toList->Good σ s w σ (s.put b (.map ew false)) { w with heap:=w.heap.setIfInBounds p.b (.map eu wA) }:=by
      intro eu wA hr;refine Good.put H hp hl rfl (by simp) (by simp) ?_ (o:=.map eu wA) ?_ hr rfl rfl rfl
      ·intro c hc;simp only;rw[Array.getElem?_setIfInBounds_ne (fun e=>hc e.symm)]
      ·simp[Yh]
     cases o with
     |none =>
      rw[f2 rfl] at f1;refine⟨_,?_,fin (VO.push { key:=kv,val:=vv,born:=clock }) (clock+1) (by rw[h2,Array.toList_push];exact Pc hk hv g2)⟩;simp only[Instr.mapUpdate,Sem.run_bind,ZP (hX.Zd _ _ hu),Result.andThen_ok,Ut g1 (by simp),PC hX hk X5,f1,Mj g1 (by simp)]
     |some i =>
      obtain⟨ov,hq⟩:=f3 i rfl;rw[hq] at f1;obtain⟨k',v',e1,e2⟩:=zU h1;obtain⟨m,e3,e4,e5⟩:=Oq g2 i k' v' e1;rw[al1] at e3;refine⟨_,?_,fin (VO.modify i fun e=>{ e with key:=kv,val:=vv }) clock (by rw[h2,Array.toList_modify];exact Oo hk hv i g2)⟩;simp only[Instr.mapUpdate,Sem.run_bind,ZP (hX.Zd _ _ hu),Result.andThen_ok,Ut g1 (by simp),PC hX hk X5,f1,e3,amo,amG];simp only[Instr.keyThatStays,K7 hk e4 e2,if_true,Sem.run_pure,Result.andThen_ok,Mj g1 (by simp)]
    ·cases h
   ·cases h
  ·cases h
 ·cases h
end
end Go.Am
namespace Go.Am
open Go
section
variable [Stat]
variable {X:Cx}{P:Program}{w:World}{σ:Sg}{s:St}
theorem CV (need M:Nat)(hM:need+(need+768) / 4<=M):∀(r c:Nat),c<=M->Builtin.growBy need r c<=M
 |0,c,h=>h
 |r+1,c,h=>by
  simp only[Builtin.growBy]
  split
  ·exact h
  ·exact CV need M hM r _ (by omega)
theorem t_ {need cap:Nat}(h:cap<need):Builtin.nextslicecap need cap<=2*need+200:=by
 unfold Builtin.nextslicecap
 split
 ·omega
 ·split
  ·omega
  ·exact CV need _ (by omega) 4 cap (by omega)
theorem xW {α β:Type}(f:α->List β)(n:Nat):∀(l:List α),(∀u∈l,(f u).length=n)->(l.flatMap f).length=l.length*n
 |[],_=>by simp
 |x::l,hl=>by
  rw[al7,agy,hl x (aba ..),xW f n l fun u hu=>hl u (aab _ hu),akd,amx];omega
theorem IS (H:HR σ s w){n m:Nat}{x:AV}{xv:Value}{new:List AV}(hx:ZY σ x xv)(h:Wc n x s=some (m,new)) :
  (∀w,(Builtin.lenOf xv).run P w=.ok m w)/\∃vs:Array Value,(∀w',w'.heap=w.heap->(Builtin.firstCells n m xv).run P w'=.ok vs w')/\ZZ σ new vs.toList:=by
 unfold Wc at h
 split at h
 ·cases h
  simp only[ZY] at hx;subst hx;exact⟨fun _=>rfl,#[],fun _ _=>rfl,by simp[ZZ]⟩
 ·rename_i b o len cap VH;obtain⟨a,c,rfl,hlen,⟨p,hp,ha,_⟩,_⟩:=Tw hx
  split at h
  ·rename_i cs hc
   split at h
   ·rename_i r hg
    cases h
    refine⟨fun _=>rfl,?_⟩;by_cases hm:m=0
    ·subst hm;have:new=[]:=by have:=(WV hg).1;simpa using this
     subst this;exact⟨#[],fun _ _=>by simp[Builtin.firstCells,loadCells,loadCellsFrom],by simp[ZZ]⟩
    ·obtain⟨vs,h1,h2⟩:=QN (P:=P) H hp hc hg;exact⟨vs.toArray,fun w' hw=>by simp only[Builtin.firstCells];rw[ha (by omega)];exact h1 w' hw,h2⟩
   ·cases h
  ·cases h
 ·rename_i bs
  cases h
  obtain⟨b,rfl,rfl⟩:=XJ hx;have VY:b.data.toList.length=b.size:=by rw[alR];rfl
  refine⟨fun _=>by rw[VY];rfl,(b.extract 0 b.data.toList.length).data.map fun b=>.int .u8 b.toNat,fun _ _=>rfl,?_⟩;have e:(b.extract 0 b.data.toList.length).data.toList=b.data.toList:=by
   rw[extract_toList,amd,List.take_of_length_le (agB _)]
  have:((b.extract 0 b.data.toList.length).data.map fun b=>Value.int .u8 b.toNat).toList=b.data.toList.map fun b=>Value.int .u8 b.toNat:=by
   rw[Array.toList_map,e]
  rw[this];generalize b.data.toList=l
  induction l with
  |nil=>simp[ZZ]
  |cons c l ih=>simp only[alT,ZZ];exact⟨_,_,rfl,by simp[ZY],ih⟩
 ·rename_i es
  split at h
  ·rename_i Xa
   cases h
   simp only[agw,alK,beq_iff_eq,bne_iff_ne] at Xa;obtain⟨a,c,us,rfl,ng,SO,M_⟩:=Nz hx;refine⟨fun _=>rfl,(us.flatMap fun u=>u.cells.toList).toArray,fun w' hw=>?_,?_⟩
   ·have EK:=SO.length;rcases M_ with rfl|⟨Kf,cc,ee,fz,m,g1,g2,g3,g4⟩
    ·have:es.length=0:=EK;rw[this];simp[Builtin.firstCells,loadCells,loadCellsFrom]
    ·by_cases hem:us=[]
     ·subst hem;have:es.length=0:=EK;rw[this];simp[Builtin.firstCells,loadCells,loadCellsFrom]
     ·have tS:m=n:=by
       obtain⟨u,hu⟩:=List.exists_mem_of_ne_nil us hem;obtain⟨i,hi⟩:=List.getElem?_of_mem hu;have Yh:i<es.length:=by rw[EK];exact (alQ.1 hi).1
       obtain⟨u',h1,h2⟩:=SO.get i _ (aaa Yh);rw[hi] at h1;cases h1;have h3:=(Wp h2).length;have h4:=Xa.1 _ (adm Yh);have h5:=g3 u hu;have h6:u.cells.toList.length=u.cells.size:=rfl;omega
      subst tS;obtain⟨ab,ao,asp⟩:=a;simp only at Kf g1 g4;subst Kf;have:=run_loadCells_list (P:=P) w' ⟨ab,ao,none⟩ (us.flatMap fun u=>u.cells.toList) (fun j v hv=>by
       rw[XG,cell_of_heap hw,XT (H.fz _ _ g1).1];exact g4 _ _ hv)
      simp only[Builtin.firstCells];have hlen:(us.flatMap fun u=>u.cells.toList).length=es.length*m:=by
       rw[EK];exact xW _ m us fun u hu=>by simpa using g3 u hu
      rw[hlen] at this;exact this
   ·have:ZZ σ.bare (es.flatMap AV.cells) (us.flatMap fun u=>u.cells.toList):=by
     clear M_ hx ng Xa
     induction es generalizing us with
     |nil=>simp only[ZZ] at SO;subst SO;simp[ZZ]
     |cons x es ih =>
      simp only[ZZ] at SO;obtain⟨v,y,rfl,h1,h2⟩:=SO;rw[al7,al7];exact (Wp h1).append (ih y h2)
    simpa using ZZ.mono (Sg.T7 σ) _ _ this
  ·cases h
 ·cases h
theorem sA (H:HR σ s w){b o len n:Nat}{cap:Option Nat}{VH:Nat}{a:Addr}{c:Nat}{cs old:List AV}(LP:DW σ b o len cap VH a c)(hc:s.cells b=some cs)(hg:XA (len*n) o cs=some old) :
  ∃vs:Array Value,(∀w',w'.heap=w.heap->(Builtin.firstCells n len (.slice (some a) len c)).run P w'=.ok vs w')/\ZZ σ old vs.toList:=by
 obtain⟨hlen,⟨p,hp,ha,_⟩,_⟩:=LP;by_cases hm:len=0
 ·subst hm;have:old=[]:=by have:=(WV hg).1;simpa using this
  subst this;exact⟨#[],fun _ _=>by simp[Builtin.firstCells,loadCells,loadCellsFrom],by simp[ZZ]⟩
 ·obtain⟨vs,h1,h2⟩:=QN (P:=P) H hp hc hg;exact⟨vs.toArray,fun w' hw=>by simp only[Builtin.firstCells];rw[ha (by omega)];exact h1 w' hw,h2⟩
theorem Good.inPlace (H:HR σ s w)(hf:σ s.next=none){b:Nat}{p q:Pl}{b0 b1:Uy}(hp:σ b=some p)(hl:s.look b=some b0)(SQ:b0.own=true)(UP:b1≠.gone)(hq:q.b=p.b){w':World}(VY:w'.heap.size=w.heap.size)
  (UF:∀c,c≠p.b->w'.heap[c]? = w.heap[c]?){o:Obj}(ho:w'.heap[p.b]? = some o)(hr:BR (σ.add s.next q) q b1 o)(EX:w'.os=w.os)(ht:w'.tape=w.tape)(Mm:w'.output=w.output) :
  Good σ s w (σ.add s.next q) ((s.put b .gone).new b1) w':=by
 have hle:Sg.le σ (σ.add s.next q):=Sg.Mn hf;have look:∀j c,((s.put b .gone).new b1).look j=some c->(j=s.next/\c=b1)\/(j≠s.next/\j≠b/\s.look j=some c):=by
  intro j c hj;rw[St.UJ _ _ _ UP,St.Z'] at hj;by_cases e:s.next=j
  ·rw[if_pos e] at hj;cases hj;exact .inl ⟨e.symm,rfl⟩
  ·rw[if_neg e,St.Xe] at hj;by_cases e':b=j
   ·rw[if_pos e'] at hj;cases hj
   ·rw[if_neg e'] at hj;exact .inr ⟨fun h=>e h.symm,fun h=>e' h.symm,hj⟩
 have Yh:p.b<w.heap.size:=H.lt _ _ hp;refine⟨⟨?_,?_,?_,?_⟩,⟨hle,fun _ _ h=>.inl h,by omega,?_,?_,EX,ht,Mm⟩,?_,by rw[St.Z_,St.Z'];omega,?_,?_,rfl⟩
 ·intro i r hi;by_cases e:i=s.next
  ·subst e;rw[Sg.Yr] at hi;cases hi;omega
  ·rw[Sg.WC _ _ e] at hi;rw[VY];exact H.lt i r hi
 ·intro i r c hi hc;rcases look i c hc with⟨rfl,rfl⟩|⟨e,e',Iu⟩
  ·rw[Sg.Yr] at hi;cases hi;exact⟨o,by rw[hq];exact ho,hr⟩
  ·rw[Sg.WC _ _ e] at hi;obtain⟨o',h1,h2⟩:=H.E1 i r c hi Iu;have ZC:r.b≠p.b:=fun he=>e' (H.inj i b r p c b0 hi hp Iu hl he)
   exact⟨o',by rw[UF _ ZC];exact h1,h2.mono hle⟩
 ·intro i j r t c d hi hj hc hd he;rcases look i c hc with⟨rfl,rfl⟩|⟨e1,e2,Iu⟩ <;> rcases look j d hd with⟨e3,rfl⟩|⟨e3,e4,LR⟩
  ·exact e3.symm
  ·rw[Sg.Yr] at hi;cases hi;rw[Sg.WC _ _ e3] at hj;exact absurd (H.inj j b t p d b0 hj hp LR hl (by omega)) e4
  ·subst e3;rw[Sg.Yr] at hj;cases hj;rw[Sg.WC _ _ e1] at hi;exact absurd (H.inj i b r p c b0 hi hp Iu hl (by omega)) e2
  ·rw[Sg.WC _ _ e1] at hi;rw[Sg.WC _ _ e3] at hj;exact H.inj i j r t c d hi hj Iu LR he
 ·intro c o' hc;obtain⟨h1,h2⟩:=H.fz c o' hc;have FC:c≠p.b:=fun e=>h2 ⟨b,p,b0,hp,hl,SQ,e.symm⟩
  refine⟨by rw[UF c FC];exact h1,?_⟩;rintro⟨j,r,d,hj,hd,hdo,rfl⟩;rcases look j d hd with⟨rfl,rfl⟩|⟨e,e',LR⟩
  ·rw[Sg.Yr] at hj;cases hj;exact FC hq
  ·rw[Sg.WC _ _ e] at hj;exact h2 ⟨j,r,d,hj,LR,hdo,rfl⟩
 ·intro c _ hn;exact UF c (fun e=>hn ⟨b,p,b0,hp,hl,SQ,e.symm⟩)
 ·rintro c hc ⟨j,r,d,hj,hd,hdo,rfl⟩;rcases look j d hd with⟨rfl,rfl⟩|⟨e,e',LR⟩
  ·rw[Sg.Yr] at hj;cases hj;exact⟨b,p,b0,hp,hl,SQ,hq.symm⟩
  ·rw[Sg.WC _ _ e] at hj;exact⟨j,r,d,hj,LR,hdo,rfl⟩
 ·intro i hi;rw[St.Z_,St.Z'] at hi;exact Sg.WC _ _ (by omega)
 ·intro i hi ra
  cases hc:((s.put b .gone).new b1).look i with
  |none=>rfl
  |some c =>
   rcases look i c hc with⟨rfl,_⟩|⟨_,_,Iu⟩
   ·omega
   ·rw[ra] at Iu;cases Iu
 ·intro i r hi hn;by_cases e:i=s.next
  ·subst e;rw[Sg.Yr] at hi;cases hi;exact .inr ⟨b,p,b0,hp,hl,SQ,hq.symm⟩
  ·rw[Sg.WC _ _ e,hn] at hi;cases hi
theorem Good.drop (H:HR σ s w){b:Nat}{b0:Uy}(hl:s.look b=some b0):Good σ s w σ (s.put b .gone) w:=by
 have look:∀j c,(s.put b .gone).look j=some c->s.look j=some c:=by
  intro j c hj;rw[St.Xe] at hj;by_cases e:b=j
  ·rw[if_pos e] at hj;cases hj
  ·rw[if_neg e] at hj;exact hj
 refine⟨⟨H.lt,fun i p c hi hc=>H.E1 i p c hi (look i c hc),fun i j p q c d hi hj hc hd he=>H.inj i j p q c d hi hj (look i c hc) (look j d hd) he,fun c o hc=>⟨(H.fz c o hc).1,fun ⟨i,p,d,hi,hd,ho,he⟩=>(H.fz c o hc).2 ⟨i,p,d,hi,look i d hd,ho,he⟩⟩⟩,
  ⟨Sg.le_refl _,fun _ _ h=>.inl h,agB _,fun _ _ _=>rfl,?_,rfl,rfl,rfl⟩,fun _ _=>rfl,agB _,?_,fun i p h k=>(by rw[k] at h;cases h),rfl⟩
 ·rintro c _ ⟨i,p,d,hi,hd,ho,rfl⟩;exact⟨i,p,d,hi,look i d hd,ho,rfl⟩
 ·intro i _ hi
  cases hc:(s.put b .gone).look i with
  |none=>rfl
  |some c=>rw[look i c hc] at hi;cases hi
theorem Fe (z:Array Value)(n:Nat):(Builtin.zeroCells z n).size=n*z.size:=by simp[Builtin.zeroCells]
theorem tZ (hX:VI X P){t u elem:TypeId}{ts:Array TypeId}{ty:TypeId}{ei:TypeInfo}{z:Value}{n m len c:Nat}{base:Option Addr}{xv:Value}{old new:Array Value}(ht:ts[0]? = some t)(OC:ts[1]? = some u)
  (nU:∃d,X.Zd u=some d/\∀k,d≠.int k)(hu:X.Zd t=some (.slice elem))(hi:X.inf elem=some ei)(VY:ei.size=n)(hz:ei.zero=some z)
  (hl:(Builtin.lenOf xv).run P w=.ok m w)(hx:∀w',w'.heap=w.heap->(Builtin.firstCells n m xv).run P w'=.ok new w')(ho:∀w',w'.heap=w.heap->(Builtin.firstCells n len (.slice base len c)).run P w'=.ok old w')
  (xV:c<len+m)(hb:(len+m)*ei.bytes<=2^40)(VP:ei.bytes<=2^20)(Ba:len+m<=2^40)(Er:ei.bytes≠0) :
  ∃cap,len+m<=cap/\(Builtin.append_ ts ty #[.slice base len c,xv]).run P w=.ok (.slice (some ⟨w.heap.size,0,none⟩) (len+m) cap) (w.drew.alloc (.cells (old++new++Builtin.zeroCells z.cells (cap-(len+m))) elem)):=by
 obtain⟨d,hd,hdi⟩:=nU;refine⟨(len+m)+(w.tape w.drawn (.appendCap (len+m) c elem))%(2^63-(len+m)),by omega,?_⟩;have hs:size X elem=some n:=by simp[size,hi,VY]
 have gK:¬(Builtin.nextslicecap (len+m) c*ei.bytes>2^48):=by
  have h1:=t_ xV;have h2:Builtin.nextslicecap (len+m) c*ei.bytes<=(2*(len+m)+200)*ei.bytes:=amt _ h1;have h3:(2*(len+m)+200)*ei.bytes=2*((len+m)*ei.bytes)+200*ei.bytes:=by rw[amx,Nat.mul_assoc]
  omega
 have Gj:¬(((len+m:Nat):Int)>IntKind.i64.max/\ei.bytes=0):=fun h=>Er h.2
 have hle:¬(len+m<=c):=by omega
 have e0:(#[Value.slice base len c,xv]:Array Value)[0]? = some (.slice base len c):=rfl;have e1:(#[Value.slice base len c,xv]:Array Value)[1]? = some xv:=rfl;unfold Builtin.append_;simp only[ht,e0,e1,Sem.run_bind,ZP (hX.Zd _ _ hu),Result.andThen_ok,YS hX hs,OC,ZP (hX.Zd _ _ hd),Sem.run_pure];simp only[ali,if_false,Sem.run_bind,hl,Result.andThen_ok,hle,amp,if_true,HY (hX.inf _ _ hi),false_or,Gj,gK,run_choose,Question.forced,Question.cut,run_askRoom,World.drew_eq,
  ho w.drew rfl,hx w.drew rfl,Ax (hX.inf _ _ hi) hz,newRow,run_newObj,World.alloc_eq,Sem.run_pure]
 rfl
theorem S8 (hX:VI X P){t u elem:TypeId}{ts:Array TypeId}{ty:TypeId}{n m len c:Nat}{base:Option Addr}{xv:Value}{new:Array Value}{w':World}(ht:ts[0]? = some t)(OC:ts[1]? = some u)
  (nU:∃d,X.Zd u=some d/\∀k,d≠.int k)(hu:X.Zd t=some (.slice elem))(hs:size X elem=some n)
  (hl:(Builtin.lenOf xv).run P w=.ok m w)(hx:(Builtin.firstCells n m xv).run P w=.ok new w)(xV:len+m<=c)
  (Xz:match base with|some a=>(storeCells (a.add (len*n)) new.toList).run P w=.ok () w'|none=>w'=w) :
  (Builtin.append_ ts ty #[.slice base len c,xv]).run P w=.ok (.slice base (len+m) c) w':=by
 obtain⟨d,hd,hdi⟩:=nU;have e0:(#[Value.slice base len c,xv]:Array Value)[0]? = some (.slice base len c):=rfl;have e1:(#[Value.slice base len c,xv]:Array Value)[1]? = some xv:=rfl;unfold Builtin.append_;simp only[ht,e0,e1,Sem.run_bind,ZP (hX.Zd _ _ hu),Result.andThen_ok,YS hX hs,OC,ZP (hX.Zd _ _ hd),Sem.run_pure];simp only[ali,if_false,Sem.run_bind,hl,Result.andThen_ok,xV,amp,if_true,hx]
 cases base with
 |none=>simp only at Xz;subst Xz;rfl
 |some a=>simp only at Xz ⊢;simp only[Sem.run_bind,Xz,Result.andThen_ok,Sem.run_pure]
theorem xU {old new:List AV}{ov nv:Array Value}(ho:ZZ σ old ov.toList)(hn:ZZ σ new nv.toList)(z:Array Value):∀(j:Nat) (a:AV),(old++new)[j]? = some a->∃v,(ov++nv++z)[j]? = some v/\ZY σ a v:=by
 intro j a ha;obtain⟨v,hv,hr⟩:=(ho.append hn).get j a ha;refine⟨v,?_,hr⟩;have hj:j<(ov++nv).size:=by
  have:=(alQ.1 hv).1;simp at this ⊢;omega
 rw[<-Array.toList_append,al1] at hv;rw[Array.getElem?_append_left hj];exact hv
theorem IG (hX:VI X P)(H:HR σ s w)(hf:σ s.next=none){t u:TypeId}{ts:Array TypeId}{ty:TypeId}{d x r:AV}{dv xv:Value}{s':St}(ht:ts[0]? = some t)(OC:ts[1]? = some u)
  (nU:∃d,X.Zd u=some d/\∀k,d≠.int k)(hd:ZY σ d dv)(hx:ZY σ x xv)(h:Nx X t d x s=some (r,s')):M6 P σ s w (Builtin.append_ ts ty #[dv,xv]) r s':=by
 unfold Nx at h
 split at h
 ·rename_i elem hu
  split at h
  ·rename_i ei n hi hs
   split at h
   ·rename_i m new Mg
    split at h
    ·cases h
    ·rename_i ag_;simp only[not_or,Decidable.not_not,Nat.not_lt,ne_eq] at ag_;obtain⟨Jh,hb,VP,Ba,EO,Er,hz,aaG⟩:=ag_;obtain⟨z,hz,fL⟩:∃z,ei.zero=some z/\z.cells.size=n:=by
      cases hzz:ei.zero with
      |none=>rw[hzz] at hz;exact absurd rfl hz
      |some z=>rw[hzz] at hz;exact⟨z,rfl,by simpa[HL] using hz⟩
     obtain⟨hl,nv,hnv,aV⟩:=IS (P:=P) H hx Mg;have VY:ei.size=n:=by simp only[size,hi] at hs;exact Option.some.inj hs
     split at h
     ·
      rename_i oq;subst oq;have ag':nv.toList=[]:=by
       have:=aV.length;rw[Jh,Nat.zero_mul] at this;exact al6.1 this.symm
      split at h
      ·cases h
       simp only[ZY] at hd;subst hd;exact⟨σ,_,w,S8 hX ht OC nU hu hs (hl w) (hnv w rfl) (by omega) rfl,by simp[ZY],Good.refl H⟩
      ·cases h
       have LR:=hd;obtain⟨a,c,rfl,LP⟩:=Tw hd;refine⟨σ,_,w,S8 hX ht OC nU hu hs (hl w) (hnv w rfl) LP.len ?_,LR,Good.refl H⟩;rw[ag'];rfl
      ·cases h
       have LR:=hd;obtain⟨a,c,us,rfl,ng,_⟩:=Nz hd;refine⟨σ,_,w,S8 hX ht OC nU hu hs (hl w) (hnv w rfl) ng ?_,LR,Good.refl H⟩;rw[ag'];rfl
      ·cases h
     ·rename_i oq;have fresh:∀(Uo:Sg) (s0:St) (base:Option Addr) (len c:Nat) (old:List AV) (ov:Array Value),HR Uo s0 w->Uo s0.next=none->ZZ Uo old ov.toList->ZZ Uo new nv.toList->(∀w',w'.heap=w.heap->(Builtin.firstCells n len (.slice base len c)).run P w'=.ok ov w')->old.length=len*n ->
        c<len+m->(len+m)*ei.bytes<=2^40->len+m<=2^40->∀(OM PF:Nat),M6 P Uo s0 w (Builtin.append_ ts ty #[.slice base len c,xv]) (.sl s0.next 0 (len+m) none n) (s0.new (.cells (old++new) elem false OM PF)):=by
       intro Uo s0 base len c old ov H0 hf0 hor aha hov tM xV xn Hd OM PF;obtain⟨cap,TN,YA⟩:=tZ (w:=w) hX (ty:=ty) ht OC nU hu hi VY hz (hl w) hnv hov xV xn VP Hd Er;have EX:=hor.size;have bL:=aha.size;have sR:(ov++nv++Builtin.zeroCells z.cells (cap-(len+m))).size=cap*n:=by
        simp only[Array.size_append,Fe,fL,<-EX,<-bL,tM,Jh,<-amx]
        congr 1;omega
       refine⟨Uo.add s0.next ⟨w.heap.size,0,cap*n⟩,_,_,YA,?_,?_⟩
       ·simp only[ZY];exact⟨_,_,rfl,by omega,⟨_,Sg.Yr _ _ _,fun _=>by simp,fun _=>by simp⟩,by simp⟩
       ·have hle:Sg.le Uo (Uo.add s0.next ⟨w.heap.size,0,cap*n⟩):=Sg.Mn hf0;refine Good.mE (Good.new (w:=w.drew) (H0.of_heap rfl) hf0 _ (by simp) _ _ ⟨sR,?_,rfl,?_,?_,fun h=>absurd (hX.spec _ h) (by simpa using aaG)⟩)
        ·simp only[agy,tM,Jh,<-amx,ald];exact amt _ TN
        ·intro j a ha;obtain⟨v,hv,hr⟩:=xU hor aha (Builtin.zeroCells z.cells (cap-(len+m))) j a ha;exact⟨v,by simpa using hv,ZY.mono hle _ _ hr⟩
        ·intro _ j h1 h2 _;simp at h2
      split at h
      ·
       cases h
       simp only[ZY] at hd;subst hd;have hlz:Xj AV.ZW=0:=rfl;rw[hlz] at hb Ba;have:=fresh σ s none 0 0 [] #[] H hf (by simp[ZZ]) aV (fun w' _=>rfl) (by simp) (by omega) hb Ba 0 0
       simpa using this
      ·rename_i b o len cap VH;obtain⟨a,c,rfl,LP⟩:=Tw hd
       split at h
       ·rename_i cs hc
        split at h
        ·rename_i old hg;obtain⟨ov,hov,hor⟩:=sA (P:=P) H LP hc hg;have tM:=(WV hg).1;simp only[Xj] at hb Ba
         split at h
         ·rename_i k;have hck:=LP.cap k rfl;subst hck
          split at h
          ·rename_i Kw
           split at h
           ·rename_i adj;subst adj
            split at h
            ·rename_i s1 Rm
             cases h
             obtain⟨hlen,⟨p,hp,ha,rq⟩,_⟩:=LP;have eW:=ha (by omega);subst eW;obtain⟨w',g1,g2⟩:=Rv (P:=P) H hp aV Rm;refine⟨σ,_,w',S8 hX ht OC nU hu hs (hl w) (hnv w rfl) Kw (by simp only[XG,akc] at g1 ⊢;exact g1),?_,g2⟩;simp only[ZY];exact⟨_,_,rfl,Kw,⟨p,hp,fun _=>rfl,rq⟩,fun q hq=>by cases hq;rfl⟩
            ·cases h
           ·cases h
          ·rename_i Kw
           cases h
           exact fresh σ s (some a) len c old ov H hf hor aV hov tM (by omega) hb Ba 0 0
         ·split at h
          ·rename_i oc e0 OM PF hgb
           split at h
           ·rename_i Q5;obtain⟨adj,alE,he0,Xa⟩:=Q5;subst adj;subst he0
            cases h
            have aF:s.look b=some (.cells oc e0 false OM PF):=St.X4 hgb (by simp);have MT:oc=cs:=by
             obtain⟨_,_,_,_,B_,_⟩:=FQ hc;rw[aF] at B_;cases B_;rfl
            subst MT;by_cases Kw:len+m<=c
            ·
             obtain⟨hlen,⟨p,hp,ha,rq⟩,_⟩:=LP;have eW:=ha (by omega);subst eW;obtain⟨cc,fz,k1,k2,k3,k4,k5⟩:=H.cells hp aF;have alF:nv.toList.length=m*VH:=by rw[<-Jh];exact aV.length.symm
             have hcb:p.sh+o+c*VH<=p.n:=rq EO;have hmul:(len+m)*VH<=c*VH:=amt _ Kw;have ale:(len+m)*VH=len*VH+m*VH:=amx _ _ _;have je:∀v∈nv.toList,v.oneCell'=true:=by
              intro v hv;obtain⟨i,hi,rfl⟩:=alP.1 hv;have hix:i<new.length:=by have:=aV.length;omega
              obtain⟨v',Pd,Mv⟩:=ZZ.get aV i new[i] (aaa hix);rw[aaa hi] at Pd;cases Pd;exact P8 Mv (alK.1 Xa _ (adm hix))
             obtain⟨w',ai,q1,q2,q3,q4,q5,q6,q7,q8,q9⟩:=Rq (P:=P) (b:=p.b) (e:=e0) (fz:=fz) nv.toList (p.sh+o+len*VH) 0 w cc k1 je (by rw[k2];omega)
              (fun j hj wJ hfj=>by
               obtain⟨r1,r2⟩:=k5 rfl (j-p.sh) (by rw[show p.sh+(j-p.sh)=j from by omega];exact hfj.1) (by rw[show p.sh+(j-p.sh)=j from by omega];exact hfj.2) (by omega);omega)
             refine⟨σ.add s.next ⟨p.b,p.sh+o,p.n⟩,_,w',S8 hX ht OC nU hu hs (hl w) (hnv w rfl) Kw (by simp only[XG];exact q1),?_,?_⟩
             ·simp only[ZY];exact⟨_,_,rfl,Kw,⟨_,Sg.Yr _ _ _,fun _=>by simp,fun _=>by simpa using hcb⟩,by simp⟩
             ·have hle:Sg.le σ (σ.add s.next ⟨p.b,p.sh+o,p.n⟩):=Sg.Mn hf;have hold:=hor.length;refine Good.inPlace (q:=⟨p.b,p.sh+o,p.n⟩) (b1:=.cells (old++new) e0 false (OM-o) (PF-o)) H hf hp aF rfl (by simp) rfl q2 q3 q4 ⟨by rw[q5,k2],?_,rfl,?_,?_,fun h=>absurd (hX.spec _ h) (by simpa using aaG)⟩ q7 q8 q9
              ·simp only[agy,tM,Jh];omega
              ·intro j a ha;simp only;rw[q6];by_cases hj:j<old.length
               ·rw[al0 hj] at ha;rw[if_neg (by omega)];have:=k4 (o+j) a (Qw hg ha);obtain⟨v,hv,hr⟩:=this;exact⟨v,by rw[akc];exact hv,ZY.mono hle _ _ hr⟩
               ·rw[amI (by omega)] at ha;obtain⟨v,hv,hr⟩:=aV.get _ _ ha;have hjm:j-old.length<new.length:=(alQ.1 ha).1;rw[if_pos (by omega)];refine⟨v,?_,ZY.mono hle _ _ hr⟩;rw[show p.sh+o+j-(p.sh+o+len*VH+0)=j-old.length from by omega];exact hv
              ·intro _ j h1 h2 h3;simp only at h1 h2 h3;obtain⟨r1,r2⟩:=k5 rfl (o+j) (by omega) (by omega) (by omega);omega
            ·
             have hd0:=Good.drop H aF;have:=fresh σ (s.put b .gone) (some a) len c old ov hd0.hr hf hor aV hov tM (by omega) hb Ba (OM-o) (PF-o);obtain⟨Yx,v,w',g1,g2,g3⟩:=this;exact⟨Yx,v,w',g1,g2,hd0.trans g3⟩
           ·cases h
          ·cases h
        ·cases h
       ·cases h
      ·cases h
   ·cases h
  ·cases h
 ·cases h
end
end Go.Am
namespace Go.Am
open Go
section
variable [Stat]
variable {X:Cx}{P:Program}{w:World}{σ:Sg}{s:St}
theorem get!_eq (bs:ByteArray)(n:Nat):bs.get! n=(bs.data.toList[n]?).getD 0:=by
 cases bs with
 |mk a =>
  simp only[ByteArray.get!,getElem!_def,al1]
  cases a[n]? <;> rfl
theorem vH (bs:ByteArray)(i:Nat):TV (bs.data.toList.drop i)=Utf8.decode bs i:=by
 have hg:∀k,(((bs.data.toList.drop i)[k]?).getD 0).toNat=(bs.get! (i+k)).toNat:=by
  intro k;rw[get!_eq,List.getElem?_drop]
 have hc:∀k,decide (k<(bs.data.toList.drop i).length)=decide (i+k<bs.size):=by
  intro k;have:bs.data.toList.length=bs.size:=by rw[alR];rfl
  rw[List.length_drop,this]
  congr 1
  rw[eq_iff_iff];omega
 unfold TV Utf8.decode;simp only[hg,hc]
theorem qi (hX:VI X P)(H:HR σ s w)(hf:σ s.next=none){t:TypeId}{b:List UInt8}{v:Value}(hu:X.Zd t=some .string)(hv:ZY σ (.str b) v) :
  M6 P σ s w (Instr.range t v) (.ptr s.next 0) (s.new (.iter b 0)):=by
 obtain⟨bs,rfl,rfl⟩:=XJ hv;refine⟨_,.pointer (some ⟨w.heap.size,0,none⟩),w.alloc (.stringIter bs 0),?_,?_,Good.new H hf (.iter _ 0) (by simp) _ 0 ⟨rfl,rfl,by simp⟩⟩
 ·simp only[Instr.range,Sem.run_bind,ZP (hX.Zd _ _ hu),Result.andThen_ok,Sem.run_pure,run_newObj,World.alloc_eq]
 ·simp only[ZY];exact⟨_,Sg.Yr _ _ _,by simp⟩
theorem kN (H:HR σ s w){r pos:Nat}{b:List UInt8}{v:Value}{ty:TypeId}(hv:ZY σ (.ptr r 0) v)(hg:s.get r=some (.iter b pos)) :
  M6 P σ s w (Instr.next v true ty) (match b with|[]=>.XU [.bool false]|_::_=>.XU [.bool true,.int .i64 pos,.int .i32 (TV b).1])
   (match b with|[]=>s|_::_=>s.put r (.iter (b.drop (TV b).2) (pos+(TV b).2))):=by
 obtain⟨p,hp,rfl⟩:=Xf hv;have hl:s.look r=some (.iter b pos):=St.X4 hg (by simp);obtain⟨o,ho,hb⟩:=H.E1 r p _ hp hl
 cases o <;> simp only[BR] at hb
 rename_i bs pos';obtain⟨h0,rfl,h2⟩:=hb;have VY:bs.data.toList.length=bs.size:=by rw[alR];rfl
 cases b with
 |nil =>
  have EH:¬(pos<bs.size):=by
   have:=List.drop_eq_nil_iff.1 h2;omega
  refine⟨σ,.tuple #[.bool false],w,?_,?_,Good.refl H⟩
  ·simp only[Instr.next,h0,Nat.add_zero,Sem.run_bind,Ut ho (by simp),Result.andThen_ok,EH,if_false,Sem.run_pure]
  ·simp only[ZY];exact⟨_,rfl,by simp only[ZZ];exact⟨_,_,rfl,by simp[ZY],rfl⟩⟩
 |cons c b =>
  have Yh:pos<bs.size:=by
   rcases Nat.lt_or_ge pos bs.size with h|h
   ·exact h
   ·rw[List.drop_eq_nil_of_le (by omega)] at h2;cases h2
  have hd:=vH bs pos;rw[h2] at hd;have aiU:p.b<w.heap.size:=H.lt _ _ hp;refine⟨σ,.tuple #[.bool true,goInt pos,.int .i32 (TV (c::b)).1],{ w with heap:=w.heap.setIfInBounds p.b (.stringIter bs (pos+(TV (c::b)).2)) },?_,?_,?_⟩
  ·simp only[Instr.next,h0,Nat.add_zero,Sem.run_bind,Ut ho (by simp),Result.andThen_ok,Yh,if_true,hd,Mj ho (by simp),Sem.run_pure]
  ·simp only[ZY];exact⟨_,rfl,by simp only[ZZ];exact⟨_,_,rfl,by simp[ZY],_,_,rfl,by simp[ZY,goInt],_,_,rfl,by simp[ZY],rfl⟩⟩
  ·refine Good.put H hp hl rfl (by simp) (by simp) ?_ (o:=.stringIter bs (pos+(TV (c::b)).2)) ?_ ⟨h0,rfl,?_⟩ rfl rfl rfl
   ·intro d hd;simp only;rw[Array.getElem?_setIfInBounds_ne (fun e=>hd e.symm)]
   ·simp[aiU]
   ·rw[<-h2,List.drop_drop]
theorem Uv:∀{r:List AV} {bs:List UInt8} {vs:List Value},Xh r=some bs->ZZ σ r vs->∃ns:List Int,vs=ns.map (Value.int .u8)/\bs=ns.map fun n=>UInt8.ofNat n.toNat
 |[],bs,vs,h,hv=>by simp only[Xh] at h;cases h;simp only[ZZ] at hv;exact⟨[],hv,rfl⟩
 |a::r,bs,vs,h,hv=>by
  simp only[ZZ] at hv;obtain⟨v,y,rfl,h1,h2⟩:=hv;unfold Xh at h
  split at h
  ·rename_i h';cases h'
  ·rename_i n l heq
   cases heq
   split at h
   ·rename_i q hq
    cases h
    obtain⟨ns,rfl,rfl⟩:=Uv hq h2;rw[Zf h1];exact⟨n::ns,rfl,rfl⟩
   ·cases h
  ·cases h
theorem fold_push (ns:List Int)(b:ByteArray):(ns.foldl (fun r n=>r.push (UInt8.ofNat n.toNat)) b).data.toList=b.data.toList++ns.map fun n=>UInt8.ofNat n.toNat:=by
 induction ns generalizing b with
 |nil=>simp
 |cons n ns ih=>rw[List.foldl_cons,ih];simp[ByteArray.push]
theorem O6:∀{es:List AV} {bs:List UInt8},Xh es=some bs->(∀x∈es,x.cells.length=1)/\es.flatMap AV.cells=es
 |[],bs,_=>⟨by simp,rfl⟩
 |x::es,bs,h=>by
  unfold Xh at h
  split at h
  ·rename_i e;cases e
  ·rename_i n l e
   cases e
   split at h
   ·rename_i r hr;obtain⟨h1,h2⟩:=O6 hr;refine⟨?_,by rw[al7,h2];rfl⟩;intro y hy;rcases alL.1 hy with rfl|hy
    ·rfl
    ·exact h1 y hy
   ·cases h
  ·cases h
theorem KU (hX:VI X P)(H:HR σ s w){src dst e:TypeId}{x r:AV}{v:Value}{s':St}(hs:X.Zd src=some (.slice e))(hd:X.Zd dst=some .string)(hx:ZY σ x v)(h:RP X src dst x s=some (r,s')):s'=s/\UC P w σ (convert src dst v) r:=by
 unfold RP at h;rw[hs,hd] at h
 cases x
 case int k n =>
  cases h
  have:=Zf hx;subst this;refine⟨rfl,.string (Utf8.encode n),?_,by simp only[ZY];exact⟨_,rfl,rfl⟩⟩;simp[convert,ZP (hX.Zd _ _ hs),ZP (hX.Zd _ _ hd),Conv.intToString]
 case str l =>
  cases h
  obtain⟨bs,rfl,rfl⟩:=XJ hx;refine⟨rfl,.string bs,?_,by simp only[ZY];exact⟨_,rfl,rfl⟩⟩;simp[convert,ZP (hX.Zd _ _ hs),ZP (hX.Zd _ _ hd)]
 case ZW =>
  simp only at h
  split at h
  ·rename_i he
   cases h
   simp only[ZY] at hx;subst hx;refine⟨rfl,.string .empty,?_,by simp only[ZY];exact⟨_,rfl,rfl⟩⟩;simp[convert,ZP (hX.Zd _ _ hs),ZP (hX.Zd _ _ hd),ZP (hX.Zd _ _ he),Conv.bytesToString]
  ·cases h
 case sl b o len cap VH =>
  simp only at h
  split at h
  ·rename_i he
   split at h
   ·rename_i c hc
    split at h
    ·rename_i q hq
     split at h
     ·rename_i bs LQ
      cases h
      obtain⟨a,k,rfl,LP⟩:=Tw hx;have hq':XA (len*1) o c=some q:=by rw[ah1];exact hq
      obtain⟨vs,h1,h2⟩:=sA (P:=P) H LP hc hq';have h1:=h1 w rfl;simp only[Builtin.firstCells,ah1] at h1;obtain⟨ns,e1,e2⟩:=Uv LQ h2;have e3:vs=(ns.map (Value.int .u8)).toArray:=by rw[<-e1]
      rw[e3] at h1;refine⟨rfl,.string (ns.foldl (fun r n=>r.push (UInt8.ofNat n.toNat)) ByteArray.empty),?_,?_⟩
      ·rw[run_convert_bytes_string w src dst e (some a) len k (hX.Zd _ _ hs) (hX.Zd _ _ he) (hX.Zd _ _ hd)];exact run_bytesToString w a len k ns h1
      ·simp only[ZY];exact⟨_,rfl,by rw[fold_push,e2];simp⟩
     ·cases h
    ·cases h
   ·cases h
  ·cases h
 case fz es =>
  simp only at h
  split at h
  ·rename_i he
   split at h
   ·rename_i bs LQ
    cases h
    obtain⟨k1,k2⟩:=O6 LQ;obtain⟨_,vs,h1,h2⟩:=IS (P:=P) (n:=1) (m:=es.length) (new:=es.flatMap AV.cells) H hx (by
     simp only[Wc];rw[if_pos];simpa using k1)
    rw[k2] at h2;obtain⟨a,k,us,rfl,ng,_⟩:=Nz hx;have h1:=h1 w rfl;simp only[Builtin.firstCells,ah1] at h1;obtain⟨ns,e1,e2⟩:=Uv LQ h2;have e3:vs=(ns.map (Value.int .u8)).toArray:=by rw[<-e1]
    rw[e3] at h1;refine⟨rfl,.string (ns.foldl (fun r n=>r.push (UInt8.ofNat n.toNat)) ByteArray.empty),?_,?_⟩
    ·rw[run_convert_bytes_string w src dst _ (some a) es.length k (hX.Zd _ _ hs) (hX.Zd _ _ he) (hX.Zd _ _ hd)];exact run_bytesToString w a es.length k ns h1
    ·simp only[ZY];exact⟨_,rfl,by rw[fold_push,e2];simp⟩
   ·cases h
  ·cases h
 all_goals
  exfalso;simp only at h
  split at h <;> cases h
theorem KT (hX:VI X P)(H:HR σ s w)(hf:σ s.next=none){src dst e:TypeId}{d:TypeDesc}{l:List UInt8}{v r:AV}{u:Value}{s':St}(hs:X.Zd src=some d)(hd:X.Zd dst=some (.slice e))(hx:ZY σ (.str l) u)(h:RP X src dst (.str l) s=some (r,s')) :
  M6 P σ s w (convert src dst u) r s':=by
 obtain⟨bs,rfl,rfl⟩:=XJ hx;unfold RP at h;rw[hs,hd] at h;simp only at h
 split at h
 ·rename_i he
  cases h
  have VY:bs.data.toList.length=bs.size:=by rw[alR];rfl
  generalize TN:bs.size+(w.tape w.drawn (.appendCap bs.size 0 e))%(2^63-bs.size)=cap;have hle:bs.size<=cap:=by omega
  have SI:((bs.data.map fun b=>Value.int .u8 b.toNat)++Array.replicate (cap-bs.size) (Value.int .u8 0)).size=cap:=by
   simp only[Array.size_append,Array.size_map,Array.size_replicate];have:bs.data.size=bs.size:=rfl;omega
  have g:=MO (w:=w.drew) (H.of_heap rfl) hf (c:=bs.data.toList.map fun c=>AV.int .u8 c.toNat) (vs:=(bs.data.map fun b=>Value.int .u8 b.toNat)++Array.replicate (cap-bs.size) (Value.int .u8 0)) e (cap,cap+1) (.inr (by rw[SI];exact agB _)) (by rw[SI];simp only[agC,VY];exact hle)
   (by
    intro j a ha;rw[alV] at ha
    cases hj:bs.data.toList[j]? with
    |none=>rw[hj] at ha;cases ha
    |some c =>
     rw[hj] at ha;simp at ha;subst ha;have Yh:j<bs.data.toList.length:=(alQ.1 hj).1;rw[alR] at Yh;refine⟨.int .u8 c.toNat,?_,by simp[ZY]⟩;rw[Array.getElem?_append_left (by simpa using Yh),Array.getElem?_map];rw[al1] at hj;rw[hj];rfl) (fun h=>absurd he (hX.adR _ h))
  rw[SI] at g;refine⟨_,.slice (some ⟨w.heap.size,0,none⟩) bs.size cap,_,?_,?_,g.mE⟩
  ·have Mg:∀k,d≠.int k->True:=fun _ _=>trivial
   have ae9:(convert src dst (.string bs)).run P w=(Conv.stringToBytes e bs).run P w:=by
    simp only[convert,Sem.run_bind,ZP (hX.Zd _ _ hs),ZP (hX.Zd _ _ hd),Result.andThen_ok]
    cases d <;> simp[ZP (hX.Zd _ _ he)]
   rw[ae9];simp only[Conv.stringToBytes,Sem.run_bind,run_choose,Question.forced,Question.cut,ali,if_false,Result.andThen_ok,TN,newRow,run_newObj,Sem.run_pure,markStringish,run_shape,World.drew_eq,World.alloc_eq];have QC:(w.drew.alloc (.cells ((bs.data.map fun b=>Value.int .u8 b.toNat)++Array.replicate (cap-bs.size) (Value.int .u8 0)) e)).shape? w.drew.heap.size=some (e,cap):=by
    simp only[World.shape?,World.alloc];rw[amh,if_pos rfl];simp only[SI]
   rw[QC];simp only[run_freeze,Result.andThen_ok]
   congr 1
   simp only[World.freeze,Nat.one_ne_zero,if_false,World.alloc]
   congr 1
   apply Array.ext_getElem?;intro i;rw[Array.getElem?_modify];by_cases hi:w.drew.heap.size=i
   ·subst hi;rw[if_pos rfl,amh,if_pos rfl,amh,if_pos rfl];simp
   ·rw[if_neg hi,amh,amh,if_neg (fun e=>hi e.symm),if_neg (fun e=>hi e.symm)]
  ·rw[VY];simp only[ZY];exact⟨_,_,rfl,hle,⟨_,Sg.Yr _ _ _,fun _=>by simp,fun _=>by simp⟩,by simp⟩
 ·cases h
theorem kM (hX:VI X P)(H:HR σ s w){ts:Array TypeId}{ty:TypeId}{x r:AV}{v:Value}{s':St}(hx:ZY σ x v)(h:Yj X .len ts [x] s=some (r,s')):s'=s/\UC P w σ (Builtin.len_ ts ty #[v]) r:=by
 have e0:(#[v]:Array Value)[0]? = some v:=rfl;simp only[Yj] at h
 split at h
 ·rename_i t ht
  split at h
  ·rename_i l hu
   cases h
   obtain⟨bs,rfl,rfl⟩:=XJ hx;have VY:bs.data.toList.length=bs.size:=by rw[alR];rfl
   exact⟨rfl,⟨goInt bs.size,by simp only[Builtin.len_,ht,e0,Sem.run_bind,ZP (hX.Zd _ _ hu),Result.andThen_ok,Sem.run_pure],by rw[VY];simp[ZY,goInt]⟩⟩
  ·rename_i e hu
   cases h
   simp only[ZY] at hx;subst hx;exact⟨rfl,⟨goInt (0:Nat),by simp only[Builtin.len_,ht,e0,Sem.run_bind,ZP (hX.Zd _ _ hu),Result.andThen_ok,Sem.run_pure],by simp[ZY,goInt]⟩⟩
  ·rename_i e b o n c z hu
   cases h
   obtain⟨a,k,rfl,_⟩:=Tw hx;exact⟨rfl,⟨goInt n,by simp only[Builtin.len_,ht,e0,Sem.run_bind,ZP (hX.Zd _ _ hu),Result.andThen_ok,Sem.run_pure],by simp[ZY,goInt]⟩⟩
  ·rename_i k es hu
   cases h
   obtain⟨a,c,us,rfl,_⟩:=Nz hx;exact⟨rfl,⟨goInt es.length,by simp only[Builtin.len_,ht,e0,Sem.run_bind,ZP (hX.Zd _ _ hu),Result.andThen_ok,Sem.run_pure],by simp[ZY,goInt]⟩⟩
  ·rename_i k e ks vs hu
   cases h
   obtain⟨r,VO,clock,rfl,g1,g2,_⟩:=tF hx;have hl:ks.length=VO.size:=by have:=g2.length;simpa using this
   exact⟨rfl,⟨goInt VO.size,by simp only[Builtin.len_,ht,e0,Sem.run_bind,ZP (hX.Zd _ _ hu),Result.andThen_ok,Ut (H.fz _ _ g1).1 (by simp),Sem.run_pure],by rw[hl];simp[ZY,goInt]⟩⟩
  ·rename_i k e hu
   cases h
   simp only[ZY] at hx;subst hx;exact⟨rfl,⟨goInt 0,by simp only[Builtin.len_,ht,e0,Sem.run_bind,ZP (hX.Zd _ _ hu),Result.andThen_ok,Sem.run_pure],by simp[ZY,goInt]⟩⟩
  ·rename_i k e m hu
   split at h
   ·rename_i es ro hg
    cases h
    obtain⟨p,hp,rfl⟩:=OH hx;obtain⟨VO,clock,g1,g2⟩:=H.map hp hg;have hl:es.length=VO.size:=by
     have:∀{es:List (AV×AV)} {l:List MapEntry},ZQ σ es l->es.length=l.length:=by
      intro es
      induction es with
      |nil=>intro l hl;simp only[ZQ] at hl;subst hl;rfl
      |cons a es ih =>
       intro l hl;obtain⟨k,v⟩:=a;simp only[ZQ] at hl;obtain⟨m,r,rfl,_,_,h3⟩:=hl;simp[ih h3]
     have:=this g2
     simpa using this
    exact⟨rfl,⟨goInt VO.size,by simp only[Builtin.len_,ht,e0,Sem.run_bind,ZP (hX.Zd _ _ hu),Result.andThen_ok,Ut g1 (by simp),Sem.run_pure],by rw[hl];simp[ZY,goInt]⟩⟩
   ·cases h
  ·rename_i _ n e hu
   cases h
   exact⟨rfl,⟨goInt n,by simp only[Builtin.len_,ht,e0,Sem.run_bind,ZP (hX.Zd _ _ hu),Result.andThen_ok,Sem.run_pure],by simp[ZY,goInt]⟩⟩
  ·rename_i p _ hu
   split at h
   ·rename_i n e hp
    cases h
    exact⟨rfl,⟨goInt n,by simp only[Builtin.len_,ht,e0,Sem.run_bind,ZP (hX.Zd _ _ hu),ZP (hX.Zd _ _ hp),Result.andThen_ok,Sem.run_pure],by simp[ZY,goInt]⟩⟩
   ·cases h
  ·cases h
 ·cases h
theorem zh {k:IntKind}:∀{l:List AV} {x:Int} {vs:List Value} {r:AV},qG k x l=some r->ZZ σ l vs->∃v,(vs.foldlM Builtin.min2 (.int k x):Sem Value).run P w=.ok v w/\ZY σ r v
 |[],x,vs,r,h,hv=>by
  simp only[qG] at h;cases h;simp only[ZZ] at hv;subst hv;exact⟨_,rfl,by simp[ZY]⟩
 |a::l,x,vs,r,h,hv=>by
  cases a <;> simp only[qG] at h <;> try (cases h;done)
  simp only[ZZ] at hv;obtain⟨v,y,rfl,h1,h2⟩:=hv;rw[Zf h1];obtain⟨u,g1,g2⟩:=zh h h2;exact⟨u,by simp only[List.foldlM_cons,Sem.run_bind,Builtin.min2,Sem.run_pure,Result.andThen_ok];exact g1,g2⟩
theorem zg {k:IntKind}:∀{l:List AV} {x:Int} {vs:List Value} {r:AV},vZ k x l=some r->ZZ σ l vs->∃v,(vs.foldlM Builtin.max2 (.int k x):Sem Value).run P w=.ok v w/\ZY σ r v
 |[],x,vs,r,h,hv=>by
  simp only[vZ] at h;cases h;simp only[ZZ] at hv;subst hv;exact⟨_,rfl,by simp[ZY]⟩
 |a::l,x,vs,r,h,hv=>by
  cases a <;> simp only[vZ] at h <;> try (cases h;done)
  simp only[ZZ] at hv;obtain⟨v,y,rfl,h1,h2⟩:=hv;rw[Zf h1];obtain⟨u,g1,g2⟩:=zg h h2;exact⟨u,by simp only[List.foldlM_cons,Sem.run_bind,Builtin.max2,Sem.run_pure,Result.andThen_ok];exact g1,g2⟩
theorem MJ {b:Nat}:∀(ns:List Int) (off:Nat) (acc:ByteArray),(∀i v,(ns.map (Value.int .u8))[i]? = some v->w.cell? ⟨b,off+i,none⟩=some v) ->
  ∃bs,(loadBytes ⟨b,off,none⟩ acc ns.length).run P w=.ok bs w/\bs.data.toList=acc.data.toList++ns.map fun n=>UInt8.ofNat n.toNat
 |[],off,acc,_=>⟨acc,rfl,by simp⟩
 |n::ns,off,acc,h=>by
  have h0:=h 0 (.int .u8 n) rfl;simp only[Nat.add_zero] at h0;obtain⟨bs,h1,h2⟩:=MJ ns (off+1) (acc.push n.toNat.toUInt8) (fun i v hv=>by rw[show off+1+i=off+(i+1) from by omega];exact h (i+1) v (by simpa using hv));refine⟨bs,?_,?_⟩
  ·simp only[akd,loadBytes,Sem.run_bind,run_load,h0,Result.andThen_ok,XG];exact h1
  ·rw[h2];simp[ByteArray.push]
theorem vG {p:Program}{e:TypeId}{count off n:Nat}(hs:p.cellsOf e=1)(hn:off+n<=count)(hd:∃d,p.depth=d+1):liesAt p p.depth e count off e n=true:=by
 obtain⟨d,hd⟩:=hd;rw[hd,liesAt,hd];have:rowAt p (fun x=>sameLayout p (d+1) x e) (d+1) e count off n=true:=by
  rw[rowAt];simp only[hs,Nat.one_ne_zero,if_false,Nat.mod_one,Nat.div_one];have:sameLayout p (d+1) e e=true:=by rw[sameLayout];simp
  simp[this,hn]
 simp[this]
theorem TA (ts:Array TypeId)(ty:TypeId)(p:Option Addr)(l:Value):∃(w1:String) (e1 e2:RuntimeError) (u1 u2:Unsupported),Builtin.unsafeString_ ts ty #[.pointer p,l]=(do
  let n <-asInt l
  let some pt:=ts[0]?|stuck w1
  if n<0 then runtimePanic e1
  if n>IntKind.i64.max then unsupported u1
  match p with
  |none =>
   if n=0 then pure (.string .empty)
   else runtimePanic e2
  |some a =>
   if n=0 then pure (.string .empty)
   else if <-variablesAt a (<-elemOf pt) n.toNat then do
    let s <-loadBytes a .empty n.toNat
    freeze a n.toNat
    pure (.string s)
   else unsupported u2):=⟨_,_,_,_,_,rfl⟩
theorem JD (hX:VI X P)(H:HR σ s w){ts:Array TypeId}{ty:TypeId}{x r:AV}{k:IntKind}{n:Int}{v:Value}{s':St}(hx:ZY σ x v)(h:Yj X .unsafeString ts [x,.int k n] s=some (r,s'))(fu:∃t,ts[0]? = some t) :
  M6 P σ s w (Builtin.unsafeString_ ts ty #[v,.int k n]) r s':=by
 obtain⟨t,ht⟩:=fu;have dQ:¬ts.size=0:=fun e=>by rw[Array.getElem?_eq_none (by omega)] at ht;cases ht
 simp only[Yj,if_neg dQ] at h
 split at h
 ·split at h
  ·rename_i hn
   cases h;subst hn
   simp only[ZY] at hx;subst hx;refine UC.o ⟨.string .empty,?_,by simp only[ZY];exact⟨_,rfl,rfl⟩⟩ H;obtain⟨w1,e1,e2,u1,u2,kL⟩:=TA ts ty _ (.int k 0);rw[kL];simp[asInt,asIntOf,ht]
  ·cases h
 ·rename_i b o;obtain⟨p,hp,rfl⟩:=Xf hx
  split at h
  ·rename_i hn
   cases h;subst hn
   refine UC.o ⟨.string .empty,?_,by simp only[ZY];exact⟨_,rfl,rfl⟩⟩ H;obtain⟨w1,e1,e2,u1,u2,kL⟩:=TA ts ty _ (.int k 0);rw[kL];simp[asInt,asIntOf,ht]
  ·rename_i EO
   split at h
   ·cases h
   ·rename_i aB
    split at h
    ·rename_i c e OM PF t' hg eV;rw[ht] at eV;cases eV
     split at h
     ·rename_i u hu
      split at h
      ·rename_i hue;obtain⟨rfl,VY⟩:=hue
       split at h
       ·rename_i q hq
        split at h
        ·rename_i bs LQ
         cases h
         have hl:s.look b=some (.cells c u false OM PF):=St.X4 hg (by simp);have hc:s.cells b=some c:=by simp[St.cells,hg]
         obtain⟨cc,fz,k1,k2,k3,k4,k5⟩:=H.cells hp hl;obtain⟨vs,Pd,Mv⟩:=H.row hp hc q o (fun i a ha=>Qw hq ha);obtain⟨ns,rfl,rfl⟩:=Uv LQ Pd;have hlen:ns.length=n.toNat:=by
          have h1:=(WV hq).1;have h2:=Pd.length;simp at h2;omega
         obtain⟨b',g1,g2⟩:=MJ (P:=P) (w:=w) (b:=p.b) ns (p.sh+o) .empty Mv;rw[hlen] at g1;have kK:P.cellsOf u=1:=by
          unfold size at VY
          split at VY
          ·rename_i i hi;simp only[Program.cellsOf,hX.inf _ _ hi,amo,amG];exact Option.some.inj VY
          ·cases VY
         have alc:0<n.toNat:=by omega
         have hoc:o+n.toNat<=c.length:=by
          have:=(WV hq).2 (n.toNat-1) (by omega);omega
         have hva:(variablesAt ⟨p.b,p.sh+o,none⟩ u n.toNat).run P w=.ok true w:=by
          simp only[variablesAt,Sem.run_bind,run_program,Result.andThen_ok,run_shape,World.shape?,k1,Sem.run_pure];rw[kK,Nat.div_one,vG kK (by rw[k2];omega) ⟨2*(P.types.size+Made.depth)+1,rfl⟩]
         refine⟨σ,.string b',w.freeze ⟨p.b,p.sh+o,none⟩ n.toNat,?_,?_,?_⟩
         ·have n1:¬(n<0):=by omega
          have n2:¬(n>IntKind.i64.max):=by rw[IntKind.max_i64];omega
          obtain⟨w1,e1,e2,u1,u2,kL⟩:=TA ts ty (some ⟨p.b,p.sh+o,none⟩) (.int k n);rw[kL];simp only[asInt,asIntOf,Sem.run_bind,Sem.run_pure,Result.andThen_ok,ht,n1,n2,EO,if_false,elemOf,ZP (hX.Zd _ _ hu),hva,if_true,g1,run_freeze]
         ·simp only[ZY];exact⟨_,rfl,by rw[g2];simp⟩
         ·have PX:(w.freeze ⟨p.b,p.sh+o,none⟩ n.toNat).heap=w.heap.modify p.b fun
            |.cells c elem (lo,hi)=>.cells c elem (if lo==hi then (p.sh+o,p.sh+o+n.toNat) else (min lo (p.sh+o),max hi (p.sh+o+n.toNat)))
            |o=>o:=by
           unfold World.freeze;rw[if_neg (by omega)];rfl
          obtain⟨lo,hi⟩:=fz;refine Good.put H hp hl rfl (by simp) (by rw[PX];simp) ?_ (o:=.cells cc u (if lo==hi then (p.sh+o,p.sh+o+n.toNat) else (min lo (p.sh+o),max hi (p.sh+o+n.toNat)))) ?_ ⟨k2,k3,rfl,k4,(fun h=>by cases h),H.spec hp hl⟩ ?_ ?_ ?_
          ·intro d hd;rw[PX,Array.getElem?_modify,if_neg (fun e=>hd e.symm)]
          ·rw[PX,Array.getElem?_modify,if_pos rfl,k1];rfl
          ·simp only[World.freeze];split <;> rfl
          ·simp only[World.freeze];split <;> rfl
          ·simp only[World.freeze];split <;> rfl
        ·cases h
       ·cases h
      ·cases h
     ·cases h
    ·cases h
 ·cases h
end
end Go.Am
namespace Go.Am
open Go
section
variable [Stat]
variable {X:Cx}{P:Program}{w:World}{σ:Sg}{s:St}
def adg (nx:Next)(v:Value):Prop:=nx=.value v\/(nx=.skip/\v=Go.undef)
def xX (P:Program)(σ:Sg)(s:St)(w:World)(m:Sem Next)(a:AV)(s':St):Prop :=
 ∃Yx nx v w',m.run P w=.ok nx w'/\adg nx v/\ZY Yx a v/\Good σ s w Yx s' w'
theorem M6.op {m:Sem Value}{a:AV}{s':St}(h:M6 P σ s w m a s'):xX P σ s w (do pure (.value (<-m))) a s':=by
 obtain⟨Yx,v,w',h1,h2,h3⟩:=h;exact⟨Yx,.value v,v,w',by simp only[Sem.run_bind,h1,Result.andThen_ok,Sem.run_pure],.inl rfl,h2,h3⟩
theorem UC.op {m:Sem Value}{a:AV}(h:UC P w σ m a)(H:HR σ s w):xX P σ s w (do pure (.value (<-m))) a s:=(h.o H).op
theorem QB:ZY σ Am.undef Go.undef:=by
 simp only[Am.undef,ZY];exact⟨#[],rfl,by simp[ZZ]⟩
theorem Bn {m:Sem Unit}{s':St}(h:∃w',m.run P w=.ok () w'/\Good σ s w σ s' w'):xX P σ s w (do m;pure .skip) Am.undef s':=by
 obtain⟨w',h1,h2⟩:=h;exact⟨σ,.skip,Go.undef,w',by simp only[Sem.run_bind,h1,Result.andThen_ok,Sem.run_pure],.inr ⟨rfl,rfl⟩,QB,h2⟩
theorem Jr (hg:WD X σ){e:Env}{tmps:Array Value}(he:SU σ e tmps){x:Option Operand}{a:Option AV}(h:Ov X e x=some a):wE σ a (x.map (HX tmps)):=by
 unfold Ov at h
 split at h
 ·cases h;exact trivial
 ·rename_i x
  split at h
  ·rename_i v hv;cases h;exact T_ hg he hv
  ·cases h
def NL:Op->Bool
 |.call { callee:=.value _,.. }=>true
 |_=>false
theorem Zo {v:Option AV}{r:AV}{s s':St}(h:Zm v s=some (r,s')):v=some r/\s'=s:=by
 unfold Zm at h
 split at h
 ·cases h;exact⟨rfl,rfl⟩
 ·cases h
theorem Po {t:Option St}{r:AV}{s':St}(h:OA t=some (r,s')):t=some s'/\r=Am.undef:=by
 unfold OA at h
 split at h
 ·cases h;exact⟨rfl,rfl⟩
 ·cases h
theorem Fh (hX:VI X P)(H:HR σ s w)(hf:σ s.next=none){b:Builtin}{ts:Array TypeId}{ty:TypeId}{cs:Array Bool}{vs:List AV}{us:List Value}{r:AV}{s':St}(hv:ZZ σ vs us)
  (h:Yj X b ts vs s=some (r,s')):xX P σ s w (builtin b ts ty cs us.toArray) r s':=by
 have h0:=h;unfold Yj at h
 split at h
 ·
  simp only[ZZ] at hv;obtain⟨v,y,rfl,h1,rfl⟩:=hv;obtain⟨rfl,h2⟩:=kM (P:=P) (ty:=ty) hX H h1 h0;exact h2.op H
 ·
  simp only[ZZ] at hv;obtain⟨v,y,rfl,h1,u,z,rfl,h2,rfl⟩:=hv
  split at h
  ·rename_i t u' ht hu
   split at h
   ·rename_i e hd;exact (IG (P:=P) hX H hf ht hu ⟨_,hd,by simp⟩ h1 h2 h).op
   ·rename_i hd;exact (IG (P:=P) hX H hf ht hu ⟨_,hd,by simp⟩ h1 h2 h).op
   ·cases h
  ·cases h
 ·
  rename_i k x l
  split at h
  ·rename_i q hq
   cases h
   simp only[ZZ] at hv;obtain⟨v,y,rfl,h1,h2⟩:=hv;rw[Zf h1];obtain⟨u,g1,g2⟩:=zh (P:=P) (w:=w) hq h2;exact UC.op (m:=Builtin.min_ ts ty _) ⟨u,g1,g2⟩ H
  ·cases h
 ·
  rename_i k x l
  split at h
  ·rename_i q hq
   cases h
   simp only[ZZ] at hv;obtain⟨v,y,rfl,h1,h2⟩:=hv;rw[Zf h1];obtain⟨u,g1,g2⟩:=zg (P:=P) (w:=w) hq h2;exact UC.op (m:=Builtin.max_ ts ty _) ⟨u,g1,g2⟩ H
  ·cases h
 ·
  simp only[ZZ] at hv;obtain⟨v,y,rfl,h1,rfl⟩:=hv
  split at h
  ·cases h
   simp only[ZY] at h1;subst h1;exact UC.op (m:=Builtin.unsafeSliceData_ ts ty _) ⟨.pointer none,rfl,by simp[ZY]⟩ H
  ·cases h
   obtain⟨a,c,rfl,hlen,⟨p,hp,ha,_⟩,_⟩:=Tw h1;obtain⟨c',rfl⟩:∃c',c=c'+1:=⟨c-1,by omega⟩;have:=ha (by omega);subst this;exact UC.op (m:=Builtin.unsafeSliceData_ ts ty _) ⟨.pointer (some ⟨p.b,p.sh+_,none⟩),rfl,by simp only[ZY];exact⟨p,hp,rfl⟩⟩ H
  ·cases h
 ·
  rename_i p k n;simp only[ZZ] at hv;obtain⟨v,y,rfl,h1,u,z,rfl,h2,rfl⟩:=hv;rw[Zf h2]
  cases ht:ts[0]? with
  |some t=>exact (JD (P:=P) (ty:=ty) hX H h1 h0 ⟨t,ht⟩).op
  |none =>
   have:ts.size=0:=by
    rcases Nat.eq_zero_or_pos ts.size with h|h
    ·exact h
    ·rw[al8 h] at ht;cases ht
   rw[if_pos this] at h;cases h
 ·cases h
theorem D_ (hX:VI X P)(hG:WD X σ)(H:HR σ s w)(hf:σ s.next=none){ex:Ex}{e:Env}{tmps:Array Value}(E:SU σ e tmps){o:Oper}{v:AV}{s':St}(hn:NL o.op=false)
  (h:YI X ex e o.op s=some (v,s')):xX P σ s w (execOp (HX tmps) o) v s':=by
 obtain⟨dst,op,type,pos,after,guard⟩:=o;simp only at h hn;have ev:∀{x a},eval X e x=some a->ZY σ a (HX tmps x):=fun h=>T_ hG E h
 cases op <;> simp only[YI] at h <;> try (cases h;done)
 case move x =>
  obtain⟨h1,rfl⟩:=Zo h;exact⟨σ,_,_,w,rfl,.inl rfl,ev h1,Good.refl H⟩
 case assign x =>
  obtain⟨h1,rfl⟩:=Zo h;exact⟨σ,_,_,w,rfl,.inl rfl,ev h1,Good.refl H⟩
 case pick c a b =>
  split at h
  ·rename_i hc;obtain⟨h1,rfl⟩:=Zo h;exact⟨σ,_,_,w,by simp only[execOp,Sem.run_bind,WU (ev hc),asBool,Sem.run_pure,Result.andThen_ok,if_true],.inl rfl,ev h1,Good.refl H⟩
  ·rename_i hc;obtain⟨h1,rfl⟩:=Zo h;exact⟨σ,_,_,w,by simp only[execOp,Sem.run_bind,WU (ev hc),asBool,Sem.run_pure,Result.andThen_ok,ali,if_false],.inl rfl,ev h1,Good.refl H⟩
  ·cases h
 case alloc t =>
  split at h
  ·rename_i z hz
   cases h
   exact (qu (P:=P) hX H hf hz).op
  ·cases h
 case box t x =>
  split at h
  ·rename_i a ha
   cases h
   exact (dY (P:=P) H hf (ev ha)).op
  ·cases h
 case build t ps =>
  split at h
  ·rename_i l hl;obtain⟨h1,rfl⟩:=Zo h;exact (wQ (w:=w) hX (by simpa using QU hG E hl) h1).op H
  ·cases h
 case buildSlice t n ps =>
  split at h
  ·rename_i l hl;exact (Im (P:=P) hX H hf (by simpa using QU hG E hl) h).op
  ·cases h
 case load t a =>
  split at h
  ·rename_i x hx;obtain⟨h1,rfl⟩:=Zo h;exact (Dd (P:=P) hX H (ev hx) h1).op H
  ·cases h
 case store t a x =>
  split at h
  ·rename_i y z hy hz;obtain⟨h1,rfl⟩:=Po h;exact Bn (uK (P:=P) hX H (ev hy) (ev hz) h1)
  ·cases h
 case nilCheck x =>
  split at h
  ·rename_i b o hx
   cases h
   have hr:=ev hx;obtain⟨p,hp,hv⟩:=Xf hr;exact⟨σ,.value (HX tmps x),_,w,by simp only[execOp,hv];rfl,.inl rfl,hr,Good.refl H⟩
  ·rename_i c o hx
   cases h
   have hr:=ev hx;obtain⟨b,base,us,cc,e,fz,hv,_⟩:=KH hr;exact⟨σ,.value (HX tmps x),_,w,by simp only[execOp,hv];rfl,.inl rfl,hr,Good.refl H⟩
  ·rename_i f a b hx
   cases h
   have hr:=ev hx;have Ur:=hr;simp only[ZY] at Ur;obtain⟨f',x',y',hv,Dp,_,_⟩:=Ur;simp only[SG] at Dp;subst Dp;exact⟨σ,.value (HX tmps x),_,w,by simp only[execOp,hv];rfl,.inl rfl,hr,Good.refl H⟩
  ·rename_i f a b hx
   cases h
   have hr:=ev hx;have Ur:=hr;simp only[ZY] at Ur;obtain⟨f',x',y',hv,Dp,_,_⟩:=Ur;simp only[SG] at Dp;obtain⟨p,_,rfl⟩:=Dp;exact⟨σ,.value (HX tmps x),_,w,by simp only[execOp,hv];rfl,.inl rfl,hr,Good.refl H⟩
  ·cases h
 case binOp op t x y yt =>
  split at h
  ·rename_i a b ha hb;obtain⟨h1,rfl⟩:=Zo h;exact (iD (w:=w) hX rfl (ev ha) (ev hb) h1).op H
  ·cases h
 case unOp op t x =>
  split at h
  ·rename_i a ha;obtain⟨h1,rfl⟩:=Zo h;exact (bK (P:=P) (w:=w) (ev ha) h1).op H
  ·cases h
 case convert src dst x =>
  split at h
  ·rename_i a ha;have hr:=ev ha
   cases hs:X.Zd src with
   |none=>unfold RP at h;rw[hs] at h;simp at h
   |some sd =>
    cases hd:X.Zd dst with
    |none=>unfold RP at h;rw[hs,hd] at h;cases a <;> simp at h
    |some dd =>
     by_cases h1:∃e,sd=.slice e/\dd=.string
     ·obtain⟨e,rfl,rfl⟩:=h1;obtain⟨rfl,h2⟩:=KU (P:=P) hX H hs hd hr h;exact h2.op H
     ·by_cases h2:∃e l,dd=.slice e/\a=.str l
      ·obtain⟨e,l,rfl,rfl⟩:=h2;exact (KT (P:=P) (v:=.Vk) hX H hf hs hd hr h).op
      ·obtain⟨rfl,h3⟩:=qR (P:=P) (w:=w) hX hr h (fun ⟨e,g1,g2⟩=>h1 ⟨e,by rw[hs] at g1;exact Option.some.inj g1,by rw[hd] at g2;exact Option.some.inj g2⟩) (fun ⟨e,l,g1,g2⟩=>h2 ⟨e,l,by rw[hd] at g1;exact Option.some.inj g1,g2⟩);exact h3.op H
  ·cases h
 case makeInterface t x =>
  split at h
  ·rename_i a ha
   split at h
   ·cases h
   ·rename_i d hd hni
    cases h
    exact (Lc (P:=P) (w:=w) hX (ev ha) hni (fun ms hm=>by subst hm;exact hd ms rfl)).op H
   ·cases h
  ·cases h
 case makeFunc f a b =>
  split at h
  ·rename_i g
   split at h
   ·rename_i x y hx hy
    cases h
    have NI:=Qx hG E hx;have hy':=Qx hG E hy;refine UC.op (m:=Instr.makeFunc (.func g) (a.map (HX tmps)) (b.map (HX tmps))) ⟨.func (.func g) (a.map (HX tmps)) (b.map (HX tmps)),by simp[Instr.makeFunc],?_⟩ H;simp only[ZY];exact⟨_,_,_,rfl,by simp[SG],by simpa using NI,by simpa using hy'⟩
   ·cases h
  ·cases h
 case makeMap t r =>
  split at h
  ·cases h
   exact (IV (P:=P) H hf).op
  ·rename_i x
   split at h
   ·rename_i k n kt et hx hu
    cases h
    have:=(BS (P:=P) hX H hf (kn:=k) (n:=n) hu).op;simp only[execOp,amo,Zf (ev hx)];exact this
   ·cases h
 case makeSlice t l c =>
  split at h
  ·rename_i kl l kc c elem hl hc hu
   split at h
   ·rename_i i z hi hz
    split at h
    ·rename_i Q5
     cases h
     have:=(Eu (P:=P) hX H hf (kl:=kl) (kc:=kc) hu hi hz Q5).op;simp only[execOp,Zf (ev hl),Zf (ev hc)];exact this
    ·cases h
   ·cases h
  ·cases h
 case slice t x lo hi mx =>
  split at h
  ·rename_i v lo' MW mx' hv hl hh hm;obtain⟨h1,rfl⟩:=Zo h;exact (wD (w:=w) hX (ev hv) (Jr hG E hl) (Jr hG E hh) (Jr hG E hm) h1).op H
  ·cases h
 case fieldAddr t x f =>
  split at h
  ·rename_i a ha;obtain⟨h1,rfl⟩:=Zo h;exact (Ep (w:=w) hX (ev ha) h1).op H
  ·cases h
 case field t x f =>
  split at h
  ·rename_i cs fs hc hu
   split at h
   ·rename_i fd hfd;obtain⟨h1,rfl⟩:=Zo h;exact (o8 (w:=w) hX hu (ev hc) hfd h1).op H
   ·cases h
  ·cases h
 case indexAddr t x i =>
  split at h
  ·rename_i a b ha hb;obtain⟨h1,rfl⟩:=Zo h;exact (Eo (w:=w) hX (ev ha) (ev hb) h1).op H
  ·cases h
 case index t x i =>
  split at h
  ·rename_i a b ha hb;obtain⟨h1,rfl⟩:=Zo h;exact (o9 (w:=w) hX (ev ha) (ev hb) h1).op H
  ·cases h
 case lookup t m k ok =>
  split at h
  ·rename_i a b ha hb;obtain⟨h1,rfl⟩:=Zo h;exact (Ak (P:=P) hX H (ev ha) (ev hb) h1).op H
  ·cases h
 case mapUpdate t m k x =>
  split at h
  ·rename_i a b c ha hb hc;obtain⟨h1,rfl⟩:=Po h;exact Bn (I_ (P:=P) hX H (ev ha) (ev hb) (ev hc) h1)
  ·cases h
 case insert t m k x =>
  split at h
  ·rename_i a b c ha hb hc;obtain⟨h1,rfl⟩:=Po h;exact Bn (I_ (P:=P) hX H (ev ha) (ev hb) (ev hc) h1)
  ·cases h
 case range t x =>
  split at h
  ·rename_i b hb hu
   cases h
   exact (qi (P:=P) hX H hf hu (ev hb)).op
  ·cases h
 case next it str =>
  cases str with
  |false=>simp only[YI] at h;cases h
  |true =>
   simp only[YI] at h
   split at h
   ·rename_i r hr
    split at h
    ·rename_i b pos hg;have:=kN (P:=P) (ty:=type) H (ev hr) hg
     cases b with
     |nil=>cases h;exact this.op
     |cons c b=>cases h;exact this.op
    ·cases h
   ·cases h
 case extract t i =>
  split at h
  ·rename_i vs SI;obtain⟨h1,rfl⟩:=Zo h;exact (yD (P:=P) (w:=w) (ev SI) h1).op H
  ·cases h
 case call c =>
  obtain⟨callee,args,argTypes⟩:=c
  cases callee with
  |value f=>simp[NL] at hn
  |invoke r m=>simp only at h;cases h
  |builtin b =>
   simp only at h
   split at h
   ·rename_i vs SI;have hv:=Qx hG E SI;have:=Fh (P:=P) (ty:=type) (cs:=args.map fun|.const _=>true|_=>false) hX H hf hv h;have he:(args.toList.map (HX tmps)).toArray=args.map (HX tmps):=by
     apply Array.ext';simp
    rw[he] at this;exact this
   ·cases h
end
end Go.Am
namespace Go.Am
open Go
abbrev FW (r:Option Nat):Fence:={ Fence.wide with round:=r }
section
variable [Stat]
def DF (n0:Nat)(σ:Sg)(w:World)(ds:List Deferred):Prop :=
 ∃rs:List Nat,ds=rs.map (fun r=>({ target:=.collected r,args:=#[] }:Deferred))/\rs.Nodup/\∀r∈rs,n0<=r/\w.heap[r]? = some (.deferred (some []))/\(∀i p,σ i=some p->p.b≠r)/\σ.fz r=none
theorem DF.nil (n0:Nat)(σ:Sg)(w:World):DF n0 σ w []:=⟨[],rfl,List.nodup_nil,fun _ h=>by cases h⟩
theorem DF.good {n0:Nat}{σ Yx:Sg}{s s':St}{w w':World}{ds:List Deferred}(h:DF n0 σ w ds)(g:Good σ s w Yx s' w'):DF n0 Yx w' ds:=by
 obtain⟨rs,e,hn,hr⟩:=h;refine⟨rs,e,hn,fun r hm=>?_⟩;obtain⟨h1,h2,h3,h4⟩:=hr r hm;have Yh:r<w.heap.size:=(agz.1 h2).1;have SX:¬Qr σ s r:=fun ⟨i,p,b,hp,_,_,hb⟩=>h3 i p hp hb
 refine⟨h1,by rw[g.ext.keep r Yh SX];exact h2,fun i p hp hb=>?_,?_⟩
 rotate_left
 ·cases hz:Yx.fz r with
  |none=>rfl
  |some o =>
   rcases g.ext.tI r o hz with h5|h5
   ·rw[h4] at h5;cases h5
   ·omega
 by_cases e:σ i=none
 ·rcases g.news i p hp e with hk|hk
  ·omega
  ·exact SX (hb ▸ hk)
 ·cases hq:σ i with
  |none=>exact e hq
  |some q =>
   have:=g.ext.le.p i q hq;rw[hp] at this;cases this;exact h3 i p hq hb
structure Inv (X:Cx)(σ:Sg)(s:St)(w:World)(n0:Nat)(e:Env)(a:Act):Prop where
 hr:HR σ s w
 fresh:Tn σ s
 glob:WD X σ
 env:SU σ e a.tmps
 df:DF n0 σ w a.defers
 n0:n0<=w.heap.size
def QX:Out->Exit->Prop
 |.norm,.normal=>True
 |.exit i,.exit j=>i=j
 |.ret,.ret=>True
 |_,_=>False
def Ro (X:Cx)(σ:Sg)(s:St)(w:World)(n0:Nat)(a:Act)(e':Env)(s':St)(a':Act)(w':World):Prop :=
 ∃Yx,Good σ s w Yx s' w'/\Inv X Yx s' w' n0 e' a'/\a'.tmps.size=a.tmps.size
def ZB (X:Cx)(σ:Sg)(s:St)(w:World)(n0:Nat)(a:Act)(out:Out)(e':Env)(s':St):Exit->Act->World->Prop :=
 fun ex a' w'=>QX out ex/\Ro X σ s w n0 a e' s' a' w'
theorem WD.mono {X:Cx}{σ τ:Sg}(h:Sg.le σ τ)(k:WD X σ):WD X τ:=fun g hg=>by
 obtain⟨n,hn,hb⟩:=k g hg;refine⟨n,h.p _ _ hn,fun b e=>?_⟩;obtain⟨h1,o,h2,h3⟩:=hb b e;exact⟨h1,o,h.z _ _ h2,h3.mono h.bare⟩
theorem Ro.refl {X:Cx}{σ:Sg}{s:St}{w:World}{n0:Nat}{e:Env}{a:Act}(I:Inv X σ s w n0 e a):Ro X σ s w n0 a e s a w:=⟨σ,Good.refl I.hr,I,rfl⟩
theorem Ro.trans {X:Cx}{σ HZ:Sg}{s s1 s2:St}{w w1 w2:World}{n0:Nat}{e2:Env}{a a1 a2:Act}(g:Good σ s w HZ s1 w1)(hs:a1.tmps.size=a.tmps.size)(k:Ro X HZ s1 w1 n0 a1 e2 s2 a2 w2) :
  Ro X σ s w n0 a e2 s2 a2 w2:=by
 obtain⟨Bh,g2,i2,h2⟩:=k;exact⟨Bh,g.trans g2,i2,h2.trans hs⟩
theorem SU.put {σ:Sg}{e:Env}{tmps:Array Value}(h:SU σ e tmps){d:Nat}(hd:d<tmps.size){v:AV}{u:Value}(hv:ZY σ v u):SU σ (Tr.set e d v) (tmps.setIfInBounds d u):=by
 intro t;rw[Env.Sz];by_cases ht:d=t
 ·subst ht;rw[if_pos rfl];simp only[al3,amD,hd,if_true,if_pos,amG];exact hv
 ·rw[if_neg ht];have:=h t;simp only[al3,amD] at this ⊢;rw[if_neg ht];exact this
def Jj (m:Nat)(d:Option Tmp):Prop:=∀t,d=some t->t<m
theorem AB (a:Act)(d:Option Tmp)(u:Value):(a.put d u).tmps.size=a.tmps.size:=by
 cases d <;> simp[Act.put]
theorem put_defers (a:Act)(d:Option Tmp)(u:Value):(a.put d u).defers=a.defers:=by
 cases d <;> simp[Act.put]
theorem Ji {σ:Sg}{e:Env}{a:Act}(h:SU σ e a.tmps){d:Option Tmp}(hd:Jj a.tmps.size d){v:AV}{u:Value}(hv:ZY σ v u):SU σ (Yt e d v) (a.put d u).tmps:=by
 cases d with
 |none=>exact h
 |some d=>exact h.put (hd d rfl) hv
theorem Inv.put {X:Cx}{σ Yx:Sg}{s s':St}{w w':World}{n0:Nat}{e:Env}{a:Act}(I:Inv X σ s w n0 e a)(g:Good σ s w Yx s' w'){d:Option Tmp}(hd:Jj a.tmps.size d){v:AV}{u:Value}(hv:ZY Yx v u) :
  Ro X σ s w n0 a (Yt e d v) s' (a.put d u) w' :=
 ⟨Yx,g,⟨g.hr,g.fresh I.fresh,I.glob.mono g.ext.le,Ji (I.env.mono g.ext.le) hd hv,by rw[put_defers];exact I.df.good g,amA I.n0 g.ext.size⟩,AB _ _ _⟩
theorem Tp (a:Act):a.eval=HX a.tmps:=by
 funext x;cases x <;> rfl
theorem Em {σ:Sg}{a:AV}{b:Bool}(h:ZY σ a (.bool b)):a=.bool b:=by
 cases a <;> simp only[ZY] at h <;> first
  |(injection h with h;subst h;rfl)
  |(cases h;done)
  |(obtain⟨_,h,_⟩:=h;cases h;done)
  |(obtain⟨_,_,h⟩:=h;cases h;done)
  |(obtain⟨_,_,h,_⟩:=h;cases h;done)
  |(obtain⟨_,_,_,h,_⟩:=h;cases h;done)
  |(obtain⟨_,_,_,_,_,_,h,_⟩:=h;cases h;done)
theorem D5 {σ:Sg}{e:Env}{tmps:Array Value}(h:SU σ e tmps)(ops:Array Oper)(o:Oper):Region.wanted o (yielded ops tmps)=XQ ops e o:=by
 unfold Region.wanted XQ
 cases hg:o.guard with
 |none=>rfl
 |some g =>
  obtain⟨j,want⟩:=g;simp only[yielded]
  cases ho:ops[j]? with
  |none=>simp
  |some oj =>
   cases hd:oj.dst with
   |none=>simp[hd]
   |some d =>
    simp only[Option.bind_some,hd];have ht:=h d;rw[al3] at ht
    cases hv:tmps[d]? with
    |none =>
     rw[hv] at ht;simp only[Option.getD_none] at ht
     cases ha:Env.get e d <;> rw[ha] at ht <;> simp only[ZY] at ht <;> first|rfl|(cases ht;done)
    |some v =>
     rw[hv] at ht;simp only[amG] at ht
     cases v with
     |bool b =>
      rw[Em ht];show (some b==some want)=(b==want)
      cases b <;> cases want <;> rfl
     |_ =>
      cases ha:Env.get e d <;> rw[ha] at ht <;> simp only[ZY] at ht <;> first|rfl|(cases ht;done)
def uA (P:Program)(R:Value->World->Prop):Result Next->Prop
 |.ok (.value v) w'=>R v w'
 |.ok (.enter f args) w'=>Calls P f args w' fun e w''=>∃v,e=.returned v/\R v w''
 |_=>False
def kH (X:Cx)(P:Program)(f:FuncId)(g:List AV->St->Option (AV×St)):Prop :=
 ∀args s v s' σ w (us:Array Value),g args s=some (v,s')->HR σ s w->Tn σ s->WD X σ->ZZ σ args us.toList ->
  uA P (fun u w'=>∃Yx,ZY Yx v u/\Good σ s w Yx s' w') ((callFunc f us).run P w)
structure Full (X:Cx)(P:Program):Prop extends VI X P where
 stat:∀m c,Stat.ok m c<->∃n,n<=m/\HK X n c=true/\Qh c=true
 fok:∀f fn c,X.fn f=some fn->fn.body=some c->HK X fn.ntmps c=true
 nm:∀f fn,X.fn f=some fn->(fn.name == "runtime.NumGoroutine")=false
 ext:∀f g,X.ext f=some g->kH X P f g
 mixed:P.follows .mixedOrders=true
 gb:∀i b,X.LK i=some b->b≠.gone
def nV (X:Cx)(r:Option Nat)(m:Nat)(c:Code):Prop:=∃n,n<=m/\HK X n c=true/\(r.isSome=true->Qh c=true)
theorem FD {r:Option Nat}{n:Nat}{P:Program}{f:FuncId}{args:Array Value}{w:World}{R:Ending->World->Prop}(h:Calls P f args w R):CallsIn (FW r) n P f args w R:=by
 cases r with
 |none=>exact callsIn_wide.2 h
 |some l=>exact CallsIn.inRound l (callsIn_wide.2 h)
theorem Kx {F:Fence}{n:Nat}{P:Program}{f:FuncId}{args:Array Value}{w:World}{R R':Ending->World->Prop}(h:CallsIn F n P f args w R)(hr:∀e w',R e w'->R' e w'):CallsIn F n P f args w R' :=
 ⟨h.1,fun cs Kw=>let ⟨e,w',fr,r,s⟩:=h.2 cs Kw;⟨e,w',fr,hr _ _ r,s⟩⟩
theorem bJ {X:Cx}{P:Program}{r:Option Nat}{o:Oper}{a:Act}{Jk:Act->World->Prop}{Q:Exit->Act->World->Prop}{m:Result Next}{R:Value->World->Prop}(h:uA P R m)(hn:∀v w',R v w'->Jk (a.put o.dst v) w') :
  o.uponIn (FW r) 0 P a Jk Q m:=by
 unfold uA at h
 split at h
 ·rw[Oper.uponIn_value];exact hn _ _ h
 ·rw[Oper.uponIn_enter];refine⟨fun hd=>(by cases hd),Kx (FD h) ?_⟩;rintro e w' ⟨v,rfl,hv⟩;exact hn _ _ hv
 ·exact h.elim
theorem PK {r:Option Nat}{P:Program}{w:World}{o:Oper}{ρ:Operand->Value}:∀f,o.about P w ρ=some f->(FW r).fn f:=fun _ _=>trivial
theorem uy {F:Fence}{n:Nat}{P:Program}{Q:Exit->Act->World->Prop}{a:Act}{w:World}{c:Code}(h:c.wpIn F n P (Exit.noGoto Q) a w):(Code.scope c).wpIn F n P Q a w:=by
 intro b k cs UK hb hr;have h0:(lone (b.atR a (.code (.scope c)::k)) cs w).fenced P F:=fenced_calm hb hr rfl;have Xz:step P (lone (b.atR a (.code (.scope c)::k)) cs w)=.next (lone (b.atR a (.code c::.inScope c::k)) cs w):=step_lone_go (by simp[stepG,stepG.exec,Frame.atR]);have acK:∀a w,step P (lone (b.atR a (.inScope c::k)) cs w)=.next (lone (b.atR a k) cs w):=fun a w=>step_lone_go (by simp[stepG,stepG.exec,Frame.atR])
 obtain⟨e,a₁,w₁,hq,N2⟩:=h b (.inScope c::k) cs UK hb hr
 cases e with
 |normal=>exact⟨.normal,a₁,w₁,hq,.head h0 Xz (StepsIn.trans N2 (.one (fenced_calm hb hr rfl) (acK _ _)))⟩
 |exit id =>
  have hx:exitTo id (.inScope c::k)=exitTo id k:=by simp[exitTo]
  exact⟨.exit id,a₁,w₁,hq,fun k' hk=>.head h0 Xz (N2.1 k' (by rw[hx];exact hk)),fun Ur hk=>let ⟨k₁,h1,h2⟩:=N2.2 Ur (by rw[hx];exact hk);⟨k₁,h1,.head h0 Xz h2⟩⟩
 |goto l=>exact hq.elim
 |ret=>exact⟨.ret,a₁,w₁,hq,.of_steps (b:=b) (k:=k) (cs:=cs) (e:=.ret) (.one h0 Xz) N2⟩
 |panic ch=>exact⟨.panic ch,a₁,w₁,hq,.of_steps (b:=b) (k:=k) (cs:=cs) (e:=.panic ch) (.one h0 Xz) N2⟩
 |outgrown=>exact⟨.outgrown,a₁,w₁,hq,.of_steps (b:=b) (k:=k) (cs:=cs) (e:=.outgrown) (.one h0 Xz) N2⟩
def P6 (F:Fence)(n:Nat)(P:Program)(c:Code)(Q:Exit->Act->World->Prop)(a:Act)(w:World):Prop :=
 ∀(b:Frame) (k:List Item) (cs:List Frame),b.roundOf=F.round->F.fn b.fn->F.room (cs.length+1+n) ->
  ∃e a' w',Q e a' w'/\ArrivesIn (Machine.fenced P F) P (lone (b.atR a (.code c::.inLoop c::k)) cs w) b k cs e a' w'
def bI (F:Fence)(n:Nat)(P:Program)(c:Code)(Q:Exit->Act->World->Prop)(a:Act)(w:World):Prop :=
 match c with
 |.loop b=>P6 F n P b Q a w
 |c=>c.wpIn F n P Q a w
theorem bI.wpIn {F:Fence}{n:Nat}{P:Program}{c:Code}{Q:Exit->Act->World->Prop}{a:Act}{w:World}(h:bI F n P c Q a w):c.wpIn F n P Q a w:=by
 unfold bI at h
 split at h
 ·intro b k cs UK hb hr;obtain⟨e,a',w',hq,N2⟩:=h b k cs UK hb hr;exact⟨e,a',w',hq,.of_steps (.one (fenced_calm hb hr rfl) stepR_loop) N2⟩
 ·exact h
theorem ym {F:Fence}{n:Nat}{P:Program}{Q:Exit->Act->World->Prop}{a:Act}{w:World}{c:Code}(h:c.wpIn F n P (Exit.then (P6 F n P c Q) Q) a w):P6 F n P c Q a w:=by
 intro b k cs UK hb hr;obtain⟨e,a₁,w₁,hq,N2⟩:=h b (.inLoop c::k) cs UK hb hr
 cases e with
 |normal =>
  obtain⟨e2,a2,w2,hq2,agt⟩:=hq b k cs UK hb hr;exact⟨e2,a2,w2,hq2,.of_steps (StepsIn.trans N2 (.one (fenced_calm hb hr rfl) stepR_inLoop)) agt⟩
 |exit id=>exact⟨_,a₁,w₁,hq,.pass (x:=.inLoop c) rfl (fun _ _=>.inl (by simp)) N2⟩
 |goto l=>exact⟨_,a₁,w₁,hq,.pass (x:=.inLoop c) rfl (fun _ _=>.inl (by simp)) N2⟩
 |ret=>exact⟨_,a₁,w₁,hq,.pass (x:=.inLoop c) rfl (fun _ _=>.inl (by simp)) N2⟩
 |panic ch=>exact⟨_,a₁,w₁,hq,.pass (x:=.inLoop c) rfl (fun _ _=>.inl (by simp)) N2⟩
 |outgrown=>exact⟨_,a₁,w₁,hq,.pass (x:=.inLoop c) rfl (fun _ _=>.inl (by simp)) N2⟩
def LC (X:Cx)(P:Program)(ex:Ex):Prop :=
 ∀c e s out e' s',ex c e s=some (out,e',s')->∀r n0 a w σ,nV X r a.tmps.size c->Inv X σ s w n0 e a->bI (FW r) 0 P c (ZB X σ s w n0 a out e' s') a w
end
end Go.Am
namespace Go.Am
open Go
section
variable [Stat]
theorem HR.congr {σ:Sg}{s t:St}{w:World}(H:HR σ s w)(h:∀i,s.look i=t.look i):HR σ t w :=
 ⟨H.lt,fun i p b hp hb=>H.E1 i p b hp (by rw[h];exact hb),fun i j p q b c hp hq hb hc he=>H.inj i j p q b c hp hq (by rw[h];exact hb) (by rw[h];exact hc) he,fun c o hc=>⟨(H.fz c o hc).1,fun ⟨i,p,b,h1,h2,h3,h4⟩=>(H.fz c o hc).2 ⟨i,p,b,h1,by rw[h];exact h2,h3,h4⟩⟩⟩
theorem Good.congr {σ Yx:Sg}{s s' t:St}{w w':World}(g:Good σ s w Yx s' w')(h:∀i,s'.look i=t.look i)(hn:t.next=s'.next)(hb:t.base=s'.base):Good σ s w Yx t w' where
 hr:=g.hr.congr h
 ext:={ le:=g.ext.le,tI:=g.ext.tI,size:=g.ext.size,keep:=g.ext.keep,os:=g.ext.os,tape:=g.ext.tape,output:=g.ext.output,owns:=fun c hc ⟨i,p,b,h1,h2,h3,h4⟩=>g.ext.owns c hc ⟨i,p,b,h1,by rw[h];exact h2,h3,h4⟩ }
 Na:=fun i hi=>g.Na i (by rw[hn] at hi;exact hi)
 next:=by rw[hn];exact g.next
 dead:=fun i hi hl=>by rw[<-h];exact g.dead i hi hl
 news:=g.news
 glob:=by rw[hb];exact g.glob
theorem yc (s:St)(l:Nat)(b:Uy)(i:Nat):((s.put l b).put l .gone).look i=(s.put l .gone).look i:=by
 rw[St.Xe,St.Xe,St.Xe];by_cases h:l=i <;> simp[h]
theorem Good.acX {σ:Sg}{s:St}{w:World}(H:HR σ s w)(o:Obj):Good σ s w σ s (w.alloc o) where
 hr:=⟨fun i p h=>by have:=H.lt i p h;simp;omega,fun i p b hp hb=>by
   obtain⟨o',ho,hr⟩:=H.E1 i p b hp hb;have:=H.lt i p hp;exact⟨o',by simp only[World.alloc];rw[amh,if_neg (by omega)];exact ho,hr⟩,H.inj,fun c o' hc=>by
   obtain⟨h1,h2⟩:=H.fz c o' hc;have Yh:c<w.heap.size:=(agz.1 h1).1;exact⟨by simp only[World.alloc];rw[amh,if_neg (by omega)];exact h1,h2⟩⟩
 ext:=⟨Sg.le_refl _,fun _ _ h=>.inl h,by simp,fun c hc _=>by simp only[World.alloc];rw[amh,if_neg (by omega)],fun _ _ h=>h,rfl,rfl,rfl⟩
 Na:=fun _ _=>rfl
 next:=agB _
 dead:=fun _ _ h=>h
 news:=fun i p h k=>by rw[k] at h;cases h
 glob:=rfl
theorem Good.acJ {σ Yx:Sg}{s s':St}{w w':World}(g:Good σ s w Yx s' w'){r:Nat}(hr:w.heap.size<=r)(SX:∀i p,Yx i=some p->p.b≠r)(hz:Yx.fz r=none)(o:Obj) :
  Good σ s w Yx s' { w' with heap:=w'.heap.setIfInBounds r o } where
 hr:=⟨fun i p h=>by have:=g.hr.lt i p h;simpa using this,fun i p b hp hb=>by
   obtain⟨o',ho,hr⟩:=g.hr.E1 i p b hp hb;have:=SX i p hp;exact⟨o',by show (w'.heap.setIfInBounds r o)[p.b]? = some o';rw[amD,if_neg (fun h=>this h.symm)];exact ho,hr⟩,g.hr.inj,fun c o' hc=>by
   obtain⟨h1,h2⟩:=g.hr.fz c o' hc;have ZC:r≠c:=fun e=>by subst e;rw[hz] at hc;cases hc
   exact⟨by show (w'.heap.setIfInBounds r o)[c]? = some o';rw[amD,if_neg ZC];exact h1,h2⟩⟩
 ext:=⟨g.ext.le,g.ext.tI,by simpa using g.ext.size,fun c hc hn=>by
   show (w'.heap.setIfInBounds r o)[c]? = _;rw[amD,if_neg (by omega)];exact g.ext.keep c hc hn,g.ext.owns,g.ext.os,g.ext.tape,g.ext.output⟩
 Na:=g.Na
 next:=g.next
 dead:=g.dead
 news:=g.news
 glob:=g.glob
variable {X:Cx}{P:Program}
theorem results1 (hX:VI X P){σ:Sg}{s:St}{w:World}(H:HR σ s w){e:Env}{tmps:Array Value}(E:SU σ e tmps){r:ResultVar}{v:AV}(h:Nw X e s r=some v) :
  ∃u,(match r with|.tmp t=>pure (tmps.getD t Go.undef)|.cell a t=>do loadVar t (<-asAddr (tmps.getD a Go.undef)):Sem Value).run P w=.ok u w/\ZY σ v u:=by
 cases r with
 |tmp t=>simp only[Nw] at h;cases h;exact⟨_,rfl,E t⟩
 |cell a t =>
  simp only[Nw] at h;have SO:=E a;obtain⟨u,h1,h2⟩:=Dd (P:=P) hX H SO h
  cases ha:Env.get e a <;> rw[ha] at h <;> simp only[Vc] at h <;> try (cases h;done)
  all_goals rw[ha] at SO
  all_goals
   have hv:∃ad,tmps.getD a Go.undef=.pointer (some ad):=by
    first
     |(obtain⟨p,hp,hv⟩:=Xf SO;exact⟨_,hv⟩)
     |(obtain⟨_,_,_,_,_,_,hv,_⟩:=KH SO;exact⟨_,hv⟩)
   obtain⟨ad,hv⟩:=hv;refine⟨u,?_,h2⟩;show Sem.run P (do loadVar t (<-asAddr (tmps.getD a Go.undef))) w=_;rw[hv] at h1 ⊢;simp only[Instr.loadAt,Instr.sureAddr,Sem.run_bind,Sem.run_pure,Result.andThen_ok] at h1;simp only[asAddr,Sem.run_bind,Sem.run_pure,Result.andThen_ok];exact h1
theorem Ku (hX:VI X P){σ:Sg}{s:St}{w:World}(H:HR σ s w){e:Env}{tmps:Array Value}(E:SU σ e tmps):∀{l:List ResultVar} {vs:List AV},Xt X e s l=some vs ->
  ∃us,(l.mapM fun r=>(match r with|.tmp t=>pure (tmps.getD t Go.undef)|.cell a t=>do loadVar t (<-asAddr (tmps.getD a Go.undef)):Sem Value)).run P w=.ok us w/\ZZ σ vs us
 |[],vs,h=>by simp only[Xt] at h;cases h;exact⟨[],rfl,by simp[ZZ]⟩
 |r::l,vs,h=>by
  simp only[Xt] at h
  split at h
  ·rename_i v vs' h1 h2
   cases h
   obtain⟨u,g1,g2⟩:=results1 (P:=P) hX H E h1;obtain⟨us,g3,g4⟩:=Ku hX H E h2;refine⟨u::us,?_,by simp only[ZZ];exact⟨_,_,rfl,g2,g4⟩⟩;rw[List.mapM_cons,Sem.run_bind,g1,Result.andThen_ok,Sem.run_bind,g3,Result.andThen_ok,Sem.run_pure]
  ·cases h
theorem yw (hX:VI X P){σ:Sg}{s:St}{w:World}(H:HR σ s w){e:Env}{tmps:Array Value}(E:SU σ e tmps){fn:Func}{v:AV}(h:Uz X fn e s=some v) :
  ∃u,(results fn tmps).run P w=.ok u w/\ZY σ v u:=by
 unfold Uz at h;have key:∀vs,Xt X e s fn.results.toList=some vs->∃us:Array Value,(fn.results.mapM fun r=>(match r with|.tmp t=>pure (tmps.getD t Go.undef)|.cell a t=>do loadVar t (<-asAddr (tmps.getD a Go.undef)):Sem Value)).run P w=.ok us w/\ZZ σ vs us.toList:=by
  intro vs SI;obtain⟨us,h1,h2⟩:=Ku (P:=P) hX H E SI;exact⟨us.toArray,OB _ _ _ h1,by simpa using h2⟩
 split at h
 ·rename_i v' hv
  cases h
  obtain⟨us,h1,h2⟩:=key _ hv;simp only[ZZ] at h2;obtain⟨u,y,hu,hr,rfl⟩:=h2;have:us=#[u]:=by apply Array.ext';rw[hu]
  subst this;refine⟨u,?_,hr⟩;unfold results;rw[Sem.run_bind];refine (congrArg (fun m=>Result.andThen m _) h1).trans ?_;simp
 ·rename_i vs ZC hv
  cases h
  obtain⟨us,h1,h2⟩:=key _ hv;have hl:us.size≠1:=by
   intro hs;have:=h2.length;have h3:us.toList.length=us.size:=rfl;rw[h3,hs] at this
   match vs,this with
   |[x],_=>exact ZC x rfl
  refine⟨.tuple us,?_,by simp only[ZY];exact⟨_,rfl,h2⟩⟩;unfold results;rw[Sem.run_bind];refine (congrArg (fun m=>Result.andThen m _) h1).trans ?_;simp[hl]
 ·cases h
theorem Kt {σ:Sg}:∀(l:List AV) (us:List Value) (i:Nat) (e:Env) (f:Nat->Value),ZZ σ l us->(∀t:Nat,t<i\/i+l.length<=t->ZY σ (Env.get e t) (f t)) ->
  ∀t:Nat,ZY σ (Env.get (YX i l e) t) (if i<=t/\t<i+l.length then (us[t-i]?).getD Go.undef else f t)
 |[],us,i,e,f,h,he,t=>by
  simp only[YX,List.length_nil,Nat.add_zero];rw[if_neg (by omega)];exact he t (by simp;omega)
 |v::l,us,i,e,f,h,he,t=>by
  simp only[ZZ] at h;obtain⟨u,us,rfl,h1,h2⟩:=h;simp only[YX];have:=Kt l us (i+1) (Tr.set e i v) (fun t=>if t=i then u else f t) h2 (fun (t:Nat) ht=>by
   rw[Env.Sz];by_cases hti:i=t
   ·subst hti;simp only[if_pos];exact h1
   ·rw[if_neg hti,if_neg (fun h=>hti h.symm)];exact he t (by simp only[akd];omega)) t
  simp only[akd];by_cases c:i+1<=t/\t<i+1+l.length
  ·rw[if_pos c] at this;rw[if_pos (by omega)];rw[show t-i=(t-(i+1))+1 from by omega,aml];exact this
  ·rw[if_neg c] at this;by_cases ht:t=i
   ·subst ht;rw[if_pos rfl] at this;rw[if_pos (by omega)]
    simpa using this
   ·rw[if_neg ht] at this;rw[if_neg (by omega)];exact this
theorem oZ {σ:Sg}{l:List AV}{us:Array Value}(h:ZZ σ l us.toList)(k:Nat):SU σ (YX 0 l .nil) (us++Array.replicate k Go.undef):=by
 intro (t:Nat);have:=Kt l us.toList 0 .nil (fun _=>Go.undef) h (fun t _=>by
  show ZY σ (Env.get (Tr.nil:Tr AV) t) Go.undef;simp only[Env.get,Tr.get_nil];exact QB) t
 have hl:=h.length;have hl:l.length=us.size:=hl;simp only[aic,true_and,ald,Nat.sub_zero] at this;rw[al3,Array.getElem?_append];by_cases c:t<l.length
 ·rw[if_pos c] at this;rw[if_pos (by omega)]
  simpa using this
 ·rw[if_neg c] at this;rw[if_neg (by omega)];rw[Array.getElem?_replicate]
  split <;> simpa using this
end
end Go.Am
namespace Go.Am
open Go
section
variable [Stat]
variable {X:Cx}{P:Program}
mutual
theorem JK {σ:Sg}:∀{v:AV} {u:Value},still v=true->ZY σ v u->ZY σ.bare v u
 |.bool _,_,_,k|.int _ _,_,_,k|.mF _ _,_,_,k|.str _,_,_,k|.Vk,_,_,k|.ZW,_,_,k|.PG,_,_,k|.Wa,_,_,k|.TO,_,_,k=>by simpa only[ZY] using k
 |.ptr ..,_,h,_=>by simp[still] at h
 |.sl ..,_,h,_=>by simp[still] at h
 |.map _,_,h,_=>by simp[still] at h
 |.fn f x y,u,h,k=>by
  simp only[still,agw] at h;simp only[ZY] at k ⊢;obtain⟨f',x',y',e,h1,h2,h3⟩:=k;refine⟨f',x',y',e,?_,TC h.1.2 h2,TC h.2 h3⟩
  cases f <;> simp only[ali,false_and,and_false] at h
  simpa only[SG] using h1
 |.iface t x,u,h,k=>by
  simp only[still] at h;simp only[ZY] at k ⊢;obtain⟨y,e,r⟩:=k;exact⟨y,e,JK h r⟩
 |.agg cs,u,h,k=>by
  simp only[still] at h;simp only[ZY] at k ⊢;obtain⟨y,e,r⟩:=k;exact⟨y,e,TC h r⟩
 |.XU cs,u,h,k=>by
  simp only[still] at h;simp only[ZY] at k ⊢;obtain⟨y,e,r⟩:=k;exact⟨y,e,TC h r⟩
 |.fz es,u,h,k=>by
  simp only[ZY] at k ⊢;exact k
 |.fp _ _,u,h,k=>by
  simp only[ZY] at k ⊢;exact k
 |.fm _ _,u,h,k=>by
  simp only[ZY] at k ⊢;exact k
theorem TC {σ:Sg}:∀{v:List AV} {u:List Value},ZU v=true->ZZ σ v u->ZZ σ.bare v u
 |[],_,_,k=>by simpa only[ZZ] using k
 |a::x,u,h,k=>by
  simp only[ZU,agw] at h;simp only[ZZ] at k ⊢;obtain⟨v,y,e,h1,h2⟩:=k;exact⟨v,y,e,JK h.1 h1,TC h.2 h2⟩
end
mutual
theorem KY {σ τ:Sg}:∀{v:AV} {u:Value},flat v=true->ZY σ v u->ZY τ v u
 |.bool _,_,_,k|.int _ _,_,_,k|.mF _ _,_,_,k|.str _,_,_,k|.Vk,_,_,k|.ZW,_,_,k|.PG,_,_,k|.Wa,_,_,k|.TO,_,_,k=>by simpa only[ZY] using k
 |.ptr ..,_,h,_=>by simp[flat] at h
 |.sl ..,_,h,_=>by simp[flat] at h
 |.map _,_,h,_=>by simp[flat] at h
 |.fn f x y,u,h,k=>by
  simp only[flat,agw] at h;simp only[ZY] at k ⊢;obtain⟨f',x',y',e,h1,h2,h3⟩:=k;refine⟨f',x',y',e,?_,Qf h.1.2 h2,Qf h.2 h3⟩
  cases f <;> simp only[ali,false_and,and_false] at h
  simpa only[SG] using h1
 |.iface t x,u,h,k=>by
  simp only[flat] at h;simp only[ZY] at k ⊢;obtain⟨y,e,r⟩:=k;exact⟨y,e,KY h r⟩
 |.agg cs,u,h,k=>by
  simp only[flat] at h;simp only[ZY] at k ⊢;obtain⟨y,e,r⟩:=k;exact⟨y,e,Qf h r⟩
 |.XU cs,u,h,k=>by
  simp only[flat] at h;simp only[ZY] at k ⊢;obtain⟨y,e,r⟩:=k;exact⟨y,e,Qf h r⟩
 |.fz es,u,h,k=>by simp[flat] at h
 |.fp _ _,u,h,k=>by simp[flat] at h
 |.fm _ _,u,h,k=>by simp[flat] at h
theorem Qf {σ τ:Sg}:∀{v:List AV} {u:List Value},K4 v=true->ZZ σ v u->ZZ τ v u
 |[],_,_,k=>by simpa only[ZZ] using k
 |a::x,u,h,k=>by
  simp only[K4,agw] at h;simp only[ZZ] at k ⊢;obtain⟨v,y,e,h1,h2⟩:=k;exact⟨v,y,e,KY h.1 h1,Qf h.2 h2⟩
end
theorem XP {σ τ:Sg}{f:AV->Option AV}(hf:∀a b u,f a=some b->ZY σ a u->ZY τ b u):∀{l r:List AV} {us:List Value},Y' f l=some r->ZZ σ l us->ZZ τ r us
 |[],r,us,h,k=>by simp only[Y'] at h;cases h;simpa only[ZZ] using k
 |x::l,r,us,h,k=>by
  simp only[Y'] at h
  split at h
  ·rename_i y r' h1 h2
   cases h
   simp only[ZZ] at k ⊢;obtain⟨v,z,e,k1,k2⟩:=k;exact⟨v,z,e,hf _ _ _ h1 k1,XP hf h2 k2⟩
  ·cases h
def Tt (agg:Bool)(n:Nat):Nat->List Value->List Value
 |0,_=>[]
 |k+1,l=>(match agg,l with|false,x::_=>x|_,_=>.agg (l.take n).toArray)::Tt agg n k (l.drop n)
theorem Ma {σ:Sg}{ag:Bool}{n:Nat}(hn:n≠0)(ha:ag=false->n=1):∀(k:Nat) {r:List AV} {vs:List Value},ZZ σ r vs->r.length=k*n->(ag=false->r.all Zz=true) ->
  ZZ σ (Xm ag n k r) (Tt ag n k vs)/\(Tt ag n k vs).flatMap (fun u=>u.cells.toList)=vs/\(∀u∈Tt ag n k vs,u.cells.size=n)/\(Tt ag n k vs).length=k
 |0,r,vs,h,hl,_=>by
  have:r=[]:=by apply al6.1;simpa using hl
  subst this;simp only[ZZ] at h;subst h;simp[Xm,Tt,ZZ]
 |k+1,r,vs,h,hl,SX=>by
  have EK:=h.length;have hdl:(r.drop n).length=k*n:=by rw[List.length_drop,hl,amx];omega
  obtain⟨i1,i2,i3,i4⟩:=Ma hn ha k (h.drop n) hdl (fun e=>by
   have:=SX e;rw[alK] at this ⊢;exact fun x hx=>this x (List.mem_of_mem_drop hx))
  have Jh:n<=r.length:=by rw[hl,amx];omega
  have aeB:=h.take n;have hlen:(vs.take n).length=n:=by rw[amr];omega
  cases ag with
  |true =>
   simp only[Xm,Tt,ZZ,al7,akd];refine⟨⟨_,_,rfl,by simp only[ZY];exact⟨_,rfl,aeB⟩,i1⟩,?_,?_,by rw[i4]⟩
   ·rw[i2];simp[Value.cells]
   ·intro u hu;rcases alL.1 hu with rfl|hu
    ·simp only[Value.cells];simpa using hlen
    ·exact i3 u hu
  |false =>
   have gq:=ha rfl;subst gq
   cases r with
   |nil=>simp at Jh
   |cons x r =>
    simp only[ZZ] at h;obtain⟨v,y,rfl,h1,h2⟩:=h;have Re:Zz x=true:=by have:=SX rfl;simp only[List.all_cons,agw] at this;exact this.1
    have hc:=(RW h1 Re).1;simp only[Xm,Tt,ZZ,al7,akd] at i1 i2 i3 ⊢;refine⟨⟨_,_,rfl,h1,i1⟩,?_,?_,by rw[i4]⟩
    ·rw[i2,hc];simp
    ·intro u hu;rcases alL.1 hu with rfl|hu
     ·rw[hc];rfl
     ·exact i3 u hu
theorem HJ {σ τ:Sg}{s:St}{w:World}(H:HR σ s w)(hz:∀b o,σ.fz b=some o->τ.fz b=some o)(ho:∀i p b o,σ i=some p->s.look i=some b->b.own=true->w.heap[p.b]? = some o->τ.fz p.b=some o) :
  ∀(d:Nat) (v v':AV) (u:Value),Yn X s d v=some v'->ZY σ v u->ZY τ.bare v' u
 |0,v,v',u,h,_=>by simp[Yn] at h
 |d+1,v,v',u,h,k=>by
  have ih:=HJ H hz ho d;have hle:Sg.le σ.bare τ.bare:=⟨fun _ _ h=>by simp[Sg.bare] at h,hz⟩;have same:still v=true->ZY τ.bare v u:=fun hs=>ZY.mono hle _ _ (JK hs k)
  cases v with
  |ptr b o =>
   simp only[Yn] at h
   split at h
   ·rename_i c e lo hi hg
    split at h
    ·rename_i c' Iu
     cases h
     obtain⟨p,hp,rfl⟩:=Xf k;have hl:=St.X4 hg (by simp);obtain⟨cc,fz,h1,h2,h3,h4,_⟩:=H.cells hp hl;have Rk:=ho _ _ _ _ hp hl rfl h1;obtain⟨vs,r1,r2⟩:=H.row (s:=s) (c:=c) hp (by simp[St.cells,hg]) c 0 (fun i a ha=>by simpa using ha);simp only[ZY];refine⟨p.b,p.sh,vs,cc,e,fz,rfl,Rk,XP ih Iu r1,fun i u hu=>?_⟩;have:=r2 i u hu;rw[XT h1] at this
     simpa using this
    ·cases h
   ·cases h
  |sl b o len cap VH =>
   simp only[Yn] at h
   split at h
   ·rename_i c e lo hi hg
    split at h
    ·rename_i r ag n hr Et hs
     split at h
     ·rename_i hc;obtain⟨rfl,hn,Q5⟩:=hc
      split at h
      ·rename_i es fR
       cases h
       obtain⟨a,k',rfl,hlen,⟨p,hp,xH,_⟩,_⟩:=Tw k;have hl:=St.X4 hg (by simp);obtain⟨cc,fz,h1,h2,h3,h4,_⟩:=H.cells hp hl;have Rk:=ho _ _ _ _ hp hl rfl h1;obtain⟨vs,r1,r2⟩:=H.row (s:=s) (c:=c) hp (by simp[St.cells,hg]) r o (fun i a ha=>Qw hr ha);have ot:=(WV hr).1;obtain⟨q1,q2,q3,q4⟩:=Ma hn (fun e=>(Q5 e).1) len r1 ot (fun e=>(Q5 e).2);have q5:=XP ih fR q1;have abz:es.length=len:=by rw[q5.length,q4]
       simp only[ZY];refine⟨a,k',Tt ag VH len vs,by rw[abz],by omega,q5,?_⟩;by_cases ek:len=0
       ·subst ek;exact .inl rfl
       ·right
        have:=xH (by omega);subst this;refine⟨rfl,cc,e,fz,VH,Rk,hn,q3,fun i v hv=>?_⟩;rw[q2] at hv;have:=r2 i v hv;rw[XT h1] at this;exact this
      ·cases h
     ·cases h
    ·cases h
   ·cases h
  |map r =>
   simp only[Yn] at h
   split at h
   ·rename_i es hg
    split at h
    ·rename_i ks vs hk hv
     cases h
     obtain⟨p,hp,rfl⟩:=OH k;obtain⟨VO,clock,g1,g2⟩:=H.map hp hg;have Rk:=ho _ _ _ _ hp (St.X4 hg (by simp)) rfl g1;have key:∀(es:List (AV×AV)) (l:List MapEntry),ZQ σ es l->ZZ σ (es.map (·.1)) (l.map MapEntry.key)/\ZZ σ (es.map (·.2)) (l.map MapEntry.val):=by
      intro es
      induction es with
      |nil=>intro l hl;simp only[ZQ] at hl;subst hl;simp[ZZ]
      |cons a es ihe =>
       intro l hl;obtain⟨x,y⟩:=a;simp only[ZQ] at hl;obtain⟨m,r,rfl,e1,e2,e3⟩:=hl;obtain⟨j1,j2⟩:=ihe r e3;simp only[alT,ZZ];exact⟨⟨_,_,rfl,e1,j1⟩,⟨_,_,rfl,e2,j2⟩⟩
     obtain⟨j1,j2⟩:=key _ _ g2;simp only[ZY];exact⟨p.b,VO,clock,rfl,Rk,XP ih hk j1,XP ih hv j2⟩
    ·cases h
   ·cases h
  |fn f x y =>
   simp only[Yn] at h
   split at h
   ·rename_i g
    split at h
    ·rename_i x' y' hx hy
     cases h
     simp only[ZY] at k ⊢;obtain⟨f',x1,y1,e,h1,h2,h3⟩:=k;simp only[SG] at h1 ⊢;exact⟨f',x1,y1,e,h1,XP ih hx h2,XP ih hy h3⟩
    ·cases h
   ·cases h
  |iface t x =>
   simp only[Yn] at h
   split at h
   ·rename_i x' hx
    cases h
    simp only[ZY] at k ⊢;obtain⟨y,e,r⟩:=k;exact⟨y,e,ih _ _ _ hx r⟩
   ·cases h
  |agg cs =>
   simp only[Yn] at h
   split at h
   ·rename_i x' hx
    cases h
    simp only[ZY] at k ⊢;obtain⟨y,e,r⟩:=k;exact⟨y,e,XP ih hx r⟩
   ·cases h
  |XU cs =>
   simp only[Yn] at h
   split at h
   ·rename_i x' hx
    cases h
    simp only[ZY] at k ⊢;obtain⟨y,e,r⟩:=k;exact⟨y,e,XP ih hx r⟩
   ·cases h
  |_=>simp only[Yn] at h;cases h;exact same rfl
theorem zy {σ τ:Sg}{s:St}{w:World}(H:HR σ s w)(ho:∀i p b o,σ i=some p->s.look i=some b->b.own=true->w.heap[p.b]? = some o->τ.fz p.b=some o) :
  ∀(d:Nat) (v v':AV) (u:Value),XC X s d v=some v'->ZY σ v u->ZY τ.bare v' u
 |0,v,v',u,h,_=>by simp[XC] at h
 |d+1,v,v',u,h,k=>by
  have ih:=zy H ho d;have same:flat v=true->ZY τ.bare v u:=fun hs=>KY hs k
  cases v with
  |ptr b o =>
   simp only[XC] at h
   split at h
   ·rename_i c e lo hi hg
    split at h
    ·rename_i c' Iu
     cases h
     obtain⟨p,hp,rfl⟩:=Xf k;have hl:=St.X4 hg (by simp);obtain⟨cc,fz,h1,h2,h3,h4,_⟩:=H.cells hp hl;have Rk:=ho _ _ _ _ hp hl rfl h1;obtain⟨vs,r1,r2⟩:=H.row (s:=s) (c:=c) hp (by simp[St.cells,hg]) c 0 (fun i a ha=>by simpa using ha);simp only[ZY];refine⟨p.b,p.sh,vs,cc,e,fz,rfl,Rk,XP ih Iu r1,fun i u hu=>?_⟩;have:=r2 i u hu;rw[XT h1] at this
     simpa using this
    ·cases h
   ·cases h
  |sl b o len cap VH =>
   simp only[XC] at h
   split at h
   ·rename_i c e lo hi hg
    split at h
    ·rename_i r ag n hr Et hs
     split at h
     ·rename_i hc;obtain⟨rfl,hn,Q5⟩:=hc
      split at h
      ·rename_i es fR
       cases h
       obtain⟨a,k',rfl,hlen,⟨p,hp,xH,_⟩,_⟩:=Tw k;have hl:=St.X4 hg (by simp);obtain⟨cc,fz,h1,h2,h3,h4,_⟩:=H.cells hp hl;have Rk:=ho _ _ _ _ hp hl rfl h1;obtain⟨vs,r1,r2⟩:=H.row (s:=s) (c:=c) hp (by simp[St.cells,hg]) r o (fun i a ha=>Qw hr ha);have ot:=(WV hr).1;obtain⟨q1,q2,q3,q4⟩:=Ma hn (fun e=>(Q5 e).1) len r1 ot (fun e=>(Q5 e).2);have q5:=XP ih fR q1;have abz:es.length=len:=by rw[q5.length,q4]
       simp only[ZY];refine⟨a,k',Tt ag VH len vs,by rw[abz],by omega,q5,?_⟩;by_cases ek:len=0
       ·subst ek;exact .inl rfl
       ·right
        have:=xH (by omega);subst this;refine⟨rfl,cc,e,fz,VH,Rk,hn,q3,fun i v hv=>?_⟩;rw[q2] at hv;have:=r2 i v hv;rw[XT h1] at this;exact this
      ·cases h
     ·cases h
    ·cases h
   ·cases h
  |map r =>
   simp only[XC] at h
   split at h
   ·rename_i es hg
    split at h
    ·rename_i ks vs hk hv
     cases h
     obtain⟨p,hp,rfl⟩:=OH k;obtain⟨VO,clock,g1,g2⟩:=H.map hp hg;have Rk:=ho _ _ _ _ hp (St.X4 hg (by simp)) rfl g1;have key:∀(es:List (AV×AV)) (l:List MapEntry),ZQ σ es l->ZZ σ (es.map (·.1)) (l.map MapEntry.key)/\ZZ σ (es.map (·.2)) (l.map MapEntry.val):=by
      intro es
      induction es with
      |nil=>intro l hl;simp only[ZQ] at hl;subst hl;simp[ZZ]
      |cons a es ihe =>
       intro l hl;obtain⟨x,y⟩:=a;simp only[ZQ] at hl;obtain⟨m,r,rfl,e1,e2,e3⟩:=hl;obtain⟨j1,j2⟩:=ihe r e3;simp only[alT,ZZ];exact⟨⟨_,_,rfl,e1,j1⟩,⟨_,_,rfl,e2,j2⟩⟩
     obtain⟨j1,j2⟩:=key _ _ g2;simp only[ZY];exact⟨p.b,VO,clock,rfl,Rk,XP ih hk j1,XP ih hv j2⟩
    ·cases h
   ·cases h
  |fn f x y =>
   simp only[XC] at h
   split at h
   ·rename_i g
    split at h
    ·rename_i x' y' hx hy
     cases h
     simp only[ZY] at k ⊢;obtain⟨f',x1,y1,e,h1,h2,h3⟩:=k;simp only[SG] at h1 ⊢;exact⟨f',x1,y1,e,h1,XP ih hx h2,XP ih hy h3⟩
    ·cases h
   ·cases h
  |iface t x =>
   simp only[XC] at h
   split at h
   ·rename_i x' hx
    cases h
    simp only[ZY] at k ⊢;obtain⟨y,e,r⟩:=k;exact⟨y,e,ih _ _ _ hx r⟩
   ·cases h
  |agg cs =>
   simp only[XC] at h
   split at h
   ·rename_i x' hx
    cases h
    simp only[ZY] at k ⊢;obtain⟨y,e,r⟩:=k;exact⟨y,e,XP ih hx r⟩
   ·cases h
  |XU cs =>
   simp only[XC] at h
   split at h
   ·rename_i x' hx
    cases h
    simp only[ZY] at k ⊢;obtain⟨y,e,r⟩:=k;exact⟨y,e,XP ih hx r⟩
   ·cases h
  |fz _=>simp[XC] at h
  |fp _ _=>simp[XC] at h
  |fm _ _=>simp[XC] at h
  |_=>simp only[XC] at h;cases h;exact same rfl
end
end Go.Am
namespace Go.Am
open Go
section
variable [Stat]
variable {X:Cx}{P:Program}
theorem KC (hX:VI X P){F:Fence}{n:Nat}{Uo σ:Sg}{s0 s:St}{w0:World}{e:Env}{fn:Func}{v:AV}{tmps:Array Value}(E:SU σ e tmps)(FY:Uz X fn e s=some v) :
  ∀(rs:List Nat) (w:World),Good Uo s0 w0 σ s w->rs.Nodup->(∀r∈rs,w0.heap.size<=r/\w.heap[r]? = some (.deferred (some []))/\(∀i p,σ i=some p->p.b≠r)/\σ.fz r=none) ->
   LeavesInM F n P fn tmps (fun en w'=>∃u Yx,en=.returned u/\ZY Yx v u/\Good Uo s0 w0 Yx s w') (rs.map fun r=>({ target:=.collected r,args:=#[] }:Deferred)) .returning w
 |[],w,g,_,_=>by
  obtain⟨u,h1,h2⟩:=yw (P:=P) hX g.hr E FY;exact⟨u,h1,u,σ,rfl,h2,g⟩
 |r::rs,w,g,hn,hm=>by
  obtain⟨h1,h2,h3,h4⟩:=hm r (aba ..);refine⟨by simp,.inl ⟨r,w.putObj r (.deferred none),rfl,run_takeDeferred h2,?_⟩⟩;rw[amv] at hn;refine KC hX E FY rs _ (g.acJ h1 h3 h4 _) hn.2 fun r' Ur=>?_
  obtain⟨g1,g2,g3⟩:=hm r' (aab _ Ur);refine⟨g1,?_,g3⟩;show (w.heap.setIfInBounds r _)[r']? = _;rw[amD,if_neg (fun h:r=r'=>hn.1 (by rw[h];exact Ur))];exact g2
theorem QY (hX:Full X P){ex:Ex}(hE:LC X P ex){f:FuncId}{args:List AV}{s s':St}{v:AV}(h:Oj X ex f args s=some (v,s')){σ:Sg}{w:World}{us:Array Value}
  (H:HR σ s w)(F:Tn σ s)(G:WD X σ)(hv:ZZ σ args us.toList) :
  (callFunc f us).run P w=.ok (.enter f us) w/\Calls P f us w fun en w'=>∃u Yx,en=.returned u/\ZY Yx v u/\Good σ s w Yx s' w':=by
 unfold Oj at h
 split at h
 ·rename_i fn dG
  split at h
  ·rename_i c hb;have hf:=hX.fn f fn dG;refine⟨?_,?_⟩
   ·have EV:¬fn.name = "runtime.NumGoroutine":=by have:=hX.nm f fn dG;simpa using this
    simp[callFunc,Sem.run_bind,Result.andThen,hf,EV,hb]
   ·refine callsIn_wide.1 (callsIn_of_wp_marks (F:=FW none) (n:=0) hf hb trivial ?_);have I:Inv X σ s w w.heap.size (YX 0 args .nil) { tmps:=us++Array.replicate (fn.ntmps-us.size) Go.undef,defers:=[] } :=
     ⟨H,F,G,oZ hv _,DF.nil _ _ _,agB _⟩
    have X5:nV X none (us++Array.replicate (fn.ntmps-us.size) Go.undef).size c:=⟨fn.ntmps,by simp;omega,hX.fok f fn c dG hb,by simp⟩;have key:∀out e s1,ex c (YX 0 args .nil) s=some (out,e,s1)->out=.norm\/out=.ret->Uz X fn e s1=some v->s1=s' ->
      c.wpIn (FW none) 0 P (bodyPostM (FW none) 0 P fn fun en w'=>∃u Yx,en=.returned u/\ZY Yx v u/\Good σ s w Yx s' w') { tmps:=us++Array.replicate (fn.ntmps-us.size) Go.undef,defers:=[] } w:=by
     intro out e s1 hex Mm FY hs;subst hs;refine wpIn_mono (hE c _ _ _ _ _ hex none _ _ w σ X5 I).wpIn ?_;rintro en a' w' ⟨hx,Yx,g,i',_⟩;have hl:LeavesInM (FW none) 0 P fn a'.tmps (fun en w'=>∃u Yx,en=.returned u/\ZY Yx v u/\Good σ s w Yx s1 w') a'.defers .returning w':=by
      obtain⟨rs,D2,hn,hm⟩:=i'.df;rw[D2];exact KC hX.toVI i'.env FY rs w' g hn hm
     rcases Mm with rfl|rfl <;> cases en <;> simp only[QX] at hx
     ·exact hl
     ·exact hl
    split at h
    ·rename_i e s1 hex
     split at h
     ·rename_i u FY;cases h;exact key _ _ _ hex (.inl rfl) FY rfl
     ·cases h
    ·rename_i e s1 hex
     split at h
     ·rename_i u FY;cases h;exact key _ _ _ hex (.inr rfl) FY rfl
     ·cases h
    ·cases h
  ·cases h
 ·cases h
def Sg.low (σ:Sg)(n:Nat)(z:Nat->Option Obj):Sg:={ m:=fun i=>if i<n then σ i else none,fz:=z }
theorem N7 {σ:Sg}{n:Nat}{z:Nat->Option Obj}{i:Nat}{p:Pl}(h:(σ.low n z) i=some p):i<n/\σ i=some p:=by
 unfold Sg.low at h;simp only at h
 split at h
 ·exact⟨‹_›,h⟩
 ·cases h
theorem uI {σ:Sg}{w:World}(G:WD X σ)(Yh:∀i p,σ i=some p->p.b<w.heap.size)(hg:∀c o,σ.fz c=some o->w.heap[c]? = some o)(z:Nat->Option Obj)(hz:∀c o,σ.fz c=some o->z c=some o)(f_:∀c o,z c=some o->w.heap[c]? = some o)
  (hb:∀i b,X.LK i=some b->b≠.gone):HR (σ.low X.glob z) (X8 X) w/\Tn (σ.low X.glob z) (X8 X)/\WD X (σ.low X.glob z)/\∀c,¬Qr (σ.low X.glob z) (X8 X) c:=by
 have hle:Sg.le σ.bare (σ.low X.glob z).bare:=⟨fun _ _ h=>by simp[Sg.bare] at h,hz⟩;have look:∀i b,(X8 X).look i=some b->X.LK i=some b:=by
  intro i b h;unfold St.look St.get X8 at h;simp only[Tr.get_nil] at h
  split at h
  ·cases h
  ·exact h
 have SX:∀c,¬Qr (σ.low X.glob z) (X8 X) c:=by
  rintro c ⟨i,p,b,hp,hl,ho,_⟩;obtain⟨hi,_⟩:=N7 hp;obtain⟨n,_,TQ⟩:=G i hi;rw[(TQ b (look i b hl)).1] at ho;cases ho
 refine⟨⟨fun i p hp=>Yh i p (N7 hp).2,fun i p b hp hl=>?_,fun i j p q b c hp hq hl CM he=>?_,fun c o hc=>⟨f_ c o hc,SX c⟩⟩,fun i hi=>?_,fun g hgl=>?_,SX⟩
 ·obtain⟨hi,hs⟩:=N7 hp;obtain⟨n,hn,TQ⟩:=G i hi;rw[hn] at hs;cases hs;obtain⟨_,o,ho,xG⟩:=TQ b (look i b hl);exact⟨o,hg _ _ ho,(xG.mono hle).mono (Sg.T7 _)⟩
 ·obtain⟨hi,hs⟩:=N7 hp;obtain⟨hj,ht⟩:=N7 hq;obtain⟨n,hn,_⟩:=G i hi;obtain⟨m,hm,_⟩:=G j hj;rw[hn] at hs;cases hs;rw[hm] at ht;cases ht;exact he
 ·show (if i<X.glob then σ i else none)=none;rw[if_neg];exact Nat.not_lt.2 hi
 ·obtain⟨n,hn,TQ⟩:=G g hgl;refine⟨n,?_,fun b UP=>?_⟩
  ·show (if g<X.glob then σ g else none)=_;rw[if_pos hgl];exact hn
  ·obtain⟨h1,o,h2,h3⟩:=TQ b UP;exact⟨h1,o,hz _ _ h2,h3.mono hle⟩
theorem FO {σ Uo HZ Bh:Sg}{s t t':St}{w w':World}(H:HR σ s w)(g:Good Uo t w HZ t' w')(SX:∀c,¬Qr Uo t c)(hm:Bh.m=σ.m)(h1:∀c o,σ.fz c=some o->Bh.fz c=some o)
  (h2:∀c o,Bh.fz c=some o->σ.fz c=some o\/(w.heap.size<=c/\w'.heap[c]? = some o)):Good σ s w Bh s w':=by
 have hle:Sg.le σ Bh:=⟨fun i p hp=>by rw[hm];exact hp,h1⟩;have keep:∀c,c<w.heap.size->w'.heap[c]? = w.heap[c]? := fun c hc=>g.ext.keep c hc (SX c)
 have own:∀c,Qr Bh s c->Qr σ s c:=fun c ⟨i,p,b,hp,hl,ho,he⟩=>⟨i,p,b,by rw[hm] at hp;exact hp,hl,ho,he⟩
 refine⟨⟨fun i p hp=>?_,fun i p b hp hl=>?_,fun i j p q b c hp hq=>?_,fun c o hc=>?_⟩,⟨hle,fun c o hc=>?_,g.ext.size,fun c hc _=>keep c hc,fun c _ ho=>own c ho,g.ext.os,g.ext.tape,g.ext.output⟩,fun i _=>by rw[hm],agB _,fun _ _ h=>h,fun i p hp hn=>?_,rfl⟩
 ·rw[hm] at hp;exact Nat.lt_of_lt_of_le (H.lt i p hp) g.ext.size
 ·rw[hm] at hp;obtain⟨o,ho,xG⟩:=H.E1 i p b hp hl;exact⟨o,by rw[keep _ (H.lt i p hp)];exact ho,xG.mono hle⟩
 ·rw[hm] at hp hq;exact H.inj i j p q b c hp hq
 ·rcases h2 c o hc with hs|⟨EH,hs⟩
  ·obtain⟨k1,k2⟩:=H.fz c o hs;have Yh:c<w.heap.size:=(agz.1 k1).1;exact⟨by rw[keep c Yh];exact k1,fun ho=>k2 (own c ho)⟩
  ·refine⟨hs,fun ho=>?_⟩;obtain⟨i,p,b,hp,_,_,he⟩:=own c ho;have:=H.lt i p hp;omega
 ·rcases h2 c o hc with hs|⟨EH,_⟩
  ·exact .inl hs
  ·exact .inr EH
 ·rw[hm,hn] at hp;cases hp
theorem yv (hX:Full X P){ex:Ex}(hE:LC X P ex){f:FuncId}{args:List AV}{s s':St}{v:AV}(h:Ox X ex f args s=some (v,s')){σ:Sg}{w:World}{us:Array Value}
  (H:HR σ s w)(F:Tn σ s)(G:WD X σ)(hv:ZZ σ args us.toList) :
  (callFunc f us).run P w=.ok (.enter f us) w/\Calls P f us w fun en w'=>∃u Yx,en=.returned u/\ZY Yx v u/\Good σ s w Yx s' w':=by
 have hg:∀c o,σ.fz c=some o->w.heap[c]? = some o:=fun c o hc=>(H.fz c o hc).1
 unfold Ox at h
 split at h
 ·rename_i sW FN
  split at h
  ·rename_i v1 hq
   cases h
   unfold Yg at hq
   split at hq
   ·rename_i v2 s1 WE;unfold Vf at FN
    split at FN
    ·rename_i Xz
     cases FN
     rw[Xz] at hq;simp only[if_true] at hq;obtain⟨a1,a2,a3,a4⟩:=uI (X:=X) G H.lt hg σ.fz (fun _ _ h=>h) hg hX.gb;have KB:ZZ (σ.low X.glob σ.fz) args us.toList:=ZZ.mono (show Sg.le σ.bare (σ.low X.glob σ.fz) from⟨fun _ _ h=>by simp[Sg.bare] at h,fun _ _ h=>h⟩) _ _ (TC Xz hv);obtain⟨c1,c2⟩:=QY hX hE WE a1 a2 a3 KB;refine⟨c1,Calls.mono c2 ?_⟩;rintro en w' ⟨u,HZ,rfl,hu,g⟩;have iT:∀b o,σ.fz b=some o->b<w.heap.size:=fun b o hb=>(agz.1 (hg b o hb)).1
     let z:Nat->Option Obj:=fun b=>match σ.fz b with|some o=>some o|none=>if w.heap.size<=b then w'.heap[b]? else none
     have tV:∀b o,σ.fz b=some o->z b=some o:=fun b o hb=>by simp only[z,hb]
     have eI:∀b o,w.heap.size<=b->w'.heap[b]? = some o->z b=some o:=fun b o hb ho=>by
      cases hs:σ.fz b with
      |some o'=>have:=iT b o' hs;omega
      |none=>simp only[z,hs];rw[if_pos hb];exact ho
     have hz3:∀b o,z b=some o->σ.fz b=some o\/(w.heap.size<=b/\w'.heap[b]? = some o):=fun b o hb=>by
      simp only[z] at hb
      cases hs:σ.fz b with
      |some o'=>rw[hs] at hb;exact .inl hb
      |none =>
       rw[hs] at hb;simp only at hb
       split at hb
       ·exact .inr ⟨‹_›,hb⟩
       ·cases hb
     refine⟨u,{ m:=σ.m,fz:=z },rfl,?_,FO H g a4 rfl tV hz3⟩;have:=HJ (X:=X) (τ:={ m:=σ.m,fz:=z }) g.hr (fun b o hb=>?_) (fun i p b o hp hl SQ ho=>?_) _ _ _ _ hq hu
     ·exact ZY.mono (Sg.T7 _) _ _ this
     ·rcases g.ext.tI b o hb with TQ|TQ
      ·exact tV b o TQ
      ·exact eI b o TQ (g.hr.fz b o hb).1
     ·refine eI _ _ (Nat.le_of_not_lt fun Yh=>?_) ho;exact a4 _ (g.ext.owns _ Yh ⟨i,p,b,hp,hl,SQ,rfl⟩)
    ·rename_i Xz;rw[if_neg Xz] at hq
     split at hq
     ·rename_i MB
      cases hq
      obtain⟨a1,a2,a3,a4⟩:=uI (X:=X) G H.lt hg (fun c=>w.heap[c]?) hg (fun _ _ h=>h) hX.gb;have KB:ZZ (σ.low X.glob fun c=>w.heap[c]?) sW us.toList:=by
       have:=XP (τ:=(σ.low X.glob fun c=>w.heap[c]?).bare) (HJ (X:=X) H hg (fun i p b o _ _ _ ho=>ho) _) FN hv;exact ZZ.mono (Sg.T7 _) _ _ this
      obtain⟨c1,c2⟩:=QY hX hE WE a1 a2 a3 KB;refine⟨c1,Calls.mono c2 ?_⟩;rintro en w' ⟨u,HZ,rfl,hu,g⟩;exact⟨u,σ,rfl,KY MB hu,FO H g a4 rfl (fun _ _ h=>h) (fun _ _ h=>.inl h)⟩
     ·obtain⟨a1,a2,a3,a4⟩:=uI (X:=X) G H.lt hg (fun c=>w.heap[c]?) hg (fun _ _ h=>h) hX.gb;have KB:ZZ (σ.low X.glob fun c=>w.heap[c]?) sW us.toList:=by
       have:=XP (τ:=(σ.low X.glob fun c=>w.heap[c]?).bare) (HJ (X:=X) H hg (fun i p b o _ _ _ ho=>ho) _) FN hv;exact ZZ.mono (Sg.T7 _) _ _ this
      obtain⟨c1,c2⟩:=QY hX hE WE a1 a2 a3 KB;refine⟨c1,Calls.mono c2 ?_⟩;rintro en w' ⟨u,HZ,rfl,hu,g⟩;have iT:∀b o,σ.fz b=some o->b<w.heap.size:=fun b o hb=>(agz.1 (hg b o hb)).1
      let z:Nat->Option Obj:=fun b=>match σ.fz b with|some o=>some o|none=>if w.heap.size<=b then w'.heap[b]? else none
      have tV:∀b o,σ.fz b=some o->z b=some o:=fun b o hb=>by simp only[z,hb]
      have eI:∀b o,w.heap.size<=b->w'.heap[b]? = some o->z b=some o:=fun b o hb ho=>by
       cases hs:σ.fz b with
       |some o'=>have:=iT b o' hs;omega
       |none=>simp only[z,hs];rw[if_pos hb];exact ho
      have hz3:∀b o,z b=some o->σ.fz b=some o\/(w.heap.size<=b/\w'.heap[b]? = some o):=fun b o hb=>by
       simp only[z] at hb
       cases hs:σ.fz b with
       |some o'=>rw[hs] at hb;exact .inl hb
       |none =>
        rw[hs] at hb;simp only at hb
        split at hb
        ·exact .inr ⟨‹_›,hb⟩
        ·cases hb
      refine⟨u,{ m:=σ.m,fz:=z },rfl,?_,FO H g a4 rfl tV hz3⟩;have:=zy (X:=X) (τ:={ m:=σ.m,fz:=z }) g.hr (fun i p b o hp hl SQ ho=>?_) _ _ _ _ hq hu
      ·exact ZY.mono (Sg.T7 _) _ _ this
      ·refine eI _ _ (Nat.le_of_not_lt fun Yh=>?_) ho;exact a4 _ (g.ext.owns _ Yh ⟨i,p,b,hp,hl,SQ,rfl⟩)
   ·cases hq
  ·cases h
 ·cases h
theorem N6 (hX:Full X P){ex:Ex}(hE:LC X P ex){f:FuncId}(Lx:X.ext f=none){args:List AV}{s s':St}{v:AV}(h:Uk X ex f args s=some (v,s')){σ:Sg}{w:World}{us:Array Value}
  (H:HR σ s w)(F:Tn σ s)(G:WD X σ)(hv:ZZ σ args us.toList) :
  (callFunc f us).run P w=.ok (.enter f us) w/\Calls P f us w fun en w'=>∃u Yx,en=.returned u/\ZY Yx v u/\Good σ s w Yx s' w':=by
 unfold Uk at h;rw[Lx] at h;simp only at h
 split at h
 ·exact yv hX hE h H F G hv
 ·exact QY hX hE h H F G hv
theorem iS (hX:Full X P){ex:Ex}(hE:LC X P ex)(f:FuncId):kH X P f (Uk X ex f):=by
 intro args s v s' σ w us h H F G hv
 cases Lx:X.ext f with
 |none =>
  obtain⟨h1,h2⟩:=N6 hX hE Lx h H F G hv;rw[h1];refine Calls.mono h2 ?_;rintro en w' ⟨u,Yx,rfl,h3,h4⟩;exact⟨u,rfl,Yx,h3,h4⟩
 |some g =>
  unfold Uk at h;rw[Lx] at h;exact hX.ext f g Lx args s v s' σ w us h H F G hv
theorem FM {σ:Sg}:∀(ps:List Tmp) (as:List AV) (us:List Value) (e:Env) (tmps:Array Value),SU σ e tmps->ZZ σ as us->(∀t∈ps,t<tmps.size) ->
  SU σ ((ps.zip as).foldl (fun e (t,a)=>Tr.set e t a) e) ((ps.zip us).foldl (fun tmps (t,a)=>tmps.setIfInBounds t a) tmps)/\((ps.zip us).foldl (fun tmps (t,a)=>tmps.setIfInBounds t a) tmps).size=tmps.size
 |[],as,us,e,tmps,h,_,_=>⟨h,rfl⟩
 |p::ps,[],us,e,tmps,h,hv,_=>by
  simp only[ZZ] at hv;subst hv;exact⟨h,rfl⟩
 |p::ps,a::as,us,e,tmps,h,hv,hp=>by
  simp only[ZZ] at hv;obtain⟨u,us,rfl,h1,h2⟩:=hv;simp only[List.zip_cons_cons,List.foldl_cons];have:=FM ps as us (Tr.set e p a) (tmps.setIfInBounds p u) (h.put (hp p (aba ..)) h1) h2 (fun t ht=>by simpa using hp t (aab _ ht));exact⟨this.1,by simpa using this.2⟩
theorem iR (ps:Array Tmp)(us tmps:Array Value):(ps.zip us).foldl (fun tmps (t,a)=>tmps.setIfInBounds t a) tmps=(ps.toList.zip us.toList).foldl (fun tmps (t,a)=>tmps.setIfInBounds t a) tmps:=by
 rw[<-Array.foldl_toList,Array.toList_zip]
theorem FL {σ:Sg}{s:St}{w:World}(H:HR σ s w){l:Nat}{p:Pl}(hp:σ l=some p){st:Nat}{pe:Option Code}{env:Env}{ps:List Tmp}{as bo:Code}(hg:s.get l=some (.loop st pe env ps as bo))
  {r:Loop}(hr:w.heap[p.b]? = some (.loop r))(st':Nat)(pe':Option Code) :
  Good σ s w σ (s.put l (.loop st' pe' env ps as bo)) (w.putObj p.b (.loop { r with state:=Sl st',pending:=pe' })):=by
 have hl:s.look l=some (.loop st pe env ps as bo):=St.X4 hg (by simp);obtain⟨o,ho,xG⟩:=H.E1 l p _ hp hl;rw[hr] at ho;cases ho;have Yh:=H.lt l p hp;simp only[BR] at xG;obtain⟨_,_,h3⟩:=xG;refine Good.put H hp hl rfl (by simp) (by simp[World.putObj]) (fun c hc=>World.putObj_heap_other hc) (World.putObj_heap_same Yh) ?_ rfl rfl rfl;show BR σ p (.loop st' pe' env ps as bo) _;unfold BR;exact⟨rfl,rfl,h3⟩
theorem KA {σ:Sg}{s:St}{w:World}(H:HR σ s w){l:Nat}{p:Pl}(hp:σ l=some p){st:Nat}{pe:Option Code}{env:Env}{ps:List Tmp}{as bo:Code}(hg:s.get l=some (.loop st pe env ps as bo)) :
  ∃r:Loop,w.heap[p.b]? = some (.loop r)/\BR σ p (.loop st pe env ps as bo) (.loop r):=by
 have hl:s.look l=some (.loop st pe env ps as bo):=St.X4 hg (by simp);obtain⟨o,ho,xG⟩:=H.E1 l p _ hp hl
 cases o <;> simp only[BR] at xG
 exact⟨_,ho,xG⟩
theorem FK {l:Nat}{o:Out}{e:Env}{q:List Tmp}{a b:Code}{s s':St}{v:AV}(h:Nv l o e q a b s=some (v,s')) :
  ∃j:Option Code,v=.bool j.isNone/\s'=s.put l (.loop (if j.isNone then 0 else 2) j e q a b)/\(match o with|.norm=>j=none|.exit i=>j=some (.exit i)|.ret=>j=some .ret):=by
 cases o <;> simp only[Nv] at h <;> cases h
 ·exact⟨none,rfl,rfl,rfl⟩
 ·exact⟨some (.exit _),rfl,rfl,rfl⟩
 ·exact⟨some .ret,rfl,rfl,rfl⟩
theorem iQ (hX:Full X P){ex:Ex}(hE:LC X P ex){l:Nat}{args:List AV}{s s':St}{v:AV}(h:Gp ex l args s=some (v,s')){σ:Sg}{w:World}{us:Array Value}{p:Pl}(hp:σ l=some p)
  (H:HR σ s w)(F:Tn σ s)(G:WD X σ)(hv:ZZ σ args us.toList){ro:Option Nat} :
  ∃f tmps assign body,(Instr.yield p.b us).run P w=.ok (.round p.b f tmps assign body) w /\
   RoundIn (FW ro) 0 P p.b f tmps assign body w fun en w'=>∃u Yx,en=.returned u/\ZY Yx v u/\Good σ s w Yx s' w':=by
 unfold Gp at h
 split at h
 ·rename_i pe env params assign body hg;obtain⟨r,hr,xG⟩:=KA H hp hg;simp only[BR] at xG;obtain⟨b1,b2,b3,b4,b5,b6,b7,b8,b9⟩:=xG
  split at h
  ·rename_i hlen;have VY:us.size=r.params.size:=by
    have h1:=hv.length;have h2:us.toList.length=us.size:=rfl;have h3:r.params.toList.length=r.params.size:=rfl;rw[<-h2,<-h3,<-h1,hlen,b4]
   refine⟨_,_,_,_,run_yield hr VY,?_⟩;rw[iR,b4,b5,b6];obtain⟨e1,e2⟩:=FM params args us.toList env r.tmps b3 hv b9;refine roundIn_of_wpIn trivial ?_;have I:Inv X σ s w w.heap.size ((params.zip args).foldl (fun e (t,a)=>Tr.set e t a) env) { tmps:=(params.zip us.toList).foldl (fun tmps (t,a)=>tmps.setIfInBounds t a) r.tmps,defers:=[] } :=
    ⟨H,F,G,e1,DF.nil _ _ _,agB _⟩
   have cok:∀c,Stat.ok r.tmps.size c->∀m,m=r.tmps.size->nV X (some p.b) m c:=by
    intro c hc m hm;subst hm;obtain⟨n,h1,h2,h3⟩:=(hX.stat _ _).1 hc;exact⟨n,h1,h2,fun _=>h3⟩
   simp only at h
   split at h
   ·rename_i lE s1 aj4
    split at h
    ·rename_i p1 EZ q1 a1 c1 lV
     split at h
     ·rename_i o2 EM s2 aj5
      split at h
      ·rename_i st3 p3 en3 q3 a3 c3 fQ;have AK:=(hE _ _ _ _ _ _ aj4 (some p.b) _ _ w σ (cok assign b7 _ e2) I).wpIn;refine wpIn_mono AK ?_;rintro en a1' w1 ⟨hx,HZ,g1,i1,QK⟩
       cases en <;> simp only[QX] at hx
       have sV:=g1.ext.le.p _ _ hp;obtain⟨r1,agd,oY⟩:=KA g1.hr sV lV;have Xz:r1.state=.ready:=by simp only[BR] at oY;exact oY.1
       have gp:=FL g1.hr sV lV agd 1 p1;have hw:({ r1 with state:=Sl 1,pending:=p1 }:Loop)={ r1 with state:=.busy }:=by
        simp only[BR] at oY;rw[<-oY.2.1];rfl
       rw[hw] at gp;refine⟨_,run_beginRound agd Xz,?_⟩;have g2:=g1.trans gp;have I2:Inv X HZ (s1.put l (.loop 1 p1 EZ q1 a1 c1)) (w1.putObj p.b (.loop { r1 with state:=.busy })) w.heap.size lE a1' :=
        ⟨gp.hr,gp.fresh i1.fresh,i1.glob,i1.env,i1.df.good gp,by simpa[World.putObj] using i1.n0⟩
       have hr2:=(hE _ _ _ _ _ _ aj5 (some p.b) _ _ _ HZ (cok body b8 _ (QK.trans e2)) I2).wpIn;refine wpIn_mono hr2 ?_;rintro sn a2' w2 ⟨EI,Bh,g3,i2,_⟩;obtain⟨j,rfl,rfl,hj⟩:=FK h;have EF:=g3.ext.le.p _ _ sV;obtain⟨r2,age,alw⟩:=KA g3.hr EF fQ;have fin:∀j',j=j'->∃v w',(Instr.endRound p.b j').run P w2=.ok v w'/\∃u Yx,(Ending.returned v)=.returned u/\ZY Yx (.bool j.isNone) u/\Good σ s w Yx (s2.put l (.loop (if j.isNone then 0 else 2) j en3 q3 a3 c3)) w':=by
        intro j' wJ;subst wJ;have gp2:=FL g3.hr EF fQ age (if j.isNone then 0 else 2) j;refine⟨_,_,run_endRound j age,_,Bh,rfl,by simp only[ZY],?_⟩;have acK:Sl (if j.isNone then 0 else 2)=(if j.isNone then LoopState.ready else .done):=by cases j <;> rfl
        rw[acK] at gp2;exact (g2.trans g3).trans gp2
       cases o2 <;> cases sn <;> simp only[QX] at EI
       ·exact fin none hj
       ·subst EI;exact fin _ hj
       ·exact fin _ hj
      ·cases h
     ·cases h
    ·cases h
   ·cases h
  ·cases h
 ·cases h
end
end Go.Am
namespace Go.Am
open Go
section
variable [Stat]
variable {X:Cx}{P:Program}
theorem QL {ρ:Operand->Value}{f:Operand}{args:Array Operand}{D8:Array TypeId}{ty:TypeId}{fn:Fn}{x y:Array Value}{w:World}(h:ρ f=.func fn x y) :
  (resolve ρ { callee:=.value f,args,argTypes:=D8 } ty).run P w=.ok { target:=.fn fn y,args:=x++args.map ρ } w:=by
 simp[resolve,h,Deferred.ofValue]
theorem LB (hX:Full X P){ex:Ex}(hE:LC X P ex){r:Option Nat}{o:Oper}{e:Env}{s s':St}{v:AV}{a:Act}{σ:Sg}{w:World}{n0:Nat}(I:Inv X σ s w n0 e a)(h:YI X ex e o.op s=some (v,s'))
  {Jk:Act->World->Prop}{Q:Exit->Act->World->Prop}(hn:∀u w' Yx,ZY Yx v u->Good σ s w Yx s' w'->Jk (a.put o.dst u) w'):o.wpIn (FW r) 0 P a w Jk Q:=by
 refine⟨PK,?_⟩;rw[Oper.semAt_eq _ _ _ (fun c hc=>by rw[hc] at h;simp[YI] at h),Tp]
 cases hc:NL o.op with
 |false =>
  obtain⟨Yx,nx,u,w',h1,h2,h3,h4⟩:=D_ (P:=P) hX.toVI I.glob I.hr (I.fresh _ (agB _)) I.env hc h;rw[h1];rcases h2 with rfl|⟨rfl,rfl⟩
  ·rw[Oper.uponIn_value];exact hn _ _ _ h3 h4
  ·rw[Oper.uponIn_skip];exact hn _ _ _ h3 h4
 |true =>
  obtain⟨dst,op,type,pos,after,guard⟩:=o;simp only at h hc hn ⊢
  cases op <;> simp only[NL] at hc <;> try (cases hc;done)
  rename_i c;obtain⟨callee,args,D8⟩:=c
  cases callee <;> simp only at hc <;> try (cases hc;done)
  rename_i f;simp only[YI] at h
  split at h
  ·rename_i fv vs hf SI;have PX:=T_ I.glob I.env hf;have oh:=Qx I.glob I.env SI;unfold Gx at h
   split at h
   ·rename_i g first cap
    simp only[ZY] at PX;obtain⟨f',x',y',hfv,Dp,hx,hy⟩:=PX;simp only[SG] at Dp;subst Dp;have SO:ZZ σ (first++vs++cap) ((x'++args.map (HX a.tmps))++y').toList:=by
     simp only[Array.toList_append];exact (hx.append (by simpa using oh)).append hy
    have:=iS hX hE g _ _ _ _ _ w _ h I.hr I.fresh I.glob SO;have YA:(execOp (HX a.tmps) { dst:=dst,op:=.call { callee:=.value f,args:=args,argTypes:=D8 },type:=type,pos:=pos,after:=after,guard:=guard }).run P w=(callFunc g ((x'++args.map (HX a.tmps))++y')).run P w:=by
     simp only[execOp,Sem.run_bind,QL hfv,Result.andThen_ok,invoke]
    rw[YA];exact bJ (X:=X) this fun u w' ⟨Yx,h1,h2⟩=>hn u w' Yx h1 h2
   ·rename_i l first cap
    simp only[ZY] at PX;obtain⟨f',x',y',hfv,Dp,hx,hy⟩:=PX;simp only[SG] at Dp;obtain⟨p,hp,rfl⟩:=Dp;have SO:ZZ σ (first++vs) (x'++args.map (HX a.tmps)).toList:=by
     simp only[Array.toList_append];exact hx.append (by simpa using oh)
    obtain⟨fn,tmps,assign,body,h1,h2⟩:=iQ hX hE h hp I.hr I.fresh I.glob SO (ro:=r);have YA:(execOp (HX a.tmps) { dst:=dst,op:=.call { callee:=.value f,args:=args,argTypes:=D8 },type:=type,pos:=pos,after:=after,guard:=guard }).run P w=.ok (.round p.b fn tmps assign body) w:=by
     simp only[execOp,Sem.run_bind,QL hfv,Result.andThen_ok,invoke];exact h1
    rw[YA,Oper.uponIn_round];refine⟨fun hd=>(by cases hd),RoundIn.mono h2 ?_⟩;rintro en w' ⟨u,Yx,rfl,h3,h4⟩;exact hn u w' Yx h3 h4
   ·cases h
  ·cases h
theorem L2 (hX:Full X P){ex:Ex}(hE:LC X P ex){r:Option Nat}{ops:Array Oper}{Q:Exit->Act->World->Prop}{out:Env×St}{n0:Nat} :
  ∀(k i:Nat) (e:Env) (s:St) (a:Act) (w:World) (σ:Sg),i+k=ops.size->K3 X ex ops (ops.toList.drop i) e s=some out->(∀o∈ops.toList,Jj a.tmps.size o.dst)->Inv X σ s w n0 e a ->
   (∀a' w',Ro X σ s w n0 a out.1 out.2 a' w'->Q .normal a' w')->wpOpsIn (FW r) 0 P ops Q (List.range' i k) a w
 |0,i,e,s,a,w,σ,hk,h,hd,I,hq=>by
  rw[List.drop_of_length_le (by simp;omega)] at h;simp only[K3] at h
  cases h
  exact hq _ _ (Ro.refl I)
 |k+1,i,e,s,a,w,σ,hk,h,hd,I,hq=>by
  have hi:i<ops.size:=by omega
  have hl:ops.toList.drop i=ops[i]::ops.toList.drop (i+1):=by
   rw[abc (by simpa using hi)];simp
  rw[hl] at h;rw[List.range'_succ];simp only[wpOpsIn,al8 hi];have hdi:=hd ops[i] (by simp);simp only[K3] at h;rw[D5 I.env]
  split at h
  ·rename_i hw;rw[if_pos hw]
   split at h
   ·rename_i v s1 xI;refine LB hX hE I xI fun u w' Yx hv g=>?_
    have hA:=I.put g hdi hv;obtain⟨τ,gτ,Iτ,VY⟩:=hA;exact L2 hX hE k (i+1) _ _ _ _ τ (by omega) h (fun o ho=>by rw[VY];exact hd o ho) Iτ fun a' w'' hA'=>hq _ _ (hA'.trans gτ VY)
   ·cases h
  ·rename_i hw;rw[if_neg hw];refine⟨PK,?_⟩;obtain⟨τ,gτ,Iτ,VY⟩:=I.put (Good.refl I.hr) hdi (QB (σ:=σ));exact L2 hX hE k (i+1) _ _ _ _ τ (by omega) h (fun o ho=>by rw[VY];exact hd o ho) Iτ fun a' w'' hA'=>hq _ _ (hA'.trans gτ VY)
def Cr (X:Cx)(P:Program):Prop :=
 ∀ex,LC X P ex->∀(r:Option Nat) (ops:Array Oper) (e e':Env) (s s':St) (a:Act) (w:World) (σ:Sg) (n0 t:Nat) (Q:Exit->Act->World->Prop),
  OQ X ex ops e s=some (e',s')->Xw X ops=true->(∀o∈ops.toList,Jj a.tmps.size o.dst)->Inv X σ s w n0 e a->(∀a' w',Ro X σ s w n0 a e' s' a' w'->Q .normal a' w') ->
  wpOpsIn (FW r) 0 P ops Q (Region.linearise .any ops t) a w
theorem gC {X:Cx}{σ:Sg}{s:St}{w:World}{e:Env}{a:Act}{n0:Nat}(I:Inv X σ s w n0 e a)(fn:FuncId)(ps:Array Tmp)(assign body:Code)(ha:Stat.ok a.tmps.size assign)(hb:Stat.ok a.tmps.size body)(hp:∀t∈ps.toList,t<a.tmps.size) :
  Good σ s w (σ.add s.next ⟨w.heap.size+1,0,0⟩) (s.new (.loop 0 none e ps.toList assign body)) ((w.alloc (.deferred (some []))).alloc (.loop { state:=.ready,pending:=none,fn,tmps:=a.tmps,params:=ps,assign,body,defers:=w.heap.size })):=by
 have g0:=Good.acX I.hr (.deferred (some []));have hf:=I.fresh s.next (agB _);have g1:=Good.new g0.hr hf (.loop 0 none e ps.toList assign body) (by simp) (.loop { state:=.ready,pending:=none,fn,tmps:=a.tmps,params:=ps,assign,body,defers:=w.heap.size }) 0 (by
  unfold BR;exact⟨rfl,rfl,I.env.mono (Sg.Mn hf),rfl,rfl,rfl,ha,hb,hp⟩)
 have:(w.alloc (.deferred (some []))).heap.size=w.heap.size+1:=by simp
 rw[this] at g1;exact g0.trans g1
theorem Ek {p:Option Code}{e e':Env}{s s':St}{out:Out}(h:K0 p e s=some (out,e',s')):e'=e/\s'=s/\((p=none/\out=.norm)\/(∃i,p=some (.exit i)/\out=.exit i)\/(p=some .ret/\out=.ret)):=by
 unfold K0 at h
 split at h <;> cases h
 ·exact⟨rfl,rfl,.inl ⟨rfl,rfl⟩⟩
 ·exact⟨rfl,rfl,.inr (.inl ⟨_,rfl,rfl⟩)⟩
 ·exact⟨rfl,rfl,.inr (.inr ⟨rfl,rfl⟩)⟩
theorem Ih (hX:Full X P){ex:Ex}(hE:LC X P ex){gop:Operand}{ps:Array Tmp}{assign body:Code}{e e':Env}{s s':St}{out:Out}(h:Xc X ex (.rangeFunc gop ps assign body) e s=some (out,e',s'))
  {a:Act}{σ:Sg}{w:World}{n0:Nat}(I:Inv X σ s w n0 e a)(X5:nV X none a.tmps.size (.rangeFunc gop ps assign body)) :
  (Code.rangeFunc gop ps assign body).wpIn (FW none) 0 P (ZB X σ s w n0 a out e' s') a w:=by
 obtain⟨n,hn,X5,_⟩:=X5;simp only[HK,agw,alK,decide_eq_true_eq] at X5;obtain⟨⟨⟨⟨k1,k2⟩,k3⟩,k4⟩,k5⟩:=X5;have ha:Stat.ok a.tmps.size assign:=(hX.stat _ _).2 ⟨n,hn,k2,k4⟩;have hb:Stat.ok a.tmps.size body:=(hX.stat _ _).2 ⟨n,hn,k3,k5⟩;simp only[Xc] at h
 split at h
 ·rename_i g first cap hf
  split at h
  ·rename_i Lx;rw[amz] at Lx
   split at h
   ·rename_i rv s1 WE
    split at h
    ·rename_i st p e1 q1 a1 b1 lV
     split at h
     ·cases h
     ·rename_i Xz;obtain⟨rfl,rfl,Mm⟩:=Ek h;have PX:=T_ I.glob I.env hf;simp only[ZY] at PX;obtain⟨f',x',y',hfv,Dp,hx,hy⟩:=PX;simp only[SG] at Dp;subst Dp;refine wpIn_rangeFunc fun fn _=>?_
      have gl:=gC I fn ps assign body ha hb (fun t ht=>Nat.lt_of_lt_of_le (k1 t ht) hn);have akR:a.eval gop=.func (.func g) x' y':=by rw[Tp];exact hfv
      have hle:=gl.ext.le;have adk:ZY (σ.add s.next ⟨w.heap.size+1,0,0⟩) (.fn (.yield s.next) [] []) (.func (.yield (w.heap.size+1)) #[] #[]):=by
       simp only[ZY];exact⟨_,_,_,rfl,by simp only[SG];exact⟨_,Sg.Yr _ _ _,rfl⟩,by simp[ZZ],by simp[ZZ]⟩
      have SO:ZZ (σ.add s.next ⟨w.heap.size+1,0,0⟩) (first++[.fn (.yield s.next) [] []]++cap) ((x'++#[Value.func (.yield (w.heap.size+1)) #[] #[]])++y').toList:=by
       simp only[Array.toList_append];exact ((ZZ.mono hle _ _ hx).append (JV adk)).append (ZZ.mono hle _ _ hy)
      obtain⟨c1,c2⟩:=N6 hX hE Lx WE gl.hr (gl.fresh I.fresh) (I.glob.mono hle) SO;refine⟨w.heap.size+1,[{ target:=.collected w.heap.size,args:=#[] }],_,_,_,g,(x'++#[Value.func (.yield (w.heap.size+1)) #[] #[]])++y',(w.alloc (.deferred (some []))).alloc (.loop { state:=.ready,pending:=none,fn,tmps:=a.tmps,params:=ps,assign,body,defers:=w.heap.size }),run_enterLoop_outer fn a.tmps ps assign body,QL akR,fun _ _=>trivial,?_,fun hd=>(by cases hd),?_⟩
      ·have hm:Array.map a.eval #[Operand.const (Value.func (.yield (w.heap.size+1)) #[] #[])]=#[Value.func (.yield (w.heap.size+1)) #[] #[]]:=by simp[Act.eval]
       simp only[invoke];rw[hm];exact c1
      ·refine Kx (FD c2) ?_;rintro en w' ⟨u,Yx,rfl,_,g2⟩;have sV:=g2.ext.le.p _ _ (Sg.Yr σ s.next ⟨w.heap.size+1,0,0⟩);obtain⟨r1,AK,oY⟩:=KA g2.hr sV lV;have aaH:=oY;simp only[BR] at aaH;obtain⟨QK,ahb,_⟩:=aaH;have aB:r1.state≠.busy:=by
        rw[QK];unfold Sl
        split <;> simp_all
       have gp:=FL g2.hr sV lV AK 3 p;have hw:({ r1 with state:=Sl 3,pending:=p }:Loop)={ r1 with state:=.exhausted }:=by
        rw[<-ahb];rfl
       rw[hw] at gp;have gd:=Good.drop gp.hr (b:=s.next) (b0:=.loop 3 p e1 q1 a1 b1) (by rw[St.Xe,if_pos rfl]);have g3:=(gl.trans (g2.trans gp)).trans gd;have g4:Good σ s w Yx (s1.put s.next .gone) _:=g3.congr (yc _ _ _) rfl rfl;have hD0:DF n0 (σ.add s.next ⟨w.heap.size+1,0,0⟩) ((w.alloc (.deferred (some []))).alloc (.loop { state:=.ready,pending:=none,fn,tmps:=a.tmps,params:=ps,assign,body,defers:=w.heap.size })) ([{ target:=.collected w.heap.size,args:=#[] }]++a.defers):=by
        obtain⟨rs,D2,EG,hm⟩:=I.df.good gl;obtain⟨rs0,ahc,akS,oq⟩:=I.df;refine⟨w.heap.size::rs0,by simp[ahc],amv.2 ⟨fun Ue=>?_,akS⟩,fun r' Ur=>?_⟩
        ·have:=(agz.1 (oq _ Ue).2.1).1;omega
        ·rcases alL.1 Ur with rfl|Ur
         ·refine⟨I.n0,?_,fun i q hq=>?_,?_⟩
          ·simp only[World.alloc];rw[amh,if_neg (by simp)];simp
          ·by_cases hi:i=s.next
           ·subst hi;rw[Sg.Yr] at hq;cases hq;simp
           ·rw[Sg.WC _ _ hi] at hq;have:=I.hr.lt i q hq;omega
          ·show σ.fz w.heap.size=none
           cases hz:σ.fz w.heap.size with
           |none=>rfl
           |some o =>
            have:=(agz.1 (I.hr.fz _ o hz).1).1;omega
         ·have heq:rs=rs0:=by
           have:=D2.symm.trans ahc;exact List.map_inj_right (by intro x y hxy;simpa using hxy) |>.1 this
          subst heq;exact hm r' Ur
       have I':Inv X Yx (s1.put s.next .gone) (w'.putObj (w.heap.size+1) (.loop { r1 with state:=.exhausted })) n0 e' { a with defers:=[{ target:=.collected w.heap.size,args:=#[] }]++a.defers } :=
        ⟨g4.hr,g4.fresh I.fresh,I.glob.mono g4.ext.le,I.env.mono g4.ext.le,((hD0.good g2).good gp).good gd,amA I.n0 g4.ext.size⟩
       have hA:Ro X σ s w n0 a e' (s1.put s.next .gone) { a with defers:=[{ target:=.collected w.heap.size,args:=#[] }]++a.defers } (w'.putObj (w.heap.size+1) (.loop { r1 with state:=.exhausted })):=⟨Yx,g4,I',rfl⟩;refine⟨p,w'.putObj (w.heap.size+1) (.loop { r1 with state:=.exhausted }),(run_endLoop AK aB).trans (congrArg (fun x=>Result.ok x _) ahb),?_⟩;rcases Mm with⟨rfl,rfl⟩|⟨i,rfl,rfl⟩|⟨rfl,rfl⟩
       ·exact⟨trivial,hA⟩
       ·exact wpIn_exit ⟨rfl,hA⟩
       ·exact wpIn_ret ⟨trivial,hA⟩
    ·cases h
   ·cases h
  ·cases h
 ·cases h
end
end Go.Am
