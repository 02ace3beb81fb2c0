/- A navigator answers, whatever the inertial sensor and the aids tell, what the document says: the law returns true for every input, and leaves its arguments as they were. -/
import Derived.Calls
import Derived.Laws.Sem
import GoSem.Machine.Return
import Derived.KernelRfl
import Derived.WalkKit
import Derived.Laws.CopyOwn
import Derived.Laws.StructEq
import Derived.ChangeKeysEq
import Derived.LoopN
import Derived.Test.YtdchhmffiiedmaaGreatProg
set_option linter.unusedVariables false
set_option linter.unusedSimpArgs false
set_option maxRecDepth 100000
set_option maxHeartbeats 64000000
open Go.IntKind (wrap)
namespace Go.Xv
abbrev ldq:=Op.load
theorem zc{p:Prop}(h:p:=by omega):p:=h
theorem jq{p:Prop}(h:p:=by simp):p:=h
theorem dcz{p:Prop}(h:p:=by decide):p:=h
theorem kfz{p:Prop}(h:p:=by kernel_rfl):p:=h
theorem hzz{p:Prop}(h:p:=by(repeat intro _);show _=_;kernel_rfl):p:=h
end Go.Xv
namespace Go
abbrev Value.i(n:Int):Value:=.int .i64 n
abbrev TypeDesc.i:TypeDesc:=.int .i64
abbrev Addr.q(b o:Nat):Addr:=⟨b,o,none⟩
end Go
namespace Go.Xv
theorem zy{α:Type _}{a:Array α}{i:Nat}{x:α}(h:a[i]? =some x):i<a.size:=(Array.getElem?_eq_some_iff.1 h).1
theorem sLz{α:Type _}:(∀(l:List α) (i:Nat) (a:α),l.toArray.setIfInBounds i a=(l.set i a).toArray)/\(∀(a b:α) (l:List α),(b::l).set 0 a=a::l)/\(∀(a b:α) (l:List α) (n:Nat),(b::l).set (n+1) a=b::l.set n a):=⟨fun _ _ _=>List.setIfInBounds_toArray ..,fun _ _ _=>rfl,fun _ _ _ _=>rfl⟩
inductive VV where
 |v (x:Value)
 |lp (s o:Nat)
 |ls (s o l z:Nat)
 |fp (c:List VV) (o:Nat)
 |fs (c:List VV) (o l z:Nat)
 |fn (f:FuncId) (c:List VV)
 |agg (c:List VV)
 |tup (c:List VV)
 deriving Inhabited
structure Blk where
 c:List VV
 closed:Bool
structure VS where
 t:List (Nat×VV)
 m:List (Nat×Blk)
 n:Nat
section maps
variable{α:Type}
def get?:List (Nat×α)->Nat->Option α
 |[],_=>none
 |(k,x)::r,a=>bif Nat.beq k a then some x else get? r a
def ins(a:Nat)(x:α):List (Nat×α)->List (Nat×α)
 |[]=>[(a,x)]
 |(k,y)::r=>bif Nat.blt a k then(a,x)::(k,y)::r else bif Nat.beq k a then(a,x)::r else(k,y)::ins a x r
def del(a:Nat):List (Nat×α)->List (Nat×α)
 |[]=>[]
 |(k,y)::r=>bif Nat.beq k a then del a r else(k,y)::del a r
def zwF(V:List Nat):List (Nat×α)->List (Nat×α)
 |[]=>[]
 |(k,y)::r=>bif V.any (Nat.beq k)then(k,y)::zwF V r else zwF V r
end maps
def zp0{α:Type}(P:Program):Sem α->Option α
 | .pure a=>some a
 | .program k=>zp0 P (k P)
 | .mark _ k=>zp0 P k
 |_=>none
def ev(T:Nat->Option VV):Operand->Option VV
 | .tmp t=>T t
 | .const x=>some (.v x)
 | .global g=>some (.v (.pointer (some ⟨g,0,none⟩)))
 | .func f=>some (.v (.func (.func f) #[] #[]))
def evs(T:Nat->Option VV):List Operand->Option (List VV)
 |[]=>some []
 |x::r=>match ev T x with
  |none=>none
  |some a=>match evs T r with
   |none=>none
   |some l=>some (a::l)
def raw:VV->Option Value
 | .v x=>some x
 |_=>none
def zyy(T:Nat->Option VV)(x:Operand):Option Value:=(ev T x).bind raw
def isI(k:IntKind):Option VV->Bool
 |some (.v (.int k' _))=>decide (k'=k)
 |_=>false
def iv:Option VV->Int
 |some (.v (.int _ n))=>n
 |_=>0
def isB:Option VV->Bool
 |some (.v (.bool _))=>true
 |_=>false
def bv:Option VV->Bool
 |some (.v (.bool b))=>b
 |_=>false
def zvs(P:Program):Nat->TypeId->Option (List (Option IntKind))
 |0,_=>none
 |d+1,t=>match P.underlying t with
  |some (.int k)=>some [some k]
  |some .bool=>some [none]
  |some (.array n e)=>match zvs P d e with
   |some l=>some (List.replicate n l).flatten
   |none=>none
  |some (.struct fs)=>fs.toList.foldr (fun f acc=>match zvs P d f.type,acc with
   |some l,some r=>some (l++r)
   |_,_=>none) (some [])
  |_=>none
def zcu(P:Program)(t:TypeId):Bool:=match P.underlying t with
 |some (.struct _)|some (.array _ _)=>true
 |_=>false
def zkQ(c:List VV):Nat->List (Option IntKind)->Bool×List Value
 |_,[]=>(true,[])
 |o,some k::r=>match zkQ c (o+1) r with
  |(b,l)=>(isI k c[o]? &&b,.int k (iv c[o]?)::l)
 |o,none::r=>match zkQ c (o+1) r with
  |(b,l)=>(isB c[o]? &&b,.bool (bv c[o]?)::l)
def zd3:List VV->Option (List Value)
 |[]=>some []
 | .v x::r=>match zd3 r with
   |some l=>some (x::l)
   |none=>none
 |_=>none
def ztS(P:Program)(t:TypeId)(c:List VV)(o:Nat):Option (Bool×VV):=
 match zvs P 20 t with
 |some ks=>bif Nat.beq ks.length (P.cellsOf t)then(match zkQ c o ks with
  |(b,l)=>bif zcu P t then some (b,.v (.agg l.toArray))else match l with
   |[x]=>some (b,.v x)
   |_=>none)else none
 |none=>bif zcu P t then
   (match(c.drop o).take (P.cellsOf t)with
    |l=>bif Nat.beq l.length (P.cellsOf t)then(match zd3 l with
      |some l'=>some (true,.v (.agg l'.toArray))
      |none=>some (true,.agg l))else none)
  else match c[o]? with
   |some x=>some (true,x)
   |none=>none
def ztK:VV->Bool
 | .v (.agg _)=>false
 | .v (.tuple _)=>false
 | .agg _=>false
 | .tup _=>false
 |_=>true
def zcJ:VV->Option (List VV×Bool)
 | .v (.agg cs)=>some (cs.toList.map .v,true)
 | .v (.tuple _)=>none
 | .v x=>some ([.v x],true)
 | .agg l=>some (l,false)
 | .tup _=>none
 |x=>some ([x],false)
inductive Eff where
 |val (x:VV)
 |alloc (x:VV) (b:Blk)
 |store (s:Nat) (b:Blk)
 |app (s:Option Nat) (x:VV) (b:Blk)
def zd4{α β:Type}(f:α->Option β):List α->Option (List β)
 |[]=>some []
 |x::r=>match f x with
  |none=>none
  |some y=>match zd4 f r with
   |none=>none
   |some l=>some (y::l)
def zr5:List VV->Bool
 |[]=>true
 | .v _::r=>zr5 r
 |_=>false
def zek(m:Nat->Option Blk):Nat->VV->Option VV
 |_,.v x=>some (.v x)
 |_,.fp c o=>some (.fp c o)
 |_,.fs c o l z=>some (.fs c o l z)
 |d+1,.lp s o=>match m s with
  |some b=>bif b.closed then some (.fp b.c o)else(match zd4 (zek m d) b.c with
   |some c=>bif zr5 c then some (.fp c o)else none
   |none=>none)
  |none=>none
 |d+1,.ls s o l z=>match m s with
  |some b=>bif b.closed then some (.fs b.c o l z)else(match zd4 (zek m d) b.c with
   |some c=>bif zr5 c then some (.fs c o l z)else none
   |none=>none)
  |none=>none
 |d+1,.fn f c=>match zd4 (zek m d) c with
  |some c=>some (.fn f c)
  |none=>none
 |d+1,.agg c=>match zd4 (zek m d) c with
  |some c=>some (.agg c)
  |none=>none
 |d+1,.tup c=>match zd4 (zek m d) c with
  |some c=>some (.tup c)
  |none=>none
 |_,_=>none
def zdP(m:Nat->Option Blk):VV->Option (List VV×Nat×Nat×Bool)
 | .ls s o l z=>match m s with
   |some b=>some (b.c.drop o,l,z,b.closed)
   |none=>none
 | .fs c o l z=>some (c.drop o,l,z,true)
 | .v (.slice none 0 0)=>some ([],0,0,true)
 |_=>none
def eqV:Value->Value->Bool
 | .int _ a,.int _ b=>a==b
 | .bool a,.bool b=>a==b
 |_,_=>false
def eqL:List Value->List Value->Bool
 |[],[]=>true
 |[a],[b]=>eqV a b
 |a::r,b::q=>eqV a b&&eqL r q
 |_,_=>false
def zPA(P:Program)(g:TypeId->Option (List (Option IntKind))):Nat->List Field->Option (List (Option IntKind))
 |_,[]=>some []
 |off,f::r=>bif Nat.beq f.offset off&&(f.name != "_")then(match g f.type with
  |some l=>bif Nat.beq l.length (P.cellsOf f.type)then(match zPA P g (off+l.length) r with
   |some q=>some (l++q)
   |none=>none)else none
  |none=>none)else none
def zvt(P:Program):Nat->TypeId->Option (List (Option IntKind))
 |0,_=>none
 |d+1,t=>match P.underlying t with
  |some (.int k)=>some [some k]
  |some .bool=>some [none]
  |some (.array n e)=>match zvt P d e with
   |some l=>bif Nat.beq l.length (P.cellsOf e)then some (List.replicate n l).flatten else none
   |none=>none
  |some (.struct fs)=>bif !P.stoodInHeld t then zPA P (zvt P d) 0 fs.toList else none
  |_=>none
def zcv:List (Option IntKind)->List Value->Bool
 |[],[]=>true
 |some k::r,.int k' _::q=>decide (k'=k)&&zcv r q
 |none::r,.bool _::q=>zcv r q
 |_,_=>false
def zxM:List VV->Bool×List UInt8
 |[]=>(true,[])
 |x::r=>match zxM r with
  |(b,l)=>(isI .u8 (some x)&&b,UInt8.ofNat (iv (some x)).toNat::l)
def ziI(T:Nat->Option VV)(sz:Nat):Nat->List (Nat×Operand)->Option (List VV×Bool)
 |_,[]=>some ([],true)
 |i,(j,x)::r=>bif Nat.beq i j then(match ev T x with
   |none=>none
   |some a=>match zcJ a with
    |none=>none
    |some (c,b)=>bif Nat.beq c.length sz then(match ziI T sz (i+1) r with
     |none=>none
     |some (q,b')=>some (c++q,b&&b'))else none)else none
def zVY:VV->List VV->Option (FuncId×List VV)
 | .v (.func (.func f) p q),a=>bif Nat.beq p.size 0&&Nat.beq q.size 0 then some (f,a)else none
 | .fn f c,a=>bif Nat.blt f 1000000 then some (f,a++c)else some (f-1000000,c++a)
 |_,_=>none
section
variable(P:Program)(S:FuncId->List VV->Option (Bool×VV))(ro:List Nat)(T:Nat->Option VV)(m mf:Nat->Option Blk)(n:Nat)
def zfQ(o:Oper):Option (Bool×Eff):=
 match zd4 (zyy T) o.op.operands.toList with
 |none=>none
 |some _=>match zp0 P (execOp (fun x=>(zyy T x).getD undef) o)with
  |some (.value x)=>some (true,.val (.v x))
  |_=>none
def zzN(op:BinOp)(k:IntKind)(x y:Int):Int:=
 match op with
 | .shl=>k.wrap (x*2^(min y.toNat k.bits))
 |_=>x.fdiv (2^(min y.toNat k.bits))
def zTP(o:Oper)(op:BinOp)(t:TypeId)(x y:Operand):Option (Bool×Eff):=
 match op with
 | .shl| .shr=>match ev T x,ev T y with
   |some (.v (.int k a)),some (.v (.int _ b))=>some (!decide (b<0),.val (.v (.int k (zzN op k a b))))
   |_,_=>none
 | .quo=>match ev T x,ev T y with
   |some (.v (.int k a)),some (.v (.int k' b))=>bif decide (k'=k)then some (!decide (b=0),.val (.v (.int k (k.wrap (a.tdiv b)))))else none
   |_,_=>none
 | .rem=>match ev T x,ev T y with
   |some (.v (.int k a)),some (.v (.int k' b))=>bif decide (k'=k)then some (!decide (b=0),.val (.v (.int k (a.tmod b))))else none
   |_,_=>none
 | .eql=>match ev T x,ev T y with
   |some (.v (.agg a)),some (.v (.agg b))=>match zvt P 20 t with
    |some ks=>bif zcv ks a.toList&&zcv ks b.toList&& !P.eqGuardType P.depth t&&zcu P t then some (true,.val (.v (.bool (eqL a.toList b.toList))))else none
    |none=>none
   |_,_=>zfQ P T o
 | .neq=>match ev T x,ev T y with
   |some (.v (.agg a)),some (.v (.agg b))=>match zvt P 20 t with
    |some ks=>bif zcv ks a.toList&&zcv ks b.toList&& !P.eqGuardType P.depth t&&zcu P t then some (true,.val (.v (.bool (!eqL a.toList b.toList))))else none
    |none=>none
   |_,_=>zfQ P T o
 |_=>zfQ P T o
def zOH(c a b:Operand):Option (Bool×Eff):=
 match ev T c with
 |some (.v (.bool c))=>match ev T a,ev T b with
  |some (.v (.bool x)),some (.v (.bool y))=>some (true,.val (.v (.bool (bif c then x else y))))
  |some (.v (.bool x)),_=>some (c,.val (.v (.bool x)))
  |_,some (.v (.bool y))=>some (!c,.val (.v (.bool y)))
  |_,_=>none
 |_=>none
def ziJ(e:TypeId):Bool:=(P.info? e).isSome
def zp1(t:TypeId)(x i:Operand):Option (Bool×Eff):=
 match ev T i with
 |some (.v (.int _ i))=>match P.underlying t with
  |some (.array len e)=>bif ziJ P e then(match ev T x with
   |some (.lp s o)=>some (decide (0<=i)&&decide (i<(len:Int)),.val (.lp s (o+i.toNat*P.cellsOf e)))
   |some (.fp c o)=>some (decide (0<=i)&&decide (i<(len:Int)),.val (.fp c (o+i.toNat*P.cellsOf e)))
   |_=>none)else none
  |some (.slice e)=>bif ziJ P e then(match ev T x with
   |some (.ls s o l _)=>some (decide (0<=i)&&decide (i<(l:Int)),.val (.lp s (o+i.toNat*P.cellsOf e)))
   |some (.fs c o l _)=>some (decide (0<=i)&&decide (i<(l:Int)),.val (.fp c (o+i.toNat*P.cellsOf e)))
   |_=>none)else none
  |_=>none
 |_=>none
def zEC(t:TypeId)(x i:Operand):Option (Bool×Eff):=
 match ev T i,ev T x with
 |some (.v (.int _ i)),some (.v (.agg cs))=>match P.underlying t with
  |some (.array len e)=>match zvs P 20 e with
   |some ks=>bif Nat.beq ks.length (P.cellsOf e)then(match zkQ (cs.toList.map .v) (i.toNat*P.cellsOf e) ks with
    |(b,l)=>bif zcu P e then some (decide (0<=i)&&decide (i<(len:Int))&&b,.val (.v (.agg l.toArray)))else match l with
     |[x]=>some (decide (0<=i)&&decide (i<(len:Int))&&b,.val (.v x))
     |_=>none)else none
   |none=>none
  |_=>none
 |_,_=>none
def zdo(T:Nat->Option VV)(d:Nat):Option Operand->Option (Bool×Nat)
 |none=>some (true,d)
 |some x=>match ev T x with
  |some (.v (.int _ i))=>some (decide (0<=i),i.toNat)
  |_=>none
def zED(t:TypeId)(x:Operand)(lo hi:Option Operand):Option (Bool×Eff):=
 match P.underlying t with
 |some (.slice e)=>bif ziJ P e then(match ev T x with
  |some (.ls s o l z)=>match zdo T 0 lo,zdo T l hi with
   |some (b,a),some (b',c)=>bif Nat.beq z (P.cellsOf e)then some (b&&b'&&decide (a<=c)&&decide (c<=l),.val (.ls s (o+a*P.cellsOf e) (c-a) z))else none
   |_,_=>none
  |some (.fs q o l z)=>match zdo T 0 lo,zdo T l hi with
   |some (b,a),some (b',c)=>some (b&&b'&&decide (a<=c)&&decide (c<=l),.val (.fs q (o+a*P.cellsOf e) (c-a) z))
   |_,_=>none
  |_=>none)else none
 |some (.array n e)=>bif ziJ P e then(match ev T x with
  |some (.lp s o)=>match zdo T 0 lo,zdo T n hi,m s with
   |some (b,a),some (b',c),some k=>some (b&&b'&&decide (a<=c)&&decide (c<=n)&&decide (o+n*P.cellsOf e<=k.c.length),.val (.ls s (o+a*P.cellsOf e) (c-a) (P.cellsOf e)))
   |_,_,_=>none
  |_=>none)else none
 |_=>none
def zg9:Nat:=1099511627776
def zok(e:TypeId):Bool:=match(P.info? e).bind (·.zero)with
 |some z=>Nat.beq z.cells.size (P.cellsOf e)
 |none=>false
def zPB(c:Call):Option (Bool×Eff):=
 match c.args,c.argTypes with
 |⟨[x,y]⟩,⟨[t,t']⟩=>match ev T x,ev T y,P.underlying t with
  |some a,some b,some (.slice e)=>match zdP m b with
   |some (q,l',z',cl')=>bif Nat.beq t t'&&Nat.beq z' (P.cellsOf e)&&zok P e then(match a with
    | .ls s o l z=>match m s with
      |some k=>bif Nat.beq z (P.cellsOf e)then
        some (decide (o+l*P.cellsOf e<=k.c.length)&&decide (l'*P.cellsOf e<=q.length)&&decide ((l+l')*(1+P.bytesOf e)<=zg9),
         .app (some s) (.ls n 0 (l+l') (P.cellsOf e)) ⟨(k.c.drop o).take (l*P.cellsOf e)++q.take (l'*P.cellsOf e),k.closed&&cl'⟩)else none
      |none=>none
    | .v (.slice none 0 0)=>
          some (decide (0<l')&&decide (l'*P.cellsOf e<=q.length)&&decide (l'*(1+P.bytesOf e)<=zg9),
           .app none (.ls n 0 l' (P.cellsOf e)) ⟨q.take (l'*P.cellsOf e),cl'⟩)
    |_=>none)else none
   |none=>none
  |_,_,_=>none
 |_,_=>none
def unS(g:List VV->Option (Bool×VV))(l:List VV):Option VV:=match g l with
 |some (true,r)=>some r
 |_=>none
def zr6(c:Call)(o:Oper):Option (Bool×Eff):=
 match c.callee with
 | .builtin .len=>match c.args,c.argTypes with
   |⟨[x]⟩,⟨[t]⟩=>match ev T x,P.underlying t with
    |some (.ls _ _ l _),some (.slice _)=>some (true,.val (.v (.int .i64 l)))
    |some (.fs _ _ l _),some (.slice _)=>some (true,.val (.v (.int .i64 l)))
    |_,_=>zfQ P T o
   |_,_=>zfQ P T o
 | .builtin .append=>zPB P T m n c
 | .builtin _=>zfQ P T o
 | .value f=>match ev T f,evs T c.args.toList with
   |some f,some l=>match zVY f l with
    |some (f,l)=>match zd4 (zek m 4) l with
     |some l=>match S f l with
      |some (b,.fs q 0 l z)=>bif o.dst.any (fun d=>ro.any (Nat.beq d))then some (b,.val (.fs q 0 l z))else some (b,.alloc (.ls n 0 l z) ⟨q,true⟩)
      |some (b,x)=>some (b,.val x)
      |none=>none
     |none=>none
    |none=>none
   |_,_=>none
 |_=>none
def zr7(fs:Array Field):List VV->List (Nat×Operand)->Option (List VV)
 |cs,[]=>some cs
 |cs,(i,x)::r=>match fs[i]? with
  |none=>none
  |some f=>match(ev T x).bind zcJ with
   |none=>none
   |some (c,_)=>bif Nat.beq c.length (P.cellsOf f.type)&&Nat.ble (f.offset+P.cellsOf f.type) cs.length&&ziJ P f.type then zr7 fs (cs.take f.offset++c++cs.drop (f.offset+P.cellsOf f.type)) r else none
def zEE(t:TypeId)(parts:Array (Nat×Operand)):Option (Bool×Eff):=
 match P.underlying t,(P.info? t).bind (·.zero)with
 |some (.struct fs),some z=>bif fs.toList.all (fun f=>ziJ P f.type)then(match zr7 P T fs (z.cells.toList.map .v) parts.toList with
  |some c=>some (true,.val (.agg c))
  |none=>none)else none
 |_,_=>none
def zuq(o':Oper):Option (Bool×Eff):=
 match o'.op with
 | .move x=>(ev T x).map fun a=>(true,.val a)
 | .assign x=>(ev T x).map fun a=>(true,.val a)
 | .pick c a b=>zOH T c a b
 | .alloc e=>match(P.info? e).bind (·.zero)with
   |some z=>bif z.cells.toList.all Value.oneCell' then some (true,.alloc (.lp n 0) ⟨z.cells.toList.map .v,true⟩)else none
   |none=>none
 | .box _ x=>match(ev T x).bind zcJ with
   |some (c,b)=>bif c.all ztK then some (true,.alloc (.lp n 0) ⟨c,b⟩)else none
   |none=>none
 | .load t a=>bif(P.underlying t).isNone then none else match ev T a with
   |some (.lp s o)=>match m s with
    |some b=>(ztS P t b.c o).map fun(b,x)=>(b,.val x)
    |none=>none
   |some (.fp c o)=>(ztS P t c o).map fun(b,x)=>(b,.val x)
   |_=>none
 | .store t a x=>match ev T a,(ev T x).bind zcJ with
   |some (.lp s o),some (c,b)=>match mf s with
    |some k=>bif Nat.beq c.length (P.cellsOf t)&&o'.dst.isNone&&c.all ztK&&ziJ P t then
      some (decide (o+P.cellsOf t<=k.c.length),.store s ⟨k.c.take o++c++k.c.drop (o+P.cellsOf t),k.closed&&b⟩)else none
    |none=>none
   |_,_=>none
 | .fieldAddr t x f=>match P.underlying t with
   |some (.struct fs)=>match fs[f]? with
    |some f=>bif Nat.beq (P.cellsOf f.type) 0 then none else(match ev T x with
     |some (.lp s o)=>some (true,.val (.lp s (o+f.offset)))
     |some (.fp c o)=>some (true,.val (.fp c (o+f.offset)))
     |_=>none)
    |none=>none
   |_=>none
 | .indexAddr t x i=>zp1 P T t x i
 | .index t x i=>zEC P T t x i
 | .slice t x lo hi none=>zED P T m t x lo hi
 | .buildSlice t len parts=>match P.underlying t with
   |some (.slice e)=>match ziI T (P.cellsOf e) 0 parts.toList with
    |some (c,b)=>bif Nat.beq parts.size len&&Nat.ble (len*P.cellsOf e) 1000&&c.all ztK&&ziJ P e&&(P.info? e).any (·.zero.isSome)then
      (bif o'.dst.any (fun d=>ro.any (Nat.beq d))&&b then some (true,.val (.fs c 0 len (P.cellsOf e)))
      else some (true,.alloc (.ls n 0 len (P.cellsOf e)) ⟨c,b⟩))else none
    |none=>none
   |_=>none
 | .makeSlice t l c=>match P.underlying t with
   |some (.slice e)=>match ev T l,ev T c,(P.info? e).bind (·.zero)with
    |some (.v (.int .i64 l)),some (.v (.int .i64 c)),some z=>bif z.cells.toList.all Value.oneCell'&&Nat.beq z.cells.size (P.cellsOf e)&&Nat.blt 0 (P.cellsOf e)&&ziJ P e then
      some (decide (0<=l)&&decide (l=c)&&decide (l.toNat*(1+P.bytesOf e)<=zg9),.alloc (.ls n 0 l.toNat (P.cellsOf e)) ⟨(List.replicate l.toNat (z.cells.toList.map VV.v)).flatten,true⟩)else none
    |_,_,_=>none
   |_=>none
 | .makeFunc (.func f) q cs=>bif Nat.blt f 1000000 then(bif Nat.beq q.size 0 then(match evs T cs.toList with
   |some l=>some (true,.val (.fn f l))
   |none=>none)else bif Nat.beq cs.size 0 then(match evs T q.toList with
   |some l=>some (true,.val (.fn (f+1000000) l))
   |none=>none)else none)else none
 | .sliceToArrayPointer t x=>match P.underlying t with
   |some (.array k _)=>match ev T x with
    |some (.ls s o l _)=>some (decide (k<=l)&&decide (0<k),.val (.lp s o))
    |some (.fs c o l _)=>some (decide (k<=l)&&decide (0<k),.val (.fp c o))
    |_=>none
   |_=>none
 | .extract x i=>match ev T x with
   |some (.tup l)=>(l[i]?).map fun a=>(true,.val a)
   |_=>zfQ P T o'
 | .convert s d x=>match P.underlying s,P.underlying d with
   |some (.slice el),some .string=>match P.underlying el with
    |some (.int .u8)=>match ev T x with
     |some a=>match zdP m a with
      |some (p,l,z,_)=>match zxM (p.take l)with
       |(b,l')=>some (b&&(Nat.beq z 1||Nat.beq l 0)&&decide (l<=p.length),.val (.v (.string ⟨l'.toArray⟩)))
      |none=>none
     |none=>none
    |_=>none
   |_,_=>zfQ P T o'
 | .binOp op t x y _=>zTP P T o' op t x y
 | .call c=>zr6 P S ro T m n c o'
 | .select _ _=>none
 | .build t parts=>match zfQ P T o' with
   |some r=>some r
   |none=>zEE P T t parts
 |_=>zfQ P T o'
end
def zPC(T:List (Nat×VV))(d:Option Nat)(x:VV):List (Nat×VV):=
 match d with
 |some d=>ins d x T
 |none=>T
def zgG(d:Option Nat)(st:VS):Eff->VS
 | .val x=>{st with t:=zPC st.t d x}
 | .alloc x b=>{t:=zPC st.t d x,m:=ins st.n b st.m,n:=st.n+1}
 | .store s b=>{st with m:=ins s b st.m}
 | .app s x b=>{t:=zPC st.t d x,m:=ins st.n b (match s with|some s=>del s st.m|none=>st.m),n:=st.n+1}
abbrev R:=Option VV
section
variable(P:Program)(S:FuncId->List VV->Option (Bool×VV))(ro:List Nat)
def zzO(m:List (Nat×Blk))(ok:Eff->Bool)(o:Oper)(st:VS)(k:VS->Eff->R):R:=
 match zuq P S ro (get? st.t) (get? m) (get? st.m) st.n o with
 |none=>none
 |some (b,e)=>bif ok e then(bif b then k (zgG o.dst st e) e else none)else none
def zur(ops:Array Oper)(o:Oper)(st:VS)(run skip:VS->R):R:=
 match o.guard with
 |none=>run st
 |some (j,w)=>match(ops[j]?).bind (·.dst)with
  |none=>none
  |some d=>match get? st.t d with
   |some (.v (.bool g))=>
     bif g then
      (bif w then run {st with t:=ins d (.v (.bool true)) st.t}else skip {st with t:=ins d (.v (.bool true)) st.t})
     else
      (bif w then skip {st with t:=ins d (.v (.bool false)) st.t}else run {st with t:=ins d (.v (.bool false)) st.t})
   |some (.v (.tuple q))=>bif Nat.beq q.size 0 then skip st else none
   |_=>none
def zzP(o:Oper)(st:VS):VS:={st with t:=zPC st.t o.dst (.v undef)}
def zIc(ops:Array Oper):List Oper->VS->(VS->R)->R
 |[],st,k=>k st
 |o::r,st,k=>zur ops o st (fun st=>zzO P S ro st.m (fun _=>true) o st fun st _=>zIc ops r st k) (fun st=>zIc ops r (zzP o st) k)
structure Log where
 i:Nat
 dst:Option Nat
 reads:List Nat
 w:List Nat
 rd:Option (List Nat)
def wOf(n:Nat):Eff->List Nat
 | .val _=>[]
 | .alloc _ _=>[n]
 | .store s _=>[s]
 | .app (some s) _ _=>[s,n]
 | .app none _ _=>[n]
def zEF(T:Nat->Option VV)(o:Oper):Option (List Nat):=
 match o.op with
 | .load _ a=>(match ev T a with
   |some (.lp s _)=>some [s]
   |_=>some [])
 | .call _| .convert _ _ _| .slice _ _ _ _ _=>none
 |_=>some []
def zwG:List Operand->List Nat
 |[]=>[]
 | .tmp t::r=>t::zwG r
 |_::r=>zwG r
def zdz(ops:Array Oper)(o:Oper):List Nat:=
 (match o.guard with
   |some (j,_)=>(match(ops[j]?).bind (·.dst)with|some d=>[d]|none=>[])
   |none=>[])++zwG o.op.operands.toList
def zyz(a:Nat)(l:List Nat):Bool:=l.any (Nat.beq a)
def zrL:Option (List Nat)->Nat->Bool
 |none,_=>true
 |some l,s=>zyz s l
def zmq(m j:Nat):Bool:=Nat.beq (Nat.land (Nat.shiftRight m j) 1) 1
def zxN(ops:List Oper):Nat->List Nat->List Nat
 |0,acc=>acc
 |f+1,acc=>match ops[acc.length]? with
  |none=>acc
  |some o=>zxN ops f (acc++[(o.after.toList.filter (Region.binds .any)).foldr (fun e m=>Nat.lor (Nat.lor (Nat.shiftLeft 1 e.on) (acc.getD e.on 0)) m) 0])
def zp2:List Oper->Nat->Bool
 |[],_=>true
 |o::r,i=>(o.after.toList.all fun e=> !Region.binds .any e||Nat.blt e.on i)&&zp2 r (i+1)
def zMn(n0 pre:Nat)(x y:Log):Bool:=
 zmq pre x.i||
 ((match x.dst,y.dst with
   |some a,some b=> !Nat.beq a b
   |_,_=>true)&&
 (match x.dst with
   |some a=> !zyz a y.reads
   |none=>true)&&
 (match y.dst with
   |some b=> !zyz b x.reads
   |none=>true)&&
 !(x.w.any fun s=>zyz s y.w)&&
 (!(y.w.any fun s=>Nat.blt s n0&&zrL x.rd s)))
def zDS(n0 pre:Nat)(l:List Log)(y:Log):Bool:=
 (match y.dst with
   |some b=> !zyz b y.reads
   |none=>true)&&
 (l.all fun x=>zMn n0 pre x y&&(match x.dst,y.dst with
   |some a,some b=> !Nat.beq a b
   |_,_=>true)&&(!(x.w.any fun s=>Nat.blt s n0&&zrL y.rd s)))
def ztT(ops:Array Oper)(m:List (Nat×Blk))(n0:Nat)(pre:List Nat):List Oper->Nat->List Log->VS->(VS->R)->R
 |[],_,_,st,k=>k st
 |o::r,i,l,st,k=>zur ops o st
   (fun st=>zzO P S ro m (fun e=>zDS n0 (pre.getD i 0) l ⟨i,o.dst,zdz ops o,wOf st.n e,zEF (get? st.t) o⟩) o st fun st' e=>
     ztT ops m n0 pre r (i+1) (l++[⟨i,o.dst,zdz ops o,wOf st.n e,zEF (get? st.t) o⟩]) st' k)
   (fun st=>bif zDS n0 (pre.getD i 0) l ⟨i,o.dst,zdz ops o,[],some []⟩then
     ztT ops m n0 pre r (i+1) (l++[⟨i,o.dst,zdz ops o,[],some []⟩]) (zzP o st) k else none)
def zfK(N:Nat):Code->Bool
 | .region _ ops _=>ops.toList.all fun o=>match o.dst with
   |some d=>Nat.blt d N
   |none=>true
 | .seq a b=>zfK N a&&zfK N b
 | .cond _ a b=>zfK N a&&zfK N b
 | .block _ b=>zfK N b
 | .loop b=>zfK N b
 |_=>true
structure Cfg where
 V:List Nat
 L:List (Nat×List Nat)
 ro:List Nat
 J:List (Nat×List Nat)
def zMo:Code->Option Nat
 | .region id _ _=>some id
 | .seq a _=>zMo a
 | .block _ b=>zMo b
 |_=>none
def zEG:VV->List Nat
 | .lp s _=>[s]
 | .ls s _ _ _=>[s]
 | .fn _ c=>c.flatMap fun| .lp s _=>[s]| .ls s _ _ _=>[s]|_=>[]
 | .agg c=>c.flatMap fun| .lp s _=>[s]| .ls s _ _ _=>[s]|_=>[]
 |_=>[]
def zwH:List Nat->List Nat->List Nat
 |acc,[]=>acc
 |acc,s::r=>bif acc.any (Nat.beq s)then zwH acc r else zwH (acc++[s]) r
def zId(m:List (Nat×Blk)):Nat->List Nat->List Nat->List Nat
 |0,acc,_=>acc
 |_,acc,[]=>acc
 |d+1,acc,s::r=>match get? m s with
  |some b=>bif b.closed then zId m d acc r else
    (match zwH acc (b.c.flatMap zEG)with
      |acc'=>zId m d acc' (r++acc'.drop acc.length))
  |none=>zId m d acc r
def idx(s:Nat):List Nat->Nat->Option Nat
 |[],_=>none
 |a::r,i=>bif Nat.beq a s then some i else idx s r (i+1)
def zus(L:List Nat):VV->Option VV
 | .v x=>some (.v x)
 | .lp s o=>match idx s L 0 with|some i=>some (.lp i o)|none=>none
 | .ls s o l z=>match idx s L 0 with|some i=>some (.ls i o l z)|none=>none
 | .fp c o=>some (.fp c o)
 | .fs c o l z=>some (.fs c o l z)
 |_=>none
def ren(L:List Nat):VV->Option VV
 | .fn f c=>(zd4 (zus L) c).map (.fn f)
 | .agg c=>(zd4 (zus L) c).map .agg
 | .tup _=>none
 |x=>zus L x
def zMp(L:List Nat):List (Nat×VV)->List (Nat×VV)
 |[]=>[]
 |(k,x)::r=>match ren L x with
  |some y=>(k,y)::zMp L r
  |none=>del k (zMp L r)
def zEH(L:List Nat)(m:List (Nat×Blk)):List Nat->Nat->List (Nat×Blk)
 |[],_=>[]
 |s::r,i=>match get? m s with
  |some b=>bif b.closed then(i,b)::zEH L m r (i+1)else(match zd4 (ren L) b.c with
   |some c=>(i,⟨c,false⟩)::zEH L m r (i+1)
   |none=>zEH L m r (i+1))
  |none=>zEH L m r (i+1)
def zzQ:List Nat->Bool
 |[]=>true
 |a::r=> !zyz a r&&zzQ r
def zxO(K:List Nat)(st:VS):VS:=
 match zwF K st.t with
 |T=>match zwH [] (T.flatMap fun p=>zEG p.2)with
  |L0=>match zId st.m 50 L0 L0 with
   |L=>bif zzQ L then{t:=zMp L T,m:=zEH L st.m L 0,n:=L.length}else{t:=[],m:=[],n:=0}
def zDT(C:Cfg)(b:Code):Option (List Nat):=match zMo b with
 |some r=>get? C.J r
 |none=>none
def zDU(C:Cfg)(b:Code)(st:VS):VS:=match zDT C b with
 |some K=>zxO K st
 |none=>st
def zDV(ro:List Nat)(d:Nat)(g:Bool)(T:List (Nat×VV)):List (Nat×VV):=bif ro.any (Nat.beq (d+1000000))then ins d (.v (.bool g)) T else del d T
def zMq(step:VS->(Exit->VS->R)->R)(h:VS->VS)(k:Exit->VS->R):Nat->VS->R
 |0,_=>none
 |n+1,st=>step (h st) fun e st'=>match e with
  | .normal=>zMq step h k n st'
  |e=>k e st'
def region(C:Cfg)(ops:Array Oper)(draw:Bool)(st:VS)(k:VS->R):R:=
 bif draw then bif !zp2 ops.toList 0 then none else ztT P S C.ro ops st.m st.n (zxN ops.toList ops.size []) ops.toList 0 [] st fun st=>k {st with t:=zwF C.V st.t}
 else zIc P S C.ro ops ops.toList st fun st=>k {st with t:=zwF C.V st.t}
def zdA(C:Cfg)(fuel:Nat):Code->Nat->VS->(Exit->VS->R)->R
 | .skip,_,st,k=>k .normal st
 | .region _ ops draw,_,st,k=>region P S C ops draw st (k .normal)
 | .seq a b,j,st,k=>zdA C fuel a j st fun e st=>match e with
   | .normal=>zdA C fuel b j (zDU C b st) k
   |e=>k e st
 | .cond c a b,j,st,k=>match ev (get? st.t) c with
   |some (.v (.bool g))=>match c with
    | .tmp d=>bif g then zdA C fuel a j {st with t:=zDV C.ro d true st.t} k else zdA C fuel b j {st with t:=zDV C.ro d false st.t} k
    |_=>bif g then zdA C fuel a j st k else zdA C fuel b j st k
   |_=>none
 | .block id b,_,st,k=>zdA C fuel b id st fun e st=>match e with
   | .exit i=>bif Nat.beq i id then k .normal st else k (.exit i) st
   |e=>k e st
 | .loop b,j,st,k=>zMq (zdA C fuel b j) (zxO ((get? C.L j).getD [])) k fuel st
 | .exit id,_,st,k=>k (.exit id) st
 | .ret,_,st,k=>k .ret st
 |_,_,_,_=>none
def zp3(m:Nat->Option Blk):VV->Option VV
 | .v x=>some (.v x)
 | .ls s o l z=>match m s with
   |some b=>bif b.closed then some (.fs b.c o l z)else none
   |none=>none
 |_=>none
def ziK(m:Nat->Option Blk):VV->Option VV
 | .agg c=>match zd4 (zp3 m) c with
   |some c=>some (.agg c)
   |none=>none
 |x=>zp3 m x
def zEI(st:VS):ResultVar->Option (Bool×VV)
 | .tmp t=>match get? st.t t with
   |some x=>(ziK (get? st.m) x).map fun x=>(true,x)
   |none=>none
 | .cell t ty=>match get? st.t t with
   |some (.lp s o)=>match get? st.m s with
    |some b=>bif(P.underlying ty).isNone then none else match ztS P ty b.c o with
     |some (b,x)=>(ziK (get? st.m) x).map fun x=>(b,x)
     |none=>none
    |none=>none
   |_=>none
def zPD(st:VS):List ResultVar->Option (Bool×List VV)
 |[]=>some (true,[])
 |r::q=>match zEI P st r,zPD st q with
  |some (b,x),some (b',l)=>some (b&&b',x::l)
  |_,_=>none
def zRC(fn:Func)(st:VS):R:=
 match zPD P st fn.results.toList with
 |some (b,l)=>bif b then(match l with
  |[x]=>some x
  |l=>match zd3 l with
   |some l'=>some (.v (.tuple l'.toArray))
   |none=>some (.tup l))else none
 |none=>none
def zwI(i:Nat):List VV->List (Nat×VV)
 |[]=>[]
 |x::r=>(i,x)::zwI (i+1) r
def zTS(C:Cfg)(fuel:Nat)(f:FuncId)(args:List VV):R:=
 match P.funcs[f]? with
 |some fn=>match fn.body with
  |some c=>bif zfK fn.ntmps c then(zdA P S C fuel c 0 {t:=zwI 0 args,m:=[],n:=0} fun e st=>match e with
   | .ret| .normal=>zRC P fn st
   |_=>none)else none
  |none=>none
 |none=>none
end
end Go.Xv
namespace Go.Xv
open Go.RowKit (Below)
abbrev Rho:=Nat->Option (Nat×Nat×Nat)
def zmr:Rho:=fun _=>none
def mkF(f:FuncId)(vs:Array Value):Value:=bif Nat.blt f 1000000 then .func (.func f) #[] vs else .func (.func (f-1000000)) vs #[]
theorem zTT(f:FuncId)(vs:Array Value):(mkF f vs).oneCell'=true:=by unfold mkF;cases Nat.blt f 1000000<;>rfl
theorem zPE(f:FuncId)(vs:Array Value):(mkF f vs).cells=#[mkF f vs]:=by unfold mkF;cases Nat.blt f 1000000<;>rfl
inductive Rel (St:Nat->Prop) (w:World):Rho->VV->Value->Prop
 |v (ρ:Rho) (x:Value):Rel St w ρ (.v x) x
 |lp (ρ:Rho) (s o b g z:Nat):ρ s=some (b,g,z)->Rel St w ρ (.lp s o) (.pointer (some ⟨b,g+o,none⟩))
 |ls (ρ:Rho) (s o l z b g sz c:Nat) (a:Option Addr):ρ s=some (b,g,sz)->l<=c->(0<c->a=some ⟨b,g+o,none⟩)->(0<c->g+o+c*z<=sz)->
   Rel St w ρ (.ls s o l z) (.slice a l c)
 |fp (ρ:Rho) (cs:List VV) (o b q:Nat) (xs:Nat->Value):(∀(i:Nat) (x:VV),cs[i]? =some x->St b)->(∀(i:Nat) (x:VV),cs[i]? =some x->w.cell? ⟨b,q+i,none⟩=some (xs i)/\(xs i).oneCell'=true)->
   (∀(i:Nat) (x:VV),cs[i]? =some x->x= .v (xs i))->Rel St w ρ (.fp cs o) (.pointer (some ⟨b,q+o,none⟩))
 |fs (ρ:Rho) (cs:List VV) (o l z b q c:Nat) (a:Option Addr) (xs:Nat->Value):l<=c->(0<c->a=some ⟨b,q+o,none⟩)->(∀(i:Nat) (x:VV),cs[i]? =some x->St b)->
   (∀(i:Nat) (x:VV),cs[i]? =some x->w.cell? ⟨b,q+i,none⟩=some (xs i)/\(xs i).oneCell'=true)->(∀(i:Nat) (x:VV),cs[i]? =some x->x= .v (xs i))->Rel St w ρ (.fs cs o l z) (.slice a l c)
 |fn (ρ:Rho) (f:FuncId) (cs:List VV) (vs:Array Value) (xs:Nat->Value):vs.size=cs.length->(∀(i:Nat) (x:VV),cs[i]? =some x->vs[i]? =some (xs i))->
   (∀(i:Nat) (x:VV),cs[i]? =some x->Rel St w ρ x (xs i))->Rel St w ρ (.fn f cs) (mkF f vs)
 |agg (ρ:Rho) (cs:List VV) (vs:Array Value) (xs:Nat->Value):vs.size=cs.length->(∀(i:Nat) (x:VV),cs[i]? =some x->vs[i]? =some (xs i))->
   (∀(i:Nat) (x:VV),cs[i]? =some x->Rel St w ρ x (xs i))->Rel St w ρ (.agg cs) (.agg vs)
 |tup (ρ:Rho) (cs:List VV) (vs:Array Value) (xs:Nat->Value):vs.size=cs.length->(∀(i:Nat) (x:VV),cs[i]? =some x->vs[i]? =some (xs i))->
   (∀(i:Nat) (x:VV),cs[i]? =some x->Rel St w ρ x (xs i))->Rel St w ρ (.tup cs) (.tuple vs)
def znw(ρ ρ':Rho):Prop:=∀s p,ρ s=some p->ρ' s=some p
theorem znw.refl(ρ:Rho):znw ρ ρ:=fun _ _ h=>h
def zwJ(St:Nat->Prop)(w w':World):Prop:=∀b,St b->w'.heap[b]? =w.heap[b]?
theorem Rel.mono{St St':Nat->Prop}{w w':World}{ρ:Rho}{x:VV}{v:Value}(h:Rel St w ρ x v)(hw:zwJ St w w')(hs:∀b,St b->St' b):
 ∀ρ',znw ρ ρ'->Rel St' w' ρ' x v:=by
 induction h with
 |v x=>intro ρ' _;exact .v _ _
 |lp s o b g z h=>intro ρ' hr;exact .lp _ _ _ _ _ _ (hr _ _ h)
 |ls s o l z b g sz c a h h1 h2 h3=>intro ρ' hr;exact .ls _ _ _ _ _ _ _ _ _ _ (hr _ _ h) h1 h2 h3
 |fp cs o b q xs h1 h2 h3=>
  intro ρ' _;exact .fp _ cs o b q xs (fun i x hx=>hs _ (h1 i x hx)) (fun i x hx=>⟨by rw [World.cell?_of_block (w:=w) (hw b (h1 i x hx))];exact(h2 i x hx).1,(h2 i x hx).2⟩) h3
 |fs cs o l z b q c a xs h0 h0' h1 h2 h3=>
  intro ρ' _;exact .fs _ cs o l z b q c a xs h0 h0' (fun i x hx=>hs _ (h1 i x hx)) (fun i x hx=>⟨by rw [World.cell?_of_block (w:=w) (hw b (h1 i x hx))];exact(h2 i x hx).1,(h2 i x hx).2⟩) h3
 |fn f cs vs xs h1 h2 h3 ih=>intro ρ' hr;exact .fn _ f cs vs xs h1 h2 (fun i x hx=>ih i x hx _ hr)
 |agg cs vs xs h1 h2 h3 ih=>intro ρ' hr;exact .agg _ cs vs xs h1 h2 (fun i x hx=>ih i x hx _ hr)
 |tup cs vs xs h1 h2 h3 ih=>intro ρ' hr;exact .tup _ cs vs xs h1 h2 (fun i x hx=>ih i x hx _ hr)
theorem Rel.v_inv{St:Nat->Prop}{w:World}{ρ:Rho}{x v:Value}(h:Rel St w ρ (.v x) v):v=x:=by cases h;rfl
theorem Rel.lp_inv{St:Nat->Prop}{w:World}{ρ:Rho}{s o:Nat}{v:Value}(h:Rel St w ρ (.lp s o) v):∃b g z,ρ s=some (b,g,z)/\v= .pointer (some ⟨b,g+o,none⟩):=by
 cases h;exact⟨_,_,_,by assumption,rfl⟩
theorem Rel.ls_inv{St:Nat->Prop}{w:World}{ρ:Rho}{s o l z:Nat}{v:Value}(h:Rel St w ρ (.ls s o l z) v):∃b g sz c a,ρ s=some (b,g,sz)/\l<=c/\(0<c->a=some ⟨b,g+o,none⟩)/\(0<c->g+o+c*z<=sz)/\v= .slice a l c:=by
 cases h;exact⟨_,_,_,_,_,by assumption,by assumption,by assumption,by assumption,rfl⟩
theorem Rel.fp_inv{St:Nat->Prop}{w:World}{ρ:Rho}{cs:List VV}{o:Nat}{v:Value}(h:Rel St w ρ (.fp cs o) v):∃(b q:Nat) (xs:Nat->Value),(∀(i:Nat) (x:VV),cs[i]? =some x->St b)/\(∀(i:Nat) (x:VV),cs[i]? =some x->w.cell? ⟨b,q+i,none⟩=some (xs i)/\(xs i).oneCell'=true)/\
 (∀(i:Nat) (x:VV),cs[i]? =some x->x= .v (xs i))/\v= .pointer (some ⟨b,q+o,none⟩):=by
 cases h;exact⟨_,_,_,by assumption,by assumption,by assumption,rfl⟩
theorem Rel.fs_inv{St:Nat->Prop}{w:World}{ρ:Rho}{cs:List VV}{o l z:Nat}{v:Value}(h:Rel St w ρ (.fs cs o l z) v):∃(b q c:Nat) (a:Option Addr) (xs:Nat->Value),l<=c/\(0<c->a=some ⟨b,q+o,none⟩)/\(∀(i:Nat) (x:VV),cs[i]? =some x->St b)/\(∀(i:Nat) (x:VV),cs[i]? =some x->w.cell? ⟨b,q+i,none⟩=some (xs i)/\(xs i).oneCell'=true)/\
 (∀(i:Nat) (x:VV),cs[i]? =some x->x= .v (xs i))/\v= .slice a l c:=by
 cases h;exact⟨_,_,_,_,_,by assumption,by assumption,by assumption,by assumption,by assumption,rfl⟩
theorem Rel.fn_inv{St:Nat->Prop}{w:World}{ρ:Rho}{f:FuncId}{cs:List VV}{v:Value}(h:Rel St w ρ (.fn f cs) v):∃(vs:Array Value) (xs:Nat->Value),vs.size=cs.length/\(∀(i:Nat) (x:VV),cs[i]? =some x->vs[i]? =some (xs i))/\
 (∀(i:Nat) (x:VV),cs[i]? =some x->Rel St w ρ x (xs i))/\v=mkF f vs:=by
 cases h;exact⟨_,_,by assumption,by assumption,by assumption,rfl⟩
theorem Rel.agg_inv{St:Nat->Prop}{w:World}{ρ:Rho}{cs:List VV}{v:Value}(h:Rel St w ρ (.agg cs) v):∃(vs:Array Value) (xs:Nat->Value),vs.size=cs.length/\(∀(i:Nat) (x:VV),cs[i]? =some x->vs[i]? =some (xs i))/\
 (∀(i:Nat) (x:VV),cs[i]? =some x->Rel St w ρ x (xs i))/\v= .agg vs:=by
 cases h;exact⟨_,_,by assumption,by assumption,by assumption,rfl⟩
theorem Rel.tup_inv{St:Nat->Prop}{w:World}{ρ:Rho}{cs:List VV}{v:Value}(h:Rel St w ρ (.tup cs) v):∃(vs:Array Value) (xs:Nat->Value),vs.size=cs.length/\(∀(i:Nat) (x:VV),cs[i]? =some x->vs[i]? =some (xs i))/\
 (∀(i:Nat) (x:VV),cs[i]? =some x->Rel St w ρ x (xs i))/\v= .tuple vs:=by
 cases h;exact⟨_,_,by assumption,by assumption,by assumption,rfl⟩
theorem Rel.up{St:Nat->Prop}{w:World}{ρ:Rho}{x:VV}{v:Value}(h:Rel St w ρ x v){St':Nat->Prop}{ρ':Rho}(hs:∀b,St b->St' b)(hr:znw ρ ρ'):Rel St' w ρ' x v:=h.mono (fun _ _=>rfl) hs _ hr
def zeQ(St:Nat->Prop)(w:World)(ρ:Rho)(cl:Bool)(x:VV)(y:Value):Prop:=Rel St w ρ x y/\(cl=true->x= .v y)
theorem zeQ.mono{St St':Nat->Prop}{w w':World}{ρ:Rho}{cl:Bool}{x:VV}{v:Value}(h:zeQ St w ρ cl x v)(hw:zwJ St w w')(hs:∀b,St b->St' b){ρ':Rho}(hr:znw ρ ρ'):zeQ St' w' ρ' cl x v:=
 ⟨h.1.mono hw hs _ hr,h.2⟩
theorem zeQ.v{St:Nat->Prop}{w:World}{ρ:Rho}{cl:Bool}(x:Value):zeQ St w ρ cl (.v x) x:=⟨.v _ _,fun _=>rfl⟩
theorem zeQ.and{St:Nat->Prop}{w:World}{ρ:Rho}{cl cl':Bool}{x:VV}{v:Value}(h:zeQ St w ρ cl x v):zeQ St w ρ (cl&&cl') x v:=⟨h.1,fun e=>h.2 (by simp at e;exact e.1)⟩
theorem zeQ.and'{St:Nat->Prop}{w:World}{ρ:Rho}{cl cl':Bool}{x:VV}{v:Value}(h:zeQ St w ρ cl x v):zeQ St w ρ (cl'&&cl) x v:=⟨h.1,fun e=>h.2 (by simp at e;exact e.2)⟩
structure SR (B N:Nat) (w0:World) (T:Nat->Option VV) (M:Nat->Option Blk) (ρ:Rho) (St:Nat->Prop) (a:Act) (w:World):Prop where
 tm:∀t x,T t=some x->∃y,a.tmps[t]? =some y/\Rel St w ρ x y
 mem:∀s k,M s=some k->∃b g cs ty,ρ s=some (b,g,cs.size)/\w.heap[b]? =some (.cells cs ty (0,0))/\B<=b/\ ¬St b/\
  g+k.c.length<=cs.size/\(∀(i:Nat) (x:VV),k.c[i]? =some x->∃y,cs[g+i]? =some y/\y.oneCell'=true/\zeQ St w ρ k.closed x y)
 inj:∀s s' k k' b z z',M s=some k->M s'=some k'->ρ s=some (b,z)->ρ s'=some (b,z')->s=s'
 st:∀b,St b->b<w.heap.size
 below:Below B w0 w
 base:B<=w.heap.size
 defers:a.defers=[]
 size:N<=a.tmps.size
def zms(T:Nat->Option VV)(d:Option Nat)(x:VV):Nat->Option VV:=
 match d with
 |some d=>fun t=>if t=d then some x else T t
 |none=>T
def ziL(M:Nat->Option Blk)(s:Nat)(b:Blk):Nat->Option Blk:=fun t=>if t=s then some b else M t
def zut(M:Nat->Option Blk):Option Nat->Nat->Option Blk
 |some s=>fun t=>if t=s then none else M t
 |none=>M
def zfL(T:Nat->Option VV)(d:Option Nat):Eff->Nat->Option VV
 | .val x=>zms T d x
 | .alloc x _=>zms T d x
 | .store _ _=>T
 | .app _ x _=>zms T d x
def zej(M:Nat->Option Blk)(n:Nat):Eff->Nat->Option Blk
 | .val _=>M
 | .alloc _ b=>ziL M n b
 | .store s b=>ziL M s b
 | .app s _ b=>ziL (zut M s) n b
theorem zTU(a:Act)(d:Option Nat)(v:Value)(t:Nat)(y:Value)(h:a.tmps[t]? =some y)(hd:d≠some t):(a.put d v).tmps[t]? =some y:=by
 cases d with
 |none=>exact h
 |some d=>simp only [Act.put];rw [Array.getElem?_setIfInBounds_ne (fun e=>hd (by rw [e]))];exact h
theorem zEJ(a:Act)(d:Nat)(v:Value)(h:d<a.tmps.size):(a.put (some d) v).tmps[d]? =some v:=by
 simp [Act.put,h]
section
variable{B N:Nat}{w0:World}{T:Nat->Option VV}{M:Nat->Option Blk}{ρ:Rho}{St:Nat->Prop}{a:Act}{w:World}
theorem SR.tm_put(h:SR B N w0 T M ρ St a w){d:Option Nat}(hd:∀t,d=some t->t<N){x:VV}{v:Value}{ρ':Rho}{St':Nat->Prop}{w':World}
 (hρ:znw ρ ρ') (hS:∀b,St b->St' b) (hw:zwJ St w w') (hx:Rel St' w' ρ' x v):
 ∀t x',zms T d x t=some x'->∃y,(a.put d v).tmps[t]? =some y/\Rel St' w' ρ' x' y:=by
 intro t x' ht;cases d with
 |none=>
  obtain⟨y,h1,h2⟩:=h.tm t x' ht;exact⟨y,h1,h2.mono hw hS _ hρ⟩
 |some d=>
  simp only [zms]at ht;by_cases e:t=d
  ·subst e
   simp only [if_pos]at ht;cases ht;exact⟨v,zEJ _ _ _ (Nat.lt_of_lt_of_le (hd _ rfl) h.size),hx⟩
  ·rw [if_neg e]at ht
   obtain⟨y,h1,h2⟩:=h.tm t x' ht;exact⟨y,zTU _ _ _ _ _ h1 (fun e'=>e (by cases e';rfl)),h2.mono hw hS _ hρ⟩
theorem zzR(a:Act)(d:Option Nat)(v:Value):(a.put d v).defers=a.defers:=by cases d<;>rfl
theorem zIf(a:Act)(d:Option Nat)(v:Value):(a.put d v).tmps.size=a.tmps.size:=by cases d<;>simp [Act.put]
theorem SR.val(h:SR B N w0 T M ρ St a w){d:Option Nat}(hd:∀t,d=some t->t<N){x:VV}{v:Value}{St':Nat->Prop}{w':World}
 (hb:Below w.heap.size w w') (hS:∀b,St b->St' b) (hS':∀b,St' b->(St b\/w.heap.size<=b)/\b<w'.heap.size) (hx:Rel St' w' ρ x v):
 SR B N w0 (zms T d x) M ρ St' (a.put d v) w':=by
 have hw:zwJ St w w':=fun b hb'=>hb.block b (h.st b hb')
 refine⟨h.tm_put hd (znw.refl _) hS hw hx,?_,h.inj,fun b hb'=>(hS' b hb').2,h.below.trans (hb.mono h.base),Nat.le_trans h.base hb.size,by rw [zzR];exact h.defers,by rw [zIf];exact h.size⟩
 intro s k hk;obtain⟨b,g,cs,ty,h1,h2,h3,h4,h5,h6⟩:=h.mem s k hk;have hlt:b<w.heap.size:=(zy h2);refine⟨b,g,cs,ty,h1,by rw [hb.block b hlt];exact h2,h3,fun e=> ?_,h5,fun i x hx=> ?_⟩
 ·rcases(hS' b e).1 with h'|h'
  ·exact h4 h'
  ·omega
 ·obtain⟨y,hy,h1,hr⟩:=h6 i x hx
  exact⟨y,hy,h1,hr.mono hw hS (znw.refl _)⟩
theorem SR.weak(h:SR B N w0 T M ρ St a w){T':Nat->Option VV}{M':Nat->Option Blk}(hT:∀t x,T' t=some x->T t=some x)(hM:∀s k,M' s=some k->M s=some k):
 SR B N w0 T' M' ρ St a w:=
 ⟨fun t x ht=>h.tm t x (hT t x ht),fun s k hk=>h.mem s k (hM s k hk),fun s s' k k' b z z' h1 h2=>h.inj s s' k k' b z z' (hM _ _ h1) (hM _ _ h2),h.st,h.below,h.base,h.defers,h.size⟩
def ziB(ρ:Rho)(n:Nat)(p:Nat×Nat×Nat):Rho:=fun s=>if s=n then some p else ρ s
theorem zTV{n:Nat}{p:Nat×Nat×Nat}(hn:ρ n=none):znw ρ (ziB ρ n p):=fun s q hq=>by
 unfold ziB;by_cases e:s=n
 ·subst e;rw [hn]at hq;cases hq
 ·rw [if_neg e];exact hq
theorem SR.alloc(h:SR B N w0 T M ρ St a w){d:Option Nat}(hd:∀t,d=some t->t<N){n:Nat}(hn:ρ n=none){x:VV}{v:Value}{k:Blk}{w':World}{nb g:Nat}{cs:Array Value}{ty:TypeId}
 {s0:Option Nat} (hs0:∀s k',zut M s0 s=some k'->∀b z,ρ s=some (b,z)->b≠nb/\w'.heap[b]? =w.heap[b]?)
 (hw:zwJ St w w') (hbe:Below B w w') (hnb:B<=nb) (hSt: ¬St nb) (hblk:w'.heap[nb]? =some (.cells cs ty (0,0))) (hlen:g+k.c.length<=cs.size)
 (hk:∀(i:Nat) (y:VV),k.c[i]? =some y->∃u,cs[g+i]? =some u/\u.oneCell'=true/\zeQ St w ρ k.closed y u) (hx:Rel St w' (ziB ρ n (nb,g,cs.size)) x v):
 SR B N w0 (zms T d x) (ziL (zut M s0) n k) (ziB ρ n (nb,g,cs.size)) St (a.put d v) w':=by
 have hle:=zTV (p:=(nb,g,cs.size)) hn;have hrem:∀s k',zut M s0 s=some k'->M s=some k':=fun s k' hs=>by
  cases s0 with
  |none=>exact hs
  |some s0=>simp only [zut]at hs;split at hs<;>first|(cases hs;done)|exact hs
 have hnew:ziB ρ n (nb,g,cs.size) n=some (nb,g,cs.size):=by simp [ziB]
 have hold:∀s,s≠n->ziB ρ n (nb,g,cs.size) s=ρ s:=fun s e=>by simp [ziB,e]
 refine⟨h.tm_put hd hle (fun _ h=>h) hw hx,?_,?_,fun b hb'=>Nat.lt_of_lt_of_le (h.st b hb') hbe.size,h.below.trans hbe,Nat.le_trans h.base hbe.size,by rw [zzR];exact h.defers,by rw [zIf];exact h.size⟩
 ·intro s k' hs
  by_cases e:s=n
  ·subst e
   simp only [ziL,if_pos]at hs;cases hs;refine⟨nb,g,cs,ty,hnew,hblk,hnb,hSt,hlen,fun i y hy=> ?_⟩;obtain⟨u,hu,h1,hr⟩:=hk i y hy;exact⟨u,hu,h1,hr.mono hw (fun _ h=>h) hle⟩
  ·simp only [ziL,if_neg e]at hs
   obtain⟨b,g',cs',ty',h1,h2,h3,h4,h5,h6⟩:=h.mem s k' (hrem _ _ hs);refine⟨b,g',cs',ty',by rw [hold s e];exact h1,by rw [(hs0 s k' hs b _ h1).2];exact h2,h3,h4,h5,fun i y hy=> ?_⟩
   obtain⟨u,hu,h1,hr⟩:=h6 i y hy;exact⟨u,hu,h1,hr.mono hw (fun _ h=>h) hle⟩
 ·intro s s' k1 k2 b z z' h1 h2 h3 h4
  by_cases e:s=n
  ·by_cases e':s'=n
   ·rw [e,e']
   ·simp only [ziL,if_neg e']at h2
    rw [hold s' e']at h4;subst e;rw [hnew]at h3;cases h3;exact absurd rfl (hs0 s' k2 h2 _ _ h4).1
  ·by_cases e':s'=n
   ·simp only [ziL,if_neg e]at h1
    rw [hold s e]at h3;subst e';rw [hnew]at h4;cases h4;exact absurd rfl (hs0 s k1 h1 _ _ h3).1
   ·simp only [ziL,if_neg e,if_neg e']at h1 h2
    rw [hold s e]at h3;rw [hold s' e']at h4;exact h.inj s s' k1 k2 b z z' (hrem _ _ h1) (hrem _ _ h2) h3 h4
theorem SR.new(h:SR B N w0 T M ρ St a w){d:Option Nat}(hd:∀t,d=some t->t<N){n:Nat}(hn:ρ n=none){x:VV}{v:Value}{k:Blk}{w':World}{nb g:Nat}{cs:Array Value}{ty:TypeId}{s0:Option Nat}
 (hb:Below w.heap.size w w') (hnb:w.heap.size<=nb) (hblk:w'.heap[nb]? =some (.cells cs ty (0,0))) (hlen:g+k.c.length<=cs.size)
 (hk:∀(i:Nat) (y:VV),k.c[i]? =some y->∃u,cs[g+i]? =some u/\u.oneCell'=true/\zeQ St w ρ k.closed y u) (hx:Rel St w' (ziB ρ n (nb,g,cs.size)) x v):
 SR B N w0 (zms T d x) (ziL (zut M s0) n k) (ziB ρ n (nb,g,cs.size)) St (a.put d v) w':=by
 refine h.alloc hd hn (fun s k' hs b z hb'=> ?_) (fun b hb'=>hb.block b (h.st b hb')) (hb.mono h.base) (Nat.le_trans h.base hnb) (fun e=>by have:=h.st nb e;omega) hblk hlen hk hx;have hM:M s=some k':=by
  cases s0 with
  |none=>exact hs
  |some s0=>simp only [zut]at hs;split at hs<;>first|(cases hs;done)|exact hs
 obtain⟨b',g',cs',ty',h1,h2,_⟩:=h.mem s k' hM;rw [h1]at hb';cases hb';have hlt:b<w.heap.size:=(zy h2);exact⟨zc,hb.block b hlt⟩
theorem SR.store(h:SR B N w0 T M ρ St a w){s:Nat}{k k':Blk}{w':World}{b g:Nat}{cs cs':Array Value}{ty:TypeId}(hk:M s=some k)(hr:ρ s=some (b,g,cs.size))(hblk:w.heap[b]? =some (.cells cs ty (0,0)))
 (hw:∀b',b'≠b->w'.heap[b']? =w.heap[b']?) (hblk':w'.heap[b]? =some (.cells cs' ty (0,0))) (hsz:cs'.size=cs.size) (hbe:Below B w w') (hlen:g+k'.c.length<=cs'.size)
 (hc:∀(i:Nat) (y:VV),k'.c[i]? =some y->∃u,cs'[g+i]? =some u/\u.oneCell'=true/\zeQ St w ρ k'.closed y u):
 SR B N w0 T (ziL M s k') ρ St a w':=by
 obtain⟨b0,g0,cs0,ty0,q1,q2,q3,q4,_,_⟩:=h.mem s k hk;rw [hr]at q1;simp only [Option.some.injEq,Prod.mk.injEq]at q1;obtain⟨rfl,rfl,_⟩:=q1;have hS:zwJ St w w':=fun b' hb'=>hw b' (fun e=>q4 (e▸hb'))
 refine⟨fun t x ht=> ?_,fun s' k1 hs=> ?_,fun s1 s2 k1 k2 b' z z' h1 h2 h3 h4=> ?_,fun b' hb'=>Nat.lt_of_lt_of_le (h.st b' hb') hbe.size,h.below.trans hbe,Nat.le_trans h.base hbe.size,h.defers,h.size⟩
 ·obtain⟨y,h1,h2⟩:=h.tm t x ht
  exact⟨y,h1,h2.mono hS (fun _ h=>h) _ (znw.refl _)⟩
 ·by_cases e:s'=s
  ·subst e
   simp only [ziL,if_pos]at hs;cases hs;refine⟨b,g,cs',ty,by rw [hsz];exact hr,hblk',q3,q4,hlen,fun i y hy=> ?_⟩;obtain⟨u,hu,h1,hr⟩:=hc i y hy;exact⟨u,hu,h1,hr.mono hS (fun _ h=>h) (znw.refl _)⟩
  ·simp only [ziL,if_neg e]at hs
   obtain⟨b1,g1,cs1,ty1,h1,h2,h3,h4,h5,h6⟩:=h.mem s' k1 hs;refine⟨b1,g1,cs1,ty1,h1,by rw [hw b1 (fun e'=>e (by subst e';exact h.inj s' s k1 k b1 _ _ hs hk h1 hr))];exact h2,h3,h4,h5,fun i y hy=> ?_⟩;obtain⟨u,hu,h1,hr⟩:=h6 i y hy;exact⟨u,hu,h1,hr.mono hS (fun _ h=>h) (znw.refl _)⟩
 ·have fix:∀s' k1,ziL M s k' s'=some k1->∃k2,M s'=some k2:=fun s' k1 hs=>by
   by_cases e:s'=s
   ·subst e;exact⟨k,hk⟩
   ·simp only [ziL,if_neg e]at hs;exact⟨k1,hs⟩
  obtain⟨_,g1⟩:=fix _ _ h1;obtain⟨_,g2⟩:=fix _ _ h2;exact h.inj s1 s2 _ _ b' z z' g1 g2 h3 h4
end
theorem zcw{α β:Type}{f:α->Option β}:∀{l:List α} {q:List β},zd4 f l=some q->q.length=l.length/\∀(i:Nat) (y:β),q[i]? =some y->∃x,l[i]? =some x/\f x=some y
 |[],q,h=>by
  simp only [zd4,Option.some.injEq]at h;subst h;exact⟨rfl,fun i y hy=>by simp at hy⟩
 |x::r,q,h=>by
  simp only [zd4]at h;cases hx:f x with
  |none=>simp [hx]at h
  |some y=>
   simp only [hx]at h;cases hr:zd4 f r with
   |none=>simp [hr]at h
   |some p=>
    simp only [hr,Option.some.injEq]at h;subst h;obtain⟨h1,h2⟩:=zcw hr;refine⟨by simp [h1],fun i z hz=> ?_⟩;cases i with
    |zero=>simp at hz;subst hz;exact⟨x,jq,hx⟩
    |succ i=>simp at hz;obtain⟨x',hx',hf⟩:=h2 i z hz;exact⟨x',by simpa using hx',hf⟩
section
variable{B N:Nat}{w0:World}{T:Nat->Option VV}{M:Nat->Option Blk}{ρ:Rho}{St:Nat->Prop}{a:Act}{w:World}{P:Program}
theorem SR.ev(h:SR B N w0 T M ρ St a w){x:Operand}{X:VV}(hx:ev T x=some X):Rel St w ρ X (a.eval x):=by
 cases x with
 |tmp t=>
  obtain⟨y,h1,h2⟩:=h.tm t X hx;simp only [Act.eval];rw [Array.getD_eq_getD_getElem?,h1];exact h2
 |const v=>simp only [Xv.ev,Option.some.injEq]at hx;subst hx;exact .v _ _
 |global g=>simp only [Xv.ev,Option.some.injEq]at hx;subst hx;exact .v _ _
 |func f=>simp only [Xv.ev,Option.some.injEq]at hx;subst hx;exact .v _ _
theorem zzS{T:Nat->Option VV}:∀{l:List Operand} {q:List VV},evs T l=some q->zd4 (Xv.ev T) l=some q
 |[],q,h=>by simpa [evs,zd4]using h
 |x::r,q,h=>by
  simp only [evs]at h;simp only [zd4];cases hx:Xv.ev T x with
  |none=>simp [hx]at h
  |some y=>
   simp only [hx]at h⊢;cases hr:evs T r with
   |none=>simp [hr]at h
   |some p=>
    rw [zzS hr];simpa [hr]using h
theorem SR.blk(h:SR B N w0 T M ρ St a w){s:Nat}{k:Blk}(hk:M s=some k):∃b g z,ρ s=some (b,g,z)/\b<w.heap.size/\ ¬St b/\
 (∀(i:Nat) (x:VV),k.c[i]? =some x->∃y,(w.cell? ⟨b,g+i,none⟩=some y/\y.oneCell'=true)/\zeQ St w ρ k.closed x y):=by
 obtain⟨b,g,cs,ty,h1,h2,h3,h4,h5,h6⟩:=h.mem s k hk;refine⟨b,g,cs.size,h1,(zy h2),h4,fun i x hx=> ?_⟩;obtain⟨y,hy,h1,hr⟩:=h6 i x hx;exact⟨y,⟨by rw [cell_of_row w b (g+i) cs ty (0,0) h2];exact hy,h1⟩,hr⟩
theorem zIg{cs:List VV}{p:Nat->VV->Value->Prop}(h:∀(i:Nat) (x:VV),cs[i]? =some x->∃y,p i x y):∃xs:Nat->Value,∀(i:Nat) (x:VV),cs[i]? =some x->p i x (xs i):=by
 have H:∀i,∃y,∀x:VV,cs[i]? =some x->p i x y:=fun i=>by
  cases hi:cs[i]? with
  |none=>exact⟨undef,fun x hx=>by cases hx⟩
  |some x=>obtain⟨y,hy⟩:=h i x hi;exact⟨y,fun x' hx'=>by cases hx';exact hy⟩
 exact⟨fun i=>(H i).choose,fun i x hx=>(H i).choose_spec x hx⟩
theorem zDW:∀(c:List VV),zr5 c=true->∀(i:Nat) (x:VV),c[i]? =some x->∃v,x= .v v
 |[],_,i,x,h=>by simp at h
 | .v y::r,h,i,x,hx=>by
   cases i with
   |zero=>simp at hx;exact⟨y,hx.symm⟩
   |succ i=>simp at hx;exact zDW r (by simpa [zr5]using h) i x hx
 | .lp _ _::_,h,_,_,_=>by simp [zr5]at h
 | .ls _ _ _ _::_,h,_,_,_=>by simp [zr5]at h
 | .fp _ _::_,h,_,_,_=>by simp [zr5]at h
 | .fs _ _ _ _::_,h,_,_,_=>by simp [zr5]at h
 | .fn _ _::_,h,_,_,_=>by simp [zr5]at h
 | .agg _::_,h,_,_,_=>by simp [zr5]at h
 | .tup _::_,h,_,_,_=>by simp [zr5]at h
theorem zIh(h:SR B N w0 T M ρ St a w){m:Nat->Option Blk}(hm:∀s k,m s=some k->M s=some k):
 ∀(d:Nat) {x x':VV} {y:Value},zek m d x=some x'->Rel St w ρ x y->Rel (fun b=>b<w.heap.size) w zmr x' y:=by
 have many:∀d,(∀{x x':VV} {y:Value},zek m d x=some x'->Rel St w ρ x y->Rel (fun b=>b<w.heap.size) w zmr x' y)->
  ∀{l l':List VV} {xs:Nat->Value},zd4 (zek m d) l=some l'->(∀(i:Nat) (x:VV),l[i]? =some x->Rel St w ρ x (xs i))->
  ∀(i:Nat) (x:VV),l'[i]? =some x->Rel (fun b=>b<w.heap.size) w zmr x (xs i):=by
  intro d ih l l' xs hl hx i x hi;obtain⟨_,h2⟩:=zcw hl;obtain⟨z,hz,hc⟩:=h2 i x hi;exact ih hc (hx i z hz)
 have fpc:∀{c:List VV} {o:Nat} {y:Value},Rel St w ρ (.fp c o) y->Rel (fun b=>b<w.heap.size) w zmr (.fp c o) y:=by
  intro c o y hr;obtain⟨b,q,xs,h1,h2,h3,rfl⟩:=hr.fp_inv;exact .fp _ _ _ b q xs (fun i x hx=>h.st _ (h1 i x hx)) h2 h3
 have fsc:∀{c:List VV} {o l z:Nat} {y:Value},Rel St w ρ (.fs c o l z) y->Rel (fun b=>b<w.heap.size) w zmr (.fs c o l z) y:=by
  intro c o l z y hr;obtain⟨b,q,cp,a,xs,h0,h0',h1,h2,h3,rfl⟩:=hr.fs_inv;exact .fs _ _ _ _ _ b q cp a xs h0 h0' (fun i x hx=>h.st _ (h1 i x hx)) h2 h3
 intro d;induction d with
 |zero=>
  intro x x' y hc hr;cases x<;>simp only [zek,Option.some.injEq]at hc<;>first|(cases hc;done)|skip
  ·subst hc;obtain rfl:=hr.v_inv;exact .v _ _
  ·subst hc;exact fpc hr
  ·subst hc;exact fsc hr
 |succ d ih=>
  intro x x' y hc hr;have blk:∀{s:Nat} {k:Blk},m s=some k->∀{c:List VV},(k.closed=true/\c=k.c)\/(k.closed=false/\zd4 (zek m d) k.c=some c/\zr5 c=true)->
   ∃(b g z:Nat) (xs:Nat->Value),ρ s=some (b,g,z)/\b<w.heap.size/\(∀(i:Nat) (x:VV),c[i]? =some x->w.cell? ⟨b,g+i,none⟩=some (xs i)/\(xs i).oneCell'=true)/\(∀(i:Nat) (x:VV),c[i]? =some x->x= .v (xs i)):=by
   intro s k hms c hcase;obtain⟨b,g,z,g1,g2,_,g3⟩:=h.blk (hm s k hms);obtain⟨xs,hxs⟩:=zIg g3;rcases hcase with⟨hcl,rfl⟩|⟨_,hmm,hall⟩
   ·exact⟨b,g,z,xs,g1,g2,fun i x hx=>(hxs i x hx).1,fun i x hx=>(hxs i x hx).2.2 hcl⟩
   ·obtain⟨_,sp⟩:=zcw hmm
    refine⟨b,g,z,xs,g1,g2,fun i x hx=> ?_,fun i x hx=> ?_⟩
    ·obtain⟨x0,hx0,_⟩:=sp i x hx
     exact(hxs i x0 hx0).1
    ·obtain⟨x0,hx0,hc0⟩:=sp i x hx
     have:=ih hc0 (hxs i x0 hx0).2.1;obtain⟨v,rfl⟩:=zDW c hall i x hx;rw [this.v_inv]
  cases x with
  |v x=>simp only [zek,Option.some.injEq]at hc;subst hc;obtain rfl:=hr.v_inv;exact .v _ _
  |fp c o=>
   simp only [zek,Option.some.injEq]at hc;subst hc;exact fpc hr
  |fs c o l z=>
   simp only [zek,Option.some.injEq]at hc;subst hc;exact fsc hr
  |lp s o=>
   simp only [zek]at hc;cases hms:m s with
   |none=>simp [hms]at hc
   |some k=>
    simp only [hms]at hc;have fin:∀{c:List VV},(k.closed=true/\c=k.c)\/(k.closed=false/\zd4 (zek m d) k.c=some c/\zr5 c=true)->x'= .fp c o->Rel (fun b=>b<w.heap.size) w zmr x' y:=by
     rintro c hcase rfl;obtain⟨b,g,z,xs,g1,g2,g3,g4⟩:=blk hms hcase;obtain⟨b',g',z',q1,rfl⟩:=hr.lp_inv;rw [g1]at q1;cases q1;exact .fp _ _ _ b g xs (fun _ _ _=>g2) g3 g4
    cases hcl:k.closed with
    |true=>
     simp only [hcl,cond_true,Option.some.injEq]at hc;exact fin (.inl ⟨hcl,rfl⟩) hc.symm
    |false=>
     simp only [hcl,cond_false]at hc;cases hmm:zd4 (zek m d) k.c with
     |none=>simp [hmm]at hc
     |some c=>
      simp only [hmm]at hc;cases hall:zr5 c with
      |false=>simp [hall]at hc
      |true=>
       simp only [hall,cond_true,Option.some.injEq]at hc;exact fin (.inr ⟨hcl,hmm,hall⟩) hc.symm
  |ls s o l z=>
   simp only [zek]at hc;cases hms:m s with
   |none=>simp [hms]at hc
   |some k=>
    simp only [hms]at hc;have fin:∀{c:List VV},(k.closed=true/\c=k.c)\/(k.closed=false/\zd4 (zek m d) k.c=some c/\zr5 c=true)->x'= .fs c o l z->Rel (fun b=>b<w.heap.size) w zmr x' y:=by
     rintro c hcase rfl;obtain⟨b,g,zz,xs,g1,g2,g3,g4⟩:=blk hms hcase;obtain⟨b',g',z',cp,aa,q1,q2,q3,q4,rfl⟩:=hr.ls_inv;rw [g1]at q1;cases q1;exact .fs _ _ _ _ _ b g cp aa xs q2 q3 (fun _ _ _=>g2) g3 g4
    cases hcl:k.closed with
    |true=>
     simp only [hcl,cond_true,Option.some.injEq]at hc;exact fin (.inl ⟨hcl,rfl⟩) hc.symm
    |false=>
     simp only [hcl,cond_false]at hc;cases hmm:zd4 (zek m d) k.c with
     |none=>simp [hmm]at hc
     |some c=>
      simp only [hmm]at hc;cases hall:zr5 c with
      |false=>simp [hall]at hc
      |true=>
       simp only [hall,cond_true,Option.some.injEq]at hc;exact fin (.inr ⟨hcl,hmm,hall⟩) hc.symm
  |fn f c=>
   simp only [zek]at hc;cases hmm:zd4 (zek m d) c with
   |none=>simp [hmm]at hc
   |some c'=>
    simp only [hmm,Option.some.injEq]at hc;subst hc;obtain⟨sl,sp⟩:=zcw hmm;obtain⟨vs,xs,h1,h2,h3,rfl⟩:=hr.fn_inv;exact .fn _ f c' vs xs (by rw [h1,sl]) (fun i x hx=>by obtain⟨x0,hx0,_⟩:=sp i x hx;exact h2 i x0 hx0) (many d ih hmm h3)
  |agg c=>
   simp only [zek]at hc;cases hmm:zd4 (zek m d) c with
   |none=>simp [hmm]at hc
   |some c'=>
    simp only [hmm,Option.some.injEq]at hc;subst hc;obtain⟨sl,sp⟩:=zcw hmm;obtain⟨vs,xs,h1,h2,h3,rfl⟩:=hr.agg_inv;exact .agg _ c' vs xs (by rw [h1,sl]) (fun i x hx=>by obtain⟨x0,hx0,_⟩:=sp i x hx;exact h2 i x0 hx0) (many d ih hmm h3)
  |tup c=>
   simp only [zek]at hc;cases hmm:zd4 (zek m d) c with
   |none=>simp [hmm]at hc
   |some c'=>
    simp only [hmm,Option.some.injEq]at hc;subst hc;obtain⟨sl,sp⟩:=zcw hmm;obtain⟨vs,xs,h1,h2,h3,rfl⟩:=hr.tup_inv;exact .tup _ c' vs xs (by rw [h1,sl]) (fun i x hx=>by obtain⟨x0,hx0,_⟩:=sp i x hx;exact h2 i x0 hx0) (many d ih hmm h3)
theorem zIi{α:Type}(s:Sem α)(x:α)(h:zp0 P s=some x):∀w,s.run P w= .ok x w:=by
 induction s with
 |pure a=>simp [zp0]at h;subst h;intro w;rfl
 |program k ih=>intro w;exact ih P h w
 |mark m k ih=>intro w;exact ih h w
 |_=>simp [zp0]at h
theorem zj2(c:List VV):∀(ks:List (Option IntKind)) (o:Nat) (l:List Value),zkQ c o ks=(true,l)->l.length=ks.length/\∀(j:Nat) (x:Value),l[j]? =some x->c[o+j]? =some (.v x)
 |[],o,l,h=>by simp [zkQ]at h;subst h;simp
 |some k::r,o,l,h=>by
  simp only [zkQ]at h;generalize hr:zkQ c (o+1) r=q at h;obtain⟨b,l'⟩:=q;simp only [Prod.mk.injEq,Bool.and_eq_true]at h;obtain⟨⟨h1,rfl⟩,rfl⟩:=h;obtain⟨i1,i2⟩:=zj2 c r (o+1) l' hr;refine⟨by simp [i1],fun j x hx=> ?_⟩;cases j with
  |zero=>
   simp at hx;subst hx;revert h1
   cases hc:c[o]? with
   |none=>simp [isI]
   |some y=>
    cases y with
    |v y=>cases y<;>simp [isI,iv]
    |_=>simp [isI]
  |succ j=>simp at hx;have:=i2 j x hx;rwa [show o+1+j=o+(j+1)from zc]at this
 |none::r,o,l,h=>by
  simp only [zkQ]at h;generalize hr:zkQ c (o+1) r=q at h;obtain⟨b,l'⟩:=q;simp only [Prod.mk.injEq,Bool.and_eq_true]at h;obtain⟨⟨h1,rfl⟩,rfl⟩:=h;obtain⟨i1,i2⟩:=zj2 c r (o+1) l' hr;refine⟨by simp [i1],fun j x hx=> ?_⟩;cases j with
  |zero=>
   simp at hx;subst hx;revert h1
   cases hc:c[o]? with
   |none=>simp [isB]
   |some y=>
    cases y with
    |v y=>cases y<;>simp [isB,bv]
    |_=>simp [isB]
  |succ j=>simp at hx;have:=i2 j x hx;rwa [show o+1+j=o+(j+1)from zc]at this
theorem zp4:∀(l:List VV) (q:List Value),zd3 l=some q->l=q.map .v
 |[],q,h=>by simp [zd3]at h;subst h;rfl
 | .v x::r,q,h=>by
   simp only [zd3]at h;cases hr:zd3 r with
   |none=>simp [hr]at h
   |some p=>simp only [hr,Option.some.injEq]at h;subst h;simp [zp4 r p hr]
 | .lp _ _::_,q,h=>by simp [zd3]at h
 | .ls _ _ _ _::_,q,h=>by simp [zd3]at h
 | .fp _ _::_,q,h=>by simp [zd3]at h
 | .fs _ _ _ _::_,q,h=>by simp [zd3]at h
 | .fn _ _::_,q,h=>by simp [zd3]at h
 | .agg _::_,q,h=>by simp [zd3]at h
 | .tup _::_,q,h=>by simp [zd3]at h
theorem zgH{t:TypeId}{d:TypeDesc}(h:P.underlying t=some d):∃i,P.info? t=some i:=by
 unfold Program.underlying at h;cases hi:P.info? t with
 |none=>simp [hi]at h
 |some i=>exact⟨i,rfl⟩
theorem zp5{t:TypeId}{d:TypeDesc}(h:P.underlying t=some d)(w:World):(isAgg t).run P w= .ok (zcu P t) w:=by
 unfold isAgg zcu;simp only [Sem.run_bind,run_underlying h,Result.andThen_ok,h];cases d<;>rfl
theorem zmt{t:TypeId}{d:TypeDesc}(h:P.underlying t=some d)(w:World):(sizeOf t).run P w= .ok (P.cellsOf t) w:=by
 obtain⟨i,hi⟩:=zgH h;exact run_sizeOf w hi
theorem Addr.add_none(b o i:Nat):(⟨b,o,none⟩:Addr).add i=⟨b,o+i,none⟩:=by unfold Addr.add;split<;>simp_all
theorem zIj{d:Nat}{t:TypeId}{ks:List (Option IntKind)}(h:zvs P d t=some ks):∃e,P.underlying t=some e:=by
 cases d with
 |zero=>simp [zvs]at h
 |succ d=>
  cases hu:P.underlying t with
  |none=>simp [zvs,hu]at h
  |some e=>exact⟨e,rfl⟩
theorem zxP{t:TypeId}{c:List VV}{o b q:Nat}{x:VV}{ρ':Rho}(hr:ztS P t c o=some (true,x))(hu:∃e,P.underlying t=some e)
 (hc:∀(i:Nat) (y:VV),c[i]? =some y->∃u,w.cell? ⟨b,q+i,none⟩=some u/\Rel St w ρ' y u):
 ∃v,(loadVar t ⟨b,q+o,none⟩).run P w= .ok v w/\Rel St w ρ' x v:=by
 obtain⟨e,hu⟩:=hu;unfold loadVar;simp only [Sem.run_bind,zp5 hu,Result.andThen_ok];unfold ztS at hr;cases hk:zvs P 20 t with
 |some ks=>
  simp only [hk]at hr;cases hl:Nat.beq ks.length (P.cellsOf t)with
  |false=>simp [hl]at hr
  |true=>
   have hl:=Nat.eq_of_beq_eq_true hl;simp only [hl]at hr;generalize hf:zkQ c o ks=r at hr;obtain⟨bb,l⟩:=r;cases ha:zcu P t with
   |true=>
    simp only [ha,cond_true]at hr;have hbb:bb=true:=by revert hr;cases bb<;>simp [Nat.beq_refl]
    subst hbb;simp [Nat.beq_refl]at hr;subst hr;obtain⟨h1,h2⟩:=zj2 c ks o l hf
    have:=run_loadCells_list (P:=P) w ⟨b,q+o,none⟩ l (fun j v hj=>by
     obtain⟨u,g1,g2⟩:=hc _ _ (h2 j v hj)
     rw [Addr.add_none,Nat.add_assoc,g1,g2.v_inv])
    rw [h1,hl]at this;refine⟨.agg l.toArray,?_,.v _ _⟩;simp [zmt hu,this]
   |false=>
    simp only [ha,cond_false]at hr;match l,hr with
    |[y],hr=>
     have hbb:bb=true:=by revert hr;cases bb<;>simp [Nat.beq_refl]
     subst hbb;simp [Nat.beq_refl]at hr;subst hr;obtain⟨h1,h2⟩:=zj2 c ks o _ hf;obtain⟨u,g1,g2⟩:=hc _ _ (h2 0 y rfl);refine⟨y,?_,.v _ _⟩;have:=g2.v_inv;subst this;rw [show q+(o+0)=q+o from zc]at g1;simp [g1]
    |[],hr=>simp [Nat.beq_refl]at hr
    |_::_::_,hr=>simp [Nat.beq_refl]at hr
 |none=>
  simp only [hk]at hr;cases ha:zcu P t with
  |true=>
   simp only [ha,cond_true]at hr;generalize hl:(c.drop o).take (P.cellsOf t)=l at hr;cases hq:Nat.beq l.length (P.cellsOf t)with
   |false=>simp [hq]at hr
   |true=>
    have hq:=Nat.eq_of_beq_eq_true hq;have hcell:∀(j:Nat) (y:VV),l[j]? =some y->∃u,w.cell? ⟨b,q+o+j,none⟩=some u/\Rel St w ρ' y u:=by
     intro j y hj;rw [<-hl,List.getElem?_take]at hj;split at hj
     ·rw [List.getElem?_drop]at hj
      obtain⟨u,g1,g2⟩:=hc _ _ hj;exact⟨u,by rw [Nat.add_assoc];exact g1,g2⟩
     ·cases hj
    simp only [hq,Nat.beq_refl,cond_true]at hr;obtain⟨xs,hxs⟩:=zIg hcell
    have hload:=run_loadCells (P:=P) w ⟨b,q+o,none⟩ l.length xs (fun j hj=>by
     rw [Addr.add_none];exact(hxs j l[j] (by simp [hj])).1)
    rw [hq]at hload;cases hp:zd3 l with
    |some l'=>
     simp only [hp,Option.some.injEq,Prod.mk.injEq,true_and]at hr;subst hr;have hl':=zp4 _ _ hp;refine⟨.agg l'.toArray,?_,.v _ _⟩;simp only [if_true,Sem.run_bind,zmt hu,Result.andThen_ok,hload,Sem.run_pure];congr 3
     apply List.ext_getElem?
     intro i;have hlen:l'.length=P.cellsOf t:=by rw [<-hq,hl'];simp
     by_cases hi:i<P.cellsOf t
     ·have hi':i<l'.length:=zc
      have:=(hxs i (.v l'[i]) (by rw [hl'];simp [hi'])).2.v_inv
      simp [hi,hi',this]
     ·simp [hi,List.getElem?_eq_none (show l'.length<=i from zc)]
    |none=>
     simp only [hp,Option.some.injEq,Prod.mk.injEq,true_and]at hr;subst hr;refine⟨.agg ((List.range (P.cellsOf t)).map xs).toArray,?_,?_⟩
     ·simp only [if_true,Sem.run_bind,zmt hu,Result.andThen_ok,hload,Sem.run_pure]
     ·refine .agg _ _ _ xs (by simp [hq]) (fun i x hx=> ?_) (fun i x hx=>(hxs i x hx).2)
      have:i<P.cellsOf t:=by rw [<-hq];exact(List.getElem?_eq_some_iff.1 hx).1
      simp [this]
  |false=>
   simp only [ha,cond_false]at hr;cases hx:c[o]? with
   |none=>simp [hx]at hr
   |some y=>
    simp only [hx,Option.some.injEq,Prod.mk.injEq,true_and]at hr;subst hr;obtain⟨u,g1,g2⟩:=hc _ _ hx;exact⟨u,by simp [g1],g2⟩
end
def zIk(P:Program)(f:FuncId):Prop:=∃fn,P.funcs[f]? =some fn/\(fn.name== "runtime.NumGoroutine")=false/\fn.body.isNone=false
def zBD(w w':World)(r:VV)(v:Value):Prop:=
 Rel (fun b=>w.heap.size<=b/\b<w'.heap.size) w' zmr r v/\
 ∀c l z,r= .fs c 0 l z->∃(nb g:Nat) (cs:Array Value) (ty:TypeId) (cap:Nat) (a:Option Addr),w.heap.size<=nb/\w'.heap[nb]? =some (.cells cs ty (0,0))/\
  l<=cap/\(0<cap->a=some ⟨nb,g,none⟩)/\(0<cap->g+cap*z<=cs.size)/\v= .slice a l cap/\g+c.length<=cs.size/\
  ∀(i:Nat) (x:VV),c[i]? =some x->∃y,cs[g+i]? =some y/\y.oneCell'=true/\x= .v y
def yc(P:Program)(f:FuncId)(g:List VV->Option VV):Prop:=
 ∀args r,g args=some r->zIk P f/\∀(w:World) (vs:Array Value) (St:Nat->Prop),(∀b,St b->b<w.heap.size)->vs.size=args.length->
  (∀(i:Nat) (x:VV),args[i]? =some x->∃y,vs[i]? =some y/\Rel St w zmr x y)->
  Calls P f vs w fun e w'=>∃v,e= .returned v/\Below w.heap.size w w'/\zBD w w' r v
section
variable{P:Program}{S:FuncId->List VV->Option (Bool×VV)}{ro:List Nat}{B N:Nat}{w0:World}{T:Nat->Option VV}{m mf M:Nat->Option Blk}{ρ:Rho}{St:Nat->Prop}{a:Act}{w:World}{n:Nat}
 {o:Oper} {K:Act->World->Prop} {Q:Exit->Act->World->Prop}
theorem zr8{s:Nat}{p:Nat×Nat×Nat}(h:s≠n\/true=false):ziB ρ n p s=ρ s:=by
 rcases h with h|h
 ·simp [ziB,h]
 ·cases h
def zj3(B N:Nat)(w0:World)(T':Nat->Option VV)(M':Nat->Option Blk)(c:Bool)(n:Nat)(ρ:Rho)(St:Nat->Prop)(K:Act->World->Prop):Prop:=
 ∀(ρ':Rho) (St':Nat->Prop) (a':Act) (w':World),(∀s,(s≠n\/c=false)->ρ' s=ρ s)->(∀b,St b->St' b)->SR B N w0 T' M' ρ' St' a' w'->K a' w'
def cr:Eff->Bool
 | .val _=>false
 | .alloc _ _=>true
 | .store _ _=>false
 | .app _ _ _=>true
theorem zcp(h:SR B N w0 T M ρ St a w)(hd:∀t,o.dst=some t->t<N){x:VV}{v:Value}(hrun:(execOp a.eval o).run P w= .ok (.value v) w)(hx:Rel St w ρ x v)
 (hK:zj3 B N w0 (zms T o.dst x) M false n ρ St K):o.wp P a w K Q:=by
 unfold Oper.wp;rw [hrun];exact hK ρ St _ w (fun _ _=>rfl) (fun _ h=>h) (h.val hd (Below.refl _ _) (fun _ h=>h) (fun b hb=>⟨.inl hb,h.st b hb⟩) hx)
theorem zEK(h:SR B N w0 T M ρ St a w)(hd:∀t,o.dst=some t->t<N)(hn:ρ n=none){x:VV}{v:Value}{k:Blk}{cs:Array Value}{ty:TypeId}
 (hrun:(execOp a.eval o).run P w= .ok (.value v) (w.alloc (.cells cs ty))) (hlen:k.c.length<=cs.size)
 (hk:∀(i:Nat) (y:VV),k.c[i]? =some y->∃u,cs[i]? =some u/\u.oneCell'=true/\zeQ St w ρ k.closed y u)
 (hx:Rel St (w.alloc (.cells cs ty)) (ziB ρ n (w.heap.size,0,cs.size)) x v)
 (hK:zj3 B N w0 (zms T o.dst x) (ziL M n k) true n ρ St K):o.wp P a w K Q:=by
 unfold Oper.wp;rw [hrun];refine hK (ziB ρ n (w.heap.size,0,cs.size)) St _ _ (fun s hs=>zr8 hs) (fun _ h=>h) ?_;exact h.new (s0:=none) hd hn ((Below.refl _ _).alloc (Nat.le_refl _) _) (Nat.le_refl _) (heap_alloc_new w _) (by simpa using hlen) (fun i y hy=>by simpa using hk i y hy) hx
theorem zRD{x:VV}{v:Value}(h:raw x=some v):x= .v v:=by
 cases x<;>simp [raw]at h
 subst h;rfl
theorem SR.rawT(h:SR B N w0 T M ρ St a w){x:Operand}{v:Value}(hx:zyy T x=some v):a.eval x=v:=by
 unfold Xv.zyy at hx;cases he:Xv.ev T x with
 |none=>simp [he]at hx
 |some y=>
  simp [he]at hx;have:=zRD hx;subst this;exact(h.ev he).v_inv
theorem zdB(h:SR B N w0 T M ρ St a w)(hd:∀t,o.dst=some t->t<N)(hs:∀cs b,o.op≠ .select cs b){b:Bool}{e:Eff}(he:zfQ P T o=some (b,e))
 (hK:zj3 B N w0 (zfL T o.dst e) (zej M n e) (cr e) n ρ St K):o.wp P a w K Q:=by
 unfold zfQ at he;cases hm:zd4 (Xv.zyy T) o.op.operands.toList with
 |none=>simp [hm]at he
 |some l=>
  simp only [hm]at he;have hcong:execOp a.eval o=execOp (fun x=>(Xv.zyy T x).getD undef) o:=by
   refine execOp_congr o hs fun x hx=> ?_
   obtain⟨hl,sp⟩:=zcw hm;obtain⟨i,hi,hix⟩:=List.getElem_of_mem (Array.mem_toList_iff.2 hx);have hi':i<l.length:=zc;obtain⟨x',hx',hf⟩:=sp i l[i] (by simp [hi']);rw [List.getElem?_eq_getElem hi,hix]at hx';cases hx';rw [h.rawT hf,hf];rfl
  cases hp:zp0 P (execOp (fun x=>(Xv.zyy T x).getD undef) o)with
  |none=>simp [hp]at he
  |some nx=>
   simp only [hp]at he;cases nx<;>simp at he
   obtain⟨_,rfl⟩:=he;exact zcp h hd (by rw [hcong];exact zIi _ _ hp w) (.v _ _) hK
theorem zxQ{op:BinOp}{t ty:TypeId}{x y:Operand}{k k':IntKind}{p q:Int}(ho:o.op= .binOp op t x y ty)(hx:a.eval x= .int k p)(hy:a.eval y= .int k' q){v:Value}
 (h:(binOp op t (.int k p) (.int k' q)).run P w= .ok v w) (hg:∀w,(eqGuard op t x y (.int k p) (.int k' q)).run P w= .ok () w):(execOp a.eval o).run P w= .ok (.value v) w:=by
 simp only [execOp,ho,hx,hy,Sem.run_bind,hg,Result.andThen_ok,h,Sem.run_pure]
theorem zxR{op:BinOp}{t:TypeId}{x y:Operand}{k k':IntKind}{p q:Int}(w:World):(eqGuard op t x y (.int k p) (.int k' q)).run P w= .ok () w:=by
 unfold eqGuard;cases op<;>rfl
theorem zte{x:VV}{v:Value}(hx:ztK x=true)(h:Rel St w ρ x v):v.oneCell'=true:=by
 cases x with
 |v y=>obtain rfl:=h.v_inv;cases v<;>simp_all [ztK,Value.oneCell']
 |lp s o=>obtain⟨_,_,_,_,rfl⟩:=h.lp_inv;rfl
 |ls s o l z=>obtain⟨_,_,_,_,_,_,_,_,_,rfl⟩:=h.ls_inv;rfl
 |fp c o=>obtain⟨_,_,_,_,_,_,rfl⟩:=h.fp_inv;rfl
 |fs c o l z=>obtain⟨_,_,_,_,_,_,_,_,_,_,rfl⟩:=h.fs_inv;rfl
 |fn f c=>obtain⟨_,_,_,_,_,rfl⟩:=h.fn_inv;exact zTT _ _
 |agg c=>simp [ztK]at hx
 |tup c=>simp [ztK]at hx
theorem zlf{x:VV}{v:Value}{c:List VV}{b:Bool}(hf:zcJ x=some (c,b))(h:Rel St w ρ x v):
 v.cells.size=c.length/\∀(i:Nat) (y:VV),c[i]? =some y->∃u,v.cells[i]? =some u/\zeQ St w ρ b y u:=by
 have one:∀{x:VV} {v:Value},Rel St w ρ x v->v.cells=#[v]->∀(i:Nat) (y:VV),[x][i]? =some y->∃u,v.cells[i]? =some u/\zeQ St w ρ false y u:=by
  intro x v h hc i y hy;cases i with
  |zero=>simp at hy;subst hy;exact⟨v,by rw [hc];rfl,h,fun e=>by cases e⟩
  |succ i=>simp at hy
 cases x with
 |v y=>
  obtain rfl:=h.v_inv;cases v with
  |agg cs=>
   simp only [zcJ,Option.some.injEq,Prod.mk.injEq]at hf;obtain⟨rfl,rfl⟩:=hf;refine⟨by simp [Value.cells],fun i y hy=> ?_⟩;simp only [List.getElem?_map,Option.map_eq_some_iff]at hy;obtain⟨u,hu,rfl⟩:=hy;exact⟨u,by simpa [Value.cells]using hu,zeQ.v _⟩
  |tuple cs=>simp [zcJ]at hf
  |_=>
   simp only [zcJ,Option.some.injEq,Prod.mk.injEq]at hf;obtain⟨rfl,rfl⟩:=hf;refine⟨rfl,fun i y hy=> ?_⟩;cases i with
   |zero=>simp at hy;subst hy;exact⟨_,rfl,zeQ.v _⟩
   |succ i=>simp at hy
 |lp s o=>
  simp only [zcJ,Option.some.injEq,Prod.mk.injEq]at hf;obtain⟨rfl,rfl⟩:=hf;have hc:v.cells=#[v]:=by obtain⟨_,_,_,_,rfl⟩:=h.lp_inv;rfl
  exact⟨by rw [hc];rfl,one h hc⟩
 |ls s o l z=>
  simp only [zcJ,Option.some.injEq,Prod.mk.injEq]at hf;obtain⟨rfl,rfl⟩:=hf;have hc:v.cells=#[v]:=by obtain⟨_,_,_,_,_,_,_,_,_,rfl⟩:=h.ls_inv;rfl
  exact⟨by rw [hc];rfl,one h hc⟩
 |fp c o=>
  simp only [zcJ,Option.some.injEq,Prod.mk.injEq]at hf;obtain⟨rfl,rfl⟩:=hf;have hc:v.cells=#[v]:=by obtain⟨_,_,_,_,_,_,rfl⟩:=h.fp_inv;rfl
  exact⟨by rw [hc];rfl,one h hc⟩
 |fs c o l z=>
  simp only [zcJ,Option.some.injEq,Prod.mk.injEq]at hf;obtain⟨rfl,rfl⟩:=hf;have hc:v.cells=#[v]:=by obtain⟨_,_,_,_,_,_,_,_,_,_,rfl⟩:=h.fs_inv;rfl
  exact⟨by rw [hc];rfl,one h hc⟩
 |fn f c=>
  simp only [zcJ,Option.some.injEq,Prod.mk.injEq]at hf;obtain⟨rfl,rfl⟩:=hf;have hc:v.cells=#[v]:=by obtain⟨_,_,_,_,_,rfl⟩:=h.fn_inv;exact zPE _ _
  exact⟨by rw [hc];rfl,one h hc⟩
 |agg c=>
  simp only [zcJ,Option.some.injEq,Prod.mk.injEq]at hf;obtain⟨rfl,rfl⟩:=hf;obtain⟨vs,xs,h1,h2,h3,rfl⟩:=h.agg_inv;exact⟨h1,fun i y hy=>⟨_,h2 i y hy,h3 i y hy,fun e=>by cases e⟩⟩
 |tup c=>simp [zcJ]at hf
theorem zrM(h:SR B N w0 T M ρ St a w)(hm:∀s k,m s=some k->M s=some k){x:VV}{v:Value}{p:List VV}{l z:Nat}{cl:Bool}(hs:zdP m x=some (p,l,z,cl))(hx:Rel St w ρ x v):
 ∃(base:Option Addr) (c:Nat),v= .slice base l c/\l<=c/\(0<c->∃b q,base=some ⟨b,q,none⟩/\∀(i:Nat) (y:VV),p[i]? =some y->∃u,w.cell? ⟨b,q+i,none⟩=some u/\u.oneCell'=true/\zeQ St w ρ cl y u):=by
 cases x with
 |ls s o l' z'=>
  simp only [zdP]at hs;cases hms:m s with
  |none=>simp [hms]at hs
  |some k=>
   simp only [hms,Option.some.injEq,Prod.mk.injEq]at hs;obtain⟨rfl,rfl,rfl,rfl⟩:=hs;obtain⟨b,g,sz,c,aa,g1,g2,g3,g4,rfl⟩:=hx.ls_inv;obtain⟨b',g',zz,q1,q2,_,q3⟩:=h.blk (hm s k hms);rw [g1]at q1;cases q1;refine⟨aa,c,rfl,g2,fun hc=>⟨b,g+o,g3 hc,fun i y hy=> ?_⟩⟩;rw [List.getElem?_drop]at hy;obtain⟨u,⟨h1,h2⟩,h3⟩:=q3 _ y hy;exact⟨u,by rw [Nat.add_assoc];exact h1,h2,h3⟩
 |fs c o l' z'=>
  simp only [zdP,Option.some.injEq,Prod.mk.injEq]at hs;obtain⟨rfl,rfl,rfl,rfl⟩:=hs;obtain⟨b,q,cp,aa,xs,g1,g2,g3,g4,g5,rfl⟩:=hx.fs_inv;refine⟨aa,cp,rfl,g1,fun hc=> ?_⟩;refine⟨b,q+o,g2 hc,fun i y hy=> ?_⟩;rw [List.getElem?_drop]at hy;exact⟨xs (o+i),by rw [Nat.add_assoc];exact(g4 _ y hy).1,(g4 _ y hy).2,by rw [g5 _ y hy];exact zeQ.v _⟩
 |v y=>
  obtain rfl:=hx.v_inv;unfold zdP at hs;split at hs
  ·rename_i e;cases e
  ·rename_i e;cases e
  ·rename_i e
   cases e;simp only [Option.some.injEq,Prod.mk.injEq]at hs;obtain⟨rfl,rfl,rfl,rfl⟩:=hs;exact⟨none,0,rfl,Nat.le_refl _,fun h=>absurd h zc⟩
  ·cases hs
 |_=>simp [zdP]at hs
end
end Go.Xv
namespace Go.Xv
def zps:List Value->List Value->Bool
 |[],[]=>true
 |a::r,b::q=>eqV a b&&zps r q
 |_,_=>false
theorem zRE:∀(xs ys:List Value),eqL xs ys=zps xs ys
 |[],[]=>rfl
 |[],_::_=>rfl
 |[_],[]=>rfl
 |_::_::_,[]=>rfl
 |[a],[b]=>by simp [eqL,zps]
 |[a],b::c::r=>by simp [eqL,zps]
 |a::a'::r,[b]=>by simp [eqL,zps]
 |a::a'::r,b::b'::q=>by rw [eqL,zps,zRE (a'::r) (b'::q)]<;>simp
theorem zr9:∀(a c b d:List Value),a.length=c.length->zps (a++b) (c++d)=(zps a c&&zps b d)
 |[],[],b,d,_=>by simp [zps]
 |x::a,y::c,b,d,h=>by simp [zps,zr9 a c b d (by simpa using h),Bool.and_assoc]
 |[],_::_,_,_,h=>by simp at h
 |_::_,[],_,_,h=>by simp at h
theorem zbA:∀(ks:List (Option IntKind)) (xs:List Value),zcv ks xs=true->xs.length=ks.length
 |[],[],_=>rfl
 |[],_::_,h=>by simp [zcv]at h
 |some k::r,.int k' n::q,h=>by simp only [zcv,Bool.and_eq_true]at h;simp [zbA r q h.2]
 |none::r,.bool b::q,h=>by simp only [zcv]at h;simp [zbA r q h]
 |some k::r,[],h=>by simp [zcv]at h
 |none::r,[],h=>by simp [zcv]at h
 |some k::r,x::q,h=>by cases x<;>first|(simp only [zcv,Bool.and_eq_true]at h;simp [zbA r q h.2];done)|(simp [zcv]at h)
 |none::r,x::q,h=>by cases x<;>first|(simp only [zcv]at h;simp [zbA r q h];done)|(simp [zcv]at h)
theorem zmk:∀(k1 k2:List (Option IntKind)) (xs:List Value),zcv (k1++k2) xs=true->zcv k1 (xs.take k1.length)=true/\zcv k2 (xs.drop k1.length)=true
 |[],k2,xs,h=>by simpa [zcv]using h
 |some k::r,k2,x::q,h=>by
  cases x<;>first|(simp [zcv]at h;done)|skip
  simp only [List.cons_append,zcv,Bool.and_eq_true]at h;have:=zmk r k2 q h.2;simp only [List.length_cons,List.take_succ_cons,List.drop_succ_cons,zcv,Bool.and_eq_true];exact⟨⟨h.1,this.1⟩,this.2⟩
 |none::r,k2,x::q,h=>by
  cases x<;>first|(simp [zcv]at h;done)|skip
  simp only [List.cons_append,zcv]at h;have:=zmk r k2 q h;simp only [List.length_cons,List.take_succ_cons,List.drop_succ_cons,zcv];exact this
 |some k::r,k2,[],h=>by simp [zcv]at h
 |none::r,k2,[],h=>by simp [zcv]at h
section
variable{P:Program}
def zeq(P:Program)(t:TypeId)(xs:List Value):Value:=if zcu P t then .agg xs.toArray else xs.headD undef
theorem zEL{e:TypeId}{d:TypeDesc}(hu:P.underlying e=some d)(xs:List Value)(off:Nat)(h:off+P.cellsOf e<=xs.length)(h1:zcu P e=false->0<P.cellsOf e)(w:World):
 (part e xs.toArray off).run P w= .ok (zeq P e ((xs.drop off).take (P.cellsOf e))) w:=by
 unfold part zeq;simp only [Sem.run_bind,zp5 hu,Result.andThen_ok];cases ha:zcu P e with
 |true=>simp [zmt hu,List.extract_eq_take_drop]
 |false=>
  have:=h1 ha;have hlt:off<xs.length:=zc;simp only [Bool.false_eq_true,if_false,List.getElem?_toArray,List.getElem?_eq_getElem hlt,Sem.run_pure];congr 1
  rw [List.headD_eq_head?_getD,List.head?_take];simp [List.head?_drop,List.getElem?_eq_getElem hlt,show P.cellsOf e≠0 from zc]
theorem zvu{e:TypeId}{d:TypeDesc}(hu:P.underlying e=some d)(xs:List Value)(off:Nat)(h:P.cellsOf e<=xs.length-off)(h1:zcu P e=false->0<P.cellsOf e)(w:World):
 (part e xs.toArray off).run P w= .ok (zeq P e ((xs.drop off).take (P.cellsOf e))) w:=by
 by_cases hz:P.cellsOf e=0
 ·have ha:zcu P e=true:=by
   cases hh:zcu P e with
   |true=>rfl
   |false=>have:=h1 hh;omega
  unfold part zeq;simp only [Sem.run_bind,zp5 hu,Result.andThen_ok,ha,if_true,zmt hu,hz,Sem.run_pure];simp
 ·exact zEL hu xs off zc h1 w
def zMr:TypeDesc->Bool
 | .struct _| .array _ _=>true
 |_=>false
theorem zMs:∀(d:Nat) (t:TypeId) (ks:List (Option IntKind)),zvt P d t=some ks->(∃e,P.underlying t=some e)/\(zcu P t=false->ks.length=1)/\
 ∀(D:Nat) (xs ys:List Value) (w:World),zcv ks xs=true->zcv ks ys=true->(Op.equalIn (d+D) t (zeq P t xs) (zeq P t ys)).run P w= .ok (zps xs ys) w:=by
 intro d;induction d with
 |zero=>intro t ks h;simp [zvt]at h
 |succ d ih=>
  intro t ks h;simp only [zvt]at h;cases hu:P.underlying t with
  |none=>simp [hu]at h
  |some e=>
   refine⟨⟨e,rfl⟩,?_⟩;have hagg:zcu P t=zMr e:=by simp only [zcu,hu];cases e<;>rfl
   cases e<;>simp only [hu]at h<;>first|(cases h;done)|skip
   case bool=>
    simp only [Option.some.injEq]at h;subst h;refine⟨fun _=>rfl,fun D xs ys w hx hy=> ?_⟩;match xs,ys,hx,hy with
    |[x],[y],hx,hy=>
     cases x<;>first|(simp [zcv]at hx;done)|skip
     cases y<;>first|(simp [zcv]at hy;done)|skip
     simp only [zeq,hagg,zMr,Bool.false_eq_true,if_false,List.headD_cons,show d+1+D=(d+D)+1 from zc];rw [run_equalIn_bool w _ _ _ _ hu];simp [zps,eqV]
    |[],_,hx,_=>simp [zcv]at hx
    |x::_::_,_,hx,_=>cases x<;>simp [zcv]at hx
    |[_],[],_,hy=>simp [zcv]at hy
    |[_],y::_::_,_,hy=>cases y<;>simp [zcv]at hy
   case int k=>
    simp only [Option.some.injEq]at h;subst h;refine⟨fun _=>rfl,fun D xs ys w hx hy=> ?_⟩;match xs,ys,hx,hy with
    |[x],[y],hx,hy=>
     cases x<;>first|(simp [zcv]at hx;done)|skip
     cases y<;>first|(simp [zcv]at hy;done)|skip
     simp only [zcv,Bool.and_true,decide_eq_true_eq]at hx hy;subst hx;rename_i n' k';subst hy;simp only [zeq,hagg,zMr,Bool.false_eq_true,if_false,List.headD_cons,show d+1+D=(d+D)+1 from zc];rw [run_equalIn_int w _ _ _ _ _ _ hu];simp [zps,eqV]
    |[],_,hx,_=>simp [zcv]at hx
    |x::_::_,_,hx,_=>cases x<;>simp [zcv]at hx
    |[_],[],_,hy=>simp [zcv]at hy
    |[_],y::_::_,_,hy=>cases y<;>simp [zcv]at hy
   case array n el=>
    refine⟨fun hf=>by rw [hagg]at hf;simp [zMr]at hf,fun D xs ys w hx hy=> ?_⟩
    cases hk:zvt P d el with
    |none=>simp [hk]at h
    |some l=>
     simp only [hk]at h;cases hl:Nat.beq l.length (P.cellsOf el)with
     |false=>simp [hl]at h
     |true=>
      simp only [hl,cond_true,Option.some.injEq]at h;subst h;have hl:=Nat.eq_of_beq_eq_true hl;obtain⟨⟨de,hde⟩,h1,hrec⟩:=ih el l hk;obtain⟨i,hi⟩:=zgH hde;simp only [zeq,hagg,zMr,if_true,show d+1+D=(d+D)+1 from zc];rw [run_equalIn_array w _ _ _ hu hi,List.range_eq_range'];have key:∀(m j:Nat) (X Y:List Value),zcv (List.replicate m l).flatten (X.drop (j*P.cellsOf el))=true->zcv (List.replicate m l).flatten (Y.drop (j*P.cellsOf el))=true->
       (Op.eqItems (d+D) el (P.cellsOf el) X.toArray Y.toArray (List.range' j m)).run P w= .ok (zps (X.drop (j*P.cellsOf el)) (Y.drop (j*P.cellsOf el))) w:=by
       intro m;induction m with
       |zero=>
        intro j X Y hX hY;have a1:=zbA _ _ hX;have a2:=zbA _ _ hY;simp only [List.replicate_zero,List.flatten_nil,List.length_nil]at a1 a2;rw [List.length_eq_zero_iff.1 a1,List.length_eq_zero_iff.1 a2];simp [Op.eqItems,zps]
       |succ m ihm=>
        intro j X Y hX hY;simp only [List.replicate_succ,List.flatten_cons]at hX hY;have a1:=zbA _ _ hX;have a2:=zbA _ _ hY;obtain⟨x1,x2⟩:=zmk _ _ _ hX;obtain⟨y1,y2⟩:=zmk _ _ _ hY;simp only [List.length_append,List.length_drop]at a1 a2;rw [hl]at x1 x2 y1 y2 a1 a2;have pos:zcu P el=false->0<P.cellsOf el:=fun e=>by have:=h1 e;omega
        have px:(part el X.toArray (j*P.cellsOf el)).run P w= .ok (zeq P el ((X.drop (j*P.cellsOf el)).take (P.cellsOf el))) w:=zvu hde X _ zc pos w;have py:(part el Y.toArray (j*P.cellsOf el)).run P w= .ok (zeq P el ((Y.drop (j*P.cellsOf el)).take (P.cellsOf el))) w:=zvu hde Y _ zc pos w;have e1:∀Z:List Value,Z.drop ((j+1)*P.cellsOf el)=(Z.drop (j*P.cellsOf el)).drop (P.cellsOf el):=fun Z=>by rw [List.drop_drop,Nat.succ_mul]
        have hi':=ihm (j+1) X Y (by rw [e1];exact x2) (by rw [e1];exact y2);simp only [List.range'_succ,Op.eqItems,Sem.run_bind,px,py,Result.andThen_ok,hrec D _ _ w x1 y1,Sem.run_ite,Sem.run_pure,hi'];have spl:=zr9 ((X.drop (j*P.cellsOf el)).take (P.cellsOf el)) ((Y.drop (j*P.cellsOf el)).take (P.cellsOf el)) ((X.drop (j*P.cellsOf el)).drop (P.cellsOf el)) ((Y.drop (j*P.cellsOf el)).drop (P.cellsOf el))
         (by rw [zbA _ _ x1,zbA _ _ y1])
        rw [List.take_append_drop,List.take_append_drop]at spl;rw [spl,e1,e1];cases zps ((X.drop (j*P.cellsOf el)).take (P.cellsOf el)) ((Y.drop (j*P.cellsOf el)).take (P.cellsOf el))<;>simp
      have:=key n 0 xs ys (by simpa using hx) (by simpa using hy);simpa using this
   case struct fs=>
    refine⟨fun hf=>by rw [hagg]at hf;simp [zMr]at hf,fun D xs ys w hx hy=> ?_⟩
    cases hst:P.stoodInHeld t with
    |true=>simp [hst]at h
    |false=>
     simp only [hst,Bool.not_false,cond_true]at h;simp only [zeq,hagg,zMr,if_true,show d+1+D=(d+D)+1 from zc];have hF:P.fieldsOf t=fs:=by simp [Program.fieldsOf,hu]
     rw [run_equalIn_struct w _ _ _ _ (by rw [hF];exact hu) hst,hF];have key:∀(l:List Field) (off:Nat) (ks:List (Option IntKind)) (X Y:List Value),zPA P (zvt P d) off l=some ks->zcv ks (X.drop off)=true->zcv ks (Y.drop off)=true->
      (Op.eqFields (d+D) X.toArray Y.toArray l).run P w= .ok (zps (X.drop off) (Y.drop off)) w:=by
      intro l;induction l with
      |nil=>
       intro off ks X Y hk hX hY;simp only [zPA,Option.some.injEq]at hk;subst hk;have a1:=zbA _ _ hX;have a2:=zbA _ _ hY;rw [List.length_eq_zero_iff.1 a1,List.length_eq_zero_iff.1 a2];simp [Op.eqFields,zps]
      |cons f l ihl=>
       intro off ks X Y hk hX hY;simp only [zPA]at hk;cases hc:(Nat.beq f.offset off&&(f.name != "_"))with
       |false=>simp [hc]at hk
       |true=>
        simp only [hc,cond_true]at hk;simp only [Bool.and_eq_true]at hc;have hoff:=Nat.eq_of_beq_eq_true hc.1;have hname:f.name≠ "_" :=by simpa using hc.2
        cases hk1:zvt P d f.type with
        |none=>simp [hk1]at hk
        |some k1=>
         simp only [hk1]at hk;cases hl:Nat.beq k1.length (P.cellsOf f.type)with
         |false=>simp [hl]at hk
         |true=>
          simp only [hl,cond_true]at hk;have hl:=Nat.eq_of_beq_eq_true hl;cases hk2:zPA P (zvt P d) (off+k1.length) l with
          |none=>simp [hk2]at hk
          |some k2=>
           simp only [hk2,Option.some.injEq]at hk;subst hk;obtain⟨⟨de,hde⟩,h1,hrec⟩:=ih f.type k1 hk1;have a1:=zbA _ _ hX;have a2:=zbA _ _ hY;obtain⟨x1,x2⟩:=zmk _ _ _ hX;obtain⟨y1,y2⟩:=zmk _ _ _ hY;simp only [List.length_append,List.length_drop]at a1 a2;have e1:∀Z:List Value,(Z.drop off).drop k1.length=Z.drop (off+k1.length):=fun Z=>by rw [List.drop_drop]
           have hi':=ihl _ _ X Y hk2 (by rw [<-e1];exact x2) (by rw [<-e1];exact y2);have spl:=zr9 ((X.drop off).take k1.length) ((Y.drop off).take k1.length) ((X.drop off).drop k1.length) ((Y.drop off).drop k1.length) (by rw [zbA _ _ x1,zbA _ _ y1]);rw [List.take_append_drop,List.take_append_drop]at spl;have pos:zcu P f.type=false->0<P.cellsOf f.type:=fun e=>by have:=h1 e;omega
           have px':(part f.type X.toArray f.offset).run P w= .ok (zeq P f.type ((X.drop off).take k1.length)) w:=by rw [hoff,hl];exact zvu hde X off zc pos w
           have py':(part f.type Y.toArray f.offset).run P w= .ok (zeq P f.type ((Y.drop off).take k1.length)) w:=by rw [hoff,hl];exact zvu hde Y off zc pos w
           simp only [Op.eqFields,hname,ne_eq,not_false_eq_true,if_true,Sem.run_bind,px',py',Result.andThen_ok,hrec D _ _ w x1 y1,Sem.run_ite,Sem.run_pure,hi'];rw [spl,e1,e1];cases zps ((X.drop off).take k1.length) ((Y.drop off).take k1.length)<;>simp
     have:=key fs.toList 0 ks xs ys h (by simpa using hx) (by simpa using hy);simpa using this
theorem zzT{t:TypeId}{ks:List (Option IntKind)}{xs ys:Array Value}(hk:zvt P 20 t=some ks)(hx:zcv ks xs.toList=true)(hy:zcv ks ys.toList=true)(ha:zcu P t=true)(w:World):
 (Op.equalIn 10000 t (.agg xs) (.agg ys)).run P w= .ok (eqL xs.toList ys.toList) w:=by
 have:=(zMs 20 t ks hk).2.2 9980 xs.toList ys.toList w hx hy;simpa [zeq,ha,zRE]using this
end
end Go.Xv
namespace Go.Xv
open Go.RowKit (Below)
section
variable{P:Program}{S:FuncId->List VV->Option (Bool×VV)}{ro:List Nat}{B N:Nat}{w0:World}{T:Nat->Option VV}{m mf M:Nat->Option Blk}{ρ:Rho}{St:Nat->Prop}{a:Act}{w:World}{n:Nat}
 {o:Oper} {K:Act->World->Prop} {Q:Exit->Act->World->Prop}
theorem inz{b:Bool}{e e':Eff}(h:some (b,e')=some (true,e)):b=true/\e'=e:=by simpa using h
theorem zPF(h:SR B N w0 T M ρ St a w)(hd:∀t,o.dst=some t->t<N){op:BinOp}{t ty:TypeId}{x y:Operand}(ho:o.op= .binOp op t x y ty){e:Eff}(he:zTP P T o op t x y=some (true,e))
 (hK:zj3 B N w0 (zfL T o.dst e) (zej M n e) (cr e) n ρ St K):o.wp P a w K Q:=by
 have hsel:∀cs b,o.op≠ .select cs b:=fun cs b=>by rw [ho];simp
 have sh:∀(op':BinOp),op=op'->(op'= .shl\/op'= .shr)->(match ev T x,ev T y with
  |some (.v (.int k a)),some (.v (.int _ b))=>some (!decide (b<0),Eff.val (.v (.int k (zzN op' k a b))))
  |_,_=>none)=some (true,e)->o.wp P a w K Q:=by
  intro op' hop' hop he;subst hop';split at he
  ·rename_i k p k' q hx hy
   obtain⟨hb,rfl⟩:=inz he;have hq: ¬q<0:=by simpa using hb
   have ex:=(h.ev hx).v_inv;have ey:=(h.ev hy).v_inv;refine zcp h hd (zxQ ho ex ey (v:=.int k (zzN op k p q)) ?_ (fun w=>zxR w)) (.v _ _) hK;rcases hop with rfl|rfl
   ·simp [binOp,Op.shift,hq,zzN]
   ·simp [binOp,Op.shift,hq,zzN]
  ·cases he
 have qr:∀(op':BinOp) (f:IntKind->Int->Int->Int),op=op'->(∀k p q,¬q=0->(binOp op' t (.int k p) (.int k q)).run P w= .ok (.int k (f k p q)) w)->(match ev T x,ev T y with
  |some (.v (.int k a)),some (.v (.int k' b))=>bif decide (k'=k)then some (!decide (b=0),Eff.val (.v (.int k (f k a b))))else none
  |_,_=>none)=some (true,e)->o.wp P a w K Q:=by
  intro op' f hop' hrun he;subst hop';split at he
  ·rename_i k p k' q hx hy
   cases hkk:decide (k'=k)with
   |false=>simp [hkk]at he
   |true=>
    simp only [hkk,cond_true]at he;obtain rfl:k'=k:=by simpa using hkk
    obtain⟨hb,rfl⟩:=inz he;have hq: ¬q=0:=by simpa using hb
    exact zcp h hd (zxQ ho (h.ev hx).v_inv (h.ev hy).v_inv (hrun k' p q hq) (fun w=>zxR w)) (.v _ _) hK
  ·cases he
 have eqs:∀(op':BinOp) (g:Bool->Bool),op=op'->(∀(xs ys:Array Value) (r:Bool),(Op.equalIn 10000 t (.agg xs) (.agg ys)).run P w= .ok r w->(binOp op' t (.agg xs) (.agg ys)).run P w= .ok (.bool (g r)) w)->(match ev T x,ev T y with
  |some (.v (.agg a)),some (.v (.agg b))=>match zvt P 20 t with
   |some ks=>bif zcv ks a.toList&&zcv ks b.toList&& !P.eqGuardType P.depth t&&zcu P t then some (true,Eff.val (.v (.bool (g (eqL a.toList b.toList)))))else none
   |none=>none
  |_,_=>zfQ P T o)=some (true,e)->o.wp P a w K Q:=by
  intro op' g hop' hrun he;subst hop';split at he
  ·rename_i xs ys hx hy
   cases hk:zvt P 20 t with
   |none=>simp [hk]at he
   |some ks=>
    simp only [hk]at he;cases hc:(zcv ks xs.toList&&zcv ks ys.toList&& !P.eqGuardType P.depth t&&zcu P t)with
    |false=>simp [hc]at he
    |true=>
     simp only [hc,cond_true]at he;simp only [Bool.and_eq_true,Bool.not_eq_true']at hc;obtain⟨_,rfl⟩:=inz he;have ex:=(h.ev hx).v_inv;have ey:=(h.ev hy).v_inv;have hr:=hrun xs ys _ (zzT hk hc.1.1.1 hc.1.1.2 hc.2 w);refine zcp h hd (v:=.bool (g (eqL xs.toList ys.toList))) ?_ (.v _ _) hK;simp only [execOp,ho,ex,ey,Sem.run_bind,run_eqGuard_agg w op t x y xs ys hc.1.2,Result.andThen_ok,hr,Sem.run_pure]
  ·exact zdB h hd hsel he hK
 unfold zTP at he;cases op<;>simp only at he
 case shl=>exact sh .shl rfl (.inl rfl) he
 case shr=>exact sh .shr rfl (.inr rfl) he
 case quo=>exact qr .quo (fun k a b=>k.wrap (a.tdiv b)) rfl (fun k p q hq=>by simp [binOp,Op.intDiv,hq]) he
 case rem=>exact qr .rem (fun k a b=>a.tmod b) rfl (fun k p q hq=>by simp [binOp,Op.intDiv,hq]) he
 case eql=>exact eqs .eql id rfl (fun xs ys r hr=>by rw [run_eql_struct w,hr];rfl) he
 case neq=>exact eqs .neq (fun b=> !b) rfl (fun xs ys r hr=>by rw [run_neq_struct w,hr];rfl) he
 all_goals exact zdB h hd hsel he hK
theorem zMt(h:SR B N w0 T M ρ St a w)(hd:∀t,o.dst=some t->t<N){c x y:Operand}(ho:o.op= .pick c x y){e:Eff}(he:zOH T c x y=some (true,e))
 (hK:zj3 B N w0 (zfL T o.dst e) (zej M n e) (cr e) n ρ St K):o.wp P a w K Q:=by
 unfold zOH at he;split at he
 ·rename_i g hc
  have ec:=(h.ev hc).v_inv;split at he
  ·rename_i p q hx hy
   obtain⟨_,rfl⟩:=inz he;refine zcp h hd (v:=.bool (bif g then p else q)) ?_ (.v _ _) hK;simp only [execOp,ho,ec,(h.ev hx).v_inv,(h.ev hy).v_inv,asBool,Sem.run_bind,Sem.run_pure,Result.andThen_ok];cases g<;>rfl
  ·rename_i p hx _
   obtain⟨hg,rfl⟩:=inz he;subst hg;refine zcp h hd (v:=.bool p) ?_ (.v _ _) hK;simp only [execOp,ho,ec,(h.ev hx).v_inv,asBool,Sem.run_bind,Sem.run_pure,Result.andThen_ok,if_true]
  ·rename_i p hy _
   obtain⟨hg,rfl⟩:=inz he;have hg:g=false:=by simpa using hg
   subst hg;refine zcp h hd (v:=.bool p) ?_ (.v _ _) hK;simp only [execOp,ho,ec,(h.ev hy).v_inv,asBool,Sem.run_bind,Sem.run_pure,Result.andThen_ok,Bool.false_eq_true,if_false]
  ·cases he
 ·cases he
theorem zpt{i:Int}{l:Nat}(h:(decide (0<=i)&&decide (i<(l:Int)))=true):0<=i/\i<(l:Int):=by simpa using h
theorem zgZ{e:TypeId}(h:ziJ P e=true):∃i,P.info? e=some i:=by
 unfold ziJ at h;cases hi:P.info? e with
 |none=>simp [hi]at h
 |some i=>exact⟨i,rfl⟩
theorem zyA(h:SR B N w0 T M ρ St a w)(hd:∀t,o.dst=some t->t<N){t:TypeId}{x y:Operand}(ho:o.op= .indexAddr t x y){e:Eff}(he:zp1 P T t x y=some (true,e))
 (hK:zj3 B N w0 (zfL T o.dst e) (zej M n e) (cr e) n ρ St K):o.wp P a w K Q:=by
 unfold zp1 at he;split at he
 ·rename_i k i hy
  have ey:=(h.ev hy).v_inv;split at he
  ·rename_i len el hu
   cases hh:ziJ P el with
   |false=>simp [hh]at he
   |true=>
    obtain⟨ii,hi⟩:=zgZ hh;simp only [hh,cond_true]at he;split at he
    ·rename_i s oo hx
     obtain⟨hb,rfl⟩:=inz he;have hb:=zpt hb;obtain⟨b,g,z,g1,g2⟩:=(h.ev hx).lp_inv;refine zcp h hd (v:=.pointer (some ⟨b,g+(oo+i.toNat*P.cellsOf el),none⟩)) ?_ (.lp _ _ _ _ _ _ g1) hK;simp only [execOp,ho,ey,g2,Instr.indexAt,asIntOf,Sem.run_bind,Sem.run_pure,Result.andThen_ok,run_underlying hu,Instr.sureAddr,hb,and_self,if_true,run_sizeOf w hi,Addr.add_none,Nat.add_assoc]
    ·rename_i c oo hx
     obtain⟨hb,rfl⟩:=inz he;have hb:=zpt hb;obtain⟨b,q,xs,g1,g2,g3,g4⟩:=(h.ev hx).fp_inv;refine zcp h hd (v:=.pointer (some ⟨b,q+(oo+i.toNat*P.cellsOf el),none⟩)) ?_ (.fp _ _ _ _ _ _ g1 g2 g3) hK;simp only [execOp,ho,ey,g4,Instr.indexAt,asIntOf,Sem.run_bind,Sem.run_pure,Result.andThen_ok,run_underlying hu,Instr.sureAddr,hb,and_self,if_true,run_sizeOf w hi,Addr.add_none,Nat.add_assoc]
    ·cases he
  ·rename_i el hu
   cases hh:ziJ P el with
   |false=>simp [hh]at he
   |true=>
    obtain⟨ii,hi⟩:=zgZ hh;simp only [hh,cond_true]at he;split at he
    ·rename_i s oo l zz hx
     obtain⟨hb,rfl⟩:=inz he;have hb:=zpt hb;obtain⟨b,g,sz,c,aa,g1,g2,g3,g4,g5⟩:=(h.ev hx).ls_inv;have g3:=g3 zc;refine zcp h hd (v:=.pointer (some ⟨b,g+(oo+i.toNat*P.cellsOf el),none⟩)) ?_ (.lp _ _ _ _ _ _ g1) hK;simp only [execOp,ho,ey,g5,g3,Instr.indexAt,asIntOf,Sem.run_bind,Sem.run_pure,Result.andThen_ok,run_underlying hu,hb,and_self,if_true,run_sizeOf w hi,Addr.add_none,Nat.add_assoc]
    ·rename_i c oo l zz hx
     obtain⟨hb,rfl⟩:=inz he;have hb:=zpt hb;obtain⟨b,q,cp,aa,xs,g1,g2,g3,g4,g5,g6⟩:=(h.ev hx).fs_inv;have g2:=g2 zc;refine zcp h hd (v:=.pointer (some ⟨b,q+(oo+i.toNat*P.cellsOf el),none⟩)) ?_ (.fp _ _ _ _ _ _ g3 g4 g5) hK;simp only [execOp,ho,ey,g6,g2,Instr.indexAt,asIntOf,Sem.run_bind,Sem.run_pure,Result.andThen_ok,run_underlying hu,hb,and_self,if_true,run_sizeOf w hi,Addr.add_none,Nat.add_assoc]
    ·cases he
  ·cases he
 ·cases he
theorem zIl(h:SR B N w0 T M ρ St a w)(hd:∀t,o.dst=some t->t<N){t:TypeId}{x y:Operand}(ho:o.op= .index t x y){e:Eff}(he:zEC P T t x y=some (true,e))
 (hK:zj3 B N w0 (zfL T o.dst e) (zej M n e) (cr e) n ρ St K):o.wp P a w K Q:=by
 unfold zEC at he;split at he
 ·rename_i k i cs hy hx
  have ey:=(h.ev hy).v_inv;have ex:=(h.ev hx).v_inv;split at he
  ·rename_i len el hu
   cases hk:zvs P 20 el with
   |none=>simp [hk]at he
   |some ks=>
    simp only [hk]at he;obtain⟨de,hde⟩:=zIj hk;cases hl:Nat.beq ks.length (P.cellsOf el)with
    |false=>simp [hl]at he
    |true=>
     simp only [hl,cond_true]at he;have hl:=Nat.eq_of_beq_eq_true hl;generalize hf:zkQ (cs.toList.map .v) (i.toNat*P.cellsOf el) ks=r at he;obtain⟨bb,l⟩:=r;have fin:∀v,(decide (0<=i)&&decide (i<(len:Int))&&bb)=true->(∀(j:Nat) (x:Value),l[j]? =some x->cs[i.toNat*P.cellsOf el+j]? =some x)->l.length=P.cellsOf el->
      (zcu P el=true->v= .agg l.toArray)->(zcu P el=false->l=[v])->(execOp a.eval o).run P w= .ok (.value v) w:=by
      intro v hb hcell hlen h1 h2;simp only [Bool.and_eq_true]at hb;have hb':=zpt (by simpa using hb.1);simp only [execOp,ho,ey,ex,Instr.index,asIntOf,Sem.run_bind,Sem.run_pure,Result.andThen_ok,run_underlying hu,hb',and_self,if_true,zmt hde];unfold part;simp only [Sem.run_bind,zp5 hde,Result.andThen_ok];cases ha:zcu P el with
      |true=>
       rw [h1 ha];simp only [if_true,Sem.run_bind,zmt hde,Result.andThen_ok,Sem.run_pure];congr 3
       have:(cs.extract (i.toNat*P.cellsOf el) (i.toNat*P.cellsOf el+P.cellsOf el)).toList=l:=by
        apply List.ext_getElem?
        intro j;rw [Array.toList_extract,List.extract_eq_take_drop,List.getElem?_take];by_cases hj:j<P.cellsOf el
        ·have:=hcell j l[j] (by simp [hlen,hj])
         simp only [Nat.add_sub_cancel_left,hj,if_true,List.getElem?_drop,Array.getElem?_toList,this];simp [hlen,hj]
        ·simp only [Nat.add_sub_cancel_left,hj,if_false]
         rw [List.getElem?_eq_none zc]
       rw [<-this]
      |false=>
       have e2:=h2 ha;have:=hcell 0 v (by rw [e2];rfl);rw [Nat.add_zero]at this;simp only [Bool.false_eq_true,if_false,this,Sem.run_pure];rfl
     have cells:bb=true->l.length=P.cellsOf el/\∀(j:Nat) (x:Value),l[j]? =some x->cs[i.toNat*P.cellsOf el+j]? =some x:=by
      intro hb;subst hb;obtain⟨h1,h2⟩:=zj2 _ _ _ _ hf;refine⟨by rw [h1,hl],fun j x hx=> ?_⟩;have:=h2 j x hx;simpa using this
     cases ha:zcu P el with
     |true=>
      simp only [ha,cond_true]at he;obtain⟨hb,rfl⟩:=inz he;obtain⟨c1,c2⟩:=cells (by simp only [Bool.and_eq_true]at hb;exact hb.2);exact zcp h hd (fin _ hb c2 c1 (fun _=>rfl) (fun e=>by rw [ha]at e;cases e)) (.v _ _) hK
     |false=>
      simp only [ha,cond_false]at he;match l,he,fin,cells with
      |[v],he,fin,cells=>
       obtain⟨hb,rfl⟩:=inz he;obtain⟨c1,c2⟩:=cells (by simp only [Bool.and_eq_true]at hb;exact hb.2);exact zcp h hd (fin v hb c2 c1 (fun e=>by rw [ha]at e;cases e) (fun _=>rfl)) (.v _ _) hK
      |[],he,_,_=>cases he
      |_::_::_,he,_,_=>cases he
  ·cases he
 ·cases he
end
section
variable{P:Program}{S:FuncId->List VV->Option (Bool×VV)}{ro:List Nat}{B N:Nat}{w0:World}{T:Nat->Option VV}{m mf M:Nat->Option Blk}{ρ:Rho}{St:Nat->Prop}{a:Act}{w:World}{n:Nat}
 {o:Oper} {K:Act->World->Prop} {Q:Exit->Act->World->Prop}
theorem zzU(h:SR B N w0 T M ρ St a w)(hd:∀t,o.dst=some t->t<N){x:Operand}(ho:o.op= .move x\/o.op= .assign x){e:Eff}(he:((ev T x).map fun a=>(true,Eff.val a))=some (true,e))
 (hK:zj3 B N w0 (zfL T o.dst e) (zej M n e) (cr e) n ρ St K):o.wp P a w K Q:=by
 cases hx:ev T x with
 |none=>simp [hx]at he
 |some y=>
  simp only [hx,Option.map_some]at he;obtain⟨_,rfl⟩:=inz he;refine zcp h hd (v:=a.eval x) ?_ (h.ev hx) hK;rcases ho with ho|ho<;>simp only [execOp,ho]<;>rfl
theorem zIm(h:SR B N w0 T M ρ St a w)(hd:∀t,o.dst=some t->t<N)(hn:ρ n=none){t:TypeId}(ho:o.op= .alloc t){e:Eff}
 (he:(match(P.info? t).bind (·.zero)with
 |some z=>bif z.cells.toList.all Value.oneCell' then some (true,Eff.alloc (.lp n 0) ⟨z.cells.toList.map .v,true⟩)else none
 |none=>none)=some (true,e))
 (hK:zj3 B N w0 (zfL T o.dst e) (zej M n e) (cr e) n ρ St K):o.wp P a w K Q:=by
 cases hz:(P.info? t).bind (·.zero)with
 |none=>simp [hz]at he
 |some z=>
  simp only [hz]at he;cases hc:z.cells.toList.all Value.oneCell' with
  |false=>simp [hc]at he
  |true=>
   simp only [hc,cond_true]at he;obtain⟨_,rfl⟩:=inz he;obtain⟨i,hi,hiz⟩:=Option.bind_eq_some_iff.1 hz;refine zEK h hd hn (v:=.pointer (some ⟨w.heap.size,0,none⟩)) (cs:=z.cells) (ty:=t) ?_ jq ?_ ?_ hK
   ·simp [execOp,ho,Instr.alloc,zeroValue,typeInfo,hi,hiz,newVar,newRow]
   ·intro j y hy
    simp only [List.getElem?_map,Option.map_eq_some_iff,Array.getElem?_toList]at hy;obtain⟨u,hu,rfl⟩:=hy;exact⟨u,hu,(List.all_eq_true.1 hc) u (Array.mem_toList_iff.2 (Array.mem_of_getElem? hu)),zeQ.v _⟩
   ·have:=Rel.lp (St:=St) (w:=w.alloc (.cells z.cells t)) (ziB ρ n (w.heap.size,0,z.cells.size)) n 0 w.heap.size 0 z.cells.size (by simp [ziB])
    simpa using this
theorem zPG(h:SR B N w0 T M ρ St a w)(hd:∀t,o.dst=some t->t<N)(hn:ρ n=none){t:TypeId}{x:Operand}(ho:o.op= .box t x){e:Eff}
 (he:(match(ev T x).bind zcJ with
 |some (c,b)=>bif c.all ztK then some (true,Eff.alloc (.lp n 0) ⟨c,b⟩)else none
 |none=>none)=some (true,e))
 (hK:zj3 B N w0 (zfL T o.dst e) (zej M n e) (cr e) n ρ St K):o.wp P a w K Q:=by
 cases hz:(ev T x).bind zcJ with
 |none=>simp [hz]at he
 |some cb=>
  obtain⟨c,b⟩:=cb;simp only [hz]at he;cases hc:c.all ztK with
  |false=>simp [hc]at he
  |true=>
   simp only [hc,cond_true]at he;obtain⟨_,rfl⟩:=inz he;obtain⟨X,hX,hf⟩:=Option.bind_eq_some_iff.1 hz;obtain⟨f1,f2⟩:=zlf hf (h.ev hX);refine zEK h hd hn (v:=.pointer (some ⟨w.heap.size,0,none⟩)) (cs:=(a.eval x).cells) (ty:=t) ?_ (by rw [f1];exact Nat.le_refl _) ?_ ?_ hK
   ·simp [execOp,ho,Instr.box,newVar,newRow]
   ·intro j y hy
    obtain⟨u,hu,hr⟩:=f2 j y hy;exact⟨u,hu,zte ((List.all_eq_true.1 hc) y (List.mem_of_getElem? hy)) hr.1,hr⟩
   ·have:=Rel.lp (St:=St) (w:=w.alloc (.cells (a.eval x).cells t)) (ziB ρ n (w.heap.size,0,(a.eval x).cells.size)) n 0 w.heap.size 0 (a.eval x).cells.size (by simp [ziB])
    simpa using this
theorem zMu(h:SR B N w0 T M ρ St a w)(hm:∀s k,m s=some k->M s=some k)(hd:∀t,o.dst=some t->t<N){t:TypeId}{x:Operand}(ho:o.op= .load t x){e:Eff}
 (he:(match ev T x with
 |some (.lp s o)=>match m s with
  |some b=>(ztS P t b.c o).map fun(b,x)=>(b,Eff.val x)
  |none=>none
 |some (.fp c o)=>(ztS P t c o).map fun(b,x)=>(b,Eff.val x)
 |_=>none)=some (true,e)) (hu:∃d,P.underlying t=some d)
 (hK:zj3 B N w0 (zfL T o.dst e) (zej M n e) (cr e) n ρ St K):o.wp P a w K Q:=by
 have fin:∀{b q oo:Nat} {c:List VV},a.eval x= .pointer (some ⟨b,q+oo,none⟩)->((ztS P t c oo).map fun(b,x)=>(b,Eff.val x))=some (true,e)->
  (∀(i:Nat) (y:VV),c[i]? =some y->∃u,w.cell? ⟨b,q+i,none⟩=some u/\Rel St w ρ y u)->o.wp P a w K Q:=by
  intro b q oo c hx he hc;cases hr:ztS P t c oo with
  |none=>simp [hr]at he
  |some r=>
   obtain⟨bb,X⟩:=r;simp only [hr,Option.map_some]at he;obtain⟨rfl,rfl⟩:=inz he;obtain⟨v,h1,h2⟩:=zxP hr hu hc;refine zcp h hd (v:=v) ?_ h2 hK;simp only [execOp,ho,hx,Instr.loadAt,Instr.sureAddr,Sem.run_bind,Sem.run_pure,Result.andThen_ok,h1]
 split at he
 ·rename_i s oo hx
  cases hms:m s with
  |none=>simp [hms]at he
  |some k=>
   simp only [hms]at he;obtain⟨b,g,z,g1,g2,_,g3⟩:=h.blk (hm s k hms);obtain⟨b',g',z',q1,q2⟩:=(h.ev hx).lp_inv;rw [g1]at q1;cases q1;refine fin q2 he (fun i y hy=> ?_);obtain⟨u,⟨h1,_⟩,h2⟩:=g3 i y hy;exact⟨u,h1,h2.1⟩
 ·rename_i c oo hx
  obtain⟨b,q,xs,g1,g2,g3,g4⟩:=(h.ev hx).fp_inv;exact fin g4 he (fun i y hy=>⟨_,(g2 i y hy).1,by rw [g3 i y hy];exact .v _ _⟩)
 ·cases he
theorem zIn(h:SR B N w0 T M ρ St a w)(hmf:∀s k,mf s=some k->M s=some k){t:TypeId}{x y:Operand}(ho:o.op= .store t x y){e:Eff}
 (he:(match ev T x,(ev T y).bind zcJ with
 |some (.lp s oo),some (c,b)=>match mf s with
  |some k=>bif Nat.beq c.length (P.cellsOf t)&&o.dst.isNone&&c.all ztK&&ziJ P t then
    some (decide (oo+P.cellsOf t<=k.c.length),Eff.store s ⟨k.c.take oo++c++k.c.drop (oo+P.cellsOf t),k.closed&&b⟩)else none
  |none=>none
 |_,_=>none)=some (true,e))
 (hK:zj3 B N w0 (zfL T o.dst e) (zej M n e) (cr e) n ρ St K):o.wp P a w K Q:=by
 split at he
 ·rename_i s oo c b hx hy
  cases hms:mf s with
  |none=>simp [hms]at he
  |some k=>
   simp only [hms]at he;cases hc:(Nat.beq c.length (P.cellsOf t)&&o.dst.isNone&&c.all ztK&&ziJ P t)with
   |false=>simp [hc]at he
   |true=>
    simp only [hc,cond_true]at he;obtain⟨hb,rfl⟩:=inz he;have hb:oo+P.cellsOf t<=k.c.length:=by simpa using hb
    simp only [Bool.and_eq_true]at hc;have hT:=hc.2;have hc:=hc.1;have hlen:=Nat.eq_of_beq_eq_true hc.1.1;obtain⟨X,hX,hf⟩:=Option.bind_eq_some_iff.1 hy;obtain⟨f1,f2⟩:=zlf hf (h.ev hX);obtain⟨bb,g,cs,ty,g1,g2,g3,g4,g5,g6⟩:=h.mem s k (hmf s k hms);obtain⟨b',g',z',q1,q2⟩:=(h.ev hx).lp_inv;rw [g1]at q1;cases q1;obtain⟨i,hi⟩:=zgZ hT;have h1:∀v∈(a.eval y).cells.toList,v.oneCell'=true:=by
     intro v hv;obtain⟨j,hj,hjv⟩:=List.getElem_of_mem hv;have hj':j<c.length:=by rw [<-f1];simpa using hj
     obtain⟨u,hu,hr⟩:=f2 j c[j] (by simp [hj']);have:u=v:=by rw [<-Array.getElem?_toList,List.getElem?_eq_getElem hj,hjv]at hu;cases hu;rfl
     rw [<-this];exact zte ((List.all_eq_true.1 hc.2) _ (List.getElem_mem hj')) hr.1
    have hvl:(a.eval y).cells.toList.length=P.cellsOf t:=by rw [<-hlen, <-f1];simp
    have hst:=run_storeCells_at P bb (g+oo) ty (a.eval y).cells.toList 0 cs w g2 (by rw [hvl];omega) h1;simp only [Nat.add_zero]at hst;unfold Oper.wp;have hrun:(execOp a.eval o).run P w= .ok .skip (w.setRow bb (cs.toList.take (g+oo)++(a.eval y).cells.toList++cs.toList.drop (g+oo+(a.eval y).cells.toList.length)).toArray):=by
     simp only [execOp,ho,q2,Instr.storeAt,Instr.sureAddr,storeVar,Sem.run_bind,Sem.run_pure,Result.andThen_ok,run_sizeOf w hi];rw [if_neg (by rw [f1,hlen];simp),hst];rfl
    rw [hrun];have hdn:o.dst=none:=by cases hh:o.dst<;>simp_all
    have hput:a.put o.dst undef=a:=by rw [hdn];rfl
    simp only [Oper.upon,hput];refine hK ρ St a _ (fun _ _=>rfl) (fun _ h=>h) ?_;have hsz:(cs.toList.take (g+oo)++(a.eval y).cells.toList++cs.toList.drop (g+oo+(a.eval y).cells.toList.length)).toArray.size=cs.size:=by
     simp only [List.size_toArray,List.length_append,List.length_take,List.length_drop,Array.length_toList]at hvl⊢;omega
    have hT':zfL T o.dst (.store s ⟨k.c.take oo++c++k.c.drop (oo+P.cellsOf t),k.closed&&b⟩)=T:=rfl;rw [hT'];refine h.store (hmf s k hms) g1 g2 (fun b' hb'=>setRow_other w bb b' _ hb') (setRow_heap w bb cs _ ty _ g2) hsz ((below_setRow (Below.refl B w) g3 _)) ?_ ?_
    ·rw [hsz]
     simp only [List.length_append,List.length_take,List.length_drop];omega
    ·intro j z hj
     rw [List.getElem?_toArray];by_cases c1:j<oo
     ·rw [List.append_assoc,List.getElem?_append_left (by simp;omega),List.getElem?_take,if_pos c1]at hj
      obtain⟨u,hu,o1,hr⟩:=g6 j z hj;refine⟨u,?_,o1,hr.and⟩;rw [List.append_assoc,List.getElem?_append_left (by simp;omega),List.getElem?_take,if_pos zc];simpa using hu
     ·by_cases c2:j<oo+P.cellsOf t
      ·have e1:(k.c.take oo).length=oo:=by simp;omega
       rw [List.append_assoc,List.getElem?_append_right zc,e1,List.getElem?_append_left zc]at hj;obtain⟨u,hu,hr⟩:=f2 _ z hj;refine⟨u,?_,zte ((List.all_eq_true.1 hc.2) _ (List.mem_of_getElem? hj)) hr.1,hr.and'⟩;have e2:(cs.toList.take (g+oo)).length=g+oo:=by simp;omega
       rw [List.append_assoc,List.getElem?_append_right zc,e2,List.getElem?_append_left (by rw [hvl];omega),show g+j-(g+oo)=j-oo from zc];simpa using hu
      ·have e1:(k.c.take oo++c).length=oo+P.cellsOf t:=by simp;omega
       rw [List.getElem?_append_right zc,e1,List.getElem?_drop,show oo+P.cellsOf t+(j-(oo+P.cellsOf t))=j from zc]at hj;obtain⟨u,hu,o1,hr⟩:=g6 j z hj;refine⟨u,?_,o1,hr.and⟩;have e2:(cs.toList.take (g+oo)++(a.eval y).cells.toList).length=g+oo+P.cellsOf t:=by rw [List.length_append,hvl];simp;omega
       rw [List.getElem?_append_right zc,e2,hvl,List.getElem?_drop,show g+oo+P.cellsOf t+(g+j-(g+oo+P.cellsOf t))=g+j from zc];simpa using hu
 ·cases he
theorem zyB(h:SR B N w0 T M ρ St a w)(hd:∀t,o.dst=some t->t<N){t:TypeId}{x:Operand}{f:Nat}(ho:o.op= .fieldAddr t x f){e:Eff}
 (he:(match P.underlying t with
 |some (.struct fs)=>match fs[f]? with
  |some f=>bif Nat.beq (P.cellsOf f.type) 0 then none else(match ev T x with
   |some (.lp s o)=>some (true,Eff.val (.lp s (o+f.offset)))
   |some (.fp c o)=>some (true,Eff.val (.fp c (o+f.offset)))
   |_=>none)
  |none=>none
 |_=>none)=some (true,e))
 (hK:zj3 B N w0 (zfL T o.dst e) (zej M n e) (cr e) n ρ St K):o.wp P a w K Q:=by
 split at he
 ·rename_i fs hu
  cases hf:fs[f]? with
  |none=>simp [hf]at he
  |some fl=>
   simp only [hf]at he;cases hz:Nat.beq (P.cellsOf fl.type) 0 with
   |true=>simp [hz]at he
   |false=>
    simp only [hz,cond_false]at he;have hne:P.cellsOf fl.type≠0:=fun e=>by rw [e]at hz;simp at hz
    obtain⟨i,hi⟩:∃i,P.info? fl.type=some i:=by
     cases hi:P.info? fl.type with
     |none=>simp [Program.cellsOf,hi]at hne
     |some i=>exact⟨i,rfl⟩
    split at he
    ·rename_i s oo hx
     obtain⟨_,rfl⟩:=inz he;obtain⟨b,g,z,g1,g2⟩:=(h.ev hx).lp_inv;refine zcp h hd (v:=.pointer (some ⟨b,g+(oo+fl.offset),none⟩)) ?_ (.lp _ _ _ _ _ _ g1) hK;simp only [execOp,ho,g2,Instr.fieldAt,fieldPlace,Sem.run_bind,Sem.run_pure,Result.andThen_ok,run_underlying hu,hf,Instr.sureAddr,run_sizeOf w hi,Sem.run_ite,if_neg hne,Addr.add_none,Nat.add_assoc]
    ·rename_i c oo hx
     obtain⟨_,rfl⟩:=inz he;obtain⟨b,q,xs,g1,g2,g3,g4⟩:=(h.ev hx).fp_inv;refine zcp h hd (v:=.pointer (some ⟨b,q+(oo+fl.offset),none⟩)) ?_ (.fp _ _ _ _ _ _ g1 g2 g3) hK;simp only [execOp,ho,g4,Instr.fieldAt,fieldPlace,Sem.run_bind,Sem.run_pure,Result.andThen_ok,run_underlying hu,hf,Instr.sureAddr,run_sizeOf w hi,Sem.run_ite,if_neg hne,Addr.add_none,Nat.add_assoc]
    ·cases he
 ·cases he
end
section
variable{P:Program}{S:FuncId->List VV->Option (Bool×VV)}{ro:List Nat}{B N:Nat}{w0:World}{T:Nat->Option VV}{m mf M:Nat->Option Blk}{ρ:Rho}{St:Nat->Prop}{a:Act}{w:World}{n:Nat}
 {o:Oper} {K:Act->World->Prop} {Q:Exit->Act->World->Prop}
theorem zsa(h:SR B N w0 T M ρ St a w){d:Nat}{x:Option Operand}{p:Nat}(hb:zdo T d x=some (true,p)):
 (x=none/\p=d)\/∃y k,x=some y/\a.eval y= .int k (p:Int):=by
 cases x with
 |none=>simp only [zdo,Option.some.injEq,Prod.mk.injEq,true_and]at hb;exact .inl ⟨rfl,hb.symm⟩
 |some y=>
  simp only [zdo]at hb;split at hb
  ·rename_i k i hy
   simp only [Option.some.injEq,Prod.mk.injEq,decide_eq_true_eq]at hb;obtain⟨h0,rfl⟩:=hb;refine .inr ⟨y,k,rfl,?_⟩;rw [(h.ev hy).v_inv,Int.toNat_of_nonneg h0]
  ·cases hb
theorem zuu(h:SR B N w0 T M ρ St a w){lo hi:Option Operand}{p c len cap:Nat}{isS:Bool}(h1:zdo T 0 lo=some (true,p))(h2:zdo T len hi=some (true,c))(hpc:p<=c)(hc:c<=cap):
 (Instr.sliceBounds isS len cap (lo.map a.eval) (hi.map a.eval) none).run P w= .ok (p,c,cap) w:=by
 have b2:∀(code:BoundsCode),(∀y k,hi=some y->a.eval y= .int k (c:Int)->(Instr.sliceBound (.int k (c:Int)) cap code).run P w= .ok c w):=fun code y k _ _=>by
  simp [Instr.sliceBound,asIntOf,hc]
 have b1:∀(code:BoundsCode),(∀y k,lo=some y->a.eval y= .int k (p:Int)->(Instr.sliceBound (.int k (p:Int)) c code).run P w= .ok p w):=fun code y k _ _=>by
  simp [Instr.sliceBound,asIntOf,hpc]
 unfold Instr.sliceBounds;rcases zsa h h1 with⟨rfl,rfl⟩|⟨y,k,rfl,hy⟩
 ·rcases zsa h h2 with⟨rfl,rfl⟩|⟨y',k',rfl,hy'⟩
  ·simp
  ·simp [hy',b2 _ y' k' rfl hy']
 ·rcases zsa h h2 with⟨rfl,rfl⟩|⟨y',k',rfl,hy'⟩
  ·simp [hy,b1 _ y k rfl hy]
  ·simp [hy,hy',b1 _ y k rfl hy,b2 _ y' k' rfl hy']
theorem zIo(h:SR B N w0 T M ρ St a w)(hm:∀s k,m s=some k->M s=some k)(hd:∀t,o.dst=some t->t<N){t:TypeId}{x:Operand}{lo hi:Option Operand}(ho:o.op= .slice t x lo hi none){e:Eff}
 (he:zED P T m t x lo hi=some (true,e)) (hK:zj3 B N w0 (zfL T o.dst e) (zej M n e) (cr e) n ρ St K):o.wp P a w K Q:=by
 unfold zED at he;split at he
 ·rename_i el hu
  cases hh:ziJ P el with
  |false=>simp [hh]at he
  |true=>
   obtain⟨ii,hi'⟩:=zgZ hh;simp only [hh,cond_true]at he;split at he
   ·rename_i s oo l z hx
    split at he
    ·rename_i b p b' c h1 h2
     cases hz:Nat.beq z (P.cellsOf el)with
     |false=>simp [hz]at he
     |true=>
      simp only [hz,cond_true]at he;have hz:=Nat.eq_of_beq_eq_true hz;obtain⟨hb,rfl⟩:=inz he;simp only [Bool.and_eq_true,decide_eq_true_eq]at hb;obtain⟨⟨⟨rfl,rfl⟩,hpc⟩,hcl⟩:=hb;obtain⟨bb,g,sz,cp,aa,g1,g2,g3,g4,g5⟩:=(h.ev hx).ls_inv;refine zcp h hd (v:=.slice (if cp=p then aa else aa.map (·.add (p*P.cellsOf el))) (c-p) (cp-p)) ?_ ?_ hK
      ·simp only [execOp,ho,g5,Instr.sliceAt,Instr.slice,Sem.run_bind,Sem.run_pure,Result.andThen_ok,run_underlying hu,Option.map_none,zuu h h1 h2 hpc (Nat.le_trans hcl g2),run_sizeOf w hi']
      ·refine .ls _ _ _ _ _ _ _ _ _ _ g1 zc (fun hc=> ?_) (fun hc=> ?_)
       ·rw [if_neg zc,g3 zc]
        simp only [Option.map_some,Addr.add_none,Nat.add_assoc]
       ·have:=g4 zc
        rw [hz]at this⊢;rw [Nat.sub_mul];have:p*P.cellsOf el<=cp*P.cellsOf el:=Nat.mul_le_mul_right _ zc;omega
    ·cases he
   ·rename_i q oo l z hx
    split at he
    ·rename_i b p b' c h1 h2
     obtain⟨hb,rfl⟩:=inz he;simp only [Bool.and_eq_true,decide_eq_true_eq]at hb;obtain⟨⟨⟨rfl,rfl⟩,hpc⟩,hcl⟩:=hb;obtain⟨bb,qq,cp,aa,xs,g1,g2,g3,g4,g5,g6⟩:=(h.ev hx).fs_inv;refine zcp h hd (v:=.slice (if cp=p then aa else aa.map (·.add (p*P.cellsOf el))) (c-p) (cp-p)) ?_ ?_ hK
     ·simp only [execOp,ho,g6,Instr.sliceAt,Instr.slice,Sem.run_bind,Sem.run_pure,Result.andThen_ok,run_underlying hu,Option.map_none,zuu h h1 h2 hpc (Nat.le_trans hcl g1),run_sizeOf w hi']
     ·refine .fs _ _ _ _ _ bb qq _ _ xs zc (fun hc=> ?_) g3 g4 g5
      rw [if_neg zc,g2 zc];simp only [Option.map_some,Addr.add_none,Nat.add_assoc]
    ·cases he
   ·cases he
 ·rename_i len el hu
  cases hh:ziJ P el with
  |false=>simp [hh]at he
  |true=>
   obtain⟨ii,hi'⟩:=zgZ hh;simp only [hh,cond_true]at he;split at he
   ·rename_i s oo hx
    split at he
    ·rename_i b p b' c k h1 h2 hms
     obtain⟨hb,rfl⟩:=inz he;simp only [Bool.and_eq_true,decide_eq_true_eq]at hb;obtain⟨⟨⟨⟨rfl,rfl⟩,hpc⟩,hcl⟩,hfit⟩:=hb;obtain⟨bb,g,cs,ty,q1,q2,q3,q4,q5,q6⟩:=h.mem s k (hm s k hms);obtain⟨b',g',z',g1,g2⟩:=(h.ev hx).lp_inv;rw [q1]at g1;cases g1;refine zcp h hd (v:=.slice (some (if len=p then⟨bb,g+oo,none⟩else(⟨bb,g+oo,none⟩:Addr).add (p*P.cellsOf el))) (c-p) (len-p)) ?_ ?_ hK
     ·simp only [execOp,ho,g2,Instr.sliceAt,Instr.sureAddr,Sem.run_bind,Sem.run_pure,Result.andThen_ok,run_underlying hu,Option.map_none,zuu h h1 h2 hpc hcl,run_sizeOf w hi']
     ·refine .ls _ _ _ _ _ _ _ _ _ _ q1 zc (fun hc=> ?_) (fun hc=> ?_)
      ·rw [if_neg zc]
       simp only [Addr.add_none,Nat.add_assoc]
      ·rw [Nat.sub_mul]
       have:p*P.cellsOf el<=len*P.cellsOf el:=Nat.mul_le_mul_right _ zc;omega
    ·cases he
   ·cases he
 ·cases he
theorem zsb(h:SR B N w0 T M ρ St a w)(hd:∀t,o.dst=some t->t<N){g:FuncId}{cs:Array Operand}(ho:∀w,(execOp a.eval o).run P w= .ok (.value (mkF g (cs.map a.eval))) w){e:Eff}
 (he:(match evs T cs.toList with
 |some l=>some (true,Eff.val (.fn g l))
 |none=>none)=some (true,e)) (hK:zj3 B N w0 (zfL T o.dst e) (zej M n e) (cr e) n ρ St K):o.wp P a w K Q:=by
 cases hl:evs T cs.toList with
 |none=>simp [hl]at he
 |some l=>
  simp only [hl]at he;obtain⟨_,rfl⟩:=inz he;obtain⟨s1,s2⟩:=zcw (zzS hl);refine zcp h hd (v:=mkF g (cs.map a.eval)) ?_ ?_ hK
  ·exact ho _
  ·have sp:∀(i:Nat) (y:VV),l[i]? =some y->∃v,(cs.map a.eval)[i]? =some v/\Rel St w ρ y v:=by
    intro i y hy;obtain⟨x,hx,hf⟩:=s2 i y hy;rw [Array.getElem?_toList]at hx;exact⟨a.eval x,by simp [hx],h.ev hf⟩
   obtain⟨xs,hxs⟩:=zIg sp;exact .fn _ _ _ _ xs (by simp [s1]) (fun i x hx=>(hxs i x hx).1) (fun i x hx=>(hxs i x hx).2)
theorem zIp(h:SR B N w0 T M ρ St a w)(hd:∀t,o.dst=some t->t<N){t:TypeId}{x:Operand}(ho:o.op= .sliceToArrayPointer t x){e:Eff}
 (he:(match P.underlying t with
 |some (.array k _)=>match ev T x with
  |some (.ls s o l _)=>some (decide (k<=l)&&decide (0<k),Eff.val (.lp s o))
  |some (.fs c o l _)=>some (decide (k<=l)&&decide (0<k),Eff.val (.fp c o))
  |_=>none
 |_=>none)=some (true,e)) (hK:zj3 B N w0 (zfL T o.dst e) (zej M n e) (cr e) n ρ St K):o.wp P a w K Q:=by
 split at he
 ·rename_i k el hu
  split at he
  ·rename_i s oo l z hx
   obtain⟨hb,rfl⟩:=inz he;simp only [Bool.and_eq_true,decide_eq_true_eq]at hb;obtain⟨bb,g,sz,cp,aa,g1,g2,g3,g4,g5⟩:=(h.ev hx).ls_inv;refine zcp h hd (v:=.pointer (some ⟨bb,g+oo,none⟩)) ?_ (.lp _ _ _ _ _ _ g1) hK;simp only [execOp,ho,g5,Instr.arrayAt,Sem.run_bind,Sem.run_pure,Result.andThen_ok,run_underlying hu,if_neg (show¬l<k from zc),g3 zc]
  ·rename_i c oo l z hx
   obtain⟨hb,rfl⟩:=inz he;simp only [Bool.and_eq_true,decide_eq_true_eq]at hb;obtain⟨bb,qq,cp,aa,xs,g1,g2,g3,g4,g5,g6⟩:=(h.ev hx).fs_inv;refine zcp h hd (v:=.pointer (some ⟨bb,qq+oo,none⟩)) ?_ (.fp _ _ _ _ _ _ g3 g4 g5) hK;simp only [execOp,ho,g6,Instr.arrayAt,Sem.run_bind,Sem.run_pure,Result.andThen_ok,run_underlying hu,if_neg (show¬l<k from zc),g2 zc]
  ·cases he
 ·cases he
theorem zBE(h:SR B N w0 T M ρ St a w)(hd:∀t,o.dst=some t->t<N){x:Operand}{i:Nat}(ho:o.op= .extract x i){e:Eff}
 (he:(match ev T x with
 |some (.tup l)=>(l[i]?).map fun a=>(true,Eff.val a)
 |_=>zfQ P T o)=some (true,e)) (hK:zj3 B N w0 (zfL T o.dst e) (zej M n e) (cr e) n ρ St K):o.wp P a w K Q:=by
 split at he
 ·rename_i l hx
  cases hl:l[i]? with
  |none=>simp [hl]at he
  |some y=>
   simp only [hl,Option.map_some]at he;obtain⟨_,rfl⟩:=inz he;obtain⟨vs,xs,g1,g2,g3,g4⟩:=(h.ev hx).tup_inv;refine zcp h hd (v:=xs i) ?_ (g3 i y hl) hK;simp only [execOp,ho,g4,Instr.extract,g2 i y hl,Sem.run_bind,Sem.run_pure,Result.andThen_ok]
 ·exact zdB h hd (fun cs b=>by rw [ho];simp) he hK
theorem zzV:∀(l:List VV) (q:List UInt8),zxM l=(true,q)->∃ns:List Int,l=ns.map (fun k=>.v (.int .u8 k))/\q=ns.map (fun k=>UInt8.ofNat k.toNat)
 |[],q,h=>by simp [zxM]at h;subst h;exact⟨[],rfl,rfl⟩
 |x::r,q,h=>by
  simp only [zxM]at h;generalize hr:zxM r=p at h;obtain⟨b,l'⟩:=p;simp only [Prod.mk.injEq,Bool.and_eq_true]at h;obtain⟨⟨h1,rfl⟩,rfl⟩:=h;obtain⟨ns,i1,i2⟩:=zzV r l' hr;cases x with
  |v y=>
   cases y<;>simp [isI]at h1
   subst h1;rename_i k;exact⟨k::ns,by rw [i1];rfl,by rw [i2];rfl⟩
  |_=>simp [isI]at h1
theorem zzW:∀(ns:List Int) (s:ByteArray),ns.foldl (fun r n=>r.push (UInt8.ofNat n.toNat)) s=⟨(s.data.toList++ns.map (fun k=>UInt8.ofNat k.toNat)).toArray⟩
 |[],s=>by simp
 |n::ns,s=>by
  rw [List.foldl_cons,zzW ns];congr 1
  apply Array.ext'
  simp [ByteArray.push]
theorem zBF(h:SR B N w0 T M ρ St a w)(hm:∀s k,m s=some k->M s=some k)(hd:∀t,o.dst=some t->t<N){s d:TypeId}{x:Operand}(ho:o.op= .convert s d x){e:Eff}
 (he:(match P.underlying s,P.underlying d with
 |some (.slice el),some .string=>match P.underlying el with
  |some (.int .u8)=>match ev T x with
   |some a=>match zdP m a with
    |some (p,l,z,_)=>match zxM (p.take l)with
     |(b,l')=>some (b&&(Nat.beq z 1||Nat.beq l 0)&&decide (l<=p.length),Eff.val (.v (.string ⟨l'.toArray⟩)))
    |none=>none
   |none=>none
  |_=>none
 |_,_=>zfQ P T o)=some (true,e)) (hK:zj3 B N w0 (zfL T o.dst e) (zej M n e) (cr e) n ρ St K):o.wp P a w K Q:=by
 split at he
 ·rename_i el hu hv
  split at he
  ·rename_i hel
   split at he
   ·rename_i X hX
    cases hs:zdP m X with
    |none=>simp [hs]at he
    |some r=>
     obtain⟨p,l,z,cl⟩:=r;simp only [hs]at he;generalize hb:zxM (p.take l)=q at he;obtain⟨b,l'⟩:=q;simp only at he;obtain⟨hb',rfl⟩:=inz he;simp only [Bool.and_eq_true,decide_eq_true_eq]at hb';obtain⟨⟨rfl,_⟩,hle⟩:=hb';obtain⟨base,c,g1,g2,g3⟩:=zrM h hm hs (h.ev hX);obtain⟨ns,i1,i2⟩:=zzV _ _ hb;refine zcp h hd (v:=.string ⟨l'.toArray⟩) ?_ (.v _ _) hK;have hlen:ns.length=l:=by have:=congrArg List.length i1;simp at this;omega
     have key:(Conv.bytesToString (.slice base l c)).run P w= .ok (.string ⟨l'.toArray⟩) w:=by
      by_cases h0:l=0
      ·subst h0
       have e0:ns=[]:=List.eq_nil_of_length_eq_zero hlen;subst e0;rw [i2];cases base with
       |none=>simp [Conv.bytesToString];rfl
       |some ad=>
        have:=run_bytesToString (P:=P) w ad 0 c [] (by simp [loadCells,loadCellsFrom]);rw [this];rfl
      ·obtain⟨b0,q0,rfl,hcell⟩:=g3 zc
       have hl:=run_loadCells_list (P:=P) w ⟨b0,q0,none⟩ (ns.map (Value.int .u8)) (fun j v hj=>by
        simp only [List.getElem?_map,Option.map_eq_some_iff]at hj;obtain⟨k,hk,rfl⟩:=hj;have hp:p[j]? =some (.v (.int .u8 k)):=by
         have:(p.take l)[j]? =some (.v (.int .u8 k)):=by rw [i1];simp [hk]
         rw [List.getElem?_take]at this;split at this
         ·exact this
         ·cases this
        obtain⟨u,u1,_,u2⟩:=hcell j _ hp
        rw [Addr.add_none,u1,u2.1.v_inv])
       rw [List.length_map,hlen]at hl;rw [run_bytesToString w _ l c ns hl,zzW,i2];rfl
     simp only [execOp,ho,g1,convert,Sem.run_bind,run_underlying hu,run_underlying hv,run_underlying hel,Result.andThen_ok,key,Sem.run_pure]
   ·cases he
  ·cases he
 ·exact zdB h hd (fun cs b=>by rw [ho];simp) he hK
theorem zzX(off:Nat):∀(vs:List Value) (j:Nat) (cs:Array Value),off+j+vs.length<=cs.size->
 ((vs.zipIdx j).foldl (fun cs (p:Value×Nat)=>cs.setIfInBounds (off+p.2) p.1) cs).toList=cs.toList.take (off+j)++vs++cs.toList.drop (off+j+vs.length)
 |[],j,cs,_=>by simp
 |v::vs,j,cs,h=>by
  simp only [List.zipIdx_cons,List.foldl_cons];rw [zzX off vs (j+1) _ (by simp at h⊢;omega)];simp only [Array.toList_setIfInBounds];have e:=list_seg_step cs.toList (off+j) v vs (by simp at h⊢;omega);simpa [Nat.add_assoc]using e
theorem zDX{sz:Nat}:∀(ps:List (Nat×Value)) (i:Nat) (cs:Array Value),(∀p∈ps,p.2.cells.size=sz)->(∀(j:Nat) (p:Nat×Value),ps[j]? =some p->p.1=i+j)->(i+ps.length)*sz<=cs.size->
 ∃r,Instr.fill (fun i=>some (i*sz,sz)) cs ps=some r/\r.toList=cs.toList.take (i*sz)++(ps.map fun p=>p.2.cells.toList).flatten++cs.toList.drop ((i+ps.length)*sz)
 |[],i,cs,_,_,_=>⟨cs,rfl,jq⟩
 |(j,v)::ps,i,cs,h1,h2,h3=>by
  have hj:j=i:=by simpa using h2 0 (j,v) rfl
  subst hj;have hv:v.cells.size=sz:=h1 (j,v) jq;have e3:(j+(ps.length+1))*sz=j*sz+sz+ps.length*sz:=by rw [Nat.add_mul,Nat.add_mul];omega
  rw [List.length_cons,e3]at h3;have hfs:=zzX (j*sz) v.cells.toList 0 cs (by simp [hv];omega);have hze:v.cells.zipIdx.foldl (fun cs (c,k)=>cs.setIfInBounds (j*sz+k) c) cs=(v.cells.toList.zipIdx 0).foldl (fun cs (p:Value×Nat)=>cs.setIfInBounds (j*sz+p.2) p.1) cs:=by
   rw [<-Array.foldl_toList,Array.toList_zipIdx]
  generalize hq:v.cells.zipIdx.foldl (fun cs (c,k)=>cs.setIfInBounds (j*sz+k) c) cs=q at hze;rw [<-hze]at hfs;have hqs:q.size=cs.size:=by
   rw [<-Array.length_toList,hfs];simp [hv];omega
  obtain⟨r,r1,r2⟩:=zDX ps (j+1) q (fun p hp=>h1 p (by simp [hp])) (fun k p hp=>by have:=h2 (k+1) p (by simpa using hp);omega) (by rw [hqs,Nat.add_mul,Nat.add_mul];omega);refine⟨r,?_,?_⟩
  ·have hcond: ¬((decide (v.cells.size≠sz)||decide (j*sz+v.cells.size>cs.size))=true):=by simp [hv];omega
   unfold Instr.fill;simp only;rw [if_neg hcond,hq];exact r1
  ·rw [r2,hfs]
   simp only [Nat.add_zero,List.map_cons,List.flatten_cons,List.length_cons];have l1:(cs.toList.take (j*sz)++v.cells.toList).length=(j+1)*sz:=by simp [hv,Nat.add_mul];omega
   rw [List.take_left' l1];have l2:(cs.toList.take (j*sz)++v.cells.toList++cs.toList.drop (j*sz+v.cells.toList.length)).drop ((j+1+ps.length)*sz)=cs.toList.drop ((j+(ps.length+1))*sz):=by
    rw [List.drop_append,l1];have e4:(j+1+ps.length)*sz-(j+1)*sz=ps.length*sz:=by rw [Nat.add_mul (j+1)];omega
    rw [List.drop_eq_nil_of_le (by rw [l1,Nat.add_mul (j+1)];omega),e4,List.nil_append,List.drop_drop];congr 1
    simp [hv,Nat.add_mul];omega
   rw [l2];simp
theorem zxS(h:SR B N w0 T M ρ St a w){sz:Nat}:∀(ps:List (Nat×Operand)) (i:Nat) (c:List VV) (b:Bool),ziI T sz i ps=some (c,b)->
 (∀p∈ps,(a.eval p.2).cells.size=sz)/\(∀(j:Nat) (p:Nat×Operand),ps[j]? =some p->p.1=i+j)/\c.length=ps.length*sz/\
 ∀(k:Nat) (y:VV),c[k]? =some y->∃u,(ps.map fun p=>(a.eval p.2).cells.toList).flatten[k]? =some u/\zeQ St w ρ b y u
 |[],i,c,b,hc=>by
  simp only [ziI,Option.some.injEq,Prod.mk.injEq]at hc;obtain⟨rfl,rfl⟩:=hc;exact⟨jq,jq,jq,jq⟩
 |(j,x)::r,i,c,b,hc=>by
  simp only [ziI]at hc;cases hij:Nat.beq i j with
  |false=>simp [hij]at hc
  |true=>
   have hij:=Nat.eq_of_beq_eq_true hij;subst hij;simp only [Nat.beq_refl,cond_true]at hc;cases hx:ev T x with
   |none=>simp [hx]at hc
   |some X=>
    simp only [hx]at hc;cases hf:zcJ X with
    |none=>simp [hf]at hc
    |some cb=>
     obtain⟨c1,b1⟩:=cb;simp only [hf]at hc;cases hl:Nat.beq c1.length sz with
     |false=>simp [hl]at hc
     |true=>
      simp only [hl,cond_true]at hc;have hl:=Nat.eq_of_beq_eq_true hl;cases hr:ziI T sz (i+1) r with
      |none=>simp [hr]at hc
      |some qb=>
       obtain⟨q,b2⟩:=qb;simp only [hr,Option.some.injEq,Prod.mk.injEq]at hc;obtain⟨rfl,rfl⟩:=hc;obtain⟨f1,f2⟩:=zlf hf (h.ev hx);obtain⟨p1,p2,p3,p4⟩:=zxS h r (i+1) q b2 hr;refine⟨?_,?_,?_,?_⟩
       ·intro p hp
        rcases List.mem_cons.1 hp with rfl|hp
        ·rw [f1,hl]
        ·exact p1 p hp
       ·intro k p hp
        cases k with
        |zero=>simp at hp;subst hp;rfl
        |succ k=>have:=p2 k p (by simpa using hp);omega
       ·simp [p3,hl,Nat.add_mul];omega
       ·intro k y hy
        simp only [List.map_cons,List.flatten_cons];by_cases hk:k<c1.length
        ·rw [List.getElem?_append_left hk]at hy
         obtain⟨u,hu,hrel⟩:=f2 k y hy;refine⟨u,by rw [List.getElem?_append_left (by simpa [f1]using hk)];simpa using hu,?_⟩;exact hrel.and
        ·rw [List.getElem?_append_right zc]at hy
         obtain⟨u,hu,hrel⟩:=p4 _ y hy;refine⟨u,by rw [List.getElem?_append_right (by simp [f1];omega)];simpa [f1]using hu,?_⟩
         exact hrel.and'
theorem zwK(h:SR B N w0 T M ρ St a w)(hd:∀t,o.dst=some t->t<N)(hn:ρ n=none){t:TypeId}{len:Nat}{parts:Array (Nat×Operand)}(ho:o.op= .buildSlice t len parts){e:Eff}
 (he:(match P.underlying t with
 |some (.slice el)=>match ziI T (P.cellsOf el) 0 parts.toList with
  |some (c,b)=>bif Nat.beq parts.size len&&Nat.ble (len*P.cellsOf el) 1000&&c.all ztK&&ziJ P el&&(P.info? el).any (·.zero.isSome)then
    (bif o.dst.any (fun d=>ro.any (Nat.beq d))&&b then some (true,Eff.val (.fs c 0 len (P.cellsOf el)))
    else some (true,Eff.alloc (.ls n 0 len (P.cellsOf el)) ⟨c,b⟩))else none
  |none=>none
 |_=>none)=some (true,e)) (hK:zj3 B N w0 (zfL T o.dst e) (zej M n e) (cr e) n ρ St K):o.wp P a w K Q:=by
 split at he
 ·rename_i el hu
  cases hp:ziI T (P.cellsOf el) 0 parts.toList with
  |none=>simp [hp]at he
  |some cb=>
   obtain⟨c,b⟩:=cb;simp only [hp]at he;cases hc:(Nat.beq parts.size len&&Nat.ble (len*P.cellsOf el) 1000&&c.all ztK&&ziJ P el&&(P.info? el).any (·.zero.isSome))with
   |false=>simp [hc]at he
   |true=>
    simp only [hc,cond_true]at he;simp only [Bool.and_eq_true]at hc;obtain⟨⟨⟨⟨c1,c2⟩,c3⟩,c4⟩,c5⟩:=hc;have c1:=Nat.eq_of_beq_eq_true c1;have c2:=Nat.le_of_ble_eq_true c2;obtain⟨ii,hi⟩:=zgZ c4;have hz:∃z,ii.zero=some z:=by
     rw [hi]at c5;simp only [Option.any_some]at c5;exact Option.isSome_iff_exists.1 c5
    obtain⟨z,hz⟩:=hz;obtain⟨p1,p2,p3,p4⟩:=zxS h parts.toList 0 c b hp;have hll:parts.toList.length=len:=by rw [Array.length_toList,c1]
    have hfill:∀z0:Array Value,∃r,Instr.fill (fun i=>some (i*P.cellsOf el,P.cellsOf el)) ((Array.range (len*P.cellsOf el)).map (z0[· %z0.size]!)) ((parts.map fun(i,x)=>(i,a.eval x)).toList)=some r/\
     r.toList=(parts.toList.map fun p=>(a.eval p.2).cells.toList).flatten:=by
     intro z0
     obtain⟨r,r1,r2⟩:=zDX (sz:=P.cellsOf el) ((parts.map fun(i,x)=>(i,a.eval x)).toList) 0 ((Array.range (len*P.cellsOf el)).map (z0[· %z0.size]!)) (by
      intro p hp;simp only [Array.toList_map,List.mem_map]at hp;obtain⟨q,hq,rfl⟩:=hp;exact p1 q hq) (by
      intro j p hp;simp only [Array.toList_map,List.getElem?_map,Option.map_eq_some_iff]at hp;obtain⟨q,hq,rfl⟩:=hp
      exact p2 j q hq) (by simp [c1])
     refine⟨r,r1,?_⟩;rw [r2];simp only [Nat.zero_mul,List.take_zero,List.nil_append,Nat.zero_add];rw [List.drop_eq_nil_of_le (by simp [c1]),List.append_nil];congr 1
     simp only [Array.toList_map,List.map_map];rfl
    obtain⟨r,r1,r2⟩:=hfill (if len*P.cellsOf el=0 then #[]else z.cells);have hrun:(execOp a.eval o).run P w= .ok (.value (.slice (some ⟨w.heap.size,0,none⟩) len len)) (w.alloc (.cells r el)):=by
     have r1':=r1;simp only [execOp,ho,Instr.buildSlice,Sem.run_bind,Sem.run_pure,Result.andThen_ok,run_underlying hu,run_sizeOf w hi];rw [if_neg zc];by_cases h0:len*P.cellsOf el=0
     ·simp only [h0,if_true,Sem.run_pure,Sem.run_bind,Result.andThen_ok]at r1'⊢
      rw [r1'];simp [newRow]
     ·simp only [if_neg h0,Sem.run_pure,Sem.run_bind,Result.andThen_ok,zeroValue,typeInfo,run_program,hi,hz]at r1'⊢
      rw [r1'];simp [newRow]
    have hrs:r.size=len*P.cellsOf el:=by
     rw [<-Array.length_toList,r2,List.length_flatten,List.map_map];have:∀l:List (Nat×Operand),(∀p∈l,(a.eval p.2).cells.size=P.cellsOf el)->(l.map (List.length∘fun p=>(a.eval p.2).cells.toList)).sum=l.length*P.cellsOf el:=by
      intro l;induction l with
      |nil=>intro _;simp
      |cons p l ih=>intro hl;simp [ih (fun p hp=>hl p (by simp [hp])),hl p jq,Nat.add_mul];omega
     rw [this _ p1,hll]
    have hkk:∀(i:Nat) (y:VV),c[i]? =some y->∃u,r[i]? =some u/\u.oneCell'=true/\zeQ St w ρ b y u:=by
     intro i y hy;obtain⟨u,hu,hr⟩:=p4 i y hy;refine⟨u,by rw [<-Array.getElem?_toList,r2];exact hu,zte ((List.all_eq_true.1 c3) y (List.mem_of_getElem? hy)) hr.1,hr⟩
    cases hro:(o.dst.any (fun d=>ro.any (Nat.beq d))&&b)with
    |false=>
     simp only [hro,cond_false]at he;obtain⟨_,rfl⟩:=inz he;refine zEK h hd hn hrun (by rw [hrs,p3,hll];exact Nat.le_refl _) hkk ?_ hK;exact .ls _ _ _ _ _ _ 0 _ _ _ (by simp [ziB];rfl) (Nat.le_refl _) (fun _=>rfl) (fun _=>by rw [hrs];omega)
    |true=>
     simp only [hro,cond_true]at he;simp only [Bool.and_eq_true]at hro;obtain⟨_,rfl⟩:=hro;obtain⟨_,rfl⟩:=inz he;unfold Oper.wp;rw [hrun];obtain⟨xs,hxs⟩:=zIg hkk;have hbe:Below w.heap.size w (w.alloc (.cells r el)):=(Below.refl _ _).alloc (Nat.le_refl _) _;refine hK ρ (fun b=>St b\/b=w.heap.size) _ _ (fun _ _=>rfl) (fun _ h=>.inl h) (h.val hd hbe (fun _ h=>.inl h) (fun b hb=> ?_) ?_)
     ·rcases hb with hb|rfl
      ·exact⟨.inl hb,Nat.lt_of_lt_of_le (h.st b hb) hbe.size⟩
      ·exact⟨.inr (Nat.le_refl _),jq⟩
     ·refine .fs _ _ _ _ _ w.heap.size 0 _ _ xs (Nat.le_refl _) (fun _=>rfl) (fun _ _ _=>.inr rfl) (fun i x hx=>⟨?_,(hxs i x hx).2.1⟩) (fun i x hx=> ?_)
      ·rw [cell_of_row _ _ _ r el (0,0) (heap_alloc_new w _),Nat.zero_add];exact(hxs i x hx).1
      ·exact(hxs i x hx).2.2.2 rfl
 ·cases he
end
section
variable{P:Program}{S:FuncId->List VV->Option (Bool×VV)}{ro:List Nat}{B N:Nat}{w0:World}{T:Nat->Option VV}{m mf M:Nat->Option Blk}{ρ:Rho}{St:Nat->Prop}{a:Act}{w:World}{n:Nat}
 {o:Oper} {K:Act->World->Prop} {Q:Exit->Act->World->Prop}
theorem zOI(L:List VV):∀(k j:Nat),j<k*L.length->(List.replicate k L).flatten[j]? =L[j%L.length]?
 |0,j,h=>by simp at h
 |k+1,j,h=>by
  simp only [List.replicate_succ,List.flatten_cons];by_cases hj:j<L.length
  ·rw [List.getElem?_append_left hj,Nat.mod_eq_of_lt hj]
  ·rw [List.getElem?_append_right zc,zOI L k (j-L.length) (by rw [Nat.add_mul,Nat.one_mul]at h;omega)]
   congr 1
   exact(Nat.mod_eq_sub_mod zc).symm
theorem zyC(h:SR B N w0 T M ρ St a w)(hd:∀t,o.dst=some t->t<N)(hn:ρ n=none){t:TypeId}{x y:Operand}(ho:o.op= .makeSlice t x y){e:Eff}
 (he:(match P.underlying t with
 |some (.slice e)=>match ev T x,ev T y,(P.info? e).bind (·.zero)with
  |some (.v (.int .i64 l)),some (.v (.int .i64 c)),some z=>bif z.cells.toList.all Value.oneCell'&&Nat.beq z.cells.size (P.cellsOf e)&&Nat.blt 0 (P.cellsOf e)&&ziJ P e then
    some (decide (0<=l)&&decide (l=c)&&decide (l.toNat*(1+P.bytesOf e)<=zg9),Eff.alloc (.ls n 0 l.toNat (P.cellsOf e)) ⟨(List.replicate l.toNat (z.cells.toList.map VV.v)).flatten,true⟩)else none
  |_,_,_=>none
 |_=>none)=some (true,e)) (hK:zj3 B N w0 (zfL T o.dst e) (zej M n e) (cr e) n ρ St K):o.wp P a w K Q:=by
 split at he
 ·rename_i el hu
  split at he
  ·rename_i l c z hx hy hz
   cases hc:(z.cells.toList.all Value.oneCell'&&Nat.beq z.cells.size (P.cellsOf el)&&Nat.blt 0 (P.cellsOf el)&&ziJ P el)with
   |false=>rw [hc]at he;cases he
   |true=>
    rw [hc]at he;simp only [cond_true]at he;simp only [Bool.and_eq_true]at hc;obtain⟨⟨⟨c1,c2⟩,c3⟩,c4⟩:=hc;have c2:=Nat.eq_of_beq_eq_true c2;have c3:0<P.cellsOf el:=by simp [Nat.blt]at c3;omega
    obtain⟨ii,hi⟩:=zgZ c4;have hz':ii.zero=some z:=by rw [hi]at hz;simpa using hz
    obtain⟨hb,rfl⟩:=inz he;simp only [Bool.and_eq_true,decide_eq_true_eq]at hb;obtain⟨⟨h0,rfl⟩,hbig⟩:=hb;unfold zg9 at hbig;have ex:=(h.ev hx).v_inv;have ey:=(h.ev hy).v_inv;obtain⟨k,rfl⟩:=Int.eq_ofNat_of_zero_le h0;simp only [Int.toNat_natCast]at hbig⊢;have hk1:k<=1099511627776:=Nat.le_trans (Nat.le_mul_of_pos_right k zc) hbig;have hbytes:P.bytesOf el=ii.bytes:=by simp [Program.bytesOf,hi]
    have hkb:k*ii.bytes<=1099511627776:=by rw [<-hbytes];exact Nat.le_trans (Nat.mul_le_mul_left k zc) hbig
    have hw:IntKind.i64.wrap (k:Int)=(k:Int):=IntWalk.i64_in _ zc;have hcast:((ii.bytes:Int)*(k:Int))<=1099511627776:=by
     have e:((ii.bytes:Int)*(k:Int))=((k*ii.bytes:Nat):Int):=by rw [Int.natCast_mul,Int.mul_comm]
     rw [e];omega
    refine zEK h hd hn (v:=.slice (some ⟨w.heap.size,0,none⟩) k k) (cs:=(Array.range (k*P.cellsOf el)).map (z.cells[· %z.cells.size]!)) (ty:=el) ?_ ?_ ?_ ?_ hK
    ·simp only [execOp,ho,ex,ey,Instr.makeSlice,Sem.run_bind,run_underlying hu,Result.andThen_ok,asInt,asIntOf,Sem.run_pure,typeInfo,run_program,hi,hw]
     rw [if_neg (by simp;omega)];simp only [Sem.run_bind,run_askRoom,Result.andThen_ok,Int.toNat_natCast,run_sizeOf w hi];by_cases hk0:k*P.cellsOf el=0
     ·have er:∀f:Nat->Value,(Array.range 0).map f=#[]:=fun f=>by simp
      simp only [hk0,if_true,newRow,er,Sem.run_bind,Sem.run_pure,Result.andThen_ok,run_newObj_alloc]
     ·simp only [if_neg hk0,Sem.run_bind,zeroValue,typeInfo,run_program,hi,hz',Result.andThen_ok,Sem.run_pure]
      simp [newRow]
    ·simp [List.length_flatten,c2]
    ·intro j u hj
     have hjl:j<k*P.cellsOf el:=by
      have:=(List.getElem?_eq_some_iff.1 hj).1;simpa [List.length_flatten,c2]using this
     rw [zOI _ _ _ (by simpa [c2]using hjl)]at hj;simp only [List.length_map,Array.length_toList,List.getElem?_map,Option.map_eq_some_iff,Array.getElem?_toList]at hj;obtain⟨v,hv,rfl⟩:=hj;refine⟨v,?_,(List.all_eq_true.1 c1) v (Array.mem_toList_iff.2 (Array.mem_of_getElem? hv)),zeQ.v _⟩;have hm:j%z.cells.size<z.cells.size:=Nat.mod_lt _ zc;rw [Array.getElem?_eq_getElem hm]at hv;simp [hjl,hm,Option.some.inj hv]
    ·exact .ls _ _ _ _ _ _ 0 _ _ _ (by simp [ziB];rfl) (Nat.le_refl _) (fun _=>rfl) (fun _=>by simp)
  ·cases he
 ·cases he
theorem zxT{t ty e:TypeId}{i:TypeInfo}(ht:P.underlying t=some (.slice e))(hi:P.info? e=some i){base xb:Option Addr}{l cap k xc:Nat}{news:Array Value}{w':World}
 (hf:(Builtin.firstCells i.size k (.slice xb k xc)).run P w= .ok news w) (hroom:l+k<=cap) (hst:∀ad,base=some ad->(storeCells (ad.add (l*i.size)) news.toList).run P w= .ok () w') (hno:base=none->w'=w):
 (Builtin.append_ #[t,t] ty #[.slice base l cap,.slice xb k xc]).run P w= .ok (.slice base (l+k) cap) w':=by
 cases base with
 |none=>
  have:=hno rfl;subst this;simp [Builtin.append_,run_underlying ht,sizeOf,typeInfo,hi,Builtin.lenOf,hroom,hf]
 |some ad=>
  have:=hst ad rfl;simp [Builtin.append_,run_underlying ht,sizeOf,typeInfo,hi,Builtin.lenOf,hroom,hf,this]
theorem zIq{t ty e:TypeId}{i:TypeInfo}{z:Value}(ht:P.underlying t=some (.slice e))(hi:P.info? e=some i)(hz:i.zero=some z){base xb:Option Addr}{l cap k xc:Nat}{news olds:Array Value}
 (hf:(Builtin.firstCells i.size k (.slice xb k xc)).run P w.drew= .ok news w.drew) (hfo:(Builtin.firstCells i.size l (.slice base l cap)).run P w.drew= .ok olds w.drew) (hg:cap<l+k)
 (h63:((l+k:Nat):Int)<=9223372036854775807) (hfit:Builtin.nextslicecap (l+k) cap*i.bytes<=281474976710656):
 (Builtin.append_ #[t,t] ty #[.slice base l cap,.slice xb k xc]).run P w=
   .ok (.slice (some ⟨w.heap.size,0,none⟩) (l+k) (grownCap w (l+k) cap e)) (w.drew.alloc (.cells (olds++news++Builtin.zeroCells z.cells (grownCap w (l+k) cap e-(l+k))) e)):=by
 have hn: ¬(l+k<=cap):=zc;have h63': ¬(9223372036854775807<((l:Int)+(k:Int))):=zc;have h48': ¬(281474976710656<Builtin.nextslicecap (l+k) cap*i.bytes):=zc;simp [Builtin.append_,run_underlying ht,sizeOf,typeInfo,zeroValue,hi,hz,Builtin.lenOf,hn,h63',h48',Question.forced,hf,hfo,newRow,grownCap]
theorem zpu{w':World}(hw':∀p,w'.cell? p=w.cell? p){base:Option Addr}{c l sz:Nat}{p:List VV}{cl:Bool}(hle:l<=c)(hp:l*sz<=p.length)
 (hc:0<c->∃b q,base=some ⟨b,q,none⟩/\∀(i:Nat) (y:VV),p[i]? =some y->∃u,w.cell? ⟨b,q+i,none⟩=some u/\u.oneCell'=true/\zeQ St w ρ cl y u):
 ∃arr:Array Value,(Builtin.firstCells sz l (.slice base l c)).run P w'= .ok arr w'/\arr.size=l*sz/\
  ∀(i:Nat) (y:VV),(p.take (l*sz))[i]? =some y->∃u,arr[i]? =some u/\u.oneCell'=true/\zeQ St w ρ cl y u:=by
 by_cases h0:l=0
 ·subst h0
  refine⟨#[],?_,jq,jq⟩;cases base<;>simp [Builtin.firstCells,loadCells,loadCellsFrom]
 ·obtain⟨b,q,rfl,hcell⟩:=hc zc
  obtain⟨xs,hxs⟩:=zIg hcell
  have hl:=run_loadCells (P:=P) w' ⟨b,q,none⟩ (l*sz) xs (fun j hj=>by
   rw [hw',Addr.add_none];exact(hxs j p[j] (by simp [show j<p.length from zc])).1)
  refine⟨((List.range (l*sz)).map xs).toArray,by simp only [Builtin.firstCells];exact hl,jq,fun i y hy=> ?_⟩;rw [List.getElem?_take]at hy;split at hy
  ·rename_i hi
   exact⟨xs i,by simp [hi],(hxs i y hy).2⟩
  ·cases hy
theorem zTW{ka kb:Bool}{A Bq:List VV}{X Y Z:Array Value}(hA:X.size=A.length)
 (h1:∀(i:Nat) (y:VV),A[i]? =some y->∃u,X[i]? =some u/\u.oneCell'=true/\zeQ St w ρ ka y u)
 (h2:∀(i:Nat) (y:VV),Bq[i]? =some y->∃u,Y[i]? =some u/\u.oneCell'=true/\zeQ St w ρ kb y u):
 ∀(i:Nat) (y:VV),(A++Bq)[i]? =some y->∃u,(X++Y++Z)[i]? =some u/\u.oneCell'=true/\zeQ St w ρ (ka&&kb) y u:=by
 intro i y hy;by_cases hi:i<A.length
 ·rw [List.getElem?_append_left hi]at hy
  obtain⟨u,hu,o1,hr⟩:=h1 i y hy;refine⟨u,?_,o1,?_⟩
  ·rw [Array.getElem?_append,Array.getElem?_append]
   have:i<X.size:=zc;rw [if_pos (by simp;omega),if_pos this];exact hu
  ·exact hr.and
 ·rw [List.getElem?_append_right zc]at hy
  obtain⟨u,hu,o1,hr⟩:=h2 _ y hy;refine⟨u,?_,o1,?_⟩
  ·have hlt:=(zy hu)
   rw [Array.getElem?_append,Array.getElem?_append];simp only [Array.size_append];rw [if_pos zc,if_neg zc,hA];exact hu
  ·exact hr.and'
theorem zPH(h:SR B N w0 T M ρ St a w)(hm:∀s k,m s=some k->M s=some k)(hd:∀t,o.dst=some t->t<N)(hn:ρ n=none){c:Call}(ho:o.op= .call c)(hcal:c.callee= .builtin .append){e:Eff}
 (he:zPB P T m n c=some (true,e)) (hK:zj3 B N w0 (zfL T o.dst e) (zej M n e) (cr e) n ρ St K):o.wp P a w K Q:=by
 obtain⟨callee,args,argTypes⟩:=c;simp only at hcal;subst hcal;unfold zPB at he;split at he
 ·rename_i x y t t' e1 e2
  simp only at e1 e2;subst e1;subst e2;split at he
  ·rename_i A Bv el hA hB hu
   cases hs:zdP m Bv with
   |none=>simp [hs]at he
   |some r=>
    obtain⟨q,l',z',cl'⟩:=r;simp only [hs]at he;cases hc:(Nat.beq t t'&&Nat.beq z' (P.cellsOf el)&&zok P el)with
    |false=>simp [hc]at he
    |true=>
     simp only [hc,cond_true]at he;simp only [Bool.and_eq_true]at hc;obtain⟨⟨c1,c2⟩,c3⟩:=hc;have c1:=Nat.eq_of_beq_eq_true c1;subst c1;obtain⟨ii,z,hi,hz,hzs⟩:∃ii z,P.info? el=some ii/\ii.zero=some z/\z.cells.size=P.cellsOf el:=by
      unfold zok at c3;cases hh:(P.info? el).bind (·.zero)with
      |none=>simp [hh]at c3
      |some z=>
       obtain⟨ii,h1,h2⟩:=Option.bind_eq_some_iff.1 hh;simp only [hh]at c3;exact⟨ii,z,h1,h2,Nat.eq_of_beq_eq_true c3⟩
     have hsz:ii.size=P.cellsOf el:=by simp [Program.cellsOf,hi]
     have hby:P.bytesOf el=ii.bytes:=by simp [Program.bytesOf,hi]
     obtain⟨xb,xc,b1,b2,b3⟩:=zrM h hm hs (h.ev hB);have runs:∀(base:Option Addr) (l cap:Nat) (v:Value) (w':World),a.eval x= .slice base l cap->(Builtin.append_ #[t,t] o.type #[.slice base l cap,.slice xb l' xc]).run P w= .ok v w'->(execOp a.eval o).run P w= .ok (.value v) w':=by
      intro base l cap v w' hx hr;simp only [execOp,ho,resolve,invoke,builtin,Sem.run_bind,Sem.run_pure,Result.andThen_ok,List.map_toArray,List.map_cons,List.map_nil,hx,b1,hr]
     have newsw:∀w',(∀p,w'.cell? p=w.cell? p)->l'*P.cellsOf el<=q.length->∃arr:Array Value,(Builtin.firstCells ii.size l' (.slice xb l' xc)).run P w'= .ok arr w'/\arr.size=l'*P.cellsOf el/\
      ∀(i:Nat) (y:VV),(q.take (l'*P.cellsOf el))[i]? =some y->∃u,arr[i]? =some u/\u.oneCell'=true/\zeQ St w ρ cl' y u:=by
      intro w' hw' hq;rw [hsz];exact zpu hw' b2 hq b3
     have grow:∀(s0:Option Nat) (base:Option Addr) (l cap:Nat) (k1:List VV) (kcl:Bool),a.eval x= .slice base l cap->cap<l+l'->l<=cap->l*P.cellsOf el=k1.length->
      (0<cap->∃b q,base=some ⟨b,q,none⟩/\∀(i:Nat) (y:VV),k1[i]? =some y->∃u,w.cell? ⟨b,q+i,none⟩=some u/\u.oneCell'=true/\zeQ St w ρ kcl y u)->
      l'*P.cellsOf el<=q.length->(l+l')*(1+P.bytesOf el)<=zg9->
      zj3 B N w0 (zms T o.dst (.ls n 0 (l+l') (P.cellsOf el))) (ziL (zut M s0) n ⟨k1++q.take (l'*P.cellsOf el),kcl&&cl'⟩) true n ρ St K->o.wp P a w K Q:=by
      intro s0 base l cap k1 kcl hx hcap hlc hk1 hcell hq hbig hK;have hb1:l+l'<=1099511627776:=Nat.le_trans (Nat.le_mul_of_pos_right _ zc) hbig;have hb2:(l+l')*ii.bytes<=1099511627776:=by rw [<-hby];exact Nat.le_trans (Nat.mul_le_mul_left _ zc) hbig
      obtain⟨news,n1,n2,n3⟩:=newsw w.drew (fun p=>rfl) hq;obtain⟨olds,o1,o2,o3⟩:=zpu (P:=P) (St:=St) (w:=w) (w':=w.drew) (sz:=P.cellsOf el) (fun p=>rfl) hlc (Nat.le_of_eq hk1) hcell;rw [<-hsz]at o1;have hr:=zIq (ty:=o.type) hu hi hz n1 o1 hcap zc (growslice_fits hcap zc);have hge:=grownCap_ge w (l+l') cap el;generalize hcs:olds++news++Builtin.zeroCells z.cells (grownCap w (l+l') cap el-(l+l'))=cs at hr;have hcsz:cs.size=grownCap w (l+l') cap el*P.cellsOf el:=by
       rw [<-hcs];simp only [Array.size_append,size_zeroCells,hzs,o2,n2, <-Nat.add_mul];congr 1
       omega
      unfold Oper.wp;rw [runs base l cap _ _ hx hr];have hbe:Below w.heap.size w (w.drew.alloc (.cells cs el)):=(Below.refl _ _).drew.alloc (Nat.le_refl _) _;refine hK (ziB ρ n (w.heap.size,0,cs.size)) St _ _ (fun s hs=>zr8 hs) (fun _ h=>h) ?_;refine h.new (s0:=s0) hd hn hbe (Nat.le_refl _) (heap_alloc_new w.drew _) ?_ ?_ ?_
      ·simp only [Nat.zero_add,List.length_append,List.length_take, <-hk1,hcsz]
       have:(l+l')*P.cellsOf el<=grownCap w (l+l') cap el*P.cellsOf el:=Nat.mul_le_mul_right _ hge;rw [Nat.add_mul]at this;omega
      ·intro i yy hyy
       rw [Nat.zero_add, <-hcs];exact zTW (by rw [o2,hk1]) (fun i yy hy=>o3 i yy (by rw [hk1,List.take_length];exact hy)) n3 i yy hyy
      ·exact .ls _ _ _ _ _ w.heap.size 0 cs.size _ _ (by simp [ziB]) hge (fun _=>rfl) (fun _=>by rw [hcsz];simp)
     split at he
     ·rename_i s oo l zz
      cases hms:m s with
      |none=>simp [hms]at he
      |some k=>
       simp only [hms]at he;cases hzz:Nat.beq zz (P.cellsOf el)with
       |false=>simp [hzz]at he
       |true=>
        simp only [hzz,cond_true]at he;have hzz:=Nat.eq_of_beq_eq_true hzz;subst hzz;obtain⟨hb,rfl⟩:=inz he;simp only [Bool.and_eq_true,decide_eq_true_eq]at hb;obtain⟨⟨d1,d2⟩,d3⟩:=hb;obtain⟨bb,g,sz,cap,aa,g1,g2,g3,g4,g5⟩:=(h.ev hA).ls_inv;obtain⟨bb',g',cs,ty,q1,q2,q3,q4,q5,q6⟩:=h.mem s k (hm s k hms);rw [g1]at q1;simp only [Option.some.injEq,Prod.mk.injEq]at q1;obtain⟨rfl,rfl,rfl⟩:=q1;have hk1:l*P.cellsOf el=((k.c.drop oo).take (l*P.cellsOf el)).length:=by simp;omega
        have hcell:0<cap->∃b q,aa=some ⟨b,q,none⟩/\∀(i:Nat) (y:VV),((k.c.drop oo).take (l*P.cellsOf el))[i]? =some y->∃u,w.cell? ⟨b,q+i,none⟩=some u/\u.oneCell'=true/\zeQ St w ρ k.closed y u:=by
         intro hc;refine⟨bb,g+oo,g3 hc,fun i y hy=> ?_⟩;rw [List.getElem?_take]at hy;split at hy
         ·rw [List.getElem?_drop]at hy
          obtain⟨u,u1,u2,u3⟩:=q6 _ y hy;exact⟨u,by rw [cell_of_row w bb _ cs ty (0,0) q2,Nat.add_assoc];exact u1,u2,u3⟩
         ·cases hy
        by_cases hroom:l+l'<=cap
        ·obtain⟨news,n1,n2,n3⟩:=newsw w (fun p=>rfl) d2
         have n1o:∀v∈news.toList,v.oneCell'=true:=by
          intro v hv;obtain⟨j,hj,hjv⟩:=List.getElem_of_mem hv;rw [Array.length_toList]at hj;have hj':j<(q.take (l'*P.cellsOf el)).length:=by simp;omega
          obtain⟨u,hu',o1',_⟩:=n3 j _ (List.getElem?_eq_getElem hj');rw [Array.getElem?_eq_getElem hj]at hu';rw [Array.getElem_toList]at hjv;cases hu';rw [<-hjv];exact o1'
         by_cases hcap:cap=0
         ·subst hcap
          have e1:l=0:=zc;have e2:l'=0:=zc;subst e1;subst e2;have nz:news=#[]:=Array.eq_empty_of_size_eq_zero (by simpa using n2);subst nz;have hr:=zxT (ty:=o.type) (base:=aa) (l:=0) (cap:=0) (w':=w) hu hi n1 hroom (fun ad _=>by simp [storeCells]) (fun _=>rfl);unfold Oper.wp;rw [runs aa 0 0 _ _ g5 hr];refine hK (ziB ρ n (bb,g,cs.size)) St _ _ (fun s hs=>zr8 hs) (fun _ h=>h) ?_;refine h.alloc (s0:=some s) hd hn ?_ (fun _ _=>rfl) (Below.refl _ _) q3 q4 q2 (by simp;omega) jq ?_
          ·intro s' k' hs' b' z'' hb'
           simp only [zut]at hs';split at hs'
           ·cases hs'
           ·rename_i hne
            refine⟨fun e=> ?_,rfl⟩;subst e;exact hne (h.inj s' s k' k _ _ _ hs' (hm s k hms) hb' g1)
          ·exact .ls _ _ _ _ _ bb g cs.size _ _ (by simp [ziB]) zc (fun h=>absurd h zc) (fun h=>absurd h zc)
         ·have haa:=g3 zc
          have hfit:=g4 zc;have hmul:(l+l')*P.cellsOf el<=cap*P.cellsOf el:=Nat.mul_le_mul_right _ hroom;rw [Nat.add_mul]at hmul;have hst:=run_storeCells_at P bb (g+oo+l*P.cellsOf el) ty news.toList 0 cs w q2 (by rw [Array.length_toList,n2];omega) n1o;simp only [Nat.add_zero]at hst;generalize hcs':(cs.toList.take (g+oo+l*P.cellsOf el)++news.toList++cs.toList.drop (g+oo+l*P.cellsOf el+news.toList.length)).toArray=cs' at hst;have hcsz':cs'.size=cs.size:=by
           rw [<-hcs'];simp only [List.size_toArray,List.length_append,List.length_take,List.length_drop,Array.length_toList,n2];omega
          have hr:=zxT (ty:=o.type) (base:=aa) (w':=w.setRow bb cs') hu hi n1 hroom (fun ad had=>by
           rw [haa]at had;cases had;rw [Addr.add_none,hsz]
           exact hst) (fun e=>by rw [haa]at e;cases e)
          unfold Oper.wp;rw [runs aa l cap _ _ g5 hr];refine hK (ziB ρ n (bb,g+oo,cs'.size)) St _ _ (fun s hs=>zr8 hs) (fun _ h=>h) ?_;refine h.alloc (s0:=some s) hd hn ?_ (fun b hb=>setRow_other w bb b _ (fun e=>q4 (e▸hb))) (below_setRow (Below.refl B w) q3 _) q3 q4 (setRow_heap w bb cs _ ty _ q2) ?_ ?_ ?_
          ·intro s' k' hs' b' z'' hb'
           simp only [zut]at hs';split at hs'
           ·cases hs'
           ·rename_i hne
            have hbne:b'≠bb:=fun e=>by
             subst e;exact hne (h.inj s' s k' k _ _ _ hs' (hm s k hms) hb' g1)
            exact⟨hbne,setRow_other w bb b' _ hbne⟩
          ·rw [hcsz']
           simp only [List.length_append,List.length_take,List.length_drop];omega
          ·intro i y hy
           rw [<-Array.getElem?_toList, <-hcs',List.toList_toArray];by_cases hi:i<l*P.cellsOf el
           ·rw [List.getElem?_append_left zc,List.getElem?_take,if_pos hi,List.getElem?_drop]at hy
            obtain⟨u,u1,u2,u3⟩:=q6 _ y hy;refine⟨u,?_,u2,?_⟩
            ·have e1:g+oo+i<(cs.toList.take (g+oo+l*P.cellsOf el)).length:=by simp;omega
             rw [List.append_assoc,List.getElem?_append_left e1,List.getElem?_take,if_pos zc,Array.getElem?_toList,Nat.add_assoc];exact u1
            ·exact u3.and
           ·rw [List.getElem?_append_right zc, <-hk1]at hy
            obtain⟨u,u1,u2,u3⟩:=n3 _ y hy;refine⟨u,?_,u2,?_⟩
            ·have e1:(cs.toList.take (g+oo+l*P.cellsOf el)).length=g+oo+l*P.cellsOf el:=by simp;omega
             have e2:=(zy u1);rw [List.append_assoc,List.getElem?_append_right zc,e1,List.getElem?_append_left (by rw [Array.length_toList];omega),Array.getElem?_toList,show g+oo+i-(g+oo+l*P.cellsOf el)=i-l*P.cellsOf el from zc];exact u1
            ·exact u3.and'
          ·refine .ls _ _ _ _ _ bb (g+oo) cs'.size _ _ (by simp [ziB]) hroom (fun _=>by rw [haa,Nat.add_zero]) (fun _=>by rw [hcsz'];omega)
        ·exact grow (some s) aa l cap _ k.closed g5 zc g2 hk1 hcell d2 d3 hK
     ·obtain⟨hb,rfl⟩:=inz he
      simp only [Bool.and_eq_true,decide_eq_true_eq]at hb;obtain⟨⟨d1,d2⟩,d3⟩:=hb;have hx:=(h.ev hA).v_inv;refine grow none none 0 0 [] true hx zc (Nat.le_refl _) jq (fun h=>absurd h zc) d2 (by simpa using d3) ?_;have hK':zj3 B N w0 (zms T o.dst (.ls n 0 l' (P.cellsOf el))) (ziL (zut M none) n ⟨q.take (l'*P.cellsOf el),cl'⟩) true n ρ St K:=hK;rw [Nat.zero_add];exact hK'
     ·cases he
  ·cases he
 ·cases he
end
section
variable{P:Program}{S:FuncId->List VV->Option (Bool×VV)}{ro:List Nat}{B N:Nat}{w0:World}{T:Nat->Option VV}{m mf M:Nat->Option Blk}{ρ:Rho}{St:Nat->Prop}{a:Act}{w:World}{n:Nat}
 {o:Oper} {K:Act->World->Prop} {Q:Exit->Act->World->Prop}
theorem zPI{X:VV}{v:Value}{l l':List VV}{f:FuncId}{vs:Array Value}(hf:zVY X l=some (f,l'))(hX:Rel St w ρ X v)(hs:vs.size=l.length)
 (hl:∀(i:Nat) (y:VV),l[i]? =some y->∃u,vs[i]? =some u/\Rel St w ρ y u):
 ∃ps cs:Array Value,v= .func (.func f) ps cs/\(ps++vs++cs).size=l'.length/\∀(i:Nat) (y:VV),l'[i]? =some y->∃u,(ps++vs++cs)[i]? =some u/\Rel St w ρ y u:=by
 unfold zVY at hf;split at hf
 ·rename_i f0 p q
  obtain rfl:=hX.v_inv;cases hc:(Nat.beq p.size 0&&Nat.beq q.size 0)with
  |false=>rw [hc]at hf;cases hf
  |true=>
   rw [hc]at hf;simp only [cond_true,Option.some.injEq,Prod.mk.injEq]at hf;obtain⟨rfl,rfl⟩:=hf;simp only [Bool.and_eq_true]at hc;obtain rfl:=Array.eq_empty_of_size_eq_zero (Nat.eq_of_beq_eq_true hc.1);obtain rfl:=Array.eq_empty_of_size_eq_zero (Nat.eq_of_beq_eq_true hc.2);exact⟨#[],#[],rfl,by simpa using hs,by simpa using hl⟩
 ·rename_i f0 c0
  obtain⟨cs,xs,g1,g2,g3,rfl⟩:=hX.fn_inv;unfold mkF;cases hb:Nat.blt f0 1000000 with
  |true=>
   simp only [hb,cond_true,Option.some.injEq,Prod.mk.injEq]at hf;obtain⟨rfl,rfl⟩:=hf;refine⟨#[],cs,rfl,by simp [hs,g1],fun i y hy=> ?_⟩;rw [Array.empty_append];by_cases hi:i<l.length
   ·rw [List.getElem?_append_left hi]at hy
    obtain⟨u,hu,hr⟩:=hl i y hy;exact⟨u,by rw [Array.getElem?_append,if_pos zc];exact hu,hr⟩
   ·rw [List.getElem?_append_right zc]at hy
    exact⟨_,by rw [Array.getElem?_append,if_neg zc,hs];exact g2 _ y hy,g3 _ y hy⟩
  |false=>
   simp only [hb,cond_false,Option.some.injEq,Prod.mk.injEq]at hf;obtain⟨rfl,rfl⟩:=hf;refine⟨cs,#[],rfl,by simp [hs,g1],fun i y hy=> ?_⟩;rw [Array.append_empty];by_cases hi:i<c0.length
   ·rw [List.getElem?_append_left hi]at hy
    exact⟨_,by rw [Array.getElem?_append,if_pos zc];exact g2 _ y hy,g3 _ y hy⟩
   ·rw [List.getElem?_append_right zc]at hy
    obtain⟨u,hu,hr⟩:=hl _ y hy;exact⟨u,by rw [Array.getElem?_append,if_neg zc,g1];exact hu,hr⟩
 ·cases hf
theorem zMv(h:SR B N w0 T M ρ St a w)(hm:∀s k,m s=some k->M s=some k)(hS:∀f,yc P f (unS (S f)))(hd:∀t,o.dst=some t->t<N)(hn:ρ n=none){c:Call}(ho:o.op= .call c){e:Eff}
 (he:zr6 P S ro T m n c o=some (true,e)) (hK:zj3 B N w0 (zfL T o.dst e) (zej M n e) (cr e) n ρ St K):o.wp P a w K Q:=by
 have hsel:∀cs b,o.op≠ .select cs b:=fun cs b=>by rw [ho];simp
 unfold zr6 at he;split at he
 ·rename_i hc
  split at he
  ·rename_i x t e1 e2
   have key:∀(aa:Option Addr) (l cp:Nat) (el:TypeId),a.eval x= .slice aa l cp->P.underlying t=some (.slice el)->(execOp a.eval o).run P w= .ok (.value (.int .i64 l)) w:=by
    intro aa l cp el hv hu;obtain⟨callee,args,argTypes⟩:=c;simp only at hc e1 e2;subst hc;subst e1;subst e2;simp [execOp,ho,resolve,invoke,builtin,Builtin.len_,hv,run_underlying hu,goInt]
   split at he
   ·rename_i s oo l z el hx hu
    obtain⟨_,rfl⟩:=inz he;obtain⟨b,g,sz,cp,aa,_,_,_,_,g5⟩:=(h.ev hx).ls_inv;exact zcp h hd (key aa l cp _ g5 hu) (.v _ _) hK
   ·rename_i q oo l z el hx hu
    obtain⟨_,rfl⟩:=inz he;obtain⟨b,g,cp,aa,xs,_,_,_,_,_,g5⟩:=(h.ev hx).fs_inv;exact zcp h hd (key aa l cp _ g5 hu) (.v _ _) hK
   ·exact zdB h hd hsel he hK
  ·exact zdB h hd hsel he hK
 ·rename_i hc
  exact zPH h hm hd hn ho hc he hK
 ·exact zdB h hd hsel he hK
 ·rename_i f hc
  split at he
  ·rename_i F L hF hL
   split at he
   ·rename_i f' L' hfn
    split at he
    ·rename_i L'' hcl
     obtain⟨s1,s2⟩:=zcw (zzS hL);have hargs:∀(i:Nat) (y:VV),L[i]? =some y->∃u,(c.args.map a.eval)[i]? =some u/\Rel St w ρ y u:=by
      intro i y hy;obtain⟨x,hx,hf⟩:=s2 i y hy;rw [Array.getElem?_toList]at hx;exact⟨a.eval x,by simp [hx],h.ev hf⟩
     obtain⟨ps,cs,hv,hsz,hrel⟩:=zPI hfn (h.ev hF) (by simp [s1]) hargs;obtain⟨c1,c2⟩:=zcw hcl;cases hr:S f' L'' with
     |none=>simp [hr]at he
     |some br=>
      obtain⟨bb,r⟩:=br;obtain rfl:bb=true:=by
       simp only [hr]at he;split at he
       ·rename_i hq
        cases hq;cases hro:o.dst.any (fun d=>ro.any (Nat.beq d))with
        |true=>rw [hro]at he;exact(inz he).1
        |false=>rw [hro]at he;exact(inz he).1
       ·rename_i hq
        cases hq;exact(inz he).1
       ·cases he
      obtain⟨⟨fn,k1,k2,k3⟩,hgood⟩:=hS f' L'' r (by simp [unS,hr])
      have hcalls:=hgood w (ps++c.args.map a.eval++cs) (fun b=>b<w.heap.size) (fun _ h=>h) (by rw [hsz,c1]) (by
       intro i y hy;obtain⟨x,hx,hcx⟩:=c2 i y hy;obtain⟨u,hu,hrl⟩:=hrel i x hx
       exact⟨u,hu,zIh h hm 4 hcx hrl⟩)
      have hrun:(execOp a.eval o).run P w= .ok (.enter f' (ps++c.args.map a.eval++cs)) w:=by
       simp only [execOp,ho,resolve,hc,hv,Deferred.ofValue,invoke,callFunc,Sem.run_bind,Sem.run_pure,Result.andThen_ok,run_program,k1,k2,k3,Bool.false_eq_true,if_false]
      unfold Oper.wp;rw [hrun];refine Calls.mono hcalls ?_;rintro ee w' ⟨v,rfl,hbe,hres1,hres2⟩;have fin:e= .val r->K (a.put o.dst v) w':=by
       rintro rfl;refine hK ρ (fun b=>St b\/(w.heap.size<=b/\b<w'.heap.size)) _ w' (fun _ _=>rfl) (fun _ h=>.inl h) (h.val hd hbe (fun _ h=>.inl h) (fun b hb=> ?_) ?_)
       ·rcases hb with hb|hb
        ·exact⟨.inl hb,Nat.lt_of_lt_of_le (h.st b hb) hbe.size⟩
        ·exact⟨.inr hb.1,hb.2⟩
       ·exact hres1.up (fun _ h=>.inr h) (fun s p hs=>by simp [zmr]at hs)
      simp only [hr]at he;split at he
      ·rename_i q l z hq
       cases hro:o.dst.any (fun d=>ro.any (Nat.beq d))with
       |true=>
        rw [hro]at he;simp only [cond_true]at he;cases hq;exact fin (inz he).2.symm
       |false=>
       rw [hro]at he;simp only [cond_false]at he;obtain⟨_,rfl⟩:=inz he;cases hq;obtain⟨nb,g,cs',ty,cap,aa,r1,r2,r3,r4,r5,rfl,r7,r8⟩:=hres2 q l z rfl;refine hK (ziB ρ n (nb,g,cs'.size)) St _ _ (fun s hs=>zr8 hs) (fun _ h=>h) ?_;refine h.new (s0:=none) hd hn hbe r1 r2 r7 (fun i y hy=> ?_) ?_
       ·obtain⟨u,hu,o1,hr⟩:=r8 i y hy
        exact⟨u,hu,o1,by rw [hr];exact zeQ.v _⟩
       ·exact .ls _ _ _ _ _ nb g cs'.size _ _ (by simp [ziB]) r3 (fun h=>r4 h) (fun h=>by have:=r5 h;omega)
      ·rename_i x _ hx
       obtain⟨_,hx'⟩:=inz he;cases hx;exact fin hx'.symm
      ·rename_i hx
       cases hx
    ·cases he
   ·cases he
  ·cases he
 ·cases he
theorem zzY(h:SR B N w0 T M ρ St a w)(fs:Array Field)(places:List (Nat×Nat))(hpl:∀(i:Nat) (f:Field),fs[i]? =some f->places[i]? =some (f.offset,P.cellsOf f.type)):
 ∀(ps:List (Nat×Operand)) (cs:List VV) (r:List VV) (q:Array Value),zr7 P T fs cs ps=some r->q.size=cs.length->(∀(i:Nat) (y:VV),cs[i]? =some y->∃u,q[i]? =some u/\Rel St w ρ y u)->
 ∃r',Instr.fill (fun i=>places[i]?) q (ps.map fun p=>(p.1,a.eval p.2))=some r'/\r'.size=r.length/\∀(i:Nat) (y:VV),r[i]? =some y->∃u,r'[i]? =some u/\Rel St w ρ y u
 |[],cs,r,q,hr,hq,hc=>by
  simp only [zr7,Option.some.injEq]at hr;subst hr;exact⟨q,rfl,hq,hc⟩
 |(i,x)::ps,cs,r,q,hr,hq,hc=>by
  simp only [zr7]at hr;cases hf:fs[i]? with
  |none=>simp [hf]at hr
  |some f=>
   simp only [hf]at hr;cases hx:ev T x with
   |none=>simp [hx]at hr
   |some X=>
    simp only [hx,Option.bind_some]at hr;cases hfl:zcJ X with
    |none=>simp [hfl]at hr
    |some cb=>
     obtain⟨c,b⟩:=cb;simp only [hfl]at hr;cases hb:(Nat.beq c.length (P.cellsOf f.type)&&Nat.ble (f.offset+P.cellsOf f.type) cs.length&&ziJ P f.type)with
     |false=>simp [hb]at hr
     |true=>
      simp only [hb,cond_true]at hr;simp only [Bool.and_eq_true]at hb;have hb1:=Nat.eq_of_beq_eq_true hb.1.1;have hb2:=Nat.le_of_ble_eq_true hb.1.2;obtain⟨f1,f2⟩:=zlf hfl (h.ev hx);have hfs:=zzX f.offset (a.eval x).cells.toList 0 q (by simp [f1];omega);have hze:(a.eval x).cells.zipIdx.foldl (fun cs (c,k)=>cs.setIfInBounds (f.offset+k) c) q=((a.eval x).cells.toList.zipIdx 0).foldl (fun cs (p:Value×Nat)=>cs.setIfInBounds (f.offset+p.2) p.1) q:=by
       rw [<-Array.foldl_toList,Array.toList_zipIdx]
      generalize hq2:(a.eval x).cells.zipIdx.foldl (fun cs (c,k)=>cs.setIfInBounds (f.offset+k) c) q=q2 at hze;rw [<-hze]at hfs;simp only [Nat.add_zero,Array.length_toList,f1]at hfs;have hq2s:q2.size=q.size:=by
       rw [<-Array.length_toList,hfs];simp [f1];omega
      obtain⟨r',r1,r2,r3⟩:=zzY h fs places hpl ps _ r q2 hr (by rw [hq2s,hq];simp;omega) (fun k y hy=>by
       rw [<-Array.getElem?_toList,hfs];by_cases h1:k<f.offset
       ·rw [List.append_assoc,List.getElem?_append_left (by simp;omega)]at hy
        rw [List.append_assoc,List.getElem?_append_left (by simp;omega)];rw [List.getElem?_take_of_lt h1]at hy⊢;rw [Array.getElem?_toList];exact hc k y hy
       ·by_cases h2:k<f.offset+c.length
        ·rw [List.append_assoc,List.getElem?_append_right (by simp;omega),List.getElem?_append_left (by simp;omega)]at hy
         rw [List.append_assoc,List.getElem?_append_right (by simp;omega),List.getElem?_append_left (by simp [f1];omega)];have e1:min f.offset cs.length=f.offset:=zc;have e2:min f.offset q.size=f.offset:=zc;simp only [List.length_take,e1,Array.length_toList,e2]at hy⊢;obtain⟨u,hu,hr⟩:=f2 _ y hy;exact⟨u,by rw [Array.getElem?_toList];exact hu,hr.1⟩
        ·rw [List.getElem?_append_right (by simp;omega)]at hy
         rw [List.getElem?_append_right (by simp [f1];omega)];have e1:min f.offset cs.length=f.offset:=zc;have e2:min f.offset q.size=f.offset:=zc;simp only [List.length_append,List.length_take,e1,Array.length_toList,e2,f1,List.getElem?_drop,hb1]at hy⊢;rw [Array.getElem?_toList]
         exact hc _ y hy)
      refine⟨r',?_,r2,r3⟩;simp only [List.map_cons,Instr.fill,hpl i f hf];have hcond: ¬((decide ((a.eval x).cells.size≠P.cellsOf f.type)||decide (f.offset+(a.eval x).cells.size>q.size))=true):=by simp [f1];omega
      rw [if_neg hcond,hq2];exact r1
theorem zIr(h:SR B N w0 T M ρ St a w)(hd:∀t,o.dst=some t->t<N){t:TypeId}{parts:Array (Nat×Operand)}(ho:o.op= .build t parts){e:Eff}
 (he:zEE P T t parts=some (true,e)) (hK:zj3 B N w0 (zfL T o.dst e) (zej M n e) (cr e) n ρ St K):o.wp P a w K Q:=by
 unfold zEE at he;split at he
 ·rename_i fs z hu hz
  cases hall:fs.toList.all (fun f=>ziJ P f.type)with
  |false=>simp [hall]at he
  |true=>
   simp only [hall,cond_true]at he;cases hfe:zr7 P T fs (z.cells.toList.map .v) parts.toList with
   |none=>simp [hfe]at he
   |some c=>
    simp only [hfe]at he;obtain⟨_,rfl⟩:=inz he;obtain⟨it,hit⟩:=zgH hu;rw [hit,Option.bind_some]at hz;have hpl:∀l:List Field,(∀f∈l,ziJ P f.type=true)->l.mapM (fun f=>(P.info? f.type).map fun i=>(f.offset,i.size))=some (l.map fun f=>(f.offset,P.cellsOf f.type)):=by
     intro l hl;induction l with
     |nil=>rfl
     |cons f l ih=>
      obtain⟨i,hi⟩:=zgZ (hl f jq);rw [List.mapM_cons,ih (fun g hg=>hl g (by simp [hg]))];simp [hi,Program.cellsOf]
    have hplaces:=hpl fs.toList (fun f hf=>(List.all_eq_true.1 hall) f hf)
    obtain⟨r',r1,r2,r3⟩:=zzY h fs (fs.toList.map fun f=>(f.offset,P.cellsOf f.type)) (fun i f hf=>by rw [List.getElem?_map,Array.getElem?_toList,hf];rfl) parts.toList _ c z.cells hfe jq (fun i y hy=>by
     simp only [List.getElem?_map,Option.map_eq_some_iff]at hy;obtain⟨u,hu,rfl⟩:=hy
     exact⟨u,by rw [<-Array.getElem?_toList];exact hu,.v _ _⟩)
    obtain⟨xs,hxs⟩:=zIg r3;refine zcp h hd (v:=.agg r') ?_ (.agg _ c r' xs r2 (fun i x hx=>(hxs i x hx).1) (fun i x hx=>(hxs i x hx).2)) hK;have hb:P.built t (parts.map fun(i,x)=>(i,a.eval x)).toList=some r':=by
     unfold Program.built;simp only [hit,hu,hz,hplaces];have:(parts.map fun(i,x)=>(i,a.eval x)).toList=parts.toList.map fun p=>(p.1,a.eval p.2):=by simp
     rw [this];simpa using r1
    simp only [execOp,ho,Sem.run_bind,run_build w t _ r' hb,Result.andThen_ok,Sem.run_pure]
 ·cases he
theorem zDY(h:SR B N w0 T M ρ St a w)(hm:∀s k,m s=some k->M s=some k)(hmf:∀s k,mf s=some k->M s=some k)(hS:∀f,yc P f (unS (S f)))(hd:∀t,o.dst=some t->t<N)(hn:ρ n=none){e:Eff}
 (he:zuq P S ro T m mf n o=some (true,e)) (hK:zj3 B N w0 (zfL T o.dst e) (zej M n e) (cr e) n ρ St K):o.wp P a w K Q:=by
 unfold zuq at he;split at he
 ·rename_i x ho;exact zzU h hd (.inl ho) he hK
 ·rename_i x ho;exact zzU h hd (.inr ho) he hK
 ·rename_i c x y ho;exact zMt h hd ho he hK
 ·rename_i t ho;exact zIm h hd hn ho he hK
 ·rename_i t x ho;exact zPG h hd hn ho he hK
 ·rename_i t x ho
  cases hu:P.underlying t with
  |none=>simp [hu]at he
  |some d=>
   simp only [hu,Option.isNone_some,cond_false]at he;exact zMu h hm hd ho he ⟨d,hu⟩ hK
 ·rename_i t x y ho;exact zIn h hmf ho he hK
 ·rename_i t x f ho;exact zyB h hd ho he hK
 ·rename_i t x y ho;exact zyA h hd ho he hK
 ·rename_i t x y ho;exact zIl h hd ho he hK
 ·rename_i t x lo hi ho;exact zIo h hm hd ho he hK
 ·rename_i t l ps ho;exact zwK h hd hn ho he hK
 ·rename_i t x y ho;exact zyC h hd hn ho he hK
 ·rename_i f q cs ho
  cases hb:Nat.blt f 1000000 with
  |false=>rw [hb]at he;cases he
  |true=>
  rw [hb]at he;simp only [cond_true]at he;cases hq:Nat.beq q.size 0 with
  |false=>
   simp only [hq,cond_false]at he;cases hcs:Nat.beq cs.size 0 with
   |false=>simp [hcs]at he
   |true=>
    simp only [hcs,cond_true]at he;obtain rfl:=Array.eq_empty_of_size_eq_zero (Nat.eq_of_beq_eq_true hcs)
    exact zsb h hd (g:=f+1000000) (fun w=>by
     have hb':Nat.blt (f+1000000) 1000000=false:=by
      cases h9:Nat.blt (f+1000000) 1000000 with
      |false=>rfl
      |true=>exact absurd (cast Nat.blt_eq h9) (Nat.not_lt.2 (Nat.le_add_left _ _))
     simp [execOp,ho,Instr.makeFunc,mkF,hb']) he hK
  |true=>
   simp only [hq,cond_true]at he;obtain rfl:=Array.eq_empty_of_size_eq_zero (Nat.eq_of_beq_eq_true hq);exact zsb h hd (g:=f) (fun w=>by simp [execOp,ho,Instr.makeFunc,mkF,hb]) he hK
 ·rename_i t x ho;exact zIp h hd ho he hK
 ·rename_i x i ho;exact zBE h hd ho he hK
 ·rename_i s d x ho;exact zBF h hm hd ho he hK
 ·rename_i op t x y ty ho;exact zPF h hd ho he hK
 ·rename_i c ho;exact zMv h hm hS hd hn ho he hK
 ·cases he
 ·rename_i t ps ho
  cases hp:zfQ P T o with
  |some r=>
   simp only [hp,Option.some.injEq]at he;subst he;exact zdB h hd (fun cs b=>by rw [ho];simp) hp hK
  |none=>
   simp only [hp]at he;exact zIr h hd ho he hK
 ·refine zdB h hd ?_ he hK
  intro cs b heq;simp_all
end
section maps
variable{α:Type}
theorem znx(a:Nat)(x:α):∀(l:List (Nat×α)) (t:Nat),get? (ins a x l) t=if t=a then some x else get? l t
 |[],t=>by
  simp only [ins,get?];by_cases h:t=a
  ·subst h;simp
  ·rw [if_neg h]
   have:Nat.beq a t=false:=by
    cases hb:Nat.beq a t with
    |false=>rfl
    |true=>exact absurd (Nat.eq_of_beq_eq_true hb).symm h
   simp [this]
 |(k,y)::r,t=>by
  simp only [ins];have bf:∀{p q:Nat},p≠q->Nat.beq p q=false:=fun{p q} h=>by
   cases hb:Nat.beq p q with
   |false=>rfl
   |true=>exact absurd (Nat.eq_of_beq_eq_true hb) h
  cases h1:Nat.blt a k with
  |true=>
   simp only [cond_true,get?];by_cases h:t=a
   ·subst h;simp
   ·rw [if_neg h,bf (fun e=>h e.symm)];rfl
  |false=>
   cases h2:Nat.beq k a with
   |true=>
    have:=Nat.eq_of_beq_eq_true h2;subst this;simp only [cond_true,cond_false,get?];by_cases h:t=k
    ·subst h;simp
    ·rw [if_neg h,bf (fun e=>h e.symm)];rfl
   |false=>
    simp only [cond_false,get?];rw [znx a x r t];by_cases h:t=a
    ·subst h;simp [h2]
    ·rw [if_neg h]
     cases hk:Nat.beq k t<;>simp [h]
theorem ztf(a:Nat):∀(l:List (Nat×α)) (t:Nat),get? (del a l) t=if t=a then none else get? l t
 |[],t=>by simp [del,get?]
 |(k,y)::r,t=>by
  simp only [del];cases h:Nat.beq k a with
  |true=>
   have:=Nat.eq_of_beq_eq_true h;subst this;simp only [cond_true,get?];rw [ztf k r t];by_cases ht:t=k
   ·simp [ht]
   ·rw [if_neg ht,if_neg ht]
    have:Nat.beq k t=false:=by
     cases hb:Nat.beq k t with
     |false=>rfl
     |true=>exact absurd (Nat.eq_of_beq_eq_true hb).symm ht
    simp [this]
  |false=>
   simp only [cond_false,get?];rw [ztf a r t];by_cases ht:t=a
   ·subst ht;simp [h]
   ·simp [ht]
theorem zov(V:List Nat)(t:Nat)(ht:V.any (Nat.beq t)=false):∀(l:List (Nat×α)),get? (zwF V l) t=none
 |[]=>rfl
 |(k,y)::r=>by
  simp only [zwF];cases hV:V.any (Nat.beq k)with
  |false=>simpa using zov V t ht r
  |true=>
   simp only [cond_true,get?];cases hk:Nat.beq k t with
   |true=>rw [Nat.eq_of_beq_eq_true hk,ht]at hV;cases hV
   |false=>simpa using zov V t ht r
theorem zvv(V:List Nat):∀(l:List (Nat×α)) (t:Nat) (x:α),get? (zwF V l) t=some x->get? l t=some x
 |[],t,x,h=>by simp [zwF,get?]at h
 |(k,y)::r,t,x,h=>by
  simp only [zwF]at h;simp only [get?];cases hV:V.any (Nat.beq k)with
  |true=>
   simp only [hV,cond_true,get?]at h;cases hk:Nat.beq k t with
   |true=>simpa [hk]using h
   |false=>simp only [hk,cond_false]at h⊢;exact zvv V r t x h
  |false=>
   simp only [hV,cond_false]at h;cases hk:Nat.beq k t with
   |true=>rw [zov V t (by rw [<-Nat.eq_of_beq_eq_true hk];exact hV)]at h;cases h
   |false=>exact zvv V r t x h
end maps
section
variable{P:Program}{S:FuncId->List VV->Option (Bool×VV)}{ro:List Nat}{B N:Nat}{w0:World}
def SS(B N:Nat)(w0:World)(st:VS)(a:Act)(w:World):Prop:=
 ∃(ρ:Rho) (St:Nat->Prop),(∀s,st.n<=s->ρ s=none)/\SR B N w0 (get? st.t) (get? st.m) ρ St a w
theorem zzZ(T:List (Nat×VV))(d:Option Nat)(x:VV):get? (zPC T d x)=zms (get? T) d x:=by
 funext t
 cases d with
 |none=>rfl
 |some d=>simp only [zPC,zms,znx]
theorem zz0(o:Oper)(st:VS)(e:Eff):get? (zgG o.dst st e).t=zfL (get? st.t) o.dst e:=by
 cases e<;>simp only [zgG,zfL,zzZ]
theorem zz1(o:Oper)(st:VS)(e:Eff):get? (zgG o.dst st e).m=zej (get? st.m) st.n e:=by
 cases e with
 |val x=>rfl
 |alloc x b=>funext t;simp only [zgG,zej,ziL,znx]
 |store s b=>funext t;simp only [zgG,zej,ziL,znx]
 |app s x b=>
  funext t
  cases s with
  |none=>simp only [zgG,zej,ziL,znx,zut]
  |some s=>simp only [zgG,zej,ziL,znx,zut,ztf]
theorem zOJ(o:Oper)(st:VS)(e:Eff):st.n<=(zgG o.dst st e).n/\(zgG o.dst st e).n<=st.n+1:=by
 cases e<;>simp [zgG]
theorem zvw{d:Nat}{x:VV}(T:List (Nat×VV))(h:get? T d=some x):get? (ins d x T)=get? T:=by
 funext t
 rw [znx];by_cases e:t=d
 ·subst e;simp [h]
 ·simp [e]
theorem zxU{ops:Array Oper}{o:Oper}{st:VS}{run skip:VS->R}{r:VV}(h:zur ops o st run skip=some r):
 ∃st',get? st'.t=get? st.t/\st'.m=st.m/\st'.n=st.n/\
  ((run st'=some r/\∀(a:Act),(∀t∈zdz ops o,∀x,get? st.t t=some (.v x)->a.tmps[t]? =some x)->Region.wanted o (yielded ops a.tmps)=true)\/
   (skip st'=some r/\∀(a:Act),(∀t∈zdz ops o,∀x,get? st.t t=some (.v x)->a.tmps[t]? =some x)->Region.wanted o (yielded ops a.tmps)=false)):=by
 unfold zur at h;cases hg:o.guard with
 |none=>
  simp only [hg]at h;exact⟨st,rfl,rfl,rfl,.inl ⟨h,fun a _=>by simp [Region.wanted,hg]⟩⟩
 |some jw=>
  obtain⟨j,w⟩:=jw;simp only [hg]at h;cases hd:(ops[j]?).bind (·.dst)with
  |none=>simp [hd]at h
  |some d=>
   simp only [hd]at h;split at h
   ·rename_i g hgt
    have hmem:d∈zdz ops o:=by simp [zdz,hg,hd]
    have hy:∀(a:Act),(∀t∈zdz ops o,∀x,get? st.t t=some (.v x)->a.tmps[t]? =some x)->Region.wanted o (yielded ops a.tmps)=(g==w):=by
     intro a ha;have:=ha d hmem _ hgt;simp only [Region.wanted,hg,yielded,hd,Option.bind_some,this];cases g<;>cases w<;>rfl
    cases g<;>cases w<;>simp only [cond_true,cond_false]at h
    ·exact⟨{st with t:=ins d (.v (.bool false)) st.t},zvw _ hgt,rfl,rfl,.inl ⟨h,fun a ha=>by rw [hy a ha];rfl⟩⟩
    ·exact⟨{st with t:=ins d (.v (.bool false)) st.t},zvw _ hgt,rfl,rfl,.inr ⟨h,fun a ha=>by rw [hy a ha];rfl⟩⟩
    ·exact⟨{st with t:=ins d (.v (.bool true)) st.t},zvw _ hgt,rfl,rfl,.inr ⟨h,fun a ha=>by rw [hy a ha];rfl⟩⟩
    ·exact⟨{st with t:=ins d (.v (.bool true)) st.t},zvw _ hgt,rfl,rfl,.inl ⟨h,fun a ha=>by rw [hy a ha];rfl⟩⟩
   ·rename_i q hgt
    cases hq:Nat.beq q.size 0 with
    |false=>simp [hq]at h
    |true=>
     simp only [hq,cond_true]at h;refine⟨st,rfl,rfl,rfl,.inr ⟨h,fun a ha=> ?_⟩⟩;have:=ha d (by simp [zdz,hg,hd]) _ hgt;simp [Region.wanted,hg,yielded,hd,this]
   ·cases h
theorem SR.vals{T:Nat->Option VV}{M:Nat->Option Blk}{ρ:Rho}{St:Nat->Prop}{a:Act}{w:World}(h:SR B N w0 T M ρ St a w):∀t x,T t=some (.v x)->a.tmps[t]? =some x:=by
 intro t x ht;obtain⟨y,h1,h2⟩:=h.tm t _ ht;rw [h2.v_inv]at h1;exact h1
theorem SR.skip{T:Nat->Option VV}{M:Nat->Option Blk}{ρ:Rho}{St:Nat->Prop}{a:Act}{w:World}(h:SR B N w0 T M ρ St a w){d:Option Nat}(hd:∀t,d=some t->t<N):
 SR B N w0 (zms T d (.v undef)) M ρ St (a.put d undef) w:=
 h.val hd (Below.refl _ _) (fun _ h=>h) (fun b hb=>⟨.inl hb,h.st b hb⟩) (.v _ _)
theorem zz2{m:List (Nat×Blk)}{ok:Eff->Bool}{o:Oper}{st:VS}{k:VS->Eff->R}{r:VV}(h:zzO P S ro m ok o st k=some r):
 ∃e,zuq P S ro (get? st.t) (get? m) (get? st.m) st.n o=some (true,e)/\ok e=true/\k (zgG o.dst st e) e=some r:=by
 unfold zzO at h;cases he:zuq P S ro (get? st.t) (get? m) (get? st.m) st.n o with
 |none=>simp [he]at h
 |some be=>
  obtain⟨b,e⟩:=be;simp only [he]at h;cases ho:ok e with
  |false=>simp [ho]at h
  |true=>
   simp only [ho,cond_true]at h;cases b with
   |false=>simp at h
   |true=>exact⟨e,rfl,ho,h⟩
theorem zwL(hS:∀f,yc P f (unS (S f))){ops:Array Oper}{Q:Exit->Act->World->Prop}{r:VV}:∀(l:List Oper) (st:VS) (k:VS->R) (a:Act) (w:World),(∀o∈l,∀t,o.dst=some t->t<N)->
 zIc P S ro ops l st k=some r->SS B N w0 st a w->(∀st' a' w',k st'=some r->SS B N w0 st' a' w'->Q .normal a' w')->wpList P ops Q l a w
 |[],st,k,a,w,_,hk,hs,hQ=>hQ st a w hk hs
 |o::l,st,k,a,w,hd,hk,hs,hQ=>by
  obtain⟨ρ,St,hn,hsr⟩:=hs;unfold zIc at hk;obtain⟨st',g1,g2,g3,g4⟩:=zxU hk;have hsr':SR B N w0 (get? st'.t) (get? st'.m) ρ St a w:=by rw [g1,g2];exact hsr
  unfold wpList;rcases g4 with⟨h1,h2⟩|⟨h1,h2⟩
  ·rw [if_pos (h2 a (fun t _=>hsr.vals t))]
   left
   obtain⟨e,he,_,hke⟩:=zz2 h1;refine zDY hsr' (fun _ _ h=>h) (fun _ _ h=>h) hS (hd o jq) (hn _ zc) he ?_;intro ρ' St' a' w' hρ _ hsr2;refine zwL hS l _ k a' w' (fun o' ho'=>hd o' (by simp [ho'])) hke ⟨ρ',St',fun s hs=> ?_,by rw [zz0,zz1];exact hsr2⟩ hQ;have hle:=zOJ o st' e;by_cases hsn:s=st'.n
   ·subst hsn
    have hcr:cr e=false:=by
     cases e<;>first|rfl|(exfalso;simp only [zgG]at hs;omega)
    rw [hρ _ (.inr hcr)];exact hn _ zc
   ·rw [hρ s (.inl hsn)];exact hn s zc
  ·rw [if_neg (by rw [h2 a (fun t _=>hsr.vals t)];simp)]
   refine zwL hS l _ k _ w (fun o' ho'=>hd o' (by simp [ho'])) h1 ⟨ρ,St,fun s hs=>hn s (by simpa [zzP,g3]using hs),?_⟩ hQ;have:=hsr'.skip (d:=o.dst) (hd o jq);simpa [zzP,zzZ]using this
end
section
variable{P:Program}{S:FuncId->List VV->Option (Bool×VV)}{B N:Nat}{w0:World}
theorem SS.drew{st:VS}{a:Act}{w:World}(h:SS B N w0 st a w):SS B N w0 st a {w with drawn:=w.drawn+1}:=by
 obtain⟨ρ,St,hn,h⟩:=h;refine⟨ρ,St,hn,⟨fun t x ht=> ?_,fun s k hk=> ?_,h.inj,h.st,h.below.trans ⟨rfl,rfl,rfl,Nat.le_refl _,fun _ _=>rfl⟩,h.base,h.defers,h.size⟩⟩
 ·obtain⟨y,h1,h2⟩:=h.tm t x ht
  exact⟨y,h1,h2.mono (w':={w with drawn:=w.drawn+1}) (fun _ _=>rfl) (fun _ h=>h) _ (znw.refl _)⟩
 ·obtain⟨b,g,cs,ty,h1,h2,h3,h4,h5,h6⟩:=h.mem s k hk
  refine⟨b,g,cs,ty,h1,h2,h3,h4,h5,fun i x hx=> ?_⟩;obtain⟨y,y1,y2,y3⟩:=h6 i x hx;exact⟨y,y1,y2,y3.mono (w':={w with drawn:=w.drawn+1}) (fun _ _=>rfl) (fun _ h=>h) (znw.refl _)⟩
theorem SS.weak{st st':VS}{a:Act}{w:World}(h:SS B N w0 st a w)(hT:∀t x,get? st'.t t=some x->get? st.t t=some x)(hM:st'.m=st.m)(hn:st'.n=st.n):SS B N w0 st' a w:=by
 obtain⟨ρ,St,h1,h2⟩:=h;exact⟨ρ,St,by rw [hn];exact h1,h2.weak hT (fun s k hk=>by rw [hM]at hk;exact hk)⟩
theorem zIs(s:Nat):∀(L:List Nat) (i j:Nat),idx s L i=some j->i<=j/\L[j-i]? =some s
 |[],i,j,h=>by simp [idx]at h
 |a::r,i,j,h=>by
  simp only [idx]at h;cases hb:Nat.beq a s with
  |true=>
   simp only [hb,cond_true,Option.some.injEq]at h;subst h;exact⟨Nat.le_refl _,by simp [Nat.eq_of_beq_eq_true hb]⟩
  |false=>
   simp only [hb,cond_false]at h;obtain⟨h1,h2⟩:=zIs s r (i+1) j h;refine⟨zc,?_⟩;rw [show j-i=(j-(i+1))+1 from zc,List.getElem?_cons_succ];exact h2
def zwM(ρ:Rho)(L:List Nat):Rho:=fun i=>match L[i]? with
 |some s=>ρ s
 |none=>none
theorem ziM{St:Nat->Prop}{w:World}{ρ:Rho}{L:List Nat}{x x':VV}{v:Value}(hr:zus L x=some x')(h:Rel St w ρ x v):Rel St w (zwM ρ L) x' v:=by
 have get:∀s i,idx s L 0=some i->zwM ρ L i=ρ s:=fun s i hi=>by
  obtain⟨_,h2⟩:=zIs s L 0 i hi;simp only [Nat.sub_zero]at h2;simp [zwM,h2]
 cases x with
 |v y=>simp only [zus,Option.some.injEq]at hr;subst hr;obtain rfl:=h.v_inv;exact .v _ _
 |lp s o=>
  simp only [zus]at hr;cases hi:idx s L 0 with
  |none=>simp [hi]at hr
  |some i=>
   simp only [hi,Option.some.injEq]at hr;subst hr;obtain⟨b,g,z,g1,rfl⟩:=h.lp_inv;exact .lp _ _ _ _ _ _ (by rw [get s i hi];exact g1)
 |ls s o l z=>
  simp only [zus]at hr;cases hi:idx s L 0 with
  |none=>simp [hi]at hr
  |some i=>
   simp only [hi,Option.some.injEq]at hr;subst hr;obtain⟨b,g,sz,c,aa,g1,g2,g3,g4,rfl⟩:=h.ls_inv;exact .ls _ _ _ _ _ _ _ _ _ _ (by rw [get s i hi];exact g1) g2 g3 g4
 |fp c o=>
  simp only [zus,Option.some.injEq]at hr;subst hr;obtain⟨b,q,xs,h1,h2,h3,rfl⟩:=h.fp_inv;exact .fp _ _ _ _ _ _ h1 h2 h3
 |fs c o l z=>
  simp only [zus,Option.some.injEq]at hr;subst hr;obtain⟨b,q,cp,aa,xs,h0,h0',h1,h2,h3,rfl⟩:=h.fs_inv;exact .fs _ _ _ _ _ _ _ _ _ _ h0 h0' h1 h2 h3
 |fn f c=>simp [zus]at hr
 |agg c=>simp [zus]at hr
 |tup c=>simp [zus]at hr
theorem zDZ{St:Nat->Prop}{w:World}{ρ:Rho}{L:List Nat}{x x':VV}{v:Value}(hr:ren L x=some x')(h:Rel St w ρ x v):Rel St w (zwM ρ L) x' v:=by
 have many:∀{c c':List VV} {xs:Nat->Value},zd4 (zus L) c=some c'->(∀(i:Nat) (x:VV),c[i]? =some x->Rel St w ρ x (xs i))->∀(i:Nat) (x:VV),c'[i]? =some x->Rel St w (zwM ρ L) x (xs i):=by
  intro c c' xs hc hx i x hi;obtain⟨_,sp⟩:=zcw hc;obtain⟨y,hy,hf⟩:=sp i x hi;exact ziM hf (hx i y hy)
 cases x with
 |fn f c=>
  simp only [ren]at hr;cases hc:zd4 (zus L) c with
  |none=>simp [hc]at hr
  |some c'=>
   simp only [hc,Option.map_some,Option.some.injEq]at hr;subst hr;obtain⟨s1,sp⟩:=zcw hc;obtain⟨vs,xs,h1,h2,h3,rfl⟩:=h.fn_inv;exact .fn _ _ _ _ xs (by rw [h1,s1]) (fun i x hx=>by obtain⟨y,hy,_⟩:=sp i x hx;exact h2 i y hy) (many hc h3)
 |agg c=>
  simp only [ren]at hr;cases hc:zd4 (zus L) c with
  |none=>simp [hc]at hr
  |some c'=>
   simp only [hc,Option.map_some,Option.some.injEq]at hr;subst hr;obtain⟨s1,sp⟩:=zcw hc;obtain⟨vs,xs,h1,h2,h3,rfl⟩:=h.agg_inv;exact .agg _ _ _ xs (by rw [h1,s1]) (fun i x hx=>by obtain⟨y,hy,_⟩:=sp i x hx;exact h2 i y hy) (many hc h3)
 |tup c=>simp [ren]at hr
 |v y=>exact ziM (by simpa [ren]using hr) h
 |lp s o=>exact ziM (by simpa [ren]using hr) h
 |ls s o l z=>exact ziM (by simpa [ren]using hr) h
 |fp c o=>exact ziM (by simpa [ren]using hr) h
 |fs c o l z=>exact ziM (by simpa [ren]using hr) h
theorem zz3{p q:Nat}(h:p≠q):Nat.beq p q=false:=by
 cases hb:Nat.beq p q with
 |false=>rfl
 |true=>exact absurd (Nat.eq_of_beq_eq_true hb) h
theorem zD0(L:List Nat):∀(T:List (Nat×VV)) (t:Nat) (y:VV),get? (zMp L T) t=some y->∃x,get? T t=some x/\ren L x=some y
 |[],t,y,h=>by simp [zMp,get?]at h
 |(k,x)::r,t,y,h=>by
  simp only [zMp]at h;by_cases hk:k=t
  ·subst hk
   cases hx:ren L x with
   |none=>simp only [hx,ztf,if_true]at h;cases h
   |some z=>
    simp only [hx,get?,Nat.beq_refl,cond_true,Option.some.injEq]at h;subst h;exact⟨x,by simp [get?],hx⟩
  ·have hb:=zz3 hk
   have:get? (zMp L r) t=some y:=by
    cases hx:ren L x with
    |none=>simp only [hx,ztf,if_neg (Ne.symm hk)]at h;exact h
    |some z=>simp only [hx,get?,hb,cond_false]at h;exact h
   obtain⟨x',h1,h2⟩:=zD0 L r t y this;exact⟨x',by simp [get?,hb,h1],h2⟩
theorem ztg(L:List Nat)(m:List (Nat×Blk)):∀(l:List Nat) (i j:Nat) (k':Blk),get? (zEH L m l i) j=some k'->i<=j/\∃s k,l[j-i]? =some s/\get? m s=some k/\
 ((k.closed=true/\k'=k)\/(k.closed=false/\∃c,zd4 (ren L) k.c=some c/\k'=⟨c,false⟩))
 |[],i,j,k',h=>by simp [zEH,get?]at h
 |s::r,i,j,k',h=>by
  have up:get? (zEH L m r (i+1)) j=some k'->i<=j/\∃s' k,(s::r)[j-i]? =some s'/\get? m s'=some k/\
   ((k.closed=true/\k'=k)\/(k.closed=false/\∃c,zd4 (ren L) k.c=some c/\k'=⟨c,false⟩)):=by
   intro h;obtain⟨h1,s',k,h2,h3⟩:=ztg L m r (i+1) j k' h;exact⟨zc,s',k,by rw [show j-i=(j-(i+1))+1 from zc,List.getElem?_cons_succ];exact h2,h3⟩
  simp only [zEH]at h;cases hm:get? m s with
  |none=>simp only [hm]at h;exact up h
  |some k=>
   simp only [hm]at h;cases hc:k.closed with
   |true=>
    simp only [hc,cond_true,get?]at h;by_cases hij:i=j
    ·subst hij
     simp only [Nat.beq_refl,cond_true,Option.some.injEq]at h;exact⟨Nat.le_refl _,s,k,jq,hm,.inl ⟨hc,h.symm⟩⟩
    ·simp only [zz3 hij,cond_false]at h;exact up h
   |false=>
    simp only [hc,cond_false]at h;cases hq:zd4 (ren L) k.c with
    |none=>simp only [hq]at h;exact up h
    |some c=>
     simp only [hq,get?]at h;by_cases hij:i=j
     ·subst hij
      simp only [Nat.beq_refl,cond_true,Option.some.injEq]at h;exact⟨Nat.le_refl _,s,k,jq,hm,.inr ⟨hc,c,hq,h.symm⟩⟩
     ·simp only [zz3 hij,cond_false]at h;exact up h
theorem zxV:∀(L:List Nat),zzQ L=true->∀(i j:Nat) (s:Nat),L[i]? =some s->L[j]? =some s->i=j
 |[],_,i,j,s,h,_=>by simp at h
 |a::r,h,i,j,s,h1,h2=>by
  simp only [zzQ,Bool.and_eq_true,Bool.not_eq_true']at h;have mem:∀{i:Nat},r[i]? =some a->False:=fun{i} hi=>by
   have:zyz a r=true:=by
    unfold zyz;exact List.any_eq_true.2 ⟨a,List.mem_of_getElem? hi,Nat.beq_refl a⟩
   rw [h.1]at this;cases this
  cases i with
  |zero=>
   cases j with
   |zero=>rfl
   |succ j=>simp at h1 h2;subst h1;exact(mem h2).elim
  |succ i=>
   cases j with
   |zero=>simp at h1 h2;subst h2;exact(mem h1).elim
   |succ j=>simp at h1 h2;rw [zxV r h.2 i j s h1 h2]
theorem SS.canon{st:VS}{a:Act}{w:World}(K:List Nat)(h:SS B N w0 st a w):SS B N w0 (zxO K st) a w:=by
 obtain⟨ρ,St,h1,h2⟩:=h;unfold Xv.zxO;simp only;generalize zId st.m 50 (zwH [] ((zwF K st.t).flatMap fun p=>zEG p.2)) (zwH [] ((zwF K st.t).flatMap fun p=>zEG p.2))=L;cases hL:zzQ L with
 |false=>
  simp only [cond_false];exact⟨zmr,St,fun _ _=>rfl,⟨fun t x ht=>by simp [get?]at ht,fun s k hk=>by simp [get?]at hk,fun s s' k k' b z z' hk=>by simp [get?]at hk,h2.st,h2.below,h2.base,h2.defers,h2.size⟩⟩
 |true=>
  simp only [cond_true];refine⟨zwM ρ L,St,fun s hs=>by simp [zwM,List.getElem?_eq_none (show L.length<=s from hs)],⟨fun t x ht=> ?_,fun s k hk=> ?_,fun s s' k k' b z z' hk hk' hr hr'=> ?_,h2.st,h2.below,h2.base,h2.defers,h2.size⟩⟩
  ·obtain⟨y,hy,hr⟩:=zD0 L _ t x ht
   obtain⟨v,v1,v2⟩:=h2.tm t y (zvv K _ t y hy);exact⟨v,v1,zDZ hr v2⟩
  ·obtain⟨_,s0,k0,g1,g2,g3⟩:=ztg L st.m L 0 s k hk
   simp only [Nat.sub_zero]at g1;obtain⟨b,g,cs,ty,q1,q2,q3,q4,q5,q6⟩:=h2.mem s0 k0 g2;have hρ:zwM ρ L s=ρ s0:=by simp [zwM,g1]
   rcases g3 with⟨c1,rfl⟩|⟨c1,c,c2,rfl⟩
   ·refine⟨b,g,cs,ty,by rw [hρ];exact q1,q2,q3,q4,q5,fun i x hx=> ?_⟩
    obtain⟨y,y1,y2,y3⟩:=q6 i x hx;have:=y3.2 c1;subst this;exact⟨y,y1,y2,zeQ.v _⟩
   ·obtain⟨s1,sp⟩:=zcw c2
    refine⟨b,g,cs,ty,by rw [hρ];exact q1,q2,q3,q4,by simpa [s1]using q5,fun i x hx=> ?_⟩
    obtain⟨x0,hx0,hren⟩:=sp i x hx;obtain⟨y,y1,y2,y3⟩:=q6 i x0 hx0;exact⟨y,y1,y2,zDZ hren y3.1,fun e=>by cases e⟩
  ·obtain⟨_,s0,k0,g1,g2,_⟩:=ztg L st.m L 0 s k hk
   obtain⟨_,s0',k0',g1',g2',_⟩:=ztg L st.m L 0 s' k' hk';simp only [Nat.sub_zero]at g1 g1';have hρ:zwM ρ L s=ρ s0:=by simp [zwM,g1]
   have hρ':zwM ρ L s'=ρ s0':=by simp [zwM,g1']
   rw [hρ]at hr;rw [hρ']at hr';have:=h2.inj s0 s0' _ _ b z z' g2 g2' hr hr';subst this;exact zxV L hL s s' s0 g1 g1'
end
theorem SS.join{B N:Nat}{w0:World}{st:VS}{a:Act}{w:World}(C:Cfg)(b:Code)(h:SS B N w0 st a w):SS B N w0 (zDU C b st) a w:=by
 unfold zDU;cases zDT C b with
 |none=>exact h
 |some K=>exact h.canon K
section
variable{P:Program}{S:FuncId->List VV->Option (Bool×VV)}{B N:Nat}{w0:World}
def zMw(P:Program)(S:FuncId->List VV->Option (Bool×VV)):Prop:=
 ∀(B N:Nat) (w0:World) (ro:List Nat) (ops:Array Oper) (Q:Exit->Act->World->Prop) (r:VV) (st:VS) (k:VS->R) (a:Act) (w:World),(∀o∈ops.toList,∀t,o.dst=some t->t<N)->
  zp2 ops.toList 0=true->ztT P S ro ops st.m st.n (zxN ops.toList ops.size []) ops.toList 0 [] st k=some r->SS B N w0 st a w->(∀st' a' w',k st'=some r->SS B N w0 st' a' w'->Q .normal a' w')->
  wpAny P .any ops Q ops.size (Array.replicate ops.size false) a w
theorem zxW{id:Nat}{ops:Array Oper}{draw:Bool}(h:zfK N (.region id ops draw)=true):∀o∈ops.toList,∀t,o.dst=some t->t<N:=by
 intro o ho t ht;simp only [zfK]at h;have:=(List.all_eq_true.1 h) o ho;rw [ht]at this;exact Nat.le_of_ble_eq_true this
theorem zMx(hS:∀f,yc P f (unS (S f)))(hD:zMw P S)(hf:P.follows .mixedOrders=true)(C:Cfg)(fuel:Nat){r:VV}:∀(c:Code) (j:Nat) (st:VS) (k:Exit->VS->R) (a:Act) (w:World) (Q:Exit->Act->World->Prop),
 zfK N c=true->zdA P S C fuel c j st k=some r->SS B N w0 st a w->(∀e st' a' w',k e st'=some r->SS B N w0 st' a' w'->Q e a' w')->c.wp P Q a w:=by
 intro c;induction c with
 |skip=>intro j st k a w Q _ hk hs hQ;exact wp_skip (hQ _ _ _ _ hk hs)
 |region id ops draw=>
  intro j st k a w Q hd hk hs hQ;simp only [zdA,region]at hk;have hfin:∀st' a' w',(k .normal {st' with t:=zwF C.V st'.t})=some r->SS B N w0 st' a' w'->Q .normal a' w':=fun st' a' w' h1 h2=>
   hQ _ _ _ _ h1 (h2.weak (fun t x ht=>zvv _ _ _ _ ht) rfl rfl)
  cases draw with
  |false=>
   simp only [cond_false]at hk;exact wp_region_list (zwL hS ops.toList st _ a w (zxW hd) hk hs hfin)
  |true=>
   simp only [cond_true]at hk;cases he:zp2 ops.toList 0 with
   |false=>simp [he]at hk
   |true=>
    simp only [he,Bool.not_true,cond_false]at hk;exact wp_region_any hf (hD B N w0 C.ro ops Q r st _ a _ (zxW hd) he hk hs.drew hfin)
 |seq x y ihx ihy=>
  intro j st k a w Q hd hk hs hQ;simp only [zfK,Bool.and_eq_true]at hd;simp only [zdA]at hk;refine wp_seq (ihx j st _ a w _ hd.1 hk hs fun e st' a' w' h1 h2=> ?_);cases e<;>first|exact ihy j (zDU C y st') k a' w' Q hd.2 h1 (h2.join C y) hQ|exact hQ _ _ _ _ h1 h2
 |cond c x y ihx ihy=>
  intro j st k a w Q hd hk hs hQ;simp only [zfK,Bool.and_eq_true]at hd;simp only [zdA]at hk;split at hk
  ·rename_i g hg
   obtain⟨ρ,St,h1,h2⟩:=hs;have hc:=(h2.ev hg).v_inv;have hs:SS B N w0 st a w:=⟨ρ,St,h1,h2⟩;split at hk
   ·rename_i d
    have hs':SS B N w0 {st with t:=zDV C.ro d g st.t} a w:=hs.weak (fun t x ht=>by
     unfold zDV at ht;cases hro:C.ro.any (Nat.beq (d+1000000))with
     |false=>simp only [hro,cond_false,ztf]at ht;split at ht<;>first|(cases ht;done)|exact ht
     |true=>
      simp only [hro,cond_true,znx]at ht;split at ht
      ·rename_i e;subst e;cases ht;exact hg
      ·exact ht) rfl rfl
    cases g with
    |true=>exact wp_cond_true hc (ihx j _ k a w Q hd.1 hk hs' hQ)
    |false=>exact wp_cond_false hc (ihy j _ k a w Q hd.2 hk hs' hQ)
   ·cases g with
    |true=>exact wp_cond_true hc (ihx j _ k a w Q hd.1 hk hs hQ)
    |false=>exact wp_cond_false hc (ihy j _ k a w Q hd.2 hk hs hQ)
  ·cases hk
 |block id b ih=>
  intro j st k a w Q hd hk hs hQ;simp only [zfK]at hd;simp only [zdA]at hk;refine wp_block (ih id st _ a w _ hd hk hs fun e st' a' w' h1 h2=> ?_);cases e with
  |exit i=>
   simp only [Exit.inBlock];by_cases hi:i=id
   ·subst hi
    simp only [Nat.beq_refl,cond_true]at h1;simp only [if_true];exact hQ _ _ _ _ h1 h2
   ·simp only [zz3 hi,cond_false]at h1
    simp only [if_neg hi];exact hQ _ _ _ _ h1 h2
  |_=>exact hQ _ _ _ _ h1 h2
 |loop b ih=>
  intro j st k a w Q hd hk hs hQ;simp only [zfK]at hd;simp only [zdA]at hk;refine wp_loop_rounds fuel ?_;have key:∀(n:Nat) (st:VS) (a:Act) (w:World),zMq (zdA P S C fuel b j) (zxO ((get? C.L j).getD [])) k n st=some r->SS B N w0 st a w->Code.rounds P b Q n a w:=by
   intro n;induction n with
   |zero=>intro st a w h;simp [zMq]at h
   |succ n ihn=>
    intro st a w h hs;simp only [zMq]at h;rw [rounds_succ];refine ih j _ _ a w _ hd h (hs.canon _) fun e st' a' w' h1 h2=> ?_
    cases e<;>first|exact ihn st' a' w' h1 h2|exact hQ _ _ _ _ h1 h2
  exact key fuel st a w hk hs
 |exit id=>intro j st k a w Q _ hk hs hQ;exact wp_exit (hQ _ _ _ _ hk hs)
 |ret=>intro j st k a w Q _ hk hs hQ;exact wp_ret (hQ _ _ _ _ hk hs)
 |rangeFunc f ps x y ihx ihy=>intro j st k a w Q _ hk;simp [zdA]at hk
 |scope b ih=>intro j st k a w Q _ hk;simp [zdA]at hk
 |label l=>intro j st k a w Q _ hk;simp [zdA]at hk
 |goto l=>intro j st k a w Q _ hk;simp [zdA]at hk
 |refuse y=>intro j st k a w Q _ hk;simp [zdA]at hk
end
section
variable{P:Program}{S:FuncId->List VV->Option (Bool×VV)}{N:Nat}{w0:World}
theorem zcV{T:Nat->Option VV}{M:Nat->Option Blk}{ρ:Rho}{St:Nat->Prop}{a:Act}{w:World}(h:SR w0.heap.size N w0 T M ρ St a w){x x':VV}{v:Value}
 (hc:zp3 M x=some x') (hx:Rel St w ρ x v):zBD w0 w x' v:=by
 cases x with
 |v y=>
  simp only [zp3,Option.some.injEq]at hc;subst hc;obtain rfl:=hx.v_inv;exact⟨.v _ _,fun c l z e=>by cases e⟩
 |ls s o l z=>
  simp only [zp3]at hc;cases hM:M s with
  |none=>simp [hM]at hc
  |some k=>
   simp only [hM]at hc;cases hcl:k.closed with
   |false=>simp [hcl]at hc
   |true=>
    simp only [hcl,cond_true,Option.some.injEq]at hc;subst hc;obtain⟨b,g,cs,ty,q1,q2,q3,q4,q5,q6⟩:=h.mem s k hM;obtain⟨b',g',sz,cp,aa,r1,r2,r3,r4,rfl⟩:=hx.ls_inv;rw [q1]at r1;cases r1;have hlt:b<w.heap.size:=(zy q2);obtain⟨xs,hxs⟩:=zIg q6;refine⟨?_,fun c l' z' e=> ?_⟩
    ·refine .fs _ k.c o l z b g cp aa xs r2 r3 (fun _ _ _=>⟨q3,hlt⟩) (fun i x hx=>⟨?_,(hxs i x hx).2.1⟩) (fun i x hx=>(hxs i x hx).2.2.2 hcl)
     rw [cell_of_row w b _ cs ty (0,0) q2];exact(hxs i x hx).1
    ·cases e
     exact⟨b,g,cs,ty,cp,aa,q3,q2,r2,fun h=>by have:=r3 h;simpa using this,fun h=>by have:=r4 h;simpa using this,rfl,q5,fun i x hx=>⟨xs i,(hxs i x hx).1,(hxs i x hx).2.1,(hxs i x hx).2.2.2 hcl⟩⟩
 |_=>simp [zp3]at hc
theorem zvx{T:Nat->Option VV}{M:Nat->Option Blk}{ρ:Rho}{St:Nat->Prop}{a:Act}{w:World}(h:SR w0.heap.size N w0 T M ρ St a w){x x':VV}{v:Value}
 (hc:ziK M x=some x') (hx:Rel St w ρ x v):zBD w0 w x' v:=by
 cases x with
 |agg c=>
  simp only [ziK]at hc;cases hm:zd4 (zp3 M) c with
  |none=>simp [hm]at hc
  |some c'=>
   simp only [hm,Option.some.injEq]at hc;subst hc;obtain⟨s1,sp⟩:=zcw hm;obtain⟨vs,xs,h1,h2,h3,rfl⟩:=hx.agg_inv;refine⟨.agg _ c' vs xs (by rw [h1,s1]) (fun i x hx=> ?_) (fun i x hx=> ?_),fun c l z e=>by cases e⟩
   ·obtain⟨x0,hx0,_⟩:=sp i x hx;exact h2 i x0 hx0
   ·obtain⟨x0,hx0,hc0⟩:=sp i x hx;exact(zcV h hc0 (h3 i x0 hx0)).1
 |v y=>exact zcV h (by simpa [ziK]using hc) hx
 |lp s o=>exact zcV h (by simpa [ziK]using hc) hx
 |ls s o l z=>exact zcV h (by simpa [ziK]using hc) hx
 |fp c o=>exact zcV h (by simpa [ziK]using hc) hx
 |fs c o l z=>exact zcV h (by simpa [ziK]using hc) hx
 |fn f c=>exact zcV h (by simpa [ziK]using hc) hx
 |tup c=>exact zcV h (by simpa [ziK]using hc) hx
theorem zEM{ρ:Rho}{St:Nat->Prop}{st:VS}{a:Act}{w:World}(h:SR w0.heap.size N w0 (get? st.t) (get? st.m) ρ St a w){rv:ResultVar}{x:VV}(hr:zEI P st rv=some (true,x)):
 ∃v,(match rv with
  | .tmp t=>pure (a.tmps.getD t undef)
  | .cell t ty=>do loadVar ty (<-asAddr (a.tmps.getD t undef)):Sem Value).run P w= .ok v w/\zBD w0 w x v:=by
 cases rv with
 |tmp t=>
  simp only [zEI]at hr;cases ht:get? st.t t with
  |none=>simp [ht]at hr
  |some y=>
   simp only [ht]at hr;cases hc:ziK (get? st.m) y with
   |none=>simp [hc]at hr
   |some y'=>
    simp only [hc,Option.map_some,Option.some.injEq,Prod.mk.injEq,true_and]at hr;subst hr;obtain⟨v,v1,v2⟩:=h.tm t y ht;refine⟨v,?_,zvx h hc v2⟩;simp only [Sem.run_pure,Array.getD_eq_getD_getElem?,v1,Option.getD_some]
 |cell t ty=>
  simp only [zEI]at hr;split at hr
  ·rename_i s o ht
   cases hm:get? st.m s with
   |none=>simp [hm]at hr
   |some k=>
    simp only [hm]at hr;cases hu:P.underlying ty with
    |none=>simp [hu]at hr
    |some d=>
     simp only [hu,Option.isNone_some,cond_false]at hr;cases hrd:ztS P ty k.c o with
     |none=>simp [hrd]at hr
     |some bx=>
      obtain⟨b,y⟩:=bx;simp only [hrd]at hr;cases hc:ziK (get? st.m) y with
      |none=>simp [hc]at hr
      |some y'=>
       simp only [hc,Option.map_some,Option.some.injEq,Prod.mk.injEq]at hr;obtain⟨rfl,rfl⟩:=hr;obtain⟨v,v1,v2⟩:=h.tm t _ ht;obtain⟨b,g,z,g1,rfl⟩:=v2.lp_inv;obtain⟨b',g',z',q1,_,_,q3⟩:=h.blk hm;rw [g1]at q1;cases q1
       obtain⟨u,u1,u2⟩:=zxP (P:=P) hrd ⟨d,hu⟩ (fun i y hy=>by
        obtain⟨u,⟨h1,_⟩,h2⟩:=q3 i y hy
        exact⟨u,h1,h2.1⟩)
       refine⟨u,?_,zvx h hc u2⟩;simp only [Sem.run_bind,Array.getD_eq_getD_getElem?,v1,Option.getD_some,asAddr,Sem.run_pure,Result.andThen_ok,u1]
  ·cases hr
def zEN(a:Act):ResultVar->Sem Value
 | .tmp t=>pure (a.tmps.getD t undef)
 | .cell t ty=>do loadVar ty (<-asAddr (a.tmps.getD t undef))
theorem zMy(fn:Func)(a:Act):results fn a.tmps=(do let vs<-fn.results.mapM (zEN a);pure (if h:vs.size=1 then vs[0]else .tuple vs)):=by
 unfold results;congr 2
theorem zz4{ρ:Rho}{St:Nat->Prop}{st:VS}{a:Act}{w:World}(h:SR w0.heap.size N w0 (get? st.t) (get? st.m) ρ St a w):∀(l:List ResultVar) (xs:List VV),zPD P st l=some (true,xs)->
 ∃vs:List Value,(l.mapM (zEN a)).run P w= .ok vs w/\vs.length=xs.length/\∀(i:Nat) (x:VV),xs[i]? =some x->∃v,vs[i]? =some v/\zBD w0 w x v
 |[],xs,hr=>by
  simp only [zPD,Option.some.injEq,Prod.mk.injEq,true_and]at hr;subst hr;exact⟨[],jq,rfl,jq⟩
 |rv::q,xs,hr=>by
  simp only [zPD]at hr;split at hr
  ·rename_i b x b' l h1 h2
   simp only [Option.some.injEq,Prod.mk.injEq,Bool.and_eq_true]at hr;obtain⟨⟨rfl,rfl⟩,rfl⟩:=hr;obtain⟨v,v1,v2⟩:=zEM h h1;obtain⟨vs,e1,e2,e3⟩:=zz4 h q l h2;have v1':(zEN a rv).run P w= .ok v w:=by cases rv<;>exact v1
   refine⟨v::vs,by simp [List.mapM_cons,v1',e1],by simp [e2],fun i x hx=> ?_⟩;cases i with
   |zero=>simp at hx;subst hx;exact⟨v,rfl,v2⟩
   |succ i=>simp at hx;exact e3 i x hx
  ·cases hr
theorem zMz{ρ:Rho}{St:Nat->Prop}{st:VS}{a:Act}{w:World}(h:SR w0.heap.size N w0 (get? st.t) (get? st.m) ρ St a w){fn:Func}{r:VV}(hr:zRC P fn st=some r):
 ∃v,(results fn a.tmps).run P w= .ok v w/\zBD w0 w r v:=by
 unfold zRC at hr;cases hl:zPD P st fn.results.toList with
 |none=>simp [hl]at hr
 |some bl=>
  obtain⟨b,l⟩:=bl;simp only [hl]at hr;cases b with
  |false=>simp at hr
  |true=>
   simp only [cond_true]at hr;obtain⟨vs,e1,e2,e3⟩:=zz4 h _ l hl;have hrun:(fn.results.mapM (zEN a)).run P w= .ok vs.toArray w:=by
    rw [<-Array.toArray_toList (xs:=fn.results),List.mapM_toArray];simp [e1]
   rw [zMy];simp only [Sem.run_bind,hrun,Result.andThen_ok,Sem.run_pure];split at hr
   ·rename_i x
    cases hr;obtain⟨v,v1,v2⟩:=e3 0 r rfl;have hvs:vs=[v]:=by
     match vs,e2,v1 with
     |[u],_,v1=>simp at v1;rw [v1]
    subst hvs;exact⟨v,jq,v2⟩
   ·rename_i hne
    have hsz: ¬vs.toArray.size=1:=by
     intro e;simp only [List.size_toArray]at e;rw [e2]at e;match l,e with
     |[x],_=>exact hne x rfl
    refine⟨.tuple vs.toArray,by rw [dif_neg hsz],?_⟩;cases hp:zd3 l with
    |some l'=>
     simp only [hp,Option.some.injEq]at hr;subst hr;have hl':=zp4 _ _ hp;have:vs=l':=by
      apply List.ext_getElem?
      intro i;by_cases hi:i<l.length
      ·obtain⟨v,v1,v2⟩:=e3 i l[i] (by simp [hi])
       have hi':i<l'.length:=by rw [hl']at hi;simpa using hi
       have:l[i]= .v l'[i]:=by simp [hl']
       rw [this]at v2;rw [v1,v2.1.v_inv];simp [hi']
      ·rw [List.getElem?_eq_none zc,List.getElem?_eq_none (by rw [hl']at hi;simpa using hi)]
     subst this;exact⟨.v _ _,fun c l z e=>by cases e⟩
    |none=>
     simp only [hp,Option.some.injEq]at hr;subst hr;obtain⟨xs,hxs⟩:=zIg (fun i x hx=>e3 i x hx);exact⟨.tup _ l vs.toArray xs (by simp [e2]) (fun i x hx=>by simpa using(hxs i x hx).1) (fun i x hx=>(hxs i x hx).2.1),fun c l z e=>by cases e⟩
theorem zMA(l:List VV):∀(i t:Nat) (x:VV),get? (zwI i l) t=some x->i<=t/\l[t-i]? =some x:=by
 induction l with
 |nil=>intro i t x h;simp [zwI,get?]at h
 |cons y r ih=>
  intro i t x h;simp only [zwI,get?]at h;by_cases hit:i=t
  ·subst hit
   simp only [Nat.beq_refl,cond_true,Option.some.injEq]at h;subst h;exact⟨Nat.le_refl _,jq⟩
  ·simp only [zz3 hit,cond_false]at h
   obtain⟨h1,h2⟩:=ih (i+1) t x h;exact⟨zc,by rw [show t-i=(t-(i+1))+1 from zc,List.getElem?_cons_succ];exact h2⟩
theorem zRF(hS:∀f,yc P f (unS (S f)))(hD:zMw P S)(hf:P.follows .mixedOrders=true)(C:Cfg)(fuel:Nat)(f:FuncId)(hname:(P.funcs[f]?).all (fun fn=> !(fn.name== "runtime.NumGoroutine"))=true):
 yc P f (zTS P S C fuel f):=by
 intro args r hr;unfold zTS at hr;cases hfn:P.funcs[f]? with
 |none=>simp [hfn]at hr
 |some fn=>
  simp only [hfn]at hr;cases hb:fn.body with
  |none=>simp [hb]at hr
  |some c=>
   simp only [hb]at hr;cases hd:zfK fn.ntmps c with
   |false=>simp [hd]at hr
   |true=>
    simp only [hd,cond_true]at hr;refine⟨⟨fn,hfn,?_,by simp [hb]⟩,fun w vs St hSt hsz hrel=> ?_⟩
    ·rw [hfn]at hname;simpa using hname
    ·refine calls_of_wp hfn hb ?_
     refine zMx (B:=w.heap.size) (N:=fn.ntmps) (w0:=w) hS hD hf C fuel c 0 _ _ _ w _ hd hr ⟨zmr,St,fun _ _=>rfl,?_⟩ ?_
     ·refine⟨fun t x ht=> ?_,fun s k hk=>by simp [get?]at hk,fun s s' k k' b z z' hk=>by simp [get?]at hk,hSt,Below.refl _ _,Nat.le_refl _,rfl,by simp;omega⟩
      obtain⟨_,h2⟩:=zMA args 0 t x ht;obtain⟨y,y1,y2⟩:=hrel t x h2;refine⟨y,?_,y2⟩;rw [Array.getElem?_append,if_pos (zy y1)];exact y1
     ·intro e st' a' w' hk hs
      obtain⟨ρ,St',_,h2⟩:=hs;have fin:zRC P fn st'=some r->a'.defers=[]/\∃v,(results fn a'.tmps).run P w'= .ok v w'/\∃v',Ending.returned v= .returned v'/\Below w.heap.size w w'/\zBD w w' r v':=by
       intro hk;obtain⟨v,v1,v2⟩:=zMz h2 hk;exact⟨h2.defers,v,v1,v,rfl,h2.below,v2⟩
      cases e<;>first|exact fin hk|(cases hk;done)
end
section
variable{P:Program}{S:FuncId->List VV->Option (Bool×VV)}{ro:List Nat}
theorem zz5{α β:Type}{f g:α->Option β}:∀{l:List α},(∀x∈l,f x=g x)->zd4 f l=zd4 g l
 |[],_=>rfl
 |x::r,h=>by
  simp only [zd4,h x jq,zz5 (l:=r) (fun y hy=>h y (by simp [hy]))]
theorem zz6{T T':Nat->Option VV}{x:Operand}(h:ev T x=ev T' x):zyy T x=zyy T' x:=by unfold zyy;rw [h]
theorem zIt{T T':Nat->Option VV}{o:Oper}(hs:∀cs b,o.op≠ .select cs b)(h:∀x∈o.op.operands.toList,ev T x=ev T' x):zfQ P T o=zfQ P T' o:=by
 unfold zfQ;have h1:zd4 (zyy T) o.op.operands.toList=zd4 (zyy T') o.op.operands.toList:=zz5 fun x hx=>zz6 (h x hx)
 have h2:execOp (fun x=>(zyy T x).getD undef) o=execOp (fun x=>(zyy T' x).getD undef) o:=
  execOp_congr o hs fun x hx=>by
   show(zyy T x).getD undef=(zyy T' x).getD undef;rw [zz6 (h x (Array.mem_toList_iff.2 hx))]
 rw [h1,h2]
theorem zth{T T':Nat->Option VV}:∀{l:List Operand},(∀x∈l,ev T x=ev T' x)->evs T l=evs T' l
 |[],_=>rfl
 |x::r,h=>by simp only [evs,h x jq,zth (l:=r) (fun y hy=>h y (by simp [hy]))]
theorem zvy{T T':Nat->Option VV}{sz:Nat}:∀{l:List (Nat×Operand)} {i:Nat},(∀p∈l,ev T p.2=ev T' p.2)->ziI T sz i l=ziI T' sz i l
 |[],_,_=>rfl
 |(j,x)::r,i,h=>by simp only [ziI,h (j,x) jq,zvy (l:=r) (fun y hy=>h y (by simp [hy]))]
theorem ztU{T T':Nat->Option VV}{d:Nat}{x:Option Operand}(h:∀y,x=some y->ev T y=ev T' y):zdo T d x=zdo T' d x:=by
 cases x with
 |none=>rfl
 |some y=>simp only [zdo,h y rfl]
theorem zxX{T T':Nat->Option VV}{fs:Array Field}:∀{l:List (Nat×Operand)} {cs:List VV},(∀p∈l,ev T p.2=ev T' p.2)->zr7 P T fs cs l=zr7 P T' fs cs l
 |[],_,_=>rfl
 |(i,x)::r,cs,h=>by
  simp only [zr7,h (i,x) jq];repeat' split
  all_goals first
   |rfl
   |(simp only [Bool.cond_eq_ite];split<;>first|rfl|exact zxX fun y hy=>h y (by simp [hy]))
theorem zMB{T T':Nat->Option VV}{m m' mf mf':Nat->Option Blk}{n:Nat}{o:Oper}{e:Eff}(h:∀x∈o.op.operands.toList,ev T x=ev T' x)(hm:∀s,zrL (zEF T o) s=true->m s=m' s)
 (hmf:∀s b,e= .store s b->mf' s=mf s) (he:zuq P S ro T m mf n o=some (true,e)):zuq P S ro T' m' mf' n o=some (true,e):=by
 have hpl:(∀cs b,o.op≠ .select cs b)->zfQ P T o=zfQ P T' o:=fun hs=>zIt hs h
 unfold zuq at he⊢;cases hop:o.op with
 |move x=>simp only [hop]at he⊢;rw [<-h x (by simp [hop,Op.operands])];exact he
 |assign x=>simp only [hop]at he⊢;rw [<-h x (by simp [hop,Op.operands])];exact he
 |pick c x y=>
  simp only [hop,zOH]at he⊢;rw [<-h c (by simp [hop,Op.operands]), <-h x (by simp [hop,Op.operands]), <-h y (by simp [hop,Op.operands])];exact he
 |alloc t=>simp only [hop]at he⊢;exact he
 |box t x=>simp only [hop]at he⊢;rw [<-h x (by simp [hop,Op.operands])];exact he
 |load t x=>
  simp only [hop]at he⊢;rw [<-h x (by simp [hop,Op.operands])];cases hx:ev T x with
  |none=>simp only [hx]at he⊢;exact he
  |some v=>
   cases v with
   |lp s q=>
    have:=hm s (by simp only [zEF,hop,hx,zrL];simp [zyz])
    simp only [hx,this]at he⊢;exact he
   |_=>simp only [hx]at he⊢;exact he
 |store t x y=>
  simp only [hop]at he⊢;rw [<-h x (by simp [hop,Op.operands]), <-h y (by simp [hop,Op.operands])];split at he
  ·rename_i s oo c b hx hy
   cases hk:mf s with
   |none=>simp [hk]at he
   |some k=>
    simp only [hk]at he;cases hc:(Nat.beq c.length (P.cellsOf t)&&o.dst.isNone&&c.all ztK&&ziJ P t)with
    |false=>rw [hc]at he;cases he
    |true=>
     have he':=he;rw [hc]at he;simp only [cond_true]at he;obtain⟨_,hee⟩:=inz he;have:=hmf s _ hee.symm;rw [this,hk]
     first|exact he'|(rw [hc]at he';exact he')
  ·cases he
 |fieldAddr t x f=>simp only [hop]at he⊢;rw [<-h x (by simp [hop,Op.operands])];exact he
 |indexAddr t x y=>
  simp only [hop,zp1]at he⊢;rw [<-h x (by simp [hop,Op.operands]), <-h y (by simp [hop,Op.operands])];exact he
 |index t x y=>
  simp only [hop,zEC]at he⊢;rw [<-h x (by simp [hop,Op.operands]), <-h y (by simp [hop,Op.operands])];exact he
 |slice t x lo hi mx=>
  cases mx with
  |none=>
   simp only [hop,zED]at he⊢;have b1:∀d,zdo T d lo=zdo T' d lo:=fun d=>ztU fun y hy=>h y (by subst hy;simp [hop,Op.operands])
   have b2:∀d,zdo T d hi=zdo T' d hi:=fun d=>ztU fun y hy=>h y (by subst hy;simp [hop,Op.operands])
   rw [<-h x (by simp [hop,Op.operands]), <-(funext fun s=>hm s (by simp only [zEF,hop,zrL]):m=m')];simp only [b1,b2]at he;exact he
  |some q=>simp only [hop]at he⊢;rw [<-hpl (by simp [hop])];exact he
 |buildSlice t l ps=>
  simp only [hop]at he⊢
  have hp:∀sz i,ziI T sz i ps.toList=ziI T' sz i ps.toList:=fun sz i=>zvy fun p hp=>h p.2 (by
   simp only [hop,Op.operands];simp only [List.mem_map]
   exact⟨p,hp,rfl⟩)
  simp only [hp]at he;exact he
 |build t ps=>
  simp only [hop]at he⊢
  have hp:∀fs cs,zr7 P T fs cs ps.toList=zr7 P T' fs cs ps.toList:=fun fs cs=>zxX fun p hp=>h p.2 (by
   simp only [hop,Op.operands];simp only [List.mem_map]
   exact⟨p,hp,rfl⟩)
  rw [<-hpl (by simp [hop])];simp only [zEE,hp]at he⊢;exact he
 |makeSlice t x y=>
  simp only [hop]at he⊢;rw [<-h x (by simp [hop,Op.operands]), <-h y (by simp [hop,Op.operands])];exact he
 |makeFunc fn q cs=>
  cases fn with
  |func f=>
   simp only [hop]at he⊢;rw [<-zth (T:=T) (T':=T') (fun x hx=>h x (by simp only [hop,Op.operands];simp;exact .inr (Array.mem_toList_iff.1 hx))), <-zth (T:=T) (T':=T') (fun x hx=>h x (by simp only [hop,Op.operands];simp;exact .inl (Array.mem_toList_iff.1 hx)))];exact he
  |_=>simp only [hop]at he⊢;rw [<-hpl (by simp [hop])];exact he
 |sliceToArrayPointer t x=>simp only [hop]at he⊢;rw [<-h x (by simp [hop,Op.operands])];exact he
 |extract x i=>
  simp only [hop]at he⊢;rw [<-h x (by simp [hop,Op.operands]), <-hpl (by simp [hop])];exact he
 |convert s d x=>
  simp only [hop]at he⊢;rw [<-h x (by simp [hop,Op.operands]), <-hpl (by simp [hop]), <-(funext fun s=>hm s (by simp only [zEF,hop,zrL]):m=m')];exact he
 |binOp op t x y ty=>
  simp only [hop,zTP]at he⊢;rw [<-h x (by simp [hop,Op.operands]), <-h y (by simp [hop,Op.operands]), <-hpl (by simp [hop])];exact he
 |call c=>
  have hm:m=m':=funext fun s=>hm s (by simp only [zEF,hop,zrL])
  subst hm;have hargs:∀x∈c.args.toList,ev T x=ev T' x:=fun x hx=>h x (by simp only [hop,Op.operands,Call.operands];simp;exact .inr (Array.mem_toList_iff.1 hx))
  have hplc:=hpl (by simp [hop]);obtain⟨callee,args,argTypes⟩:=c;simp only at hargs;cases callee with
  |value f=>
   simp only [hop,zr6]at he⊢;rw [<-h f (by simp [hop,Op.operands,Call.operands]), <-zth hargs];exact he
  |invoke r s=>simp only [hop,zr6]at he;cases he
  |builtin b=>
   cases b with
   |append=>
    simp only [hop,zr6,zPB]at he⊢;split at he
    ·rename_i _ _ p q _ _
     rw [<-hargs p jq, <-hargs q jq];exact he
    ·cases he
   |len=>
    simp only [hop,zr6]at he⊢;rw [<-hplc];split at he
    ·rename_i _ _ p t
     rw [<-hargs p jq];exact he
    ·rename_i hne
     exact he
   |_=>simp only [hop,zr6]at he⊢;rw [<-hplc];exact he
 |select cs b=>simp only [hop]at he;cases he
 |_=>simp only [hop]at he⊢;rw [<-hpl (by simp [hop])];exact he
end
structure Rec where
 i:Nat
 dst:Option Nat
 reads:List Nat
 rd:Option (List Nat)
 n:Nat
 e:Option Eff
def Rec.w(r:Rec):List Nat:=match r.e with
 |some e=>wOf r.n e
 |none=>[]
def Rec.log(r:Rec):Log:=⟨r.i,r.dst,r.reads,r.w,r.rd⟩
abbrev XS:=(Nat->Option VV)×(Nat->Option Blk)
def zdC(X:XS)(r:Rec):XS:=match r.e with
 |some e=>(zfL X.1 r.dst e,zej X.2 r.n e)
 |none=>(zms X.1 r.dst (.v undef),X.2)
def zbN(S:Nat->Bool):List Rec->XS->XS
 |[],X=>X
 |r::l,X=>zbN S l (if S r.i then zdC X r else X)
theorem zlg(S:Nat->Bool):∀(l1 l2:List Rec) (X:XS),zbN S (l1++l2) X=zbN S l2 (zbN S l1 X)
 |[],_,_=>rfl
 |r::l,l2,X=>by simp only [List.cons_append,zbN,zlg S l l2]
theorem zj4{S S':Nat->Bool}:∀(l:List Rec) (X:XS),(∀r∈l,S r.i=S' r.i)->zbN S l X=zbN S' l X
 |[],_,_=>rfl
 |r::l,X,h=>by simp only [zbN,h r jq,zj4 l _ (fun q hq=>h q (by simp [hq]))]
theorem zTX(T:Nat->Option VV)(d:Option Nat)(e:Eff)(t:Nat)(h:d≠some t):zfL T d e t=T t:=by
 cases e<;>simp only [zfL,zms]<;>cases d<;>simp_all<;>intro he<;>exact absurd he.symm h
theorem zTY(T:Nat->Option VV)(d:Option Nat)(x:VV)(t:Nat)(h:d≠some t):zms T d x t=T t:=by
 cases d<;>simp only [zms]<;>simp_all<;>intro he<;>exact absurd he.symm h
theorem zti(X:XS)(r:Rec)(t:Nat)(h:r.dst≠some t):(zdC X r).1 t=X.1 t:=by
 unfold zdC;cases r.e with
 |none=>exact zTY _ _ _ _ h
 |some e=>exact zTX _ _ _ _ h
theorem zTZ(M:Nat->Option Blk)(n:Nat)(e:Eff)(s:Nat)(h:s∉wOf n e):zej M n e s=M s:=by
 cases e with
 |val x=>rfl
 |alloc x b=>simp [wOf]at h;simp [zej,ziL,h]
 |store q b=>simp [wOf]at h;simp [zej,ziL,h]
 |app q x b=>cases q<;>simp [wOf]at h<;>simp [zej,ziL,zut,h]
theorem ztj(X:XS)(r:Rec)(s:Nat)(h:s∉r.w):(zdC X r).2 s=X.2 s:=by
 unfold zdC;unfold Rec.w at h;cases hr:r.e with
 |none=>rfl
 |some e=>rw [hr]at h;exact zTZ _ _ _ _ h
theorem zOK{S S':Nat->Bool}(t:Nat):∀(l:List Rec) (X X':XS),X.1 t=X'.1 t->(∀r∈l,r.dst=some t->S r.i=S' r.i)->(∀r∈l,∀X X':XS,X.1 t=X'.1 t->(zdC X r).1 t=(zdC X' r).1 t)->(zbN S l X).1 t=(zbN S' l X').1 t
 |[],_,_,h,_,_=>h
 |r::l,X,X',h,h1,h2=>by
  simp only [zbN];refine zOK t l _ _ ?_ (fun q hq=>h1 q (by simp [hq])) (fun q hq=>h2 q (by simp [hq]));by_cases hd:r.dst=some t
  ·rw [h1 r jq hd]
   split
   ·exact h2 r jq _ _ h
   ·exact h
  ·have a1:(if S r.i then zdC X r else X).1 t=X.1 t:=by split<;>first|exact zti _ _ _ hd|rfl
   have a2:(if S' r.i then zdC X' r else X').1 t=X'.1 t:=by split<;>first|exact zti _ _ _ hd|rfl
   rw [a1,a2,h]
theorem zT0{T T':Nat->Option VV}{d:Option Nat}{e:Eff}{t:Nat}(h:T t=T' t):zfL T d e t=zfL T' d e t:=by
 cases e<;>simp only [zfL,zms]<;>cases d<;>simp [h]
theorem zT1{M M':Nat->Option Blk}{n:Nat}{e:Eff}{s:Nat}(h:M s=M' s):zej M n e s=zej M' n e s:=by
 cases e with
 |app q x b=>cases q<;>simp [zej,ziL,zut,h]
 |_=>simp [zej,ziL,h]
theorem zpv{X X':XS}{r:Rec}:(∀t,X.1 t=X'.1 t->(zdC X r).1 t=(zdC X' r).1 t)/\(∀s,X.2 s=X'.2 s->(zdC X r).2 s=(zdC X' r).2 s):=by
 unfold zdC;cases r.e with
 |none=>exact⟨fun t h=>by cases hd:r.dst<;>simp [zms,h],fun s h=>h⟩
 |some e=>exact⟨fun t h=>zT0 h,fun s h=>zT1 h⟩
theorem zEO{S S':Nat->Bool}(s:Nat):∀(l:List Rec) (X X':XS),X.2 s=X'.2 s->(∀r∈l,s∈r.w->S r.i=S' r.i)->(zbN S l X).2 s=(zbN S' l X').2 s
 |[],_,_,h,_=>h
 |r::l,X,X',h,h1=>by
  simp only [zbN];refine zEO s l _ _ ?_ (fun q hq=>h1 q (by simp [hq]));by_cases hd:s∈r.w
  ·rw [h1 r jq hd]
   split
   ·exact zpv.2 s h
   ·exact h
  ·have a1:(if S r.i then zdC X r else X).2 s=X.2 s:=by split<;>first|exact ztj _ _ _ hd|rfl
   have a2:(if S' r.i then zdC X' r else X').2 s=X'.2 s:=by split<;>first|exact ztj _ _ _ hd|rfl
   rw [a1,a2,h]
theorem zMC{X:XS}{p q:Rec}(hd:∀t,p.dst=some t->q.dst≠some t)(hw:∀s∈p.w,s∉q.w):zdC (zdC X p) q=zdC (zdC X q) p:=by
 apply Prod.ext
 ·funext t
  by_cases h1:p.dst=some t
  ·have h2:=hd t h1
   rw [zti _ q t h2];exact(zpv.1 t (zti X q t h2)).symm
  ·rw [zti _ p t h1]
   exact zpv.1 t (zti X p t h1)
 ·funext s
  by_cases h1:s∈p.w
  ·have h2:=hw s h1
   rw [ztj _ q s h2];exact(zpv.2 s (ztj X q s h2)).symm
  ·rw [ztj _ p s h1]
   exact zpv.2 s (ztj X p s h1)
theorem zuv{S:Nat->Bool}{p:Rec}:∀(l:List Rec) (X:XS),(∀r∈l,S r.i=true->(∀t,p.dst=some t->r.dst≠some t)/\∀s∈p.w,s∉r.w)->zbN S l (zdC X p)=zdC (zbN S l X) p
 |[],_,_=>rfl
 |r::l,X,h=>by
  simp only [zbN];by_cases hs:S r.i=true
  ·rw [if_pos hs,if_pos hs,zMC (h r jq hs).1 (h r jq hs).2]
   exact zuv l _ (fun q hq=>h q (by simp [hq]))
  ·rw [if_neg hs,if_neg hs]
   exact zuv l _ (fun q hq=>h q (by simp [hq]))
def zz7:Nat->Bool:=fun _=>true
structure zVv (P:Program) (S:FuncId->List VV->Option (Bool×VV)) (ro:List Nat) (ops:Array Oper) (m:List (Nat×Blk)) (n0:Nat) (pre:List Nat) (logs:List Log) (X:XS) (o:Oper) (r:Rec):Prop where
 dst:r.dst=o.dst
 reads:r.reads=zdz ops o
 log:zDS n0 (pre.getD r.i 0) logs r.log=true
 run:∀e,r.e=some e->r.rd=zEF X.1 o/\zuq P S ro X.1 (get? m) X.2 r.n o=some (true,e)/\
  ∀(a:Act),(∀t∈zdz ops o,∀x,X.1 t=some (.v x)->a.tmps[t]? =some x)->Region.wanted o (yielded ops a.tmps)=true
 skip:r.e=none->∀(a:Act),(∀t∈zdz ops o,∀x,X.1 t=some (.v x)->a.tmps[t]? =some x)->Region.wanted o (yielded ops a.tmps)=false
def Rec.cr(r:Rec):Bool:=match r.e with
 |some e=>Xv.cr e
 |none=>false
section
variable{P:Program}{S:FuncId->List VV->Option (Bool×VV)}{ro:List Nat}{ops:Array Oper}{m:List (Nat×Blk)}{n0:Nat}{pre:List Nat}{r:VV}
theorem zz8:∀(l:List Oper) (i:Nat) (log:List Log) (st:VS) (k:VS->R),ztT P S ro ops m n0 pre l i log st k=some r->
 ∃(recs:List Rec) (st':VS),k st'=some r/\recs.length=l.length/\st.n<=st'.n/\
  (∀(p:Nat) (rc:Rec),recs[p]? =some rc->rc.i=i+p/\st.n<=rc.n/\(rc.cr=true->rc.n+1<=st'.n))/\
  (∀(p q:Nat) (rp rq:Rec),p<q->recs[p]? =some rp->recs[q]? =some rq->rp.cr=true->rp.n<rq.n)/\
  (get? st'.t,get? st'.m)=zbN zz7 recs (get? st.t,get? st.m)/\
  ∀(p:Nat) (o:Oper) (rc:Rec),l[p]? =some o->recs[p]? =some rc->zVv P S ro ops m n0 pre (log++(recs.take p).map Rec.log) (zbN zz7 (recs.take p) (get? st.t,get? st.m)) o rc
 |[],i,log,st,k,h=>⟨[],st,h,rfl,Nat.le_refl _,jq,jq,rfl,jq⟩
 |o::l,i,log,st,k,h=>by
  unfold ztT at h;obtain⟨st1,g1,g2,g3,g4⟩:=zxU h;have head:∃(rc:Rec) (st2:VS),ztT P S ro ops m n0 pre l (i+1) (log++[rc.log]) st2 k=some r/\rc.i=i/\rc.n=st.n/\(rc.cr=true->rc.n+1<=st2.n)/\st.n<=st2.n/\
   (get? st2.t,get? st2.m)=zdC (get? st.t,get? st.m) rc/\zVv P S ro ops m n0 pre log (get? st.t,get? st.m) o rc:=by
   rcases g4 with⟨h1,h2⟩|⟨h1,h2⟩
   ·obtain⟨e,he,hok,hk⟩:=zz2 h1
    refine⟨⟨i,o.dst,zdz ops o,zEF (get? st1.t) o,st1.n,some e⟩,zgG o.dst st1 e,hk,rfl,g3,fun hcr=> ?_,by have:=(zOJ o st1 e).1;omega,?_,⟨rfl,rfl,hok,fun e' he'=> ?_,fun h=>by cases h⟩⟩
    ·cases e<;>simp [Rec.cr,Xv.cr]at hcr<;>simp [zgG]
    ·show _=(zfL _ _ _,zej _ _ _)
     rw [zz0,zz1,g1,g2]
    ·cases he'
     refine⟨by rw [<-g1],?_,h2⟩;rw [g1,g2]at he;exact he
   ·cases hok:zDS n0 (pre.getD i 0) log ⟨i,o.dst,zdz ops o,[],some []⟩with
    |false=>rw [hok]at h1;cases h1
    |true=>
     rw [hok]at h1;simp only [cond_true]at h1;refine⟨⟨i,o.dst,zdz ops o,some [],st1.n,none⟩,zzP o st1,h1,rfl,g3,fun hcr=>by simp [Rec.cr]at hcr,by simp [zzP,g3],?_,⟨rfl,rfl,hok,(fun e he=>by cases he),fun _=>h2⟩⟩;show _=(zms _ _ _,_);simp only [zzP,zzZ,g1,g2]
  obtain⟨rc,st2,hk,hi,hn,hcr,hle,hX,hrec⟩:=head;obtain⟨recs,st',k1,k2,k3,k4,k5,k6,k7⟩:=zz8 l (i+1) (log++[rc.log]) st2 k hk;refine⟨rc::recs,st',k1,by simp [k2],zc,fun p q hp=> ?_,fun p q rp rq hpq hp hq hc=> ?_,?_,fun p o' q ho hp=> ?_⟩
  ·cases p with
   |zero=>simp at hp;subst hp;exact⟨zc,zc,fun h=>by have:=hcr h;omega⟩
   |succ p=>simp at hp;obtain⟨a1,a2,a3⟩:=k4 p q hp;exact⟨zc,zc,a3⟩
  ·cases q with
   |zero=>omega
   |succ q=>
    simp at hq;cases p with
    |zero=>simp at hp;subst hp;have:=hcr hc;have:=(k4 q rq hq).2.1;omega
    |succ p=>simp at hp;exact k5 p q rp rq zc hp hq hc
  ·rw [k6,hX]
   rfl
  ·cases p with
   |zero=>
    simp at ho hp;subst ho;subst hp;simpa [zbN]using hrec
   |succ p=>
    simp at ho hp;have:=k7 p o' q ho hp;rw [hX]at this;simpa [zbN,zz7]using this
end
theorem zEP(m j:Nat):zmq m j=Nat.testBit m j:=by
 have h:Nat.land (Nat.shiftRight m j) 1=(m>>>j)%2:=Nat.and_one_is_mod (m>>>j);unfold zmq;rw [h,Nat.testBit_eq_decide_div_mod_eq,Nat.shiftRight_eq_div_pow,Bool.eq_iff_iff,Nat.beq_eq,decide_eq_true_eq]
theorem zOL(a b j:Nat):zmq (Nat.lor a b) j=(zmq a j||zmq b j):=by
 simp only [zEP];exact Nat.testBit_or a b j
theorem zRG(i j:Nat)(h:zmq (Nat.shiftLeft 1 i) j=true):i=j:=by
 rw [zEP]at h;have h2:(1<<<i).testBit j=true:=h;rw [Nat.one_shiftLeft,Nat.testBit_two_pow]at h2;exact of_decide_eq_true h2
theorem ztk(j:Nat):zmq 0 j=false:=by simp [zEP]
theorem zD1{α:Type}(f:α->Nat)(j:Nat):∀(l:List α),zmq (l.foldr (fun e m=>Nat.lor (f e) m) 0) j=true->∃e∈l,zmq (f e) j=true
 |[],h=>by simp [ztk]at h
 |a::l,h=>by
  simp only [List.foldr_cons,zOL,Bool.or_eq_true]at h;rcases h with h|h
  ·exact⟨a,jq,h⟩
  ·obtain⟨e,he,h⟩:=zD1 f j l h
   exact⟨e,by simp [he],h⟩
def zOM(ops:List Oper)(acc:List Nat):Prop:=
 ∀i j,zmq (acc.getD i 0) j=true->∃o,ops[i]? =some o/\∃e∈o.after.toList,Region.binds .any e=true/\(j=e.on\/zmq (acc.getD e.on 0) j=true)
theorem zpw(l t:List Nat)(i j:Nat)(h:zmq (l.getD i 0) j=true):zmq ((l++t).getD i 0) j=true:=by
 simp only [List.getD_eq_getElem?_getD]at h⊢;by_cases hi:i<l.length
 ·rw [List.getElem?_append_left hi];exact h
 ·rw [List.getElem?_eq_none zc]at h;simp [ztk]at h
theorem zIu(ops:List Oper):∀(f:Nat) (acc:List Nat),zOM ops acc->zOM ops (zxN ops f acc)
 |0,acc,h=>by simpa [zxN]using h
 |f+1,acc,h=>by
  simp only [zxN];cases ho:ops[acc.length]? with
  |none=>exact h
  |some o=>
   refine zIu ops f _ ?_;intro i j hj;by_cases hi:i<acc.length
   ·have hj':zmq (acc.getD i 0) j=true:=by
     simp only [List.getD_eq_getElem?_getD]at hj⊢;rwa [List.getElem?_append_left hi]at hj
    obtain⟨o',h1,e,h2,h3,h4⟩:=h i j hj';exact⟨o',h1,e,h2,h3,h4.imp id (zpw _ _ _ _)⟩
   ·by_cases hi':i=acc.length
    ·subst hi'
     rw [List.getD_eq_getElem?_getD,List.getElem?_append_right (Nat.le_refl _),Nat.sub_self,List.getElem?_cons_zero,Option.getD_some]at hj;obtain⟨e,e0,e3⟩:=zD1 (fun e:Edge=>Nat.lor (Nat.shiftLeft 1 e.on) (acc.getD e.on 0)) j _ hj;obtain⟨e1,e2⟩:=List.mem_filter.1 e0;refine⟨o,ho,e,e1,e2,?_⟩;rw [zOL,Bool.or_eq_true]at e3;rcases e3 with e3|e3
     ·exact .inl (zRG _ _ e3).symm
     ·exact .inr (zpw _ _ _ _ e3)
    ·simp only [List.getD_eq_getElem?_getD]at hj
     rw [List.getElem?_eq_none (by simp;omega)]at hj;simp [ztk]at hj
def zVZ(ops:List Oper)(S:Nat->Bool):Prop:=∀i o,S i=true->ops[i]? =some o->∀e∈o.after.toList,Region.binds .any e=true->S e.on=true
theorem zp6:∀(l:List Oper) (k i:Nat) (o:Oper),zp2 l k=true->l[i]? =some o->∀e∈o.after.toList,Region.binds .any e=true->e.on<k+i
 |[],_,i,o,_,h,_,_,_=>by simp at h
 |o::r,k,i,o',hk,h,e,he,hb=>by
  simp only [zp2,Bool.and_eq_true]at hk;cases i with
  |zero=>
   simp at h;subst h;have:=(List.all_eq_true.1 hk.1) e he;simp only [hb,Bool.not_true,Bool.false_or]at this;exact Nat.le_of_ble_eq_true this
  |succ i=>
   simp at h;have:=zp6 r (k+1) i o' hk.2 h e he hb;omega
theorem zIv{ops:List Oper}{S:Nat->Bool}{pre:List Nat}(hp:zOM ops pre)(hd:zVZ ops S)(he:zp2 ops 0=true):∀(i j:Nat),(∀o,ops[i]? =some o->∀e∈o.after.toList,Region.binds .any e=true->S e.on=true)->zmq (pre.getD i 0) j=true->S j=true:=by
 intro i;induction i using Nat.strongRecOn with
 |_ i ih=>
  intro j hi hj;obtain⟨o,ho,e,e1,e2,e3⟩:=hp i j hj;have hlt:=zp6 ops 0 i o he ho e e1 e2;have hS:=hi o ho e e1 e2;rcases e3 with rfl|e3
  ·exact hS
  ·exact ih e.on zc j (fun o' ho'=>hd e.on o' hS ho') e3
theorem zRH{a:Nat}{l:List Nat}:zyz a l=true↔a∈l:=by
 unfold zyz;rw [List.any_eq_true];constructor
 ·rintro⟨x,hx,hb⟩;rw [Nat.eq_of_beq_eq_true hb];exact hx
 ·intro h;exact⟨a,h,Nat.beq_refl a⟩
theorem zp7{a:Nat}{l:List Nat}:zyz a l=false↔a∉l:=by
 rw [<-Bool.not_eq_true,zRH]
structure zRI (n0:Nat) (x y:Rec):Prop where
 xy:∀t,x.dst=some t->t∉y.reads
 yx:∀t,y.dst=some t->t∉x.reads
 w:∀s∈x.w,s∉y.w
 rd:∀s∈y.w,zrL x.rd s=true->n0<=s
theorem zIw{n0 pre:Nat}{x y:Rec}(h:zMn n0 pre x.log y.log=true):zmq pre x.i=true\/zRI n0 x y:=by
 unfold zMn at h;simp only [Bool.or_eq_true,Bool.and_eq_true,Rec.log]at h;rcases h with h|⟨⟨⟨⟨_,h2⟩,h3⟩,h4⟩,h5⟩
 ·exact .inl h
 ·refine .inr ⟨fun t ht=> ?_,fun t ht=> ?_,fun s hs hs'=> ?_,fun s hs hr=> ?_⟩
  ·simp only [ht,Bool.not_eq_true',zp7]at h2;exact h2
  ·simp only [ht,Bool.not_eq_true',zp7]at h3;exact h3
  ·simp only [Bool.not_eq_true',List.any_eq_false,Bool.not_eq_true,zp7]at h4
   exact h4 s hs hs'
  ·simp only [Bool.not_eq_true',List.any_eq_false,Bool.not_eq_true]at h5
   have:=h5 s hs;rcases Nat.lt_or_ge s n0 with hlt|hge
   ·have:Nat.blt s n0=true:=Nat.ble_eq_true_of_le hlt
    simp_all
   ·exact hge
theorem zz9{n0 pre:Nat}{l:List Rec}{y:Rec}(h:zDS n0 pre (l.map Rec.log) y.log=true):
 (∀t,y.dst=some t->t∉y.reads)/\∀x∈l,(zmq pre x.i=true\/zRI n0 x y)/\(∀t,x.dst=some t->y.dst≠some t)/\(∀s∈x.w,zrL y.rd s=true->n0<=s):=by
 unfold zDS at h;simp only [Bool.and_eq_true,List.all_eq_true]at h;refine⟨fun t ht=> ?_,fun x hx=> ?_⟩
 ·have h1:=h.1
  simp only [Rec.log,ht,Bool.not_eq_true',zp7]at h1;exact h1
 ·have h2:=h.2 x.log (List.mem_map.2 ⟨x,hx,rfl⟩)
  refine⟨zIw h2.1.1,fun t ht ht'=> ?_,fun s hs hr=> ?_⟩
  ·have h3:=h2.1.2
   simp only [Rec.log,ht,ht',Nat.beq_refl,Bool.not_true]at h3;cases h3
  ·have h3:=h2.2
   simp only [Rec.log,Bool.not_eq_true',List.any_eq_false,Bool.not_eq_true]at h3;have:=h3 s hs;rcases Nat.lt_or_ge s n0 with hlt|hge
   ·have:Nat.blt s n0=true:=Nat.ble_eq_true_of_le hlt
    simp_all
   ·exact hge
section
variable{P:Program}{S:FuncId->List VV->Option (Bool×VV)}
theorem zAa:∀(l:List Operand) (t:Nat),Operand.tmp t∈l->t∈zwG l
 |[],_,h=>by simp at h
 |x::r,t,h=>by
  rcases List.mem_cons.1 h with rfl|h
  ·simp [zwG]
  ·have:=zAa r t h
   cases x<;>simp [zwG,this]
theorem zT2{T:Nat->Option VV}{m:Nat->Option Blk}{n:Nat}{c:Call}{b:Bool}{e:Eff}(h:zPB P T m n c=some (b,e)):cr e=true:=by
 unfold zPB at h;simp only [Bool.cond_eq_ite]at h;repeat' split at h
 all_goals first
  |(cases h;done)
  |(simp only [Option.some.injEq,Prod.mk.injEq]at h;rw [<-h.2];rfl)
theorem zV0{ro:List Nat}{T:Nat->Option VV}{m mf:Nat->Option Blk}{n n':Nat}{o:Oper}{e:Eff}(hc:cr e=false)(he:zuq P S ro T m mf n o=some (true,e)):zuq P S ro T m mf n' o=some (true,e):=by
 unfold zuq at he⊢;cases hop:o.op<;>simp only [hop]at he⊢ <;>try exact he
 case makeFunc fn q cs=>cases fn<;>exact he
 case slice t x lo hi mx=>cases mx<;>exact he
 case alloc t=>
  split at he
  ·rename_i z _
   cases hz:z.cells.toList.all Value.oneCell' with
   |false=>rw [hz]at he;cases he
   |true=>rw [hz]at he;simp only [cond_true]at he;obtain⟨_,rfl⟩:=inz he;cases hc
  ·cases he
 case box t x=>
  split at he
  ·rename_i c b _
   cases hz:c.all ztK with
   |false=>rw [hz]at he;cases he
   |true=>rw [hz]at he;simp only [cond_true]at he;obtain⟨_,rfl⟩:=inz he;cases hc
  ·cases he
 case buildSlice t l ps=>
  split at he
  ·rename_i el _
   split at he
   ·rename_i c b _
    generalize hq:(Nat.beq ps.size l&&Nat.ble (l*P.cellsOf el) 1000&&c.all ztK&&ziJ P el&&(P.info? el).any (·.zero.isSome))=q at he⊢;cases q with
    |false=>cases he
    |true=>
     simp only [cond_true]at he⊢;cases hr:(o.dst.any (fun d=>ro.any (Nat.beq d))&&b)with
     |false=>rw [hr]at he;simp only [cond_false]at he;obtain⟨_,rfl⟩:=inz he;cases hc
     |true=>rw [hr]at he;exact he
   ·cases he
  ·cases he
 case makeSlice t x y=>
  split at he
  ·rename_i el _
   split at he
   ·rename_i l c z _ _ _
    generalize hq:(z.cells.toList.all Value.oneCell'&&Nat.beq z.cells.size (P.cellsOf el)&&Nat.blt 0 (P.cellsOf el)&&ziJ P el)=q at he;cases q with
    |false=>cases he
    |true=>simp only [cond_true]at he;obtain⟨_,rfl⟩:=inz he;cases hc
   ·cases he
  ·cases he
 case call c=>
  obtain⟨callee,args,argTypes⟩:=c;cases callee with
  |invoke r s=>simp only [zr6]at he;cases he
  |builtin b=>
   cases b<;>simp only [zr6]at he⊢ <;>try exact he
   rw [zT2 he]at hc;cases hc
  |value f=>
   simp only [zr6]at he⊢;split at he
   ·rename_i F L _ _
    split at he
    ·rename_i f' L' _
     split at he
     ·rename_i L'' _
      cases hr:S f' L'' with
      |none=>simp [hr]at he
      |some r=>
       simp only [hr]at he⊢;split at he
       ·cases hro:o.dst.any (fun d=>ro.any (Nat.beq d))with
        |true=>rw [hro]at he;simp only [cond_true]at he⊢;exact he
        |false=>rw [hro]at he;simp only [cond_false]at he;obtain⟨_,rfl⟩:=inz he;cases hc
       ·rename_i x hx hne
        cases hne;exact he
       ·cases he
     ·cases he
    ·cases he
   ·cases he
theorem zD2{p q:Nat->Bool}:∀(l:List Nat),(∀x∈l,q x=true->p x=true)->(∃x∈l,p x=true/\q x=false)->l.countP q+1<=l.countP p
 |[],_,⟨x,hx,_⟩=>by simp at hx
 |y::r,h,hex=>by
  simp only [List.countP_cons];have hle:r.countP q<=r.countP p:=List.countP_mono_left fun x hx hq=>h x (by simp [hx]) hq
  by_cases hy:p y=true/\q y=false
  ·simp [hy.1,hy.2];omega
  ·obtain⟨x,hx,hp,hq⟩:=hex
   rcases List.mem_cons.1 hx with rfl|hx
   ·exact absurd ⟨hp,hq⟩ hy
   ·have:=zD2 r (fun x hx=>h x (by simp [hx])) ⟨x,hx,hp,hq⟩
    have:q y=true->p y=true:=h y jq;cases hpy:p y<;>cases hqy:q y<;>simp_all<;>omega
theorem zMD(hS:∀f,yc P f (unS (S f))):zMw P S:=by
 intro B N w0 ro ops Q r st k a w hd hedge hk hs hQ;obtain⟨recs,st',hk',hlen,hnle,hpos,hnum,hfin,hrec⟩:=zz8 ops.toList 0 [] st k hk;simp only [List.nil_append]at hrec;have hpre:zOM ops.toList (zxN ops.toList ops.size []):=zIu ops.toList ops.size [] (fun i j hj=>by simp [ztk]at hj);generalize zxN ops.toList ops.size []=pre at hk hrec hpre;have hidx:∀(p:Nat) (rc:Rec),recs[p]? =some rc->rc.i=p:=fun p rc h=>by have:=(hpos p rc h).1;omega
 have pair:∀(p q:Nat) (x y:Rec),p<q->recs[p]? =some x->recs[q]? =some y->(zmq (pre.getD q 0) p=true\/zRI st.n x y)/\(∀t,x.dst=some t->y.dst≠some t)/\(∀s∈x.w,zrL y.rd s=true->st.n<=s):=by
  intro p q x y hpq hx hy;have hq:q<ops.toList.length:=by rw [<-hlen];exact(List.getElem?_eq_some_iff.1 hy).1
  have hl:=(hrec q ops.toList[q] y jq hy).log;have hmem:x∈recs.take q:=by
   refine List.mem_of_getElem? (i:=p) ?_;rw [List.getElem?_take,if_pos hpq];exact hx
  have:=(zz9 hl).2 x hmem;rw [hidx p x hx,hidx q y hy]at this;exact this
 have self:∀(q:Nat) (y:Rec),recs[q]? =some y->∀t,y.dst=some t->t∉y.reads:=by
  intro q y hy;have hq:q<ops.toList.length:=by rw [<-hlen];exact(List.getElem?_eq_some_iff.1 hy).1
  exact(zz9 (hrec q ops.toList[q] y jq hy).log).1
 let X (L:Nat->Bool):XS:=zbN L recs (get? st.t,get? st.m)
 let I (L:Nat->Bool) (a:Act) (w:World):Prop:=∃(ρ:Rho) (St:Nat->Prop),SR B N w0 (X L).1 (X L).2 ρ St a w/\(∀rc∈recs,rc.cr=true->L rc.i=false->ρ rc.n=none)/\(∀s,st'.n<=s->ρ s=none)
 have fin:∀a w,I zz7 a w->Q .normal a w:=by
  rintro a w ⟨ρ,St,h1,_,h3⟩;refine hQ st' a w hk' ⟨ρ,St,h3,?_⟩;have e1:get? st'.t=(X zz7).1:=congrArg Prod.fst hfin;have e2:get? st'.m=(X zz7).2:=congrArg Prod.snd hfin;rw [e1,e2];exact h1
 have step:∀(L:Nat->Bool) (i:Nat) (o:Oper) (a:Act) (w:World),zVZ ops.toList L->L i=false->ops.toList[i]? =some o->(∀e∈o.after.toList,Region.binds .any e=true->L e.on=true)->I L a w->
  ∀(K:Act->World->Prop),(∀a' w',I (fun j=>decide (j=i)||L j) a' w'->K a' w')->(if Region.wanted o (yielded ops a.tmps)=true then o.wp P a w K Q\/(o.asks P a w/\LetsOut Q)else K (a.put o.dst undef) w):=by
  intro L i o a w hdown hL ho hafter hI K hK;obtain⟨ρ,St,hsr,hρ,hρ'⟩:=hI;have hi:i<recs.length:=by rw [hlen];exact(List.getElem?_eq_some_iff.1 ho).1
  obtain⟨rc,hrc⟩:∃rc,recs[i]? =some rc:=⟨recs[i],by simp [hi]⟩;have hok:=hrec i o rc ho hrc;have hrci:=hidx i rc hrc;have hprei:∀j,zmq (pre.getD i 0) j=true->L j=true:=fun j hj=>zIv hpre hdown hedge i j (fun o' ho'=>by rw [ho]at ho';cases ho';exact hafter) hj
  have hprej:∀j,L j=true->∀q,zmq (pre.getD j 0) q=true->L q=true:=fun j hj q hq=>zIv hpre hdown hedge j q (fun o' ho'=>hdown j o' hj ho') hq
  have hsplit:recs=recs.take i++rc::recs.drop (i+1):=by
   have:recs[i]::recs.drop (i+1)=recs.drop i:=List.getElem_cons_drop hi;rw [show recs[i]=rc by rw [List.getElem?_eq_getElem hi]at hrc;cases hrc;rfl]at this;rw [this,List.take_append_drop]
  have htake:∀x∈recs.take i,∃p,p<i/\recs[p]? =some x:=by
   intro x hx;obtain⟨p,hp,hpx⟩:=List.getElem_of_mem hx;simp only [List.length_take]at hp;exact⟨p,zc,by rw [List.getElem_take]at hpx;rw [List.getElem?_eq_getElem zc,hpx]⟩
  have hdrop:∀x∈recs.drop (i+1),∃p,i<p/\recs[p]? =some x:=by
   intro x hx;obtain⟨p,hp,hpx⟩:=List.getElem_of_mem hx;simp only [List.length_drop]at hp;exact⟨i+1+p,zc,by rw [List.getElem_drop]at hpx;rw [List.getElem?_eq_getElem zc,hpx]⟩
  have hall:∀x∈recs,∃p,recs[p]? =some x:=fun x hx=>by obtain⟨p,hp,hpx⟩:=List.getElem_of_mem hx;exact⟨p,by rw [List.getElem?_eq_getElem hp,hpx]⟩
  let Xt:XS:=zbN zz7 (recs.take i) (get? st.t,get? st.m)
  have hXt:Xt=zbN (fun j=>decide (j<i)) recs (get? st.t,get? st.m):=by
   show zbN zz7 (recs.take i) _=_;conv=>rhs;rw [hsplit]
   rw [zlg];have e1:zbN (fun j=>decide (j<i)) (recs.take i) (get? st.t,get? st.m)=zbN zz7 (recs.take i) (get? st.t,get? st.m):=zj4 _ _ fun x hx=>by
    obtain⟨p,hp,hpx⟩:=htake x hx;rw [hidx p x hpx];simp [zz7,hp]
   have e2:∀Y,zbN (fun j=>decide (j<i)) (rc::recs.drop (i+1)) Y=Y:=by
    have:∀(l:List Rec) (Y:XS),(∀x∈l,¬x.i<i)->zbN (fun j=>decide (j<i)) l Y=Y:=by
     intro l;induction l with
     |nil=>intro Y _;rfl
     |cons x l ih=>intro Y hx;simp only [zbN,hx x jq,decide_false,Bool.false_eq_true,if_false];exact ih Y (fun y hy=>hx y (by simp [hy]))
    intro Y;refine this _ Y fun x hx=> ?_
    rcases List.mem_cons.1 hx with rfl|hx
    ·rw [hrci];omega
    ·obtain⟨p,hp,hpx⟩:=hdrop x hx;rw [hidx p x hpx];omega
   rw [e1,e2]
  have hT:∀t∈rc.reads,(X L).1 t=Xt.1 t:=by
   intro t ht;rw [hXt];refine zOK t recs _ _ rfl (fun x hx hxd=> ?_) (fun x _ Y Y' h=>zpv.1 t h);obtain⟨p,hpx⟩:=hall x hx;rw [hidx p x hpx];rcases Nat.lt_trichotomy p i with hlt|heq|hgt
   ·have hpr:zmq (pre.getD i 0) p=true:=by
     rcases(pair p i x rc hlt hpx hrc).1 with h|h
     ·exact h
     ·exact absurd ht (h.xy t hxd)
    simp [hprei p hpr,hlt]
   ·subst heq
    rw [hrc]at hpx;cases hpx;exact absurd ht (self p rc hrc t hxd)
   ·have:L p=false:=by
     cases hLp:L p with
     |false=>rfl
     |true=>
      rcases(pair i p rc x hgt hrc hpx).1 with h|h
      ·rw [hprej p hLp i h]at hL;cases hL
      ·exact absurd ht (h.yx t hxd)
    simp [this];omega
  have hM:∀s∈rc.w,(X L).2 s=Xt.2 s:=by
   intro s hsw;rw [hXt];refine zEO s recs _ _ rfl (fun x hx hxw=> ?_);obtain⟨p,hpx⟩:=hall x hx;rw [hidx p x hpx];rcases Nat.lt_trichotomy p i with hlt|heq|hgt
   ·have hpr:zmq (pre.getD i 0) p=true:=by
     rcases(pair p i x rc hlt hpx hrc).1 with h|h
     ·exact h
     ·exact absurd hsw (h.w s hxw)
    simp [hprei p hpr,hlt]
   ·subst heq;simp [hL]
   ·have:L p=false:=by
     cases hLp:L p with
     |false=>rfl
     |true=>
      rcases(pair i p rc x hgt hrc hpx).1 with h|h
      ·rw [hprej p hLp i h]at hL;cases hL
      ·exact absurd hxw (h.w s hsw)
    simp [this];omega
  have hO:∀s,zrL rc.rd s=true->s<st.n->(X L).2 s=get? st.m s:=by
   intro s hrd hs;have e0:zbN (fun _=>false) recs (get? st.t,get? st.m)=(get? st.t,get? st.m):=by
    have:∀(l:List Rec) (Y:XS),zbN (fun _=>false) l Y=Y:=by
     intro l;induction l with
     |nil=>intro Y;rfl
     |cons x l ih=>intro Y;simp only [zbN,Bool.false_eq_true,if_false];exact ih Y
    exact this _ _
   have:(X L).2 s=(zbN (fun _=>false) recs (get? st.t,get? st.m)).2 s:=by
    refine zEO s recs _ _ rfl (fun x hx hxw=> ?_);obtain⟨p,hpx⟩:=hall x hx;rw [hidx p x hpx];rcases Nat.lt_trichotomy p i with hlt|heq|hgt
    ·have:=(pair p i x rc hlt hpx hrc).2.2 s hxw hrd
     omega
    ·subst heq
     exact hL
    ·cases hLp:L p with
     |false=>rfl
     |true=>
      rcases(pair i p rc x hgt hrc hpx).1 with h|h
      ·rw [hprej p hLp i h]at hL;cases hL
      ·have:=h.rd s hxw hrd
       omega
   rw [this,e0]
  have hnext:X (fun j=>decide (j=i)||L j)=zdC (X L) rc:=by
   show zbN _ recs _=zdC (zbN L recs _) rc;rw [hsplit,zlg,zlg];have e1:zbN (fun j=>decide (j=i)||L j) (recs.take i) (get? st.t,get? st.m)=zbN L (recs.take i) (get? st.t,get? st.m):=zj4 _ _ fun x hx=>by
    obtain⟨p,hp,hpx⟩:=htake x hx;rw [hidx p x hpx];simp [show p≠i from zc]
   have e2:∀Y,zbN (fun j=>decide (j=i)||L j) (recs.drop (i+1)) Y=zbN L (recs.drop (i+1)) Y:=fun Y=>zj4 _ _ fun x hx=>by
    obtain⟨p,hp,hpx⟩:=hdrop x hx;rw [hidx p x hpx];simp [show p≠i from zc]
   simp only [zbN,hrci,decide_true,Bool.true_or,if_true,hL,Bool.false_eq_true,if_false];rw [e1,e2];refine zuv _ _ fun x hx hLx=> ?_
   obtain⟨p,hp,hpx⟩:=hdrop x hx;rw [hidx p x hpx]at hLx;obtain⟨h1,h2,_⟩:=pair i p rc x hp hrc hpx;refine⟨h2,?_⟩;rcases h1 with h|h
   ·rw [hprej p hLx i h]at hL;cases hL
   ·exact h.w
  have hvals:∀t∈zdz ops o,∀x,Xt.1 t=some (.v x)->a.tmps[t]? =some x:=by
   intro t ht x hx;rw [<-hok.reads]at ht;exact hsr.vals t x (by rw [hT t ht];exact hx)
  have hdo:∀t,o.dst=some t->t<N:=hd o (List.mem_of_getElem? ho);cases hre:rc.e with
  |none=>
   rw [if_neg (by rw [hok.skip hre a hvals];simp)];refine hK _ _ ⟨ρ,St,?_,fun x hx hcr hLx=>hρ x hx hcr (by simp at hLx;exact hLx.2),hρ'⟩;have e:zdC (X L) rc=(zms (X L).1 rc.dst (.v undef),(X L).2):=by simp [zdC,hre]
   rw [hnext,e,hok.dst];exact hsr.skip hdo
  |some e=>
   obtain⟨r1,r2,r3⟩:=hok.run e hre;rw [if_pos (r3 a hvals)];left
   have e':zdC (X L) rc=(zfL (X L).1 rc.dst e,zej (X L).2 rc.n e):=by simp [zdC,hre]
   let n':Nat:=if rc.cr then rc.n else st'.n
   have hn:ρ n'=none:=by
    by_cases hcr:rc.cr=true
    ·simp only [n',hcr,if_true];exact hρ rc (List.mem_of_getElem? hrc) hcr (by rw [hrci];exact hL)
    ·simp only [n',hcr];exact hρ' _ (Nat.le_refl _)
   have hcre:rc.cr=cr e:=by simp [Rec.cr,hre]
   have hev:∀x∈o.op.operands.toList,ev Xt.1 x=ev (X L).1 x:=by
    intro x hx;cases x with
    |tmp t=>
     refine(hT t ?_).symm;rw [hok.reads];exact List.mem_append_right _ (zAa _ _ hx)
    |_=>rfl
   let m':Nat->Option Blk:=fun s=>if zrL rc.rd s then get? st.m s else none
   let mf':Nat->Option Blk:=fun s=>if s∈rc.w then Xt.2 s else none
   have hw:rc.w=wOf rc.n e:=by unfold Rec.w;rw [hre]
   have heff0:zuq P S ro (X L).1 m' mf' rc.n o=some (true,e):=by
    refine zMB hev (fun s hrd=>by simp only [m',r1];rw [if_pos hrd]) (fun s b hsb=> ?_) r2
    have:s∈rc.w:=by rw [hw,hsb];simp [wOf]
    simp [mf',this];rfl
   have heff:zuq P S ro (X L).1 m' mf' n' o=some (true,e):=by
    by_cases hcr:rc.cr=true
    ·simp only [n',hcr,if_true];exact heff0
    ·simp only [n',hcr];exact zV0 (by rw [<-hcre];simpa using hcr) heff0
   have hMn:zej (X L).2 n' e=zej (X L).2 rc.n e:=by
    by_cases hcr:rc.cr=true
    ·simp only [n',hcr,if_true]
    ·cases e<;>first|rfl|(exfalso;rw [hcre]at hcr;exact hcr rfl)
   refine zDY hsr (fun s k hk=> ?_) (fun s k hk=> ?_) hS hdo hn heff ?_
   ·simp only [m']at hk
    split at hk
    ·rename_i hrd
     obtain⟨ρ0,St0,z1,z2⟩:=hs;have hslt:s<st.n:=by
      obtain⟨b,g,cs,ty,q1,_⟩:=z2.mem s k hk;rcases Nat.lt_or_ge s st.n with h|h
      ·exact h
      ·rw [z1 s h]at q1;cases q1
     rw [hO s hrd hslt];exact hk
    ·cases hk
   ·simp only [mf']at hk
    split at hk
    ·rename_i hsw
     rw [hM s hsw];exact hk
    ·cases hk
   ·intro ρ2 St2 a2 w2 hρ2 _ hsr2
    have cases2:(rc.cr=true/\n'=rc.n)\/cr e=false:=by
     by_cases hcr:rc.cr=true
     ·exact .inl ⟨hcr,by simp only [n',hcr,if_true]⟩
     ·right;rw [<-hcre];simpa using hcr
    refine hK _ _ ⟨ρ2,St2,?_,fun x hx hcr hLx=> ?_,fun s hs=> ?_⟩
    ·rw [hnext,e',hok.dst, <-hMn];exact hsr2
    ·obtain⟨p,hpx⟩:=hall x hx
     rw [hidx p x hpx]at hLx;simp only [Bool.or_eq_false_iff,decide_eq_false_iff_not]at hLx;have hold:=hρ x hx hcr (by rw [hidx p x hpx];exact hLx.2);rcases cases2 with⟨hcr',hn'⟩|hce
     ·rw [hρ2 _ (.inl ?_)]
      ·exact hold
      ·rw [hn']
       rcases Nat.lt_or_gt_of_ne hLx.1 with h|h
       ·have:=hnum p i x rc h hpx hrc hcr;omega
       ·have:=hnum i p rc x h hrc hpx hcr';omega
     ·rw [hρ2 _ (.inr hce)];exact hold
    ·have hold:=hρ' s hs
     rcases cases2 with⟨hcr',hn'⟩|hce
     ·rw [hρ2 _ (.inl ?_)]
      ·exact hold
      ·rw [hn']
       have:=(hpos i rc hrc).2.2 hcr';omega
     ·rw [hρ2 _ (.inr hce)];exact hold
 have allL:∀(listed:Array Bool),(∀i,i<ops.size->listed.getD i false=true)->∀a w,I (fun i=>listed.getD i false) a w->Q .normal a w:=by
  intro listed hl a w hI;refine fin a w ?_;have e:X (fun i=>listed.getD i false)=X zz7:=zj4 _ _ fun x hx=>by
   obtain⟨p,hp,hpx⟩:=List.getElem_of_mem hx;rw [hidx p x (by rw [List.getElem?_eq_getElem hp,hpx])];rw [hl p (by rw [hlen]at hp;simpa using hp)];rfl
  obtain⟨ρ,St,h1,_,h3⟩:=hI;exact⟨ρ,St,by rw [<-e];exact h1,(fun _ _ _ h=>by cases h),h3⟩
 have main:∀(fuel:Nat) (listed:Array Bool) (a:Act) (w:World),listed.size=ops.size->zVZ ops.toList (fun i=>listed.getD i false)->(List.range ops.size).countP (fun i=> !listed.getD i false)<=fuel->
  I (fun i=>listed.getD i false) a w->wpAny P .any ops Q fuel listed a w:=by
  intro fuel;induction fuel with
  |zero=>
   intro listed a w hsz hdown hcnt hI;have hl:∀i,i<ops.size->listed.getD i false=true:=by
    intro i hi;have:=List.countP_eq_zero.1 (Nat.le_zero.1 hcnt) i (List.mem_range.2 hi);simpa using this
   refine⟨?_,allL listed hl a w hI⟩;cases hr:Region.ready .any ops listed with
   |nil=>rfl
   |cons j js=>
    have hj:j∈Region.ready .any ops listed:=by rw [hr];simp
    obtain⟨h1,o,ho,_⟩:=mem_ready.1 hj;have hjlt:j<ops.size:=(zy ho);have:=hl j hjlt;simp [hsz,hjlt]at h1 this;rw [h1]at this;cases this
  |succ fuel ih=>
   intro listed a w hsz hdown hcnt hI;have gd:∀i,i<ops.size->listed.getD i true=listed.getD i false:=fun i hi=>by simp [hsz,hi]
   refine⟨fun hr=> ?_,fun i hi=> ?_⟩
   ·refine allL listed ?_ a w hI
    intro i;induction i using Nat.strongRecOn with
    |_ i ihi=>
     intro hi;cases hli:listed.getD i false with
     |true=>rfl
     |false=>
      have ho:ops[i]? =some ops[i]:=by simp [hi]
      have:i∈Region.ready .any ops listed:=mem_ready.2 ⟨by rw [gd i hi];exact hli,ops[i],ho,fun e he hb=>by
       have hlt:=zp6 ops.toList 0 i ops[i] hedge (by simp [hi]) e (Array.mem_toList_iff.2 he) hb
       exact ihi e.on zc zc⟩
      rw [hr]at this;cases this
   ·obtain⟨h1,o,ho,hall'⟩:=mem_ready.1 hi
    have hilt:i<ops.size:=(zy ho);have hoL:ops.toList[i]? =some o:=by simpa using ho
    have hLi:listed.getD i false=false:=by rw [<-gd i hilt];exact h1
    have hafter:∀e∈o.after.toList,Region.binds .any e=true->listed.getD e.on false=true:=fun e he hb=>hall' e (Array.mem_toList_iff.1 he) hb
    have hnew:(fun j=>(listed.setIfInBounds i true).getD j false)=(fun j=>decide (j=i)||listed.getD j false):=by
     funext j
     by_cases hj:j=i
     ·subst hj;simp [hsz,hilt]
     ·rw [getD_set_ne false (Ne.symm hj)];simp [hj]
    unfold wpOp;rw [ho];refine step (fun i=>listed.getD i false) i o a w hdown hLi hoL hafter hI _ (fun a' w' hI'=> ?_);refine ih (listed.setIfInBounds i true) a' w' (by simpa using hsz) ?_ ?_ (by rw [hnew];exact hI')
    ·rw [hnew]
     intro j o' hj ho' e he hb;simp only [Bool.or_eq_true,decide_eq_true_eq]at hj⊢;rcases hj with rfl|hj
     ·rw [hoL]at ho';cases ho';exact .inr (hafter e he hb)
     ·exact .inr (hdown j o' hj ho' e he hb)
    ·have hnp:∀x,(listed.setIfInBounds i true).getD x false=(decide (x=i)||listed.getD x false):=fun x=>congrFun hnew x
     have hlt:=zD2 (p:=fun i=> !listed.getD i false) (q:=fun j=> !(listed.setIfInBounds i true).getD j false) (List.range ops.size) (fun x _ hx=>by
      have hx':(!(listed.setIfInBounds i true).getD x false)=true:=hx;rw [hnp x]at hx';simp only [Bool.not_or,Bool.and_eq_true]at hx';exact hx'.2) ⟨i,List.mem_range.2 hilt,by simp only [hLi];rfl,by
       show(!(listed.setIfInBounds i true).getD i false)=false;rw [hnp i]
       simp⟩
     omega
 have hrep:∀i,(Array.replicate ops.size false).getD i false=false:=by
  intro i;by_cases hi:i<ops.size<;>simp [hi]
 refine main ops.size _ a w jq ?_ ?_ ?_
 ·intro i o hi
  have hi':(Array.replicate ops.size false).getD i false=true:=hi;rw [hrep i]at hi';cases hi'
 ·exact Nat.le_trans List.countP_le_length jq
 ·have e0:X (fun i=>(Array.replicate ops.size false).getD i false)=(get? st.t,get? st.m):=by
   show zbN _ recs _=_;have:∀(l:List Rec) (Y:XS),zbN (fun i=>(Array.replicate ops.size false).getD i false) l Y=Y:=by
    intro l;induction l with
    |nil=>intro Y;rfl
    |cons x l ih=>
     intro Y;simp only [zbN];rw [if_neg (by rw [hrep];simp)];exact ih Y
   exact this _ _
  obtain⟨ρ,St,h1,h2⟩:=hs;refine⟨ρ,St,by rw [e0];exact h2,fun rc hrc _ _=> ?_,fun s hs=>h1 s zc⟩;obtain⟨p,hp,hpx⟩:=List.getElem_of_mem hrc;exact h1 _ (hpos p rc (by rw [List.getElem?_eq_getElem hp,hpx])).2.1
end
end Go.Xv
namespace Go.Xv
def Le(a b:R):Prop:=∀r,a=some r->b=some r
theorem Le.refl(a:R):Le a a:=fun _ h=>h
theorem Le.none(a:R):Le none a:=fun _ h=>by cases h
theorem Le.trans{a b c:R}(h:Le a b)(k:Le b c):Le a c:=fun r hr=>k r (h r hr)
theorem Le.bif{c:Bool}{a b a' b':R}(h:Le a a')(k:Le b b'):Le (bif c then a else b) (bif c then a' else b'):=by
 cases c
 ·exact k
 ·exact h
section
variable{P:Program}{S:FuncId->List VV->Option (Bool×VV)}{ro:List Nat}
theorem zAb{m:List (Nat×Blk)}{ok:Eff->Bool}{o:Oper}{st:VS}{k k':VS->Eff->R}(h:∀s e,Le (k s e) (k' s e)):Le (zzO P S ro m ok o st k) (zzO P S ro m ok o st k'):=by
 unfold zzO;cases zuq P S ro (get? st.t) (get? m) (get? st.m) st.n o with
 |none=>exact Le.refl _
 |some x=>exact Le.bif (Le.bif (h _ _) (Le.refl _)) (Le.refl _)
theorem zxY{ops:Array Oper}{o:Oper}{st:VS}{run run' skip skip':VS->R}(h:∀s,Le (run s) (run' s))(h':∀s,Le (skip s) (skip' s)):Le (zur ops o st run skip) (zur ops o st run' skip'):=by
 unfold zur;split
 ·exact h _
 ·split
  ·exact Le.refl _
  ·split
   ·exact Le.bif (Le.bif (h _) (h' _)) (Le.bif (h' _) (h _))
   ·exact Le.bif (h' _) (Le.refl _)
   ·exact Le.refl _
theorem zwN{ops:Array Oper}:∀(l:List Oper) (st:VS) {k k':VS->R},(∀s,Le (k s) (k' s))->Le (zIc P S ro ops l st k) (zIc P S ro ops l st k')
 |[],_,_,_,h=>h _
 |o::r,st,k,k',h=>by
  unfold zIc;exact zxY (fun s=>zAb fun _ _=>zwN r _ h) (fun s=>zwN r _ h)
theorem zuw{ops:Array Oper}{m:List (Nat×Blk)}{n0:Nat}{pre:List Nat}:∀(l:List Oper) (i:Nat) (lg:List Log) (st:VS) {k k':VS->R},(∀s,Le (k s) (k' s))->
 Le (ztT P S ro ops m n0 pre l i lg st k) (ztT P S ro ops m n0 pre l i lg st k')
 |[],_,_,_,_,_,h=>h _
 |o::r,i,lg,st,k,k',h=>by
  unfold ztT;exact zxY (fun s=>zAb fun _ _=>zuw r _ _ _ h) (fun s=>Le.bif (zuw r _ _ _ h) (Le.refl _))
theorem zIx{C:Cfg}{ops:Array Oper}{draw:Bool}{st:VS}{k k':VS->R}(h:∀s,Le (k s) (k' s)):Le (region P S C ops draw st k) (region P S C ops draw st k'):=by
 unfold region;exact Le.bif (Le.bif (Le.refl _) (zuw _ _ _ _ fun _=>h _)) (zwN _ _ fun _=>h _)
end
def zny(step:VS->(Exit->VS->R)->R)(h:VS->VS)(k:Exit->VS->R):Nat->VS->R
 |0,_=>none
 |n+1,st=>step st fun e st'=>match e with
  | .normal=>zny step h k n (h st')
  |e=>k e st'
theorem zON(step:VS->(Exit->VS->R)->R)(h:VS->VS)(k:Exit->VS->R):∀(n:Nat) (st:VS),zMq step h k n st=zny step h k n (h st)
 |0,_=>rfl
 |n+1,st=>by
  unfold zMq zny;congr 1
  funext e st'
  cases e<;>try rfl
  exact zON step h k n st'
section
variable(P:Program)(S:FuncId->List VV->Option (Bool×VV))
def zeY(C:Cfg)(I:Nat->VS->(Exit->VS->R)->R)(J:Nat->Nat->VS->(Exit->VS->R)->R):Code->Nat->VS->(Exit->VS->R)->R
 | .skip,_,st,k=>k .normal st
 | .region _ ops draw,_,st,k=>region P S C ops draw st (k .normal)
 | .seq a b,j,st,k=>zeY C I J a j st fun e st=>match e with
   | .normal=>(match zDT C b with
     |some K=>J ((zMo b).getD 0) j (zxO K st) k
     |none=>zeY C I J b j st k)
   |e=>k e st
 | .cond c a b,j,st,k=>match ev (get? st.t) c with
   |some (.v (.bool g))=>match c with
    | .tmp d=>bif g then zeY C I J a j {st with t:=zDV C.ro d true st.t} k else zeY C I J b j {st with t:=zDV C.ro d false st.t} k
    |_=>bif g then zeY C I J a j st k else zeY C I J b j st k
   |_=>none
 | .block id b,_,st,k=>zeY C I J b id st fun e st=>match e with
   | .exit i=>bif Nat.beq i id then k .normal st else k (.exit i) st
   |e=>k e st
 | .loop _,j,st,k=>I j st k
 | .exit id,_,st,k=>k (.exit id) st
 | .ret,_,st,k=>k .ret st
 |_,_,_,_=>none
def znz:Code->Nat->List (Nat×Code)
 | .seq a b,j=>znz a j++znz b j
 | .cond _ a b,j=>znz a j++znz b j
 | .block id b,_=>znz b id
 | .loop b,j=>(j,b)::znz b j
 |_,_=>[]
def zlh(C:Cfg):Code->Nat->List (Nat×Nat×Code)
 | .seq a b,j=>(match zDT C b with
    |some _=>[((zMo b).getD 0,j,b)]
    |none=>[])++(zlh C a j++zlh C b j)
 | .cond _ a b,j=>zlh C a j++zlh C b j
 | .block id b,_=>zlh C b id
 | .loop b,j=>zlh C b j
 |_,_=>[]
def zfM(C:Cfg)(j:Nat):VS->VS:=zxO ((get? C.L j).getD [])
def zp8(C:Cfg)(fuel:Nat)(I:Nat->VS->(Exit->VS->R)->R)(J:Nat->Nat->VS->(Exit->VS->R)->R)(p:Nat×Code):Prop:=
 ∀st k,Le (I p.1 st k) (zny (zeY P S C I J p.2 p.1) (zfM C p.1) k fuel (zfM C p.1 st))
def zux(C:Cfg)(I:Nat->VS->(Exit->VS->R)->R)(J:Nat->Nat->VS->(Exit->VS->R)->R)(p:Nat×Nat×Code):Prop:=
 ∀st k,Le (J p.1 p.2.1 st k) (zeY P S C I J p.2.2 p.2.1 st k)
variable{P S}
theorem zRJ{C:Cfg}{fuel:Nat}{I:Nat->VS->(Exit->VS->R)->R}{J:Nat->Nat->VS->(Exit->VS->R)->R}:∀(c:Code) (j:Nat) (st:VS) (k k':Exit->VS->R),(∀p∈znz c j,zp8 P S C fuel I J p)->(∀p∈zlh C c j,zux P S C I J p)->(∀e s,Le (k e s) (k' e s))->
 Le (zeY P S C I J c j st k) (zdA P S C fuel c j st k'):=by
 intro c;induction c with
 |skip=>intro j st k k' _ _ h;exact h _ _
 |region id ops draw=>intro j st k k' _ _ h;unfold zeY zdA;exact zIx fun _=>h _ _
 |seq a b iha ihb=>
  intro j st k k' hl hj h;unfold zeY zdA;refine iha j st _ _ (fun p hp=>hl p (List.mem_append_left _ hp)) (fun p hp=>hj p (List.mem_append_right _ (List.mem_append_left _ hp))) fun e s=> ?_
  cases e<;>try exact h _ _
  have hb:=fun s=>ihb j s k k' (fun p hp=>hl p (List.mem_append_right _ hp)) (fun p hp=>hj p (List.mem_append_right _ (List.mem_append_right _ hp))) h
  show Le (match zDT C b with|some K=>J ((zMo b).getD 0) j (zxO K s) k|none=>zeY P S C I J b j s k) (zdA P S C fuel b j (zDU C b s) k');unfold zDU;cases hk:zDT C b with
  |none=>exact hb s
  |some K=>
   refine Le.trans (hj ((zMo b).getD 0,j,b) ?_ (zxO K s) k) (hb _);unfold zlh;rw [hk];exact List.mem_append_left _ (List.mem_cons_self ..)
 |cond x a b iha ihb=>
  intro j st k k' hl hj h;have ha:=fun s=>iha j s k k' (fun p hp=>hl p (List.mem_append_left _ hp)) (fun p hp=>hj p (List.mem_append_left _ hp)) h
  have hb:=fun s=>ihb j s k k' (fun p hp=>hl p (List.mem_append_right _ hp)) (fun p hp=>hj p (List.mem_append_right _ hp)) h
  unfold zeY zdA;cases ev (get? st.t) x with
  |none=>exact Le.refl _
  |some v=>
   cases v with
   |v y=>
    cases y with
    |bool g=>
     cases x with
     |tmp d=>exact Le.bif (ha _) (hb _)
     |_=>exact Le.bif (ha _) (hb _)
    |_=>exact Le.refl _
   |_=>exact Le.refl _
 |block id b ih=>
  intro j st k k' hl hj h;unfold zeY zdA;refine ih id st _ _ hl hj fun e s=> ?_
  cases e<;>try exact h _ _
  exact Le.bif (h _ _) (h _ _)
 |loop b ih=>
  intro j st k k' hl hj h;unfold zeY zdA;refine Le.trans (hl (j,b) (List.mem_cons_self ..) st k) ?_;rw [zON];show Le (zny _ _ k fuel (zfM C j st)) (zny _ (zfM C j) k' fuel (zfM C j st));generalize zfM C j st=s0;have:∀(n:Nat) (s:VS),Le (zny (zeY P S C I J b j) (zfM C j) k n s) (zny (zdA P S C fuel b j) (zfM C j) k' n s):=by
   intro n;induction n with
   |zero=>intro s;exact Le.refl _
   |succ n ihn=>
    intro s;unfold zny;refine ih j s _ _ (fun p hp=>hl p (List.mem_cons_of_mem _ hp)) hj fun e s'=> ?_
    cases e<;>try exact h _ _
    exact ihn _
  exact this fuel s0
 |exit id=>intro j st k k' _ _ h;exact h _ _
 |ret=>intro j st k k' _ _ h;exact h _ _
 |_=>intro j st k k' _ _ _;exact Le.refl _
variable(P S)
def zPJ(C:Cfg)(I:Nat->VS->(Exit->VS->R)->R)(J:Nat->Nat->VS->(Exit->VS->R)->R)(f:FuncId)(args:List VV):R:=
 match P.funcs[f]? with
 |some fn=>match fn.body with
  |some c=>bif zfK fn.ntmps c then(zeY P S C I J c 0 {t:=zwI 0 args,m:=[],n:=0} fun e st=>match e with
   | .ret| .normal=>zRC P fn st
   |_=>none)else none
  |none=>none
 |none=>none
def zjj(f:FuncId):List (Nat×Code):=
 match P.funcs[f]? with
 |some fn=>match fn.body with
  |some c=>znz c 0
  |none=>[]
 |none=>[]
def zaK(f:FuncId)(i:Nat):Code:=match(zjj P f)[i]? with
 |some p=>p.2
 |none=>.skip
def zli(C:Cfg)(f:FuncId):List (Nat×Nat×Code):=
 match P.funcs[f]? with
 |some fn=>match fn.body with
  |some c=>zlh C c 0
  |none=>[]
 |none=>[]
variable{P S}
theorem zT3{C:Cfg}{fuel:Nat}{I:Nat->VS->(Exit->VS->R)->R}{J:Nat->Nat->VS->(Exit->VS->R)->R}{f:FuncId}(hl:∀p∈zjj P f,zp8 P S C fuel I J p)(hj:∀p∈zli P C f,zux P S C I J p)(args:List VV):Le (zPJ P S C I J f args) (zTS P S C fuel f args):=by
 unfold zPJ zTS;cases hf:P.funcs[f]? with
 |none=>exact Le.refl _
 |some fn=>
  cases hb:fn.body with
  |none=>simp only [hb];exact Le.refl _
  |some c=>
   simp only [hb];refine Le.bif (zRJ c 0 _ _ _ (fun p hp=>hl p ?_) (fun p hp=>hj p ?_) fun e s=>Le.refl _) (Le.refl _)
   ·simp only [zjj,hf,hb]
    exact hp
   ·simp only [zli,hf,hb]
    exact hp
theorem zPK(hS:∀f,yc P f (unS (S f)))(hf:P.follows .mixedOrders=true){C:Cfg}{f:FuncId}(hname:(P.funcs[f]?).all (fun fn=> !(fn.name== "runtime.NumGoroutine"))=true)
 {g:List VV->R} (h:∀args r,g args=some r->∃fuel I J,(∀p∈zjj P f,zp8 P S C fuel I J p)/\(∀p∈zli P C f,zux P S C I J p)/\zPJ P S C I J f args=some r):yc P f g:=by
 intro args r hr;obtain⟨fuel,I,J,hl,hj,hg⟩:=h args r hr;exact zRF hS (zMD hS) hf C fuel f hname args r (zT3 hl hj args r hg)
end
inductive At where
 |i (n:Int)
 |b (x:Bool)
 |n (x:Nat)
 |c (l:List VV)
def atI:Option At->Int
 |some (.i n)=>n
 |_=>0
def atB:Option At->Bool
 |some (.b n)=>n
 |_=>false
def atN:Option At->Nat
 |some (.n n)=>n
 |_=>0
def atC:Option At->List VV
 |some (.c n)=>n
 |_=>[]
inductive WV where
 |int (k:IntKind)
 |bool
 |nils
 |agg (l:List WV)
 |tup (l:List WV)
inductive TN where
 |lit (n:Nat)
 |hole
inductive TV where
 |v (x:WV)
 |lp (s:Nat) (o:TN)
 |ls (s:Nat) (o l:TN) (z:Nat)
 |fpx (c:List TV) (o:TN)
 |fsx (c:List TV) (o l:TN) (z:Nat)
 |fp (o:TN)
 |fs (o l:TN) (z:Nat)
 |fn (f:FuncId) (c:List TV)
 |agg (c:List TV)
 |tup (c:List TV)
mutual
def mW:WV->Value->Option (List At)
 | .int k,.int k' n=>bif decide (k'=k)then some [.i n]else none
 | .bool,.bool b=>some [.b b]
 | .nils,.slice none 0 0=>some []
 | .agg l,.agg cs=>mWs l cs.toList
 | .tup l,.tuple cs=>mWs l cs.toList
 |_,_=>none
def mWs:List WV->List Value->Option (List At)
 |[],[]=>some []
 |t::ts,v::vs=>match mW t v with
  |none=>none
  |some a=>match mWs ts vs with
   |none=>none
   |some b=>some (a++b)
 |_,_=>none
end
mutual
def fW:WV->List At->Value×List At
 | .int k,az=>(.int k (atI az[0]?),az.drop 1)
 | .bool,az=>(.bool (atB az[0]?),az.drop 1)
 | .nils,az=>(.slice none 0 0,az)
 | .agg l,az=>(.agg (fWs l az).1.toArray,(fWs l az).2)
 | .tup l,az=>(.tuple (fWs l az).1.toArray,(fWs l az).2)
def fWs:List WV->List At->List Value×List At
 |[],az=>([],az)
 |t::ts,az=>((fW t az).1::(fWs ts (fW t az).2).1,(fWs ts (fW t az).2).2)
end
def mN:TN->Nat->Option (List At)
 | .lit n,m=>bif Nat.beq n m then some []else none
 | .hole,m=>some [.n m]
def fN:TN->List At->Nat×List At
 | .lit n,az=>(n,az)
 | .hole,az=>(atN az[0]?,az.drop 1)
def zuy:Option (List At)->Option (List At)->Option (List At)
 |some a,some b=>some (a++b)
 |_,_=>none
mutual
def mT:TV->VV->Option (List At)
 | .v x,.v y=>mW x y
 | .lp s o,.lp s' o'=>bif Nat.beq s s' then mN o o' else none
 | .ls s o l z,.ls s' o' l' z'=>bif Nat.beq s s'&&Nat.beq z z' then zuy (mN o o') (mN l l')else none
 | .fpx c o,.fp c' o'=>zuy (mTs c c') (mN o o')
 | .fsx c o l z,.fs c' o' l' z'=>bif Nat.beq z z' then zuy (mTs c c') (zuy (mN o o') (mN l l'))else none
 | .fp o,.fp c' o'=>zuy (some [.c c']) (mN o o')
 | .fs o l z,.fs c' o' l' z'=>bif Nat.beq z z' then zuy (some [.c c']) (zuy (mN o o') (mN l l'))else none
 | .fn f c,.fn f' c'=>bif Nat.beq f f' then mTs c c' else none
 | .agg c,.agg c'=>mTs c c'
 | .tup c,.tup c'=>mTs c c'
 |_,_=>none
def mTs:List TV->List VV->Option (List At)
 |[],[]=>some []
 |t::ts,v::vs=>zuy (mT t v) (mTs ts vs)
 |_,_=>none
end
mutual
def fT:TV->List At->VV×List At
 | .v x,az=>(.v (fW x az).1,(fW x az).2)
 | .lp s o,az=>(.lp s (fN o az).1,(fN o az).2)
 | .ls s o l z,az=>(.ls s (fN o az).1 (fN l (fN o az).2).1 z,(fN l (fN o az).2).2)
 | .fpx c o,az=>(.fp (fTs c az).1 (fN o (fTs c az).2).1,(fN o (fTs c az).2).2)
 | .fsx c o l z,az=>(.fs (fTs c az).1 (fN o (fTs c az).2).1 (fN l (fN o (fTs c az).2).2).1 z,(fN l (fN o (fTs c az).2).2).2)
 | .fp o,az=>(.fp (atC az[0]?) (fN o (az.drop 1)).1,(fN o (az.drop 1)).2)
 | .fs o l z,az=>(.fs (atC az[0]?) (fN o (az.drop 1)).1 (fN l (fN o (az.drop 1)).2).1 z,(fN l (fN o (az.drop 1)).2).2)
 | .fn f c,az=>(.fn f (fTs c az).1,(fTs c az).2)
 | .agg c,az=>(.agg (fTs c az).1,(fTs c az).2)
 | .tup c,az=>(.tup (fTs c az).1,(fTs c az).2)
def fTs:List TV->List At->List VV×List At
 |[],az=>([],az)
 |t::ts,az=>((fT t az).1::(fTs ts (fT t az).2).1,(fTs ts (fT t az).2).2)
end
theorem zyD{a b:Nat}(h:Nat.beq a b=true):a=b:=Nat.eq_of_beq_eq_true h
theorem zEQ{c:Bool}{x:Option (List At)}{l:List At}(h:(bif c then x else none)=some l):c=true/\x=some l:=by
 cases c with
 |false=>cases h
 |true=>exact⟨rfl,h⟩
mutual
theorem zOP:∀(t:WV) (v:Value) (az r:List At),mW t v=some az->fW t (az++r)=(v,r)
 | .int k,v,az,r,h=>by
   cases v with
   |int k' n=>
    simp only [mW]at h;obtain⟨h1,h2⟩:=zEQ h;cases h2;have:=of_decide_eq_true h1;subst this;simp [fW,atI]
   |_=>simp only [mW]at h;cases h
 | .bool,v,az,r,h=>by
   cases v with
   |bool b=>simp only [mW]at h;cases h;simp [fW,atB]
   |_=>simp only [mW]at h;cases h
 | .nils,v,az,r,h=>by
   cases v with
   |slice a l c=>
    cases a with
    |some a=>simp only [mW]at h;cases h
    |none=>
     cases l with
     |succ l=>simp only [mW]at h;cases h
     |zero=>
      cases c with
      |succ c=>simp only [mW]at h;cases h
      |zero=>simp only [mW]at h;cases h;simp [fW]
   |_=>simp only [mW]at h;cases h
 | .agg l,v,az,r,h=>by
   cases v with
   |agg cs=>
    simp only [mW]at h;have:=zAc l cs.toList az r h;simp [fW,this]
   |_=>simp only [mW]at h;cases h
 | .tup l,v,az,r,h=>by
   cases v with
   |tuple cs=>
    simp only [mW]at h;have:=zAc l cs.toList az r h;simp [fW,this]
   |_=>simp only [mW]at h;cases h
theorem zAc:∀(t:List WV) (v:List Value) (az r:List At),mWs t v=some az->fWs t (az++r)=(v,r)
 |[],v,az,r,h=>by
  cases v<;>simp only [mWs]at h<;>(try cases h)
  simp [fWs]
 |t::ts,v,az,r,h=>by
  cases v<;>simp only [mWs]at h<;>(try cases h)
  rename_i v vs;cases ha:mW t v with
  |none=>simp [ha]at h
  |some a=>
   cases hb:mWs ts vs with
   |none=>simp [ha,hb]at h
   |some b=>
    simp only [ha,hb,Option.some.injEq]at h;subst h;have h1:=zOP t v a (b++r) ha;have h2:=zAc ts vs b r hb;simp [fWs,List.append_assoc,h1,h2]
end
theorem zha(t:TN)(m:Nat)(az r:List At)(h:mN t m=some az):fN t (az++r)=(m,r):=by
 cases t with
 |lit n=>
  simp only [mN]at h;cases hb:Nat.beq n m with
  |false=>rw [hb]at h;cases h
  |true=>rw [hb]at h;cases h;simp [fN,zyD hb]
 |hole=>simp only [mN]at h;cases h;simp [fN,atN]
theorem zcK{a b:Option (List At)}{l:List At}(h:zuy a b=some l):∃x y,a=some x/\b=some y/\l=x++y:=by
 cases a with
 |none=>cases h
 |some x=>
  cases b with
  |none=>cases h
  |some y=>cases h;exact⟨x,y,rfl,rfl,rfl⟩
mutual
theorem zfl:∀(t:TV) (v:VV) (az r:List At),mT t v=some az->fT t (az++r)=(v,r)
 | .v x,v,az,r,h=>by
   cases v<;>simp only [mT]at h<;>(try cases h)
   have:=zOP x _ az r h;simp [fT,this]
 | .lp s o,v,az,r,h=>by
   cases v<;>simp only [mT]at h<;>(try cases h)
   obtain⟨h1,h2⟩:=zEQ h;have:=zha o _ az r h2;simp [fT,this,zyD h1]
 | .ls s o l z,v,az,r,h=>by
   cases v<;>simp only [mT]at h<;>(try cases h)
   obtain⟨h1,h2⟩:=zEQ h;simp only [Bool.and_eq_true]at h1;obtain⟨x,y,e1,e2,rfl⟩:=zcK h2;have k1:=zha o _ x (y++r) e1;have k2:=zha l _ y r e2;simp [fT,List.append_assoc,k1,k2,zyD h1.1,zyD h1.2]
 | .fpx c o,v,az,r,h=>by
   cases v<;>simp only [mT]at h<;>(try cases h)
   obtain⟨x,y,e1,e2,rfl⟩:=zcK h;have k1:=zmv c _ x (y++r) e1;have k2:=zha o _ y r e2;simp [fT,List.append_assoc,k1,k2]
 | .fsx c o l z,v,az,r,h=>by
   cases v<;>simp only [mT]at h<;>(try cases h)
   obtain⟨h1,h2⟩:=zEQ h;obtain⟨x,y',e1,e2,rfl⟩:=zcK h2;obtain⟨y,q,e4,e3,rfl⟩:=zcK e2;have k1:=zmv c _ x (y++(q++r)) e1;have k2:=zha o _ y (q++r) e4;have k3:=zha l _ q r e3;simp [fT,List.append_assoc,k1,k2,k3,zyD h1]
 | .fp o,v,az,r,h=>by
   cases v<;>simp only [mT]at h<;>(try cases h)
   obtain⟨x,y,e1,e2,rfl⟩:=zcK h;cases e1;have k2:=zha o _ y r e2;simp [fT,atC,k2]
 | .fs o l z,v,az,r,h=>by
   cases v<;>simp only [mT]at h<;>(try cases h)
   obtain⟨h1,h2⟩:=zEQ h;obtain⟨x,y',e1,e2,rfl⟩:=zcK h2;obtain⟨y,q,e4,e3,rfl⟩:=zcK e2;cases e1;have k2:=zha o _ y (q++r) e4;have k3:=zha l _ q r e3;simp [fT,atC,List.append_assoc,k2,k3,zyD h1]
 | .fn f c,v,az,r,h=>by
   cases v<;>simp only [mT]at h<;>(try cases h)
   obtain⟨h1,h2⟩:=zEQ h;have:=zmv c _ az r h2;simp [fT,this,zyD h1]
 | .agg c,v,az,r,h=>by
   cases v<;>simp only [mT]at h<;>(try cases h)
   have:=zmv c _ az r h;simp [fT,this]
 | .tup c,v,az,r,h=>by
   cases v<;>simp only [mT]at h<;>(try cases h)
   have:=zmv c _ az r h;simp [fT,this]
theorem zmv:∀(t:List TV) (v:List VV) (az r:List At),mTs t v=some az->fTs t (az++r)=(v,r)
 |[],v,az,r,h=>by
  cases v<;>simp only [mTs]at h<;>(try cases h)
  simp [fTs]
 |t::ts,v,az,r,h=>by
  cases v<;>simp only [mTs]at h<;>(try cases h)
  obtain⟨x,y,e1,e2,rfl⟩:=zcK h;have k1:=zfl t _ x (y++r) e1;have k2:=zmv ts _ y r e2;simp [fTs,List.append_assoc,k1,k2]
end
inductive TC where
 |ex (l:List TV)
 |hole
structure TB where
 c:TC
 closed:Bool
structure TS where
 t:List (Nat×TV)
 m:List (Nat×TB)
 n:Nat
def mC:TC->List VV->Option (List At)
 | .ex l,c=>mTs l c
 | .hole,c=>some [.c c]
def fC:TC->List At->List VV×List At
 | .ex l,az=>fTs l az
 | .hole,az=>(atC az[0]?,az.drop 1)
def mSt:List (Nat×TV)->List (Nat×VV)->Option (List At)
 |[],[]=>some []
 |(k,t)::ts,(k',v)::vs=>bif Nat.beq k k' then zuy (mT t v) (mSt ts vs)else none
 |_,_=>none
def fSt:List (Nat×TV)->List At->List (Nat×VV)×List At
 |[],az=>([],az)
 |(k,t)::ts,az=>((k,(fT t az).1)::(fSt ts (fT t az).2).1,(fSt ts (fT t az).2).2)
def mSm:List (Nat×TB)->List (Nat×Blk)->Option (List At)
 |[],[]=>some []
 |(k,t)::ts,(k',v)::vs=>bif Nat.beq k k'&&(t.closed==v.closed)then zuy (mC t.c v.c) (mSm ts vs)else none
 |_,_=>none
def fSm:List (Nat×TB)->List At->List (Nat×Blk)×List At
 |[],az=>([],az)
 |(k,t)::ts,az=>((k,⟨(fC t.c az).1,t.closed⟩)::(fSm ts (fC t.c az).2).1,(fSm ts (fC t.c az).2).2)
def mS(t:TS)(s:VS):Option (List At):=bif Nat.beq t.n s.n then zuy (mSt t.t s.t) (mSm t.m s.m)else none
def fS(t:TS)(az:List At):VS:=⟨(fSt t.t az).1,(fSm t.m (fSt t.t az).2).1,t.n⟩
theorem zT6(t:TC)(m:List VV)(az r:List At)(h:mC t m=some az):fC t (az++r)=(m,r):=by
 cases t with
 |ex l=>exact zmv l m az r h
 |hole=>simp only [mC]at h;cases h;simp [fC,atC]
theorem zIy:∀(t:List (Nat×TV)) (v:List (Nat×VV)) (az r:List At),mSt t v=some az->fSt t (az++r)=(v,r)
 |[],v,az,r,h=>by
  cases v<;>simp only [mSt]at h<;>(try cases h)
  simp [fSt]
 |(k,t)::ts,v,az,r,h=>by
  cases v<;>simp only [mSt]at h<;>(try cases h)
  rename_i p q;obtain⟨h1,h2⟩:=zEQ h;obtain⟨x,y,e1,e2,rfl⟩:=zcK h2;have k1:=zfl t _ x (y++r) e1;have k2:=zIy ts _ y r e2;simp [fSt,List.append_assoc,k1,k2,zyD h1]
theorem zIz:∀(t:List (Nat×TB)) (v:List (Nat×Blk)) (az r:List At),mSm t v=some az->fSm t (az++r)=(v,r)
 |[],v,az,r,h=>by
  cases v<;>simp only [mSm]at h<;>(try cases h)
  simp [fSm]
 |(k,t)::ts,v,az,r,h=>by
  cases v<;>simp only [mSm]at h<;>(try cases h)
  rename_i p q;obtain⟨h1,h2⟩:=zEQ h;simp only [Bool.and_eq_true,beq_iff_eq]at h1;obtain⟨x,y,e1,e2,rfl⟩:=zcK h2;have k1:=zT6 t.c _ x (y++r) e1;have k2:=zIz ts _ y r e2;simp [fSm,List.append_assoc,k1,k2,zyD h1.1,h1.2]
theorem zT7{t:TS}{s:VS}{az:List At}(h:mS t s=some az):fS t az=s:=by
 obtain⟨h1,h2⟩:=zEQ h;obtain⟨x,y,e1,e2,rfl⟩:=zcK h2;have k1:=zIy t.t _ x y e1;have k2:=zIz t.m _ y [] e2;rw [List.append_nil]at k2;obtain⟨a,b,c⟩:=s;simp only at h1;simp [fS,k1,k2,zyD h1]
abbrev WV.i:WV:=.int .i64
abbrev TV.i:TV:=.v .i
def zmw(k:IntKind)(a b:Int):Int:=k.wrap ((BitVec.ofInt k.bits a&&& BitVec.ofInt k.bits b).toNat:Int)
def orI(k:IntKind)(a b:Int):Int:=k.wrap ((BitVec.ofInt k.bits a|||BitVec.ofInt k.bits b).toNat:Int)
def zpx(k:IntKind)(a b:Int):Int:=k.wrap ((BitVec.ofInt k.bits a^^^BitVec.ofInt k.bits b).toNat:Int)
theorem Le.ofEq{a b:R}(h:a=b):Le a b:=by
 subst h;exact Le.refl _
def dn:Nat->List At->List At
 |0,l=>l
 |i+1,l=>(dn i l).drop 1
def nth(l:List At)(i:Nat):Option At:=(dn i l)[0]?
def Wk(x y:VV):Prop:=∀(St:Nat->Prop) (w:World) (ρ:Rho) (v:Value),Rel St w ρ x v->Rel St w ρ y v
theorem Wk.refl(x:VV):Wk x x:=fun _ _ _ _ h=>h
mutual
def mTn:TV->VV->Option (List At)
 | .agg c,.agg c'=>zBG c c'
 | .agg c,.v (.agg l)=>zBG c (l.toList.map .v)
 | .fs o l _,.v (.slice none 0 0)=>zuy (some [.c []]) (zuy (mN o 0) (mN l 0))
 |t,v=>mT t v
def zBG:List TV->List VV->Option (List At)
 |[],[]=>some []
 |t::ts,v::vs=>zuy (mTn t v) (zBG ts vs)
 |_,_=>none
end
theorem Wk.agg{c c':List VV}(hl:c.length=c'.length)(h:∀(i:Nat) (x y:VV),c[i]? =some x->c'[i]? =some y->Wk x y):Wk (.agg c) (.agg c'):=by
 intro St w ρ v hv;obtain⟨vs,xs,h1,h2,h3,rfl⟩:=hv.agg_inv;refine .agg _ c' vs xs zc (fun i x hx=> ?_) (fun i x hx=> ?_)
 ·have hi:=(List.getElem?_eq_some_iff.1 hx).1
  exact h2 i _ (List.getElem?_eq_getElem zc)
 ·have hi:=(List.getElem?_eq_some_iff.1 hx).1
  have hy:=List.getElem?_eq_getElem (l:=c) (i:=i) zc;exact h i _ _ hy hx _ _ _ _ (h3 i _ hy)
theorem Wk.ofV(l:Array Value):Wk (.v (.agg l)) (.agg (l.toList.map .v)):=by
 intro St w ρ v hv;obtain rfl:=hv.v_inv;refine .agg _ _ l (fun i=>l.getD i undef) jq (fun i x hx=> ?_) (fun i x hx=> ?_)
 ·simp only [List.getElem?_map,Option.map_eq_some_iff,Array.getElem?_toList]at hx
  obtain⟨u,hu,rfl⟩:=hx;simp [Array.getD_eq_getD_getElem?,hu]
 ·simp only [List.getElem?_map,Option.map_eq_some_iff,Array.getElem?_toList]at hx
  obtain⟨u,hu,rfl⟩:=hx;simp only [Array.getD_eq_getD_getElem?,hu,Option.getD_some];exact .v _ _
theorem Wk.nil(o z:Nat):Wk (.v (.slice none 0 0)) (.fs [] o 0 z):=by
 intro St w ρ v hv;obtain rfl:=hv.v_inv;exact .fs _ [] o 0 z 0 0 0 none (fun _=>undef) (Nat.le_refl _) (fun h=>absurd h zc) (fun i x hx=>by simp at hx) (fun i x hx=>by simp at hx) (fun i x hx=>by simp at hx)
theorem Wk.trans{x y z:VV}(h:Wk x y)(k:Wk y z):Wk x z:=fun St w ρ v hv=>k St w ρ v (h St w ρ v hv)
mutual
theorem zRK:∀(t:TV) (v:VV) (az r:List At),mTn t v=some az->(fT t (az++r)).2=r/\Wk v (fT t (az++r)).1
 | .agg c,v,az,r,h=>by
   unfold mTn at h;split at h
   ·rename_i c1 cc heq
    cases heq;obtain⟨h1,h2,h3⟩:=zzv _ cc az r h;simp only [fT];exact⟨h1,Wk.agg h2.symm h3⟩
   ·rename_i c1 l heq
    cases heq;obtain⟨h1,h2,h3⟩:=zzv _ _ az r h;simp only [fT];exact⟨h1,(Wk.ofV l).trans (Wk.agg h2.symm h3)⟩
   ·rename_i heq;cases heq
   ·have:=zfl _ _ az r h
    rw [this];exact⟨rfl,.refl _⟩
 | .fs o l z,v,az,r,h=>by
   unfold mTn at h;split at h
   ·rename_i heq;cases heq
   ·rename_i heq;cases heq
   ·rename_i _ _ _ heq
    cases heq;obtain⟨x,y',e1,e2,rfl⟩:=zcK h;cases e1;obtain⟨y,q,e4,e3,rfl⟩:=zcK e2;have k2:=zha o _ y (q++r) e4;have k3:=zha l _ q r e3;simp only [fT,List.cons_append,List.nil_append,List.append_assoc,List.drop_succ_cons,List.drop_zero,k2,k3,true_and,List.getElem?_cons_zero,atC];exact Wk.nil _ _
   ·have:=zfl _ _ az r h
    rw [this];exact⟨rfl,.refl _⟩
 | .v x,v,az,r,h=>by have:=zfl (.v x) v az r (by simpa [mTn]using h);rw [this];exact⟨rfl,.refl _⟩
 | .lp s o,v,az,r,h=>by have:=zfl (.lp s o) v az r (by simpa [mTn]using h);rw [this];exact⟨rfl,.refl _⟩
 | .ls s o l z,v,az,r,h=>by have:=zfl (.ls s o l z) v az r (by simpa [mTn]using h);rw [this];exact⟨rfl,.refl _⟩
 | .fpx c o,v,az,r,h=>by have:=zfl (.fpx c o) v az r (by simpa [mTn]using h);rw [this];exact⟨rfl,.refl _⟩
 | .fsx c o l z,v,az,r,h=>by have:=zfl (.fsx c o l z) v az r (by simpa [mTn]using h);rw [this];exact⟨rfl,.refl _⟩
 | .fp o,v,az,r,h=>by have:=zfl (.fp o) v az r (by simpa [mTn]using h);rw [this];exact⟨rfl,.refl _⟩
 | .fn f c,v,az,r,h=>by have:=zfl (.fn f c) v az r (by simpa [mTn]using h);rw [this];exact⟨rfl,.refl _⟩
 | .tup c,v,az,r,h=>by have:=zfl (.tup c) v az r (by simpa [mTn]using h);rw [this];exact⟨rfl,.refl _⟩
theorem zzv:∀(ts:List TV) (vs:List VV) (az r:List At),zBG ts vs=some az->(fTs ts (az++r)).2=r/\(fTs ts (az++r)).1.length=vs.length/\
 ∀(i:Nat) (x y:VV),vs[i]? =some x->(fTs ts (az++r)).1[i]? =some y->Wk x y
 |[],vs,az,r,h=>by
  cases vs with
  |nil=>simp only [zBG,Option.some.injEq]at h;subst h;simp [fTs]
  |cons v vs=>simp [zBG]at h
 |t::ts,vs,az,r,h=>by
  cases vs with
  |nil=>simp [zBG]at h
  |cons v vs=>
   simp only [zBG]at h;obtain⟨x,y,e1,e2,rfl⟩:=zcK h;obtain⟨h1,h2⟩:=zRK t v x (y++r) e1;obtain⟨g1,g2,g3⟩:=zzv ts vs y r e2;simp only [fTs,List.append_assoc,h1,g1,List.length_cons,g2,true_and];intro i p q hp hq;cases i with
   |zero=>simp at hp hq;subst hp;subst hq;exact h2
   |succ i=>exact g3 i p q (by simpa using hp) (by simpa using hq)
end
theorem yc.wk{P:Program}{f:FuncId}{g:List VV->Option VV}(hg:yc P f g){args args':List VV}{r:VV}(hl:args'.length=args.length)(ha:∀(i:Nat) (x y:VV),args[i]? =some x->args'[i]? =some y->Wk x y)
 (hr:g args'=some r):zIk P f/\∀(w:World) (vs:Array Value) (St:Nat->Prop),(∀b,St b->b<w.heap.size)->vs.size=args.length->
 (∀(i:Nat) (x:VV),args[i]? =some x->∃y,vs[i]? =some y/\Rel St w zmr x y)->Calls P f vs w fun e w'=>∃v,e= .returned v/\RowKit.Below w.heap.size w w'/\zBD w w' r v:=by
 obtain⟨hc,h⟩:=hg args' r hr;refine⟨hc,fun w vs St hS hs hv=>h w vs St hS zc fun i y hy=> ?_⟩;have hi:=(List.getElem?_eq_some_iff.1 hy).1;have hx:=List.getElem?_eq_getElem (l:=args) (i:=i) zc;obtain⟨v,h1,h2⟩:=hv i _ hx;exact⟨v,h1,ha i _ _ hx hy _ _ _ _ h2⟩
def zV3:TV->Bool
 | .fs _ _ _=>true
 | .fsx _ _ _ _=>true
 |_=>false
def mTr(t:TV)(v:VV):Option (List At):=bif zV3 t then mT t v else mTn t v
def okT(t:TV)(r:R):Bool:=(r.bind (mTr t)).isSome
def jV(t:TV)(r:R):List At:=(r.bind (mTr t)).getD []
def zRL(tin:List TV)(tout:TV)(ok:List At->Bool)(out:List At->List At)(args:List VV):Option (Bool×VV):=
 match zBG tin args with
 |some az=>some (ok az,(fT tout (out az)).1)
 |none=>none
def zS:List (FuncId×(List VV->Option (Bool×VV)))->FuncId->List VV->Option (Bool×VV)
 |[],_,_=>none
 |(f,s)::r,g,l=>bif Nat.beq f g then(match s l with
  |some x=>some x
  |none=>zS r g l)else zS r g l
theorem zuz{P:Program}:∀{l:List (FuncId×(List VV->Option (Bool×VV)))},(∀p∈l,yc P p.1 (unS p.2))->∀f,yc P f (unS (zS l f))
 |[],_,f=>fun args r h=>by simp [unS,zS]at h
 |(g,s)::l,hl,f=>fun args r h=>by
  have ih:=zuz (l:=l) (fun p hp=>hl p (List.mem_cons_of_mem _ hp)) f args r;unfold unS at h ih;unfold zS at h;cases hb:Nat.beq g f with
  |false=>rw [hb]at h;exact ih h
  |true=>
   rw [hb]at h;simp only [cond_true]at h;cases hs:s args with
   |none=>rw [hs]at h;exact ih h
   |some x=>
    rw [hs]at h;simp only at h;have:=hl (g,s) (List.mem_cons_self ..);rw [<-zyD hb];refine this args r ?_;simp only [unS,hs];exact h
structure LW where
 j:Nat
 t:TS
 L:(Exit->VS->R)->List At->R
def zwO(C:Cfg):List LW->Nat->VS->(Exit->VS->R)->R
 |[],_,_,_=>none
 |e::r,j,st,k=>bif Nat.beq e.j j then(match mS e.t (zfM C j st)with
  |some az=>e.L k az
  |none=>zwO C r j st k)else zwO C r j st k
structure LJ where
 r:Nat
 j:Nat
 t:TS
 L:(Exit->VS->R)->List At->R
def zES:List LJ->Nat->Nat->VS->(Exit->VS->R)->R
 |[],_,_,_,_=>none
 |e::q,r,j,st,k=>bif Nat.beq e.r r&&Nat.beq e.j j then(match mS e.t st with
  |some az=>e.L k az
  |none=>zES q r j st k)else zES q r j st k
section
variable{P:Program}{S:FuncId->List VV->Option (Bool×VV)}
theorem zRM{C:Cfg}{fuel:Nat}{I:Nat->VS->(Exit->VS->R)->R}{J:Nat->Nat->VS->(Exit->VS->R)->R}{p:Nat×Code}:∀(tb:List LW),
 (∀e∈tb,e.j=p.1->∀k az,Le (e.L k az) (zny (zeY P S C I J p.2 p.1) (zfM C p.1) k fuel (fS e.t az)))->
 ∀st k,Le (zwO C tb p.1 st k) (zny (zeY P S C I J p.2 p.1) (zfM C p.1) k fuel (zfM C p.1 st))
 |[],_,_,_=>Le.none _
 |e::tb,h,st,k=>by
  have ih:=zRM tb (fun x hx=>h x (List.mem_cons_of_mem _ hx)) st k;unfold zwO;cases hb:Nat.beq e.j p.1 with
  |false=>exact ih
  |true=>
   simp only [cond_true];cases hm:mS e.t (zfM C p.1 st)with
   |none=>exact ih
   |some az=>
    have:=h e (List.mem_cons_self ..) (zyD hb) k az;rw [zT7 hm]at this;exact this
def zOQ(P:Program)(S:FuncId->List VV->Option (Bool×VV))(C:Cfg)(I:Nat->VS->(Exit->VS->R)->R)(J:Nat->Nat->VS->(Exit->VS->R)->R)(fuel j:Nat)(b:Code)(tb:List LW):Prop:=
 ∀e∈tb,e.j=j->∀k az,Le (e.L k az) (zny (zeY P S C I J b j) (zfM C j) k fuel (fS e.t az))
theorem jY{C:Cfg}{I:Nat->VS->(Exit->VS->R)->R}{J:Nat->Nat->VS->(Exit->VS->R)->R}{fuel j:Nat}{b:Code}:zOQ P S C I J fuel j b []:=fun _ h=>by cases h
theorem yn{C:Cfg}{I:Nat->VS->(Exit->VS->R)->R}{J:Nat->Nat->VS->(Exit->VS->R)->R}{fuel j:Nat}{b:Code}{tb:List LW}{j':Nat}{t:TS}{L:(Exit->VS->R)->List At->R}
 (h:j'=j->∀k az,Le (L k az) (zny (zeY P S C I J b j) (zfM C j) k fuel (fS t az))) (ht:zOQ P S C I J fuel j b tb):zOQ P S C I J fuel j b (⟨j',t,L⟩::tb):=by
 intro e he;rcases List.mem_cons.1 he with rfl|he
 ·exact h
 ·exact ht e he
theorem jZ{C:Cfg}{I:Nat->VS->(Exit->VS->R)->R}{J:Nat->Nat->VS->(Exit->VS->R)->R}{fuel j:Nat}{b:Code}(tb:List LW)(hI:I=zwO C tb)(h:zOQ P S C I J fuel j b tb):zp8 P S C fuel I J (j,b):=by
 intro st k;have:=zRM (P:=P) (S:=S) (C:=C) (fuel:=fuel) (I:=I) (J:=J) (p:=(j,b)) tb h st k;show Le (I j st k) _;have e:I j st k=zwO C tb j st k:=by rw [hI]
 rw [e];exact this
theorem jP{C:Cfg}{I:Nat->VS->(Exit->VS->R)->R}{J:Nat->Nat->VS->(Exit->VS->R)->R}{fuel:Nat}{f:FuncId}(l:List (Nat×Code))(hl:zjj P f=l)(h:∀p∈l,zp8 P S C fuel I J p):∀p∈zjj P f,zp8 P S C fuel I J p:=by
 rw [hl];exact h
theorem zn{α:Type}{q:α->Prop}:∀p∈([]:List α),q p:=fun _ h=>by cases h
theorem zd{α:Type}{q:α->Prop}{a:α}{l:List α}(h:q a)(hl:∀p∈l,q p):∀p∈a::l,q p:=by
 intro p hp;rcases List.mem_cons.1 hp with rfl|hp
 ·exact h
 ·exact hl p hp
theorem zIA{C:Cfg}{I:Nat->VS->(Exit->VS->R)->R}{J:Nat->Nat->VS->(Exit->VS->R)->R}{f:FuncId}(l:List (Nat×Nat×Code))(hl:zli P C f=l)(h:∀p∈l,zux P S C I J p):∀p∈zli P C f,zux P S C I J p:=by
 rw [hl];exact h
def WkR(x y:VV):Prop:=Wk x y/\∀c l z,y= .fs c 0 l z->x=y
theorem WkR.refl(x:VV):WkR x x:=⟨.refl x,fun _ _ _ _=>rfl⟩
theorem WkR.res{w w':World}{x y:VV}{v:Value}(h:WkR x y)(hr:zBD w w' x v):zBD w w' y v:=
 ⟨h.1 _ _ _ _ hr.1,fun c l z e=>hr.2 c l z ((h.2 c l z e).trans e)⟩
theorem zPM{f:FuncId}{tin:List TV}{tout:TV}{ok:List At->Bool}{out:List At->List At}
 (hok:∀az,ok az=true->∃g x,yc P f g/\g (fTs tin az).1=some x/\WkR x (fT tout (out az)).1):yc P f (unS (zRL tin tout ok out)):=by
 intro args r h;unfold unS zRL at h;cases hm:zBG tin args with
 |none=>rw [hm]at h;cases h
 |some az=>
  rw [hm]at h;simp only at h;cases ho:ok az with
  |false=>rw [ho]at h;simp at h
  |true=>
   rw [ho]at h;simp only [Option.some.injEq]at h;subst h;obtain⟨g,x,hg,hx,hw⟩:=hok az ho;obtain⟨_,h2,h3⟩:=zzv tin args az [] hm;rw [List.append_nil]at h2 h3;obtain⟨hc,hk⟩:=hg.wk h2 h3 hx;refine⟨hc,fun w vs St hS hs hv=>(hk w vs St hS hs hv).mono ?_⟩;rintro e w' ⟨v,he,hb,hr⟩;exact⟨v,he,hb,hw.res hr⟩
theorem zRN(hS:∀f,yc P f (unS (S f)))(hf:P.follows .mixedOrders=true){f:FuncId}(hname:(P.funcs[f]?).all (fun fn=> !(fn.name== "runtime.NumGoroutine"))=true)
 {C:Cfg} {tin:List TV} {tout:TV} {ok:List At->Bool} {out:List At->List At} {F:List At->R} (fuel:List At->Nat) (I:List At->Nat->VS->(Exit->VS->R)->R) (J:List At->Nat->Nat->VS->(Exit->VS->R)->R)
 (hl:∀az,∀p∈zjj P f,zp8 P S C (fuel az) (I az) (J az) p) (hj:∀az,∀p∈zli P C f,zux P S C (I az) (J az) p) (hF:∀az,zPJ P S C (I az) (J az) f (fTs tin az).1=F az)
 (hok:∀az,ok az=true->∃x,F az=some x/\WkR x (fT tout (out az)).1):yc P f (unS (zRL tin tout ok out)):=by
 refine zPM fun az ho=> ?_
 obtain⟨x,hx,hw⟩:=hok az ho;refine⟨fun args=> @ite _ (args=(fTs tin az).1) (Classical.propDecidable _) (some x) none,x,?_,jq,hw⟩;refine zPK hS hf (C:=C) hname fun args r h=> ?_
 split at h
 ·rename_i e
  simp only [Option.some.injEq]at h;subst h;subst e;exact⟨fuel az,I az,J az,hl az,hj az,(hF az).trans hx⟩
 ·cases h
theorem zRO{t:TV}{r:R}(h:okT t r=true):∃x,r=some x/\WkR x (fT t (jV t r)).1:=by
 unfold okT at h;cases r with
 |none=>simp at h
 |some v=>
  refine⟨v,rfl,?_⟩;cases hm:mTr t v with
  |none=>simp [hm]at h
  |some az=>
   simp only [jV,Option.bind_some,hm,Option.getD_some];unfold mTr at hm;cases ht:zV3 t with
   |true=>
    rw [ht]at hm;have:=zfl t v az [] hm;rw [List.append_nil]at this;rw [this];exact .refl v
   |false=>
    rw [ht]at hm;have:=(zRK t v az [] hm).2;rw [List.append_nil]at this;refine⟨this,fun c l z e=> ?_⟩;cases t<;>simp [zV3,fT]at ht e
theorem zPN{t:TV}{r:R}{y:VV}(h:okT t r=true)(e:(fT t (jV t r)).1=y):∃x,r=some x/\WkR x y:=e▸zRO h
end
theorem zuA(x:Int):wrap .u32 x=x%4294967296:=by simp [wrap,IntKind.bits,IntKind.signed]
theorem zd2(x:Int):wrap .u64 x=x%18446744073709551616:=by simp [wrap,IntKind.bits,IntKind.signed]
theorem zT8(x:Int):wrap .i32 x=(x+2147483648)%4294967296-2147483648:=by
 simp [wrap,IntKind.bits,IntKind.signed];split<;>omega
theorem zlj(x:Int):wrap .i64 x=(x+9223372036854775808)%18446744073709551616-9223372036854775808:=by
 simp [wrap,IntKind.bits,IntKind.signed];split<;>omega
def zr(x:Int):Prop:= -9223372036854775808<=x/\x<9223372036854775808
def U64(x:Int):Prop:=0<=x/\x<18446744073709551616
def I32(x:Int):Prop:= -2147483648<=x/\x<2147483648
def U32(x:Int):Prop:=0<=x/\x<4294967296
theorem zH{x:Int}(h:zr x):wrap .i64 x=x:=by rw [zlj];unfold zr at h;omega
theorem zbz{x:Int}(h:U64 x):wrap .u64 x=x:=by rw [zd2];unfold U64 at h;omega
theorem zT9{x:Int}(h:U32 x):wrap .u32 x=x:=by rw [zuA];unfold U32 at h;omega
theorem zET(x:Int):zr (wrap .i64 x):=by rw [zlj];unfold zr;omega
theorem zV4(x:Int):U64 (wrap .u64 x):=by rw [zd2];unfold U64;omega
theorem zIB{a:Int}(h:U64 a):(BitVec.ofInt 64 a).toNat=a.toNat:=by
 unfold U64 at h;simp only [BitVec.toNat_ofInt];omega
theorem zVx{a:Int}(_h:zr a):(BitVec.ofInt 64 a).toNat=(a%18446744073709551616).toNat:=by
 simp only [BitVec.toNat_ofInt];omega
theorem zMF(a b:Int):zmw .u64 a b=wrap .u64 ((BitVec.ofInt 64 a&&& BitVec.ofInt 64 b).toNat:Int):=rfl
theorem ztl(a b:Int):orI .u64 a b=wrap .u64 ((BitVec.ofInt 64 a|||BitVec.ofInt 64 b).toNat:Int):=rfl
theorem zMG(a b:Int):zpx .u64 a b=wrap .u64 ((BitVec.ofInt 64 a^^^BitVec.ofInt 64 b).toNat:Int):=rfl
theorem zMH(a b:Int):zmw .i64 a b=wrap .i64 ((BitVec.ofInt 64 a&&& BitVec.ofInt 64 b).toNat:Int):=rfl
theorem zAd(a b:Int):zpx .i64 a b=wrap .i64 ((BitVec.ofInt 64 a^^^BitVec.ofInt 64 b).toNat:Int):=rfl
theorem zUa{a b:Int}(ha:U64 a)(hb:U64 b):zmw .u64 a b=((a.toNat&&& b.toNat:Nat):Int):=by
 rw [zMF,BitVec.toNat_and,zIB ha,zIB hb,zd2];have h:a.toNat&&& b.toNat<=a.toNat:=Nat.and_le_left;unfold U64 at ha;generalize a.toNat&&& b.toNat=q at*
 omega
theorem zV5{a b:Int}(ha:U64 a)(hb:U64 b):orI .u64 a b=((a.toNat|||b.toNat:Nat):Int):=by
 rw [ztl,BitVec.toNat_or,zIB ha,zIB hb,zd2];unfold U64 at ha hb;have h:a.toNat|||b.toNat<2^64:=Nat.or_lt_two_pow zc zc;generalize a.toNat|||b.toNat=q at*
 omega
theorem zIC(k:Nat)(hk:k<=64){a:Int}(ha:U64 a):zmw .u64 a ((2^k-1:Nat):Int)=a%(2^k:Nat):=by
 have hp:2^k<=2^64:=Nat.pow_le_pow_right dcz hk;have h1:1<=2^k:=Nat.one_le_two_pow;rw [zUa ha (by unfold U64;omega),Int.toNat_natCast,Nat.and_two_pow_sub_one_eq_mod];unfold U64 at ha;generalize 2^k=P at*
 have e:a=(a.toNat:Int):=zc;rw [e,Int.toNat_natCast];rfl
theorem zPO{a:Int}(ha:U64 a):zmw .u64 a 1=a%2:=zIC 1 zc ha
theorem zAe{a:Int}(ha:U64 a):zmw .u64 a 4294967295=a%4294967296:=zIC 32 zc ha
theorem zMI(k n m:Nat)(h:m<2^k):n*2^k|||m=n*2^k+m:=by
 rw [<-Nat.shiftLeft_eq,Nat.shiftLeft_add_eq_or_of_lt h]
theorem ziN(k:Nat){a b:Int}(ha0:0<=a)(hb:0<=b)(hb':b<(2^k:Nat))(hs:a*(2^k:Nat)+b<18446744073709551616):orI .u64 (a*(2^k:Nat)) b=a*(2^k:Nat)+b:=by
 obtain⟨n,rfl⟩:=Int.eq_ofNat_of_zero_le ha0;obtain⟨m,rfl⟩:=Int.eq_ofNat_of_zero_le hb;have e:(n:Int)*(2^k:Nat)=((n*2^k:Nat):Int):=by push_cast;rfl
 rw [e]at hs⊢;rw [zV5 (by unfold U64;omega) (by unfold U64;omega),Int.toNat_natCast,Int.toNat_natCast,zMI k n m zc];push_cast;rfl
theorem zUb{a:Int}(ha:U64 a):zpx .u64 18446744073709551615 a=18446744073709551615-a:=by
 have e:BitVec.ofInt 64 18446744073709551615=BitVec.allOnes 64:=dcz;rw [zMG,e,BitVec.allOnes_xor,BitVec.toNat_not,zIB ha,zd2];unfold U64 at ha;omega
theorem zUc{a:Int}(ha:zr a):zpx .i64 (-1) a= -1-a:=by
 have e:BitVec.ofInt 64 (-1)=BitVec.allOnes 64:=dcz;rw [zAd,e,BitVec.allOnes_xor,BitVec.toNat_not,zVx ha,zlj];unfold zr at ha;omega
theorem zzw{a:Int}(ha:zr a):(BitVec.ofInt 64 a).msb=decide (a<0):=by
 rw [BitVec.msb_eq_decide,zVx ha];unfold zr at ha;rw [Bool.eq_iff_iff];simp only [decide_eq_true_eq];omega
theorem zID(x:BitVec 64):(wrap .i64 (x.toNat:Int)<0)↔x.msb=true:=by
 rw [BitVec.msb_eq_decide,zlj,decide_eq_true_eq];have:=x.isLt;omega
theorem zOR{a b:Int}(ha:zr a)(hb:zr b):(zmw .i64 a b<0)↔(a<0/\b<0):=by
 rw [zMH,zID,BitVec.msb_and,zzw ha,zzw hb];simp
theorem zzx{a b:Int}(ha:zr a)(hb:zr b):(zpx .i64 a b<0)↔ ¬(a<0↔b<0):=by
 rw [zAd,zID,BitVec.msb_xor,zzw ha,zzw hb];by_cases h:a<0<;>by_cases k:b<0<;>simp [h,k]
theorem zEU(a b:Int):zr (zpx .i64 a b):=zET _
def lo(z:Int):Int:=z%18446744073709551616
def hi(z:Int):Int:=(z/18446744073709551616+9223372036854775808)%18446744073709551616-9223372036854775808
def val(h l:Int):Int:=h*18446744073709551616+l
def W(z:Int):Int:=(z+170141183460469231731687303715884105728)%340282366920938463463374607431768211456-170141183460469231731687303715884105728
def wd(z:Int):VV:=.v (.agg #[.int .i64 (hi z),.int .u64 (lo z)])
def zcr(z:Int):Prop:= -170141183460469231731687303715884105728<=z/\z<170141183460469231731687303715884105728
theorem zeZ(z:Int):U64 (lo z):=by unfold U64 lo;omega
theorem zwP(z:Int):zr (hi z):=by unfold zr hi;omega
theorem zD3{h l:Int}(hh:zr h)(hl:U64 l):zcr (val h l):=by unfold zcr val;unfold zr at hh;unfold U64 at hl;omega
theorem zvz{z:Int}(h:zcr z):W z=z:=by unfold W;unfold zcr at h;omega
theorem zce(z:Int):val (hi z) (lo z)=W z:=by unfold val hi lo W;omega
theorem zEV{h l:Int}(hh:zr h)(hl:U64 l):hi (val h l)=h:=by unfold hi val;unfold zr at hh;unfold U64 at hl;omega
theorem zAf{h l:Int}(hl:U64 l):lo (val h l)=l:=by unfold lo val;unfold U64 at hl;omega
def Eqv(x y:Int):Prop:=x%340282366920938463463374607431768211456=y%340282366920938463463374607431768211456
theorem zhb{x y:Int}(h:Eqv x y):lo x=lo y:=by unfold Eqv at h;unfold lo;omega
theorem zhc{x y:Int}(h:Eqv x y):hi x=hi y:=by unfold Eqv at h;unfold hi;omega
theorem zhd(x:Int):Eqv (W x) x:=by unfold Eqv W;omega
theorem Eqv.rfl{x:Int}:Eqv x x:=Eq.refl _
theorem Eqv.symm{x y:Int}(h:Eqv x y):Eqv y x:=Eq.symm h
theorem Eqv.trans{x y z:Int}(h:Eqv x y)(k:Eqv y z):Eqv x z:=Eq.trans h k
theorem Eqv.add{x y z w:Int}(h:Eqv x y)(k:Eqv z w):Eqv (x+z) (y+w):=by unfold Eqv at*;omega
theorem Eqv.neg{x y:Int}(h:Eqv x y):Eqv (-x) (-y):=by unfold Eqv at*;omega
theorem Eqv.sub{x y z w:Int}(h:Eqv x y)(k:Eqv z w):Eqv (x-z) (y-w):=by unfold Eqv at*;omega
theorem Eqv.mul{x y:Int}(c:Int)(h:Eqv x y):Eqv (x*c) (y*c):=by
 unfold Eqv at*
 rw [Int.mul_emod,h, <-Int.mul_emod]
theorem zb9(n:Nat):(0:Int)<2^n:=Int.pow_pos dcz
theorem ztV(a b:Nat):(2:Int)^a*2^b=2^(a+b):=(Int.pow_add 2 a b).symm
theorem zVy{m:Nat}(h:m<=64):(2:Int)^m*2^(64-m)=18446744073709551616:=by
 rw [ztV,show m+(64-m)=64 from zc];decide
theorem zMJ(k:Nat):((2^k:Nat):Int)=2^k:=by push_cast;rfl
theorem zIE(a b:Int):orI .u64 a b=orI .u64 b a:=by rw [ztl,ztl,BitVec.or_comm]
theorem zOS{h P:Int}(hh:zr h)(hP:0<P):zr (h/P):=by
 unfold zr at*
 rcases Int.lt_or_le h 0 with hn|hn
 ·constructor
  ·rw [Int.le_ediv_iff_mul_le hP]
   have: -9223372036854775808*P<= -9223372036854775808*1:=Int.mul_le_mul_of_nonpos_left zc zc;omega
  ·have:=Int.ediv_neg_of_neg_of_pos hn hP
   omega
 ·have h1:=Int.ediv_nonneg hn (Int.le_of_lt hP)
  have h2:=Int.ediv_le_self P hn;omega
theorem zvA{a P Q:Int}(hP:0<P):(a*P)%(P*Q)=(a%Q)*P:=by
 rw [Int.mul_comm a P,Int.mul_emod_mul_of_pos _ _ hP,Int.mul_comm]
theorem zPP{h l:Int}{m:Nat}(hh:zr h)(hl:U64 l)(hm:m<64):
 h/2^m=hi (val h l/2^m)/\orI .u64 (l/2^m) (((h%18446744073709551616)*2^(64-m))%18446744073709551616)=lo (val h l/2^m):=by
 have hP:=zb9 m;have hQ:=zb9 (64-m);have hPQ:=zVy (m:=m) zc;have hI:=zOS hh hP;have eP:((2^(64-m):Nat):Int)=2^(64-m):=zMJ _;have orq:=fun a b=>ziN (64-m) (a:=a) (b:=b)
 rw [eP]at orq;generalize(2:Int)^m=P at*
 generalize(2:Int)^(64-m)=Q at*
 have hv:val h l/P=h*Q+l/P:=by
  unfold val;rw [<-hPQ,show h*(P*Q)+l=l+h*Q*P by rw [Int.mul_comm P Q, <-Int.mul_assoc];omega,Int.add_mul_ediv_right _ _ zc];omega
 have hlP:0<=l/P/\l/P<Q:=by
  unfold U64 at hl;refine⟨Int.ediv_nonneg hl.1 zc,Int.ediv_lt_of_lt_mul hP ?_⟩;rw [Int.mul_comm];omega
 have h64:(0:Int)<18446744073709551616:=dcz;have hdd:(h*Q+l/P)/18446744073709551616=h/P:=by
  rw [<-hPQ,Int.mul_comm P Q, <-Int.ediv_ediv_of_nonneg zc,show h*Q+l/P=l/P+h*Q from zc,Int.add_mul_ediv_right _ _ zc,Int.ediv_eq_zero_of_lt hlP.1 hlP.2];simp
 rw [hv];constructor
 ·unfold hi
  rw [hdd];unfold zr at hI;omega
 ·have e1:((h%18446744073709551616)*Q)%18446744073709551616=(h%P)*Q:=by
   rw [<-hPQ,Int.mul_comm P Q,zvA hQ,Int.mul_comm Q P,Int.emod_emod_of_dvd h (Int.dvd_mul_right P Q)]
  have b1:=Int.emod_nonneg h (show P≠0 from zc);have b2:=Int.emod_lt_of_pos h hP;have b3:(h%P)*Q+l/P<18446744073709551616:=by
   have:(h%P)*Q<=(P-1)*Q:=Int.mul_le_mul_of_nonneg_right zc zc;rw [Int.sub_mul]at this;omega
  have b4:=Int.mul_nonneg b1 (show 0<=Q from zc);rw [e1,zIE,orq _ _ b1 hlP.1 hlP.2 b3];unfold lo;have e2:(h*Q)%18446744073709551616=(h%P)*Q:=by rw [<-hPQ,Int.mul_comm P Q,zvA hQ]
  omega
theorem zPQ{h l:Int}{m:Nat}(hl:U64 l)(hm:64<=m):h/2^(m-64)=val h l/2^m:=by
 have e:(2:Int)^m=18446744073709551616*2^(m-64):=by
  rw [show(18446744073709551616:Int)=2^64 from dcz,ztV,show 64+(m-64)=m from zc]
 rw [e, <-Int.ediv_ediv_of_nonneg dcz];congr 1
 unfold val;unfold U64 at hl;omega
theorem zPR{h l:Int}{m:Nat}(hl:U64 l)(hm:m<64):
 wrap .i64 (orI .u64 (((h%18446744073709551616)*2^m)%18446744073709551616) (l/2^(64-m)))=hi (val h l*2^m)/\(l*2^m)%18446744073709551616=lo (val h l*2^m):=by
 have hP:=zb9 m;have hQ:=zb9 (64-m);have hPQ:=zVy (m:=m) zc;have eP:((2^m:Nat):Int)=2^m:=zMJ _;have orq:=fun a b=>ziN m (a:=a) (b:=b)
 rw [eP]at orq;generalize(2:Int)^m=P at*
 generalize(2:Int)^(64-m)=Q at*
 have hv:val h l*P=h*P*18446744073709551616+l*P:=by
  unfold val;rw [Int.add_mul];have:h*18446744073709551616*P=h*P*18446744073709551616:=by simp only [Int.mul_comm,Int.mul_assoc,Int.mul_left_comm]
  omega
 have hlP:0<=l/Q/\l/Q<P:=by
  unfold U64 at hl;exact⟨Int.ediv_nonneg hl.1 zc,Int.ediv_lt_of_lt_mul hQ zc⟩
 rw [hv];have e3:(l*P)/18446744073709551616=l/Q:=by
  rw [<-hPQ, <-Int.ediv_ediv_of_nonneg zc,Int.mul_ediv_cancel _ zc]
 constructor
 ·have e1:((h%18446744073709551616)*P)%18446744073709551616=(h%Q)*P:=by
   rw [<-hPQ,zvA hP,Int.emod_emod_of_dvd h (show Q∣P*Q from⟨P,Int.mul_comm P Q⟩)]
  have b1:=Int.emod_nonneg h (show Q≠0 from zc);have b2:=Int.emod_lt_of_pos h hQ;have b3:(h%Q)*P+l/Q<18446744073709551616:=by
   have:(h%Q)*P<=(Q-1)*P:=Int.mul_le_mul_of_nonneg_right zc zc;rw [Int.sub_mul,Int.mul_comm Q P]at this;omega
  have b4:=Int.mul_nonneg b1 (show 0<=P from zc);rw [e1,orq _ _ b1 hlP.1 hlP.2 b3,zlj];unfold hi;have e2:(h*P)%18446744073709551616=(h%Q)*P:=by rw [<-hPQ,zvA hP]
  rw [show(h*P*18446744073709551616+l*P)/18446744073709551616=h*P+(l*P)/18446744073709551616 from zc,e3];omega
 ·unfold lo
  omega
theorem zPS{h l:Int}{m:Nat}(hm:64<=m):
 wrap .i64 ((l*2^(m-64))%18446744073709551616)=hi (val h l*2^m)/\0=lo (val h l*2^m):=by
 have e:(2:Int)^m=2^(m-64)*18446744073709551616:=by
  rw [show(18446744073709551616:Int)=2^64 from dcz,ztV,show(m-64)+64=m from zc]
 rw [e];generalize(2:Int)^(m-64)=P at*
 have hv:val h l*(P*18446744073709551616)=(h*P*18446744073709551616+l*P)*18446744073709551616:=by
  unfold val;simp only [Int.add_mul];have:h*18446744073709551616*(P*18446744073709551616)=h*P*18446744073709551616*18446744073709551616:=by simp only [Int.mul_comm,Int.mul_assoc,Int.mul_left_comm]
  have:l*(P*18446744073709551616)=l*P*18446744073709551616:=by simp only [Int.mul_assoc]
  omega
 rw [hv];generalize h*P=a;generalize l*P=b;constructor
 ·rw [zlj];unfold hi;omega
 ·unfold lo;omega
theorem zEW{h l:Int}{m:Nat}(hm:128<=m):0=hi (val h l*2^m)/\0=lo (val h l*2^m):=by
 have e:(2:Int)^m=2^(m-128)*340282366920938463463374607431768211456:=by
  rw [show(340282366920938463463374607431768211456:Int)=2^128 from dcz,ztV,show(m-128)+128=m from zc]
 rw [e, <-Int.mul_assoc];generalize val h l*2^(m-128)=b;constructor
 ·unfold hi;omega
 ·unfold lo;omega
def dg(z:Int)(i:Nat):Int:=z/2^i%2
def ds(z:Int)(n:Nat):List VV:=(List.range n).map fun i=>.v (.i (dg z i))
theorem zsd(z:Int)(i:Nat):0<=dg z i/\dg z i<=1:=by unfold dg;omega
theorem zd5(z:Int)(n:Nat):(ds z n).length=n:=by simp [ds]
theorem zUd(z:Int):ds z 0=[]:=rfl
theorem zzy(z:Int)(n:Nat):ds z (n+1)=ds z n++[.v (.i (dg z n))]:=by simp [ds,List.range_succ]
theorem zmx(z:Int){n i:Nat}(h:i<n):(ds z n)[i]? =some (.v (.i (dg z i))):=by simp [ds,h]
theorem zEX(z:Int)(n:Nat):((ds z n).drop 0).take (n*1)=ds z n:=by
 rw [List.drop_zero,List.take_of_length_le];rw [zd5];omega
theorem zxZ(x:Int)(i:Nat):x/2^i/2=x/2^(i+1):=by
 rw [Int.ediv_ediv_of_nonneg (Int.le_of_lt (zb9 i))];rfl
theorem zIF(x:Int){n i:Nat}(h:i<n):(x%2^n)/2^i%2=x/2^i%2:=by
 have e:(2:Int)^n=2^i*(2*2^(n-i-1)):=by
  rw [show(2:Int)*2^(n-i-1)=2^(n-i) by
   rw [show n-i=(n-i-1)+1 from zc,Int.pow_succ];simp [Int.mul_comm]]
  rw [ztV,show i+(n-i)=n from zc]
 have hd:=Int.mul_ediv_add_emod x (2^n);generalize hq:x/2^n=q at hd;generalize hr:x%2^n=r at hd⊢;rw [<-hd,e];have hP:=zb9 i;generalize(2:Int)^i=P at*
 generalize(2:Int)^(n-i-1)=T at*
 rw [show P*(2*T)*q+r=r+2*T*q*P by
  have:P*(2*T)*q=2*T*q*P:=by simp only [Int.mul_comm,Int.mul_left_comm]
  omega,Int.add_mul_ediv_right _ _ zc]
 have:2*T*q=2*(T*q):=Int.mul_assoc ..;omega
theorem zVz(z:Int){i:Nat}(h:i<64):lo z/2^i%2=dg z i:=zIF z (n:=64) h
theorem zXn(z:Int){i:Nat}(h:i<64):(z/18446744073709551616%18446744073709551616)/2^i%2=dg z (64+i):=by
 have:=zIF (z/18446744073709551616) (n:=64) h;rw [show(18446744073709551616:Int)=2^64 from dcz]at*
 rw [this,Int.ediv_ediv_of_nonneg dcz,ztV];rfl
def num(z:Int)(n:Nat):Int:=z%2^n
theorem zj5(z:Int):num z 0=0:=by unfold num;omega
theorem zj6(z:Int)(n:Nat):num z (n+1)=num z n+dg z n*2^n:=by
 unfold num dg;have h1:=Int.mul_ediv_add_emod z (2^n);have h2:=Int.mul_ediv_add_emod (z/2^n) 2;have h3:=Int.mul_ediv_add_emod z (2^(n+1));rw [<-zxZ]at h3;have hP:=zb9 n;have e:(2:Int)^(n+1)=2*2^n:=by rw [Int.pow_succ,Int.mul_comm]
 rw [e]at h3⊢;generalize(2:Int)^n=P at*
 generalize z/P=q at*
 have:2*P*(q/2)=P*(2*(q/2)):=by simp only [Int.mul_comm,Int.mul_left_comm]
 have:P*q=P*(2*(q/2)+q%2):=by rw [h2]
 rw [Int.mul_add]at this;rw [Int.mul_comm (q%2) P];omega
theorem zEY(z:Int)(n:Nat):0<=num z n/\num z n<2^n:=by
 have:=zb9 n;exact⟨Int.emod_nonneg _ zc,Int.emod_lt_of_pos _ this⟩
theorem zEZ{a b:Nat}(h:a<=b):(2:Int)^a<=2^b:=by
 rw [show b=a+(b-a)from zc, <-ztV];have h1:=zb9 a;have h2:=zb9 (b-a);have:(2:Int)^a*1<=2^a*2^(b-a):=Int.mul_le_mul_of_nonneg_left zc zc;omega
theorem zOT{i:Nat}(h:i<64):(2:Int)^i*2<=18446744073709551616:=by
 have:=zEZ (a:=i+1) (b:=64) zc;rw [Int.pow_succ]at this;simpa using this
def cy(x y:Int)(i:Nat):Int:=(num x i+num y i)/2^i
theorem zUe(x y:Int):cy x y 0=0:=by unfold cy;rw [zj5,zj5];decide
theorem zVA(x y:Int)(i:Nat):0<=cy x y i/\cy x y i<=1:=by
 unfold cy;have h1:=zEY x i;have h2:=zEY y i;have hP:=zb9 i;generalize(2:Int)^i=P at*
 refine⟨Int.ediv_nonneg zc zc,?_⟩;have:(num x i+num y i)/P<2:=Int.ediv_lt_of_lt_mul hP zc;omega
theorem zUf(x y:Int)(i:Nat):cy x y (i+1)=(dg x i+dg y i+cy x y i)/2/\dg (x+y) i=(dg x i+dg y i+cy x y i)%2:=by
 have hP:=zb9 i;have e1:=zj6 x i;have e2:=zj6 y i;constructor
 ·unfold cy
  rw [e1,e2, <-zxZ];generalize(2:Int)^i=P at*
  rw [show num x i+dg x i*P+(num y i+dg y i*P)=num x i+num y i+(dg x i+dg y i)*P by rw [Int.add_mul];omega,Int.add_mul_ediv_right _ _ zc];congr 1
  omega
 ·unfold cy
  have h1:=Int.mul_ediv_add_emod x (2^i);have h2:=Int.mul_ediv_add_emod y (2^i);have h3:(x+y)/2^i=x/2^i+y/2^i+(num x i+num y i)/2^i:=by
   unfold num;generalize(2:Int)^i=P at*
   have:x+y=(x%P+y%P)+(x/P+y/P)*P:=by
    rw [Int.add_mul,Int.mul_comm _ P,Int.mul_comm _ P];omega
   rw [this,Int.add_mul_ediv_right _ _ zc];omega
  unfold dg;rw [h3];omega
theorem zV6(z:Int)(i:Nat):dg (-1-z) i=1-dg z i:=by
 have h:(-1-z)/2^i= -1-z/2^i:=by
  have hP:=zb9 i;have h1:=Int.mul_ediv_add_emod z (2^i);have h2:=Int.emod_nonneg z (show(2:Int)^i≠0 from zc);have h3:=Int.emod_lt_of_pos z hP;generalize(2:Int)^i=P at*
  generalize z/P=q at*
  generalize z%P=r at*
  rw [<-h1,show-1-(P*q+r)=(P-1-r)+(-1-q)*P by rw [Int.sub_mul,Int.mul_comm P q];omega,Int.add_mul_ediv_right _ _ zc,Int.ediv_eq_zero_of_lt zc zc];omega
 unfold dg;rw [h];omega
def zYe:List Int:=[536870912,316933406,167458907,85004756,42667331,21354465,10679838,5340245,2670163,1335087,667544,333772,166886,83443,41722,20861,10430,5215,2608,1304,652,326,163,81,41,20,10,5,3,1]
def tA(i:Nat):Int:=zYe.getD i 0
theorem zD4:∀i,i<30->1<=tA i/\tA i<=536870912:=dcz
theorem zE0{y B:Int}(h: -B<=y/\y<=B)(i:Nat): -B<=y/2^i/\y/2^i<=B:=by
 have hP:=zb9 i;generalize(2:Int)^i=P at*
 rcases Int.lt_or_le y 0 with hn|hn
 ·constructor
  ·rw [Int.le_ediv_iff_mul_le hP]
   have: -B*P<= -B*1:=Int.mul_le_mul_of_nonpos_left zc zc;omega
  ·have:=Int.ediv_neg_of_neg_of_pos hn hP
   omega
 ·have h1:=Int.ediv_nonneg hn (Int.le_of_lt hP)
  have h2:=Int.ediv_le_self P hn;omega
def zrX(i:Nat)(o:Bool)(x y:Int):Int:=if o then x-y/2^i else x+y/2^i
def zrY(i:Nat)(o:Bool)(x y:Int):Int:=if o then y+x/2^i else y-x/2^i
theorem zV7{x y B:Int}(hx: -B<=x/\x<=B)(hy: -B<=y/\y<=B)(i:Nat)(o:Bool):(-(2*B)<=zrX i o x y/\zrX i o x y<=2*B)/\(-(2*B)<=zrY i o x y/\zrY i o x y<=2*B):=by
 have h1:=zE0 hx i;have h2:=zE0 hy i;unfold zrX zrY;cases o
 ·simp only [Bool.false_eq_true,if_false];omega
 ·simp only [if_true];omega
def bS(z:Int):Nat->Int×Int×Int
 |0=>(2608131496,0,z)
 |i+1=>(zrX i (decide (0<=(bS z i).2.2)) (bS z i).1 (bS z i).2.1,zrY i (decide (0<=(bS z i).2.2)) (bS z i).1 (bS z i).2.1,if 0<=(bS z i).2.2 then(bS z i).2.2-tA i else(bS z i).2.2+tA i)
theorem zVB(z:Int):∀i,(-(2608131496*2^i)<=(bS z i).1/\(bS z i).1<=2608131496*2^i)/\(-(2608131496*2^i)<=(bS z i).2.1/\(bS z i).2.1<=2608131496*2^i)
 |0=>by simp [bS]
 |i+1=>by
  obtain⟨h1,h2⟩:=zVB z i;have:=zV7 h1 h2 i (decide (0<=(bS z i).2.2));have e:(2608131496:Int)*2^(i+1)=2*(2608131496*2^i):=by rw [Int.pow_succ];omega
  rw [e];exact this
theorem zV8(z:Int){i:Nat}(h:i<=30):(-4611686018427387904<=(bS z i).1/\(bS z i).1<=4611686018427387904)/\(-4611686018427387904<=(bS z i).2.1/\(bS z i).2.1<=4611686018427387904):=by
 have h1:=zVB z i;have h2:(2608131496:Int)*2^i<=2608131496*2^30:=Int.mul_le_mul_of_nonneg_left (zEZ h) dcz;have h3:(2608131496:Int)*2^30<=4611686018427387904:=dcz;omega
theorem zV9{z:Int}(hz:0<=z/\z<1073741824):∀{i:Nat},i<=30-> -(1073741824+536870912*(i:Int))<=(bS z i).2.2/\(bS z i).2.2<=1073741824+536870912*(i:Int)
 |0,_=>by simp only [bS];omega
 |i+1,h=>by
  have ih:=zV9 hz (i:=i) zc;have:=zD4 i zc;simp only [bS];push_cast;split<;>omega
def zyE(x:Int):Int:=min (max x 0) 4294967296
theorem ztm(x:Int):0<=zyE x/\zyE x<=4294967296:=by unfold zyE;omega
def bC(a:Int):Int:=zyE (bS (a%1073741824) 30).1
def bN(a:Int):Int:=zyE (bS (a%1073741824) 30).2.1
def zdZ(a:Int):Int:=if a/1073741824=0 then bC a else if a/1073741824=1 then-bN a else if a/1073741824=2 then-bC a else bN a
def zc7(a:Int):Int:=if a/1073741824=0 then bN a else if a/1073741824=1 then bC a else if a/1073741824=2 then-bN a else-bC a
theorem zOU(a:Int):(-4294967296<=zdZ a/\zdZ a<=4294967296)/\(-4294967296<=zc7 a/\zc7 a<=4294967296):=by
 have h1:=ztm (bS (a%1073741824) 30).1;have h2:=ztm (bS (a%1073741824) 30).2.1;unfold zdZ zc7 bC bN;constructor<;>(repeat' split)<;>omega
def aS(x y:Int):Nat->Int×Int×Int
 |0=>(x,y,0)
 |i+1=>(zrX i (decide ((aS x y i).2.1<0)) (aS x y i).1 (aS x y i).2.1,zrY i (decide ((aS x y i).2.1<0)) (aS x y i).1 (aS x y i).2.1,if(aS x y i).2.1<0 then(aS x y i).2.2-tA i else(aS x y i).2.2+tA i)
def sz(a:Int):Int:=if a<0 then-a else a
def big(x y:Int):Int:=max (sz x) (sz y)
def zdD:Nat->Int->Int->Int×Int
 |0,x,y=>(x,y)
 |n+1,x,y=>if 2305843009213693952<=big x y then zdD n (x/2) (y/2)else(x,y)
def dbl:Nat->Int->Int->Int×Int
 |0,x,y=>(x,y)
 |n+1,x,y=>if big x y<1152921504606846976 then dbl n (x*2) (y*2)else(x,y)
def scd(x y:Int):Int×Int:=dbl 64 (zdD 64 x y).1 (zdD 64 x y).2
def opp(a:Int):Int:=if a= -9223372036854775808 then 9223372036854775807 else-a
def zcQ(y x:Int):Int:=if x=0/\y=0 then 0 else if x<0 then((aS (scd (opp x) (opp y)).1 (scd (opp x) (opp y)).2 30).2.2+2147483648)%4294967296 else(aS (scd x y).1 (scd x y).2 30).2.2%4294967296
inductive Ki where
 |i|b|n|c
@[reducible]def Fn:List Ki->Type->Type
 |[],α=>α
 | .i::l,α=>Int->Fn l α
 | .b::l,α=>Bool->Fn l α
 | .n::l,α=>Nat->Fn l α
 | .c::l,α=>List VV->Fn l α
def cQ{α:Type}:(l:List Ki)->(List At->α)->Fn l α
 |[],f=>f []
 | .i::l,f=>fun x=>cQ l fun q=>f (.i x::q)
 | .b::l,f=>fun x=>cQ l fun q=>f (.b x::q)
 | .n::l,f=>fun x=>cQ l fun q=>f (.n x::q)
 | .c::l,f=>fun x=>cQ l fun q=>f (.c x::q)
def uQ{α:Type}:(l:List Ki)->Fn l α->List At->α
 |[],g,_=>g
 | .i::l,g,q=>uQ l (g (atI q[0]?)) (q.drop 1)
 | .b::l,g,q=>uQ l (g (atB q[0]?)) (q.drop 1)
 | .n::l,g,q=>uQ l (g (atN q[0]?)) (q.drop 1)
 | .c::l,g,q=>uQ l (g (atC q[0]?)) (q.drop 1)
def nQ:List Ki->List At->List At
 |[],_=>[]
 | .i::l,q=>.i (atI q[0]?)::nQ l (q.drop 1)
 | .b::l,q=>.b (atB q[0]?)::nQ l (q.drop 1)
 | .n::l,q=>.n (atN q[0]?)::nQ l (q.drop 1)
 | .c::l,q=>.c (atC q[0]?)::nQ l (q.drop 1)
def aQ:List Ki->(List At->Prop)->Prop
 |[],p=>p []
 | .i::l,p=>∀x:Int,aQ l fun q=>p (.i x::q)
 | .b::l,p=>∀x:Bool,aQ l fun q=>p (.b x::q)
 | .n::l,p=>∀x:Nat,aQ l fun q=>p (.n x::q)
 | .c::l,p=>∀x:List VV,aQ l fun q=>p (.c x::q)
theorem aQ.at:∀{l:List Ki} {p:List At->Prop},aQ l p->∀q,p (nQ l q)
 |[],_,h,_=>h
 | .i::_,_,h,q=>aQ.at (h (atI q[0]?)) (q.drop 1)
 | .b::_,_,h,q=>aQ.at (h (atB q[0]?)) (q.drop 1)
 | .n::_,_,h,q=>aQ.at (h (atN q[0]?)) (q.drop 1)
 | .c::_,_,h,q=>aQ.at (h (atC q[0]?)) (q.drop 1)
theorem aQ.of:∀{l:List Ki} {p:List At->Prop},(∀q,p q)->aQ l p
 |[],_,h=>h []
 | .i::_,_,h=>fun _=>aQ.of fun _=>h _
 | .b::_,_,h=>fun _=>aQ.of fun _=>h _
 | .n::_,_,h=>fun _=>aQ.of fun _=>h _
 | .c::_,_,h=>fun _=>aQ.of fun _=>h _
theorem zD5{α:Type}:∀(l:List Ki) (g:Fn l α) (q:List At),uQ l g (nQ l q)=uQ l g q
 |[],_,_=>rfl
 | .i::l,g,q=>zD5 l (g (atI q[0]?)) (q.drop 1)
 | .b::l,g,q=>zD5 l (g (atB q[0]?)) (q.drop 1)
 | .n::l,g,q=>zD5 l (g (atN q[0]?)) (q.drop 1)
 | .c::l,g,q=>zD5 l (g (atC q[0]?)) (q.drop 1)
theorem zIG{α:Type}:∀(l:List Ki) (g:Fn l α),cQ l (uQ l g)=g
 |[],_=>rfl
 | .i::l,g=>funext fun x=>zIG l (g x)
 | .b::l,g=>funext fun x=>zIG l (g x)
 | .n::l,g=>funext fun x=>zIG l (g x)
 | .c::l,g=>funext fun x=>zIG l (g x)
mutual
def kW:WV->List Ki
 | .int _=>[.i]
 | .bool=>[.b]
 | .nils=>[]
 | .agg l=>kWs l
 | .tup l=>kWs l
def kWs:List WV->List Ki
 |[]=>[]
 |t::r=>kW t++kWs r
end
def kN:TN->List Ki
 | .lit _=>[]
 | .hole=>[.n]
mutual
def kT:TV->List Ki
 | .v x=>kW x
 | .lp _ o=>kN o
 | .ls _ o l _=>kN o++kN l
 | .fpx c o=>kL c++kN o
 | .fsx c o l _=>kL c++(kN o++kN l)
 | .fp o=>.c::kN o
 | .fs o l _=>.c::(kN o++kN l)
 | .fn _ c=>kL c
 | .agg c=>kL c
 | .tup c=>kL c
def kL:List TV->List Ki
 |[]=>[]
 |t::r=>kT t++kL r
end
abbrev FT(l:List Ki):Type:=Fn l R
structure Sg where
 i:List TV
 o:TV
structure Qn (B I N C:Type)where
 ok:Nat->B
 i:Nat->Nat->I
 b:Nat->Nat->B
 n:Nat->Nat->N
 c:Nat->Nat->C
abbrev Qk(l:List Ki):=Qn (Fn l Bool) (Fn l Int) (Fn l Nat) (Fn l (List VV))
def mQ{α β:Type}:(l:List Ki)->(α->β)->Fn l α->Fn l β
 |[],f,g=>f g
 | .i::l,f,g=>fun x=>mQ l f (g x)
 | .b::l,f,g=>fun x=>mQ l f (g x)
 | .n::l,f,g=>fun x=>mQ l f (g x)
 | .c::l,f,g=>fun x=>mQ l f (g x)
theorem zvB{α β:Type}:∀(l:List Ki) (f:α->β) (g:Fn l α) (q:List At),uQ l (mQ l f g) q=f (uQ l g q)
 |[],_,_,_=>rfl
 | .i::l,f,g,q=>zvB l f (g (atI q[0]?)) (q.drop 1)
 | .b::l,f,g,q=>zvB l f (g (atB q[0]?)) (q.drop 1)
 | .n::l,f,g,q=>zvB l f (g (atN q[0]?)) (q.drop 1)
 | .c::l,f,g,q=>zvB l f (g (atC q[0]?)) (q.drop 1)
def mkQ{l:List Ki}(o:TV)(f:Nat->Fn l R):Qk l:=
 ⟨fun F=>mQ _ (okT o) (f F),fun j F=>mQ _ (fun r=>atI (nth (jV o r) j)) (f F),fun j F=>mQ _ (fun r=>atB (nth (jV o r) j)) (f F),fun j F=>mQ _ (fun r=>atN (nth (jV o r) j)) (f F),fun j F=>mQ _ (fun r=>atC (nth (jV o r) j)) (f F)⟩
def oQ(l:List Ki)(v:Qk l)(F:Nat)(q:List At):List Ki->Nat->List At
 |[],_=>[]
 | .i::r,j=>.i (uQ l (v.i j F) q)::oQ l v F q r (j+1)
 | .b::r,j=>.b (uQ l (v.b j F) q)::oQ l v F q r (j+1)
 | .n::r,j=>.n (uQ l (v.n j F) q)::oQ l v F q r (j+1)
 | .c::r,j=>.c (uQ l (v.c j F) q)::oQ l v F q r (j+1)
def zz(d:Sg)(l:List Ki)(v:Qk l)(F:Nat):List VV->Option (Bool×VV):=zRL d.i d.o (uQ l (v.ok F)) (fun q=>oQ l v F q (kT d.o) 0)
theorem zAg{m:List Ki}(o:TV)(f:Nat->Fn m R)(F:Nat)(q:List At):∀(l:List Ki) (j:Nat),oQ m (mkQ o f) F q l j=nQ l (dn j (jV o (uQ _ (f F) q)))
 |[],_=>rfl
 | .i::r,j=>by
   show(At.i (uQ _ (mQ _ _ (f F)) q)::_)=_;rw [zvB];exact congrArg _ (zAg o f F q r (j+1))
 | .b::r,j=>by
   show(At.b (uQ _ (mQ _ _ (f F)) q)::_)=_;rw [zvB];exact congrArg _ (zAg o f F q r (j+1))
 | .n::r,j=>by
   show(At.n (uQ _ (mQ _ _ (f F)) q)::_)=_;rw [zvB];exact congrArg _ (zAg o f F q r (j+1))
 | .c::r,j=>by
   show(At.c (uQ _ (mQ _ _ (f F)) q)::_)=_;rw [zvB];exact congrArg _ (zAg o f F q r (j+1))
def lY{l:List Ki}(B:FT l->FT l):Nat->FT l
 |0=>cQ _ fun _=>none
 |n+1=>B (lY B n)
section
variable(P:Program)(S:FuncId->List VV->Option (Bool×VV))(C:Cfg)(W:List LW)(V:List LJ)(f li j:Nat)(k:Exit->VS->R)
def iQ(n:Nat)(t:TS)(q:List At):R:=zny (zeY P S C (zwO C W) (zES V) (zaK P f li) j) (zfM C j) k n (fS t q)
def LH(t:TS){l:List Ki}(B:FT l->FT l):Prop:=∀n,aQ l fun q=>iQ P S C W V f li j k (n+1) t q=uQ _ (B (cQ _ (iQ P S C W V f li j k n t))) q
variable{P S C W V f li j k}
theorem lG{t:TS}{l:List Ki}(hT:∀q,fS t (nQ l q)=fS t q){B:FT l->FT l}(h:LH P S C W V f li j k t B):∀n q,iQ P S C W V f li j k n t q=uQ _ (lY B n) q
 |0,q=>by
  have:∀(l:List Ki) (q:List At),uQ l (cQ l fun _=>(none:R)) q=none:=fun l=>by
   induction l with
   |nil=>intro q;rfl
   |cons x l ih=>intro q;cases x<;>exact ih _
  exact(this _ q).symm
 |n+1,q=>by
  have h1:=(h n).at q;have e:cQ _ (iQ P S C W V f li j k n t)=lY B n:=by
   rw [show iQ P S C W V f li j k n t=uQ _ (lY B n)from funext fun q=>lG hT h n q];exact zIG _ _
  rw [e,zD5]at h1;unfold iQ at h1;rw [hT]at h1;exact h1
end
theorem gG{P:Program}{S:FuncId->List VV->Option (Bool×VV)}{C:Cfg}{W:Nat->List LW}{V:Nat->List LJ}{f:Nat}{d:Sg}{l:List Ki}{g:Nat->Fn l R}(F:Nat)(hS:∀f,yc P f (unS (S f)))(hf:P.follows .mixedOrders=true)
 (hname:(P.funcs[f]?).all (fun fn=> !(fn.name== "runtime.NumGoroutine"))=true)
 (hl:∀p∈zjj P f,zp8 P S C F (zwO C (W F)) (zES (V F)) p) (hj:∀p∈zli P C f,zux P S C (zwO C (W F)) (zES (V F)) p)
 (hi:∀q,(fTs d.i (nQ l q)).1=(fTs d.i q).1) (ho:∀q,(fT d.o (nQ (kT d.o) q)).1=(fT d.o q).1)
 (h:aQ l fun q=>zPJ P S C (zwO C (W F)) (zES (V F)) f (fTs d.i q).1=uQ _ (g F) q):yc P f (unS (zz d l (mkQ d.o g) F)):=by
 refine zRN hS hf hname (C:=C) (F:=uQ _ (g F)) (fun _=>F) (fun _=>zwO C (W F)) (fun _=>zES (V F)) (fun _=>hl) (fun _=>hj) (fun q=> ?_) (fun q hok=> ?_)
 ·have h1:=h.at q
  rw [zD5,hi]at h1;exact h1
 ·have h2:okT d.o (uQ _ (g F) q)=true:=by
   have:uQ _ ((mkQ d.o g).ok F) q=okT d.o (uQ _ (g F) q):=zvB _ _ _ _;rw [<-this];exact hok
  refine zPN h2 ?_;rw [zAg];exact(ho _).symm
noncomputable abbrev PP:=Proofs.Tryz.prog
end Go.Xv
