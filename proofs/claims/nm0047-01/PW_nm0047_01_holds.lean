import PyProof.Rows.All
import PyProof.TableCode
import Wide.FinOn
import OpenK.AllK
import Wide.All
import Lean
import PySem.Challenge.RW_nm0047_01
set_option Elab.async false
set_option maxRecDepth 100000
set_option maxHeartbeats 0
set_option linter.all false
set_option genSizeOf false
set_option genInjectivity false
set_option compiler.extract_closed false
section
namespace Mine
open PySem
theorem hide {g:Prop} (h:∀ G:Prop,(g→G)→G):g:=h g id
noncomputable def mpR {α β:Type} (f:α→β):List α→List β
 | []=>[]
 | a::l=>f a::mpR f l
theorem mpR_eq {α β:Type} (f:α→β):∀ l:List α,mpR f l=l.map f
 | []=>rfl
 | a::l=>congrArg (f a::·) (mpR_eq f l)
theorem map_at {α β:Type} {f g:α→β} {l:List α} (h:l.map f=mpR g l):∀ x ∈ l,f x=g x:=List.map_inj_left.1 (h.trans (mpR_eq g l))
theorem no_ns {α:Type} {a:α} {P:Prop} (e:none=some a):P:=nomatch e
theorem no_ft {P:Prop} (e:false=true):P:=nomatch e
theorem no_tf {P:Prop} (e:true=false):P:=nomatch e
inductive Bn where
 | len
 | max
 | range
 | list
 | bytearray
 | int
inductive V where
 | none
 | bool (b:Bool)
 | int (i:Int)
 | str (s:Str)
 | byt (b:List UInt8)
 | tup (l:List V)
 | rng (a b:Int)
 | sta (a:Nat)
 | bn (b:Bn)
 | ins (c k:Nat)
 | obj (k:Nat)
inductive MO where
 | lst (l:List V)
 | dic (d:List (V × V))
 | bya (b:List UInt8)
structure MH where
 n:Nat
 o:Nat→Option MO
noncomputable def MH.new (H:MH) (x:MO):MH:=⟨H.n+1,fun k=>if k=H.n then some x else H.o k⟩
noncomputable def MH.put (H:MH) (j:Nat) (x:MO):MH:=⟨H.n,fun k=>if k=j then some x else H.o k⟩
noncomputable def ascS {α:Type}:List (Str × α)→Str→Option α
 | [],_=>none
 | (k,v)::r,n=>bif k == n then some v else ascS r n
noncomputable def ascN {α:Type}:List (Nat × α)→Nat→Option α
 | [],_=>none
 | (k,v)::r,n=>bif k == n then some v else ascN r n
abbrev LL:=Nat→Option V
noncomputable def LL.put (L:LL) (x:Nat) (v:V):LL:=fun y=>if y=x then some v else L y
inductive E where
 | int (i:Int)
 | str (s:Str)
 | tt (b:Bool)
 | non
 | byt
 | abs
 | loc (x:Nat)
 | glo (g:Str)
 | bin (op:Operator) (a b:E)
 | neg (a:E)
 | inv (a:E)
 | not (a:E)
 | cmp (op:CmpOp) (a b:E)
 | cmp2 (o1 o2:CmpOp) (a b c:E)
 | ife (t a b:E)
 | bop (op:BoolOp) (l:List E)
 | tup (l:List E)
 | lst (l:List E)
 | dic (ks vs:List E)
 | att (e:E) (n:Str)
 | sub (e i:E)
 | slc (e lo hi st:E)
 | call (f:E) (as:List E)
 | met (e:E) (n:Str) (as:List E)
 | comp (en:Bool) (elt:E) (names:List Str) (it:E)
inductive T where
 | nam (x:Nat)
 | att (e:E) (n:Str)
inductive S where
 | asg (x:Nat) (e:E)
 | asc (x:Nat) (en:Bool) (elt:E) (names:List Str) (it:E)
 | swp (xs:List Nat) (es:List E)
 | upk (ts:List T) (e:E)
 | ast (o:E) (n:Str) (e:E)
 | sst (o i e:E)
 | sls (o lo hi e:E)
 | exp (e:E)
 | ret (e:E)
 | ifs (t:E) (a b:List S)
 | whl (t:E) (b:List S)
 | fori (en:Bool) (xs:List Nat) (it:E) (b:List S)
 | brk
 | tryS (b:List S)
 | stuck
inductive Fl where
 | next
 | brk
 | ret (v:V)
noncomputable def small (a:Int):Bool:=decide (a.natAbs<2 ^ 64)
noncomputable def binI (op:Operator) (a b:Int):Option Int:=match op with
 | .Add=>some (a+b)
 | .Sub=>some (a - b)
 | .Mult=>if small a && small b then some (a * b) else .none
 | .FloorDiv=>if b ≠ 0∧b.natAbs<1073741824 then some (a.fdiv b) else .none
 | .Mod=>if b ≠ 0 then some (a.fmod b) else .none
 | .Pow=>if 0≤b∧b≤1000∧small a then some (a ^ b.toNat) else .none
 | .LShift=>if 0≤b∧b≤1000∧small a then some (a * 2 ^ b.toNat) else .none
 | .RShift=>if 0≤b then some (a.fdiv (2 ^ b.toNat)) else .none
 | .BitAnd=>some (Builtin.bitAnd a b)
 | .BitOr=>some (Builtin.bitOr a b)
 | _=>.none
noncomputable def flatEq:V→V→Option Bool
 | .int a,.int b=>some (a == b)
 | .str a,.str b=>some (a == b)
 | _,_=>.none
noncomputable def flatEqs:List V→List V→Option Bool
 | [],[]=>some true
 | [],_::_=>some false
 | _::_,[]=>some false
 | a::l,b::r=>match flatEq a b,flatEqs l r with
  | some x,some y=>some (x && y)
  | _,_=>.none
noncomputable def keyEq:V→V→Bool
 | .int a,.int b=>a == b
 | .str a,.str b=>a == b
 | _,_=>false
noncomputable def isKey:V→Bool
 | .int _=>true
 | .str _=>true
 | _=>false
noncomputable def dget (d:List (V × V)) (k:V):Option V:=match d with
 | []=>.none
 | (a,v)::r=>if keyEq a k then some v else dget r k
noncomputable def dput (d:List (V × V)) (k v:V):List (V × V):=match d with
 | []=>[(k,v)]
 | (a,x)::r=>if keyEq a k then (a,v)::r else (a,x)::dput r k v
noncomputable def dictSame (d:List (V × V)):List (V × V)→Option Bool
 | []=>some true
 | (k,v)::r=>match dget d k with
  | some x=>match flatEq v x,dictSame d r with
   | some a,some b=>some (a && b)
   | _,_=>.none
  | .none=>some false
noncomputable def memV (x:V):List V→Option Bool
 | []=>some false
 | a::l=>match flatEq a x,memV x l with
  | some p,some q=>some (p || q)
  | _,_=>.none
noncomputable def idx (l:List V) (i:Int):Option V:=if l.length > 100000 then .none else if 0≤i then l[i.toNat]? else if 0≤i+l.length then l[(i+l.length).toNat]? else .none
noncomputable def truth (H:MH):V→Option Bool
 | .none=>some false
 | .bool b=>some b
 | .int i=>some (i != 0)
 | .obj k=>match H.o k with
  | some (.lst l)=>if l.length≤100000 then some (!l.isEmpty) else .none
  | _=>.none
 | _=>.none
structure Ctx where
  glo:Str→Option V
  sdic:Nat→Option (List (V × V))
  slst:Nat→Option (List V)
  meth:Nat→Str→Option Nat
  init:Nat→Option Nat
noncomputable def leInt:List UInt8→Int
 | []=>0
 | b::r=>b.toNat+256 * leInt r
noncomputable def leBytes:Nat→Nat→List UInt8
 | 0,_=>[]
 | n+1,x=>x.toUInt8::leBytes n (x / 256)
noncomputable def insCls (c:Nat):Bool:=c == 400 || c == 470 || c == 754
noncomputable def rangeL (a b:Int):List V:=(List.range (b - a).toNat).map fun i:Nat=>V.int (a+i)
noncomputable def strOpens (x y:Str):Bool:=decide (0+y.length≤x.length) && Builtin.Str.subAt x y 0
inductive MK where
 | fn (f:Nat)
 | blt (id:String)
 | bnd
noncomputable def nextV (H:MH) (v:V) (i:Nat):Option (Option V):=match v with
 | .rng a b=>if a.natAbs≤1000000∧b.natAbs≤1000000 then some (if a+i<b then some (.int (a+i)) else .none) else .none
 | .tup l=>some l[i]?
 | .obj k=>match H.o k with
  | some (.lst l)=>if l.length≤100000 then some l[i]? else .none
  | _=>.none
 | _=>.none
noncomputable def iterOk (en:Bool) (v:V):Bool:=match en,v with
 | true,.obj _=>true
 | true,_=>false
 | false,_=>true
noncomputable def itemV (en:Bool) (i:Nat) (a:V):V:=if en then .tup [.int i,a] else a
noncomputable def bindAll (L:LL):List Nat→List V→Option LL
 | [],[]=>some L
 | x::xs,v::vs=>bindAll (L.put x v) xs vs
 | _,_=>.none
noncomputable def bindItem (L:LL) (xs:List Nat) (v:V):Option LL:=match xs with
 | [x]=>some (L.put x v)
 | xs=>match v with
  | .tup l=>bindAll L xs l
  | _=>.none
noncomputable def noL:LL:=fun _=>.none
noncomputable def unpV (H:MH):V→Option (List V)
 | .tup l=>some l
 | .obj k=>match H.o k with
  | some (.lst l)=>some l
  | _=>.none
 | _=>.none
structure Fn where
 arity:Nat
 names:List Str
 body:List S
noncomputable def argsL:Nat→List V→LL
 | _,[]=>noL
 | n,v::vs=>LL.put (argsL (n+1) vs) n v
noncomputable def z0:Expr:=.Name ⟨#[]⟩ default
noncomputable def scz:Scope:=⟨.function,[],false,false,[]⟩
structure Xp where
 p:Pos
 a:Expr
 b:Expr
 c:Expr
 l:List Expr
 k:List (Option Expr)
 n:Nat
 s:Scope
noncomputable def xp:Expr→Xp
 | .BoolOp _ l p=>⟨p,z0,z0,z0,l,[],0,scz⟩
 | .BinOp a _ b p=>⟨p,a,b,z0,[],[],0,scz⟩
 | .UnaryOp _ a p=>⟨p,a,z0,z0,[],[],0,scz⟩
 | .IfExp a b c p=>⟨p,a,b,c,[],[],0,scz⟩
 | .Dict k l p=>⟨p,z0,z0,z0,l,k,0,scz⟩
 | .ListComp a l s p=>⟨p,a,(l.headD ⟨z0,z0,[],0⟩).iter,(l.headD ⟨z0,z0,[],0⟩).target,[],[],0,s⟩
 | .Compare a _ l p=>⟨p,a,l.headD z0,l.tail.headD z0,[],[],0,scz⟩
 | .Call a l _ p=>⟨p,a,z0,z0,l,[],0,scz⟩
 | .Constant _ n p=>⟨p,z0,z0,z0,[],[],n,scz⟩
 | .Attribute a _ p=>⟨p,a,z0,z0,[],[],0,scz⟩
 | .Subscript a b p=>⟨p,a,b,z0,[],[],0,scz⟩
 | .Name _ p=>⟨p,z0,z0,z0,[],[],0,scz⟩
 | .List l p=>⟨p,z0,z0,z0,l,[],0,scz⟩
 | .Tuple l n p=>⟨p,z0,z0,z0,l,[],n,scz⟩
 | .Slice a b c p=>⟨p,z0,z0,z0,[],[a,b,c],0,scz⟩
 | _=>⟨default,z0,z0,z0,[],[],0,scz⟩
noncomputable abbrev ps (z:Expr):Pos:=(xp z).p
noncomputable abbrev x0 (z:Expr):Expr:=(xp z).a
noncomputable abbrev x1 (z:Expr):Expr:=(xp z).b
noncomputable abbrev x2 (z:Expr):Expr:=(xp z).c
noncomputable abbrev xl (z:Expr):List Expr:=(xp z).l
noncomputable abbrev xk (z:Expr):List (Option Expr):=(xp z).k
noncomputable abbrev xn (z:Expr):Nat:=(xp z).n
noncomputable abbrev xs (z:Expr):Scope:=(xp z).s
noncomputable def hd (l:List Expr):Expr:=l.headD z0
noncomputable def ho (l:List (Option Expr)):Expr:=match l with
 | some z::_=>z
 | _=>z0
noncomputable def nmAt (N:List Str) (x:Nat):Str:=N.getD x ⟨#[]⟩
noncomputable def sEnum:Str:=⟨#[101,110,117,109,101,114,97,116,101]⟩
noncomputable def upNs (N:List Str) (ln:Nat):List Nat→List Expr→List Expr
 | [],_=>[]
 | x::r,l=>.Name (nmAt N x) { ps (hd l) with line:=ln }::upNs N ln r l.tail
noncomputable def upT (N:List Str) (ts:List Nat) (z:Expr):Expr:=match ts with
 | [x]=>.Name (nmAt N x) (ps z)
 | ts=>.Tuple (upNs N (ps z).line ts (xl z)) (xn z) (ps z)
noncomputable def opt (e:E) (z:Expr):Option Expr:=match e with
 | .abs=>none
 | _=>some z
mutual
noncomputable def up (N:List Str):E→Expr→Expr
 | .int i,z=>.Constant (.int i) (xn z) (ps z)
 | .str s,z=>.Constant (.str s) (xn z) (ps z)
 | .tt b,z=>.Constant (.bool b) (xn z) (ps z)
 | .non,z=>.Constant .none (xn z) (ps z)
 | .byt,z=>.Constant (.bytes []) (xn z) (ps z)
 | .abs,_=>z0
 | .loc x,z=>.Name (nmAt N x) (ps z)
 | .glo g,z=>.Name g (ps z)
 | .bin op a b,z=>.BinOp (up N a (x0 z)) op (up N b (x1 z)) (ps z)
 | .neg a,z=>.UnaryOp .USub (up N a (x0 z)) (ps z)
 | .inv a,z=>.UnaryOp .Invert (up N a (x0 z)) (ps z)
 | .not a,z=>.UnaryOp .Not (up N a (x0 z)) (ps z)
 | .cmp op a b,z=>.Compare (up N a (x0 z)) [op] [up N b (x1 z)] (ps z)
 | .cmp2 o1 o2 a b c,z=>.Compare (up N a (x0 z)) [o1,o2] [up N b (x1 z),up N c (x2 z)] (ps z)
 | .ife t a b,z=>.IfExp (up N t (x0 z)) (up N a (x1 z)) (up N b (x2 z)) (ps z)
 | .bop op l,z=>.BoolOp op (ups N l (xl z)) (ps z)
 | .tup l,z=>.Tuple (ups N l (xl z)) (xn z) (ps z)
 | .lst l,z=>.List (ups N l (xl z)) (ps z)
 | .dic ks vs,z=>.Dict (upo N ks (xk z)) (ups N vs (xl z)) (ps z)
 | .att e n,z=>.Attribute (up N e (x0 z)) n (ps z)
 | .sub e i,z=>.Subscript (up N e (x0 z)) (up N i (x1 z)) (ps z)
 | .slc e lo hi st,z=>.Subscript (up N e (x0 z)) (.Slice (opt lo (up N lo (ho (xk (x1 z))))) (opt hi (up N hi (ho (xk (x1 z)).tail))) (opt st (up N st (ho (xk (x1 z)).tail.tail))) (ps (x1 z))) (ps z)
 | .call f as,z=>.Call (up N f (x0 z)) (ups N as (xl z)) [] (ps z)
 | .met e n as,z=>.Call (.Attribute (up N e (x0 (x0 z))) n { ps (x0 z) with endLine:=(ps z).line }) (ups N as (xl z)) [] (ps z)
 | .comp en elt ns it,z=>.ListComp (up ns elt (x0 z)) [⟨upT ns (List.range ns.length) (x2 z),bif en then .Call (.Name sEnum (ps (x0 (x1 z)))) [up N it (hd (xl (x1 z)))] [] (ps (x1 z)) else up N it (x1 z),[],0⟩] (xs z) (ps z)
noncomputable def ups (N:List Str):List E→List Expr→List Expr
 | [],_=>[]
 | e::r,l=>up N e (hd l)::ups N r l.tail
noncomputable def upo (N:List Str):List E→List (Option Expr)→List (Option Expr)
 | [],_=>[]
 | e::r,l=>some (up N e (ho l))::upo N r l.tail
end
noncomputable def upI (N:List Str) (en:Bool) (it:E) (z:Expr):Expr:=bif en then .Call (.Name sEnum (ps (x0 z))) [up N it (hd (xl z))] [] (ps z) else up N it z
noncomputable def upTs (N:List Str):List T→List Expr→List Expr
 | [],_=>[]
 | .nam x::r,l=>.Name (nmAt N x) (ps (hd l))::upTs N r l.tail
 | .att e n::r,l=>.Attribute (up N e (x0 (hd l))) n (ps (hd l))::upTs N r l.tail
structure Qp where
 p:Pos
 t:Expr
 v:Expr
 b:List Stmt
 o:List Stmt
 h:List ExceptHandler
noncomputable def qq:Stmt→Qp
 | .Return v p=>⟨p,z0,v.getD z0,[],[],[]⟩
 | .Assign l v p=>⟨p,hd l,v,[],[],[]⟩
 | .For t v b _ p=>⟨p,t,v,b,[],[]⟩
 | .While v b _ p=>⟨p,z0,v,b,[],[]⟩
 | .If v b o p=>⟨p,z0,v,b,o,[]⟩
 | .Try b h _ _ p=>⟨p,z0,z0,b,[],h⟩
 | .Expr v p=>⟨p,z0,v,[],[],[]⟩
 | .Break p=>⟨p,z0,z0,[],[],[]⟩
 | _=>⟨default,z0,z0,[],[],[]⟩
noncomputable abbrev qp (z:Stmt):Pos:=(qq z).p
noncomputable abbrev qv (z:Stmt):Expr:=(qq z).v
noncomputable abbrev qt (z:Stmt):Expr:=(qq z).t
noncomputable abbrev qb (z:Stmt):List Stmt:=(qq z).b
noncomputable abbrev qo (z:Stmt):List Stmt:=(qq z).o
noncomputable abbrev qh (z:Stmt):List ExceptHandler:=(qq z).h
noncomputable def hs (l:List Stmt):Stmt:=l.headD (.Pass default)
mutual
noncomputable def sp (N:List Str):S→Stmt→Stmt
 | .asg x e,z=>.Assign [.Name (nmAt N x) (ps (qt z))] (up N e (qv z)) (qp z)
 | .asc x en e ns it,z=>.Assign [.Name (nmAt N x) (ps (qt z))] (up N (.comp en e ns it) (qv z)) (qp z)
 | .swp ts es,z=>.Assign [.Tuple (upNs N (ps (hd (xl (qt z)))).line ts (xl (qt z))) (xn (qt z)) (ps (qt z))] (.Tuple (ups N es (xl (qv z))) (xn (qv z)) (ps (qv z))) (qp z)
 | .upk ts e,z=>.Assign [.Tuple (upTs N ts (xl (qt z))) (xn (qt z)) (ps (qt z))] (up N e (qv z)) (qp z)
 | .ast o n e,z=>.Assign [.Attribute (up N o (x0 (qt z))) n (ps (qt z))] (up N e (qv z)) (qp z)
 | .sst o i e,z=>.Assign [.Subscript (up N o (x0 (qt z))) (up N i (x1 (qt z))) (ps (qt z))] (up N e (qv z)) (qp z)
 | .sls o lo hi e,z=>.Assign [.Subscript (up N o (x0 (qt z))) (.Slice (opt lo (up N lo (ho (xk (x1 (qt z)))))) (opt hi (up N hi (ho (xk (x1 (qt z))).tail))) none (ps (x1 (qt z)))) (ps (qt z))] (up N e (qv z)) (qp z)
 | .exp e,z=>.Expr (up N e (qv z)) (qp z)
 | .ret e,z=>.Return (opt e (up N e (qv z))) (qp z)
 | .ifs t a b,z=>.If (up N t (qv z)) (sps N a (qb z)) (sps N b (qo z)) (qp z)
 | .whl t b,z=>.While (up N t (qv z)) (sps N b (qb z)) [] (qp z)
 | .fori en ts it b,z=>.For (upT N ts (qt z)) (upI N en it (qv z)) (sps N b (qb z)) [] (qp z)
 | .brk,z=>.Break (qp z)
 | .tryS b,z=>.Try (sps N b (qb z)) (qh z) [] [] (qp z)
 | .stuck,z=>z
noncomputable def sps (N:List Str):List S→List Stmt→List Stmt
 | [],_=>[]
 | s::r,l=>sp N s (hs l)::sps N r l.tail
end
noncomputable def attNames:List Str:=[⟨#[115,105,122,101]⟩,⟨#[107,101,112,116]⟩,⟨#[115,105,122,101,95,100,111,110,101]⟩,⟨#[107,101,112,116,95,100,111,110,101]⟩,⟨#[101,110,116,114,121]⟩,⟨#[98,97,115,101]⟩,⟨#[111,99,116,101,116,115]⟩,⟨#[98,115,115,95,115,105,122,101]⟩,⟨#[115,121,109,98,111,108,115]⟩,⟨#[112,105,101,99,101,115]⟩,⟨#[108,105,110,101,115]⟩,⟨#[110,97,109,101,115]⟩,⟨#[109,101,109,111,114,121]⟩,⟨#[114,101,103,105,115,116,101,114,115]⟩,⟨#[112,99]⟩,⟨#[111,117,116,112,117,116]⟩,⟨#[105,110,112,117,116]⟩,⟨#[116,97,107,101,110]⟩,⟨#[115,116,101,112,115]⟩,⟨#[115,116,97,116,117,115]⟩,⟨#[105,115,95,100,111,110,101]⟩,⟨#[107,110,111,119,110]⟩]
noncomputable def kn:Expr→Nat
 | .Starred ..=>1
 | .Set ..=>2
 | .Attribute ..=>3
 | .ListComp ..=>4
 | .SetComp ..=>4
 | .DictComp ..=>4
 | .Tuple ..=>5
 | .List ..=>5
 | .Call ..=>6
 | _=>0
noncomputable def notSuper (z:Expr):Bool:=!Nat.beq (kn z) 6 || !(xl z).isEmpty
noncomputable def notAttr (z:Expr):Bool:=!Nat.beq (kn z) 3
noncomputable def isComp (z:Expr):Bool:=Nat.beq (kn z) 4
noncomputable def notStar (z:Expr):Bool:=!Nat.beq (kn z) 1
noncomputable def notSet (z:Expr):Bool:=!Nat.beq (kn z) 2
noncomputable def isAttr (z:Expr):Bool:=Nat.beq (kn z) 3
noncomputable def tupAtt (v:Expr) (ts:List Expr):Bool:=!Nat.beq (kn v) 5 || ts.any isAttr
noncomputable def sDbg:Str:=⟨#[95,95,100,101,98,117,103,95,95]⟩
noncomputable def okL (sc:Scope) (N:List Str) (x:Nat):Bool:=decide (x<N.length) && (sc.names.lookup (nmAt N x) == some .local && !(nmAt N x == sDbg))
noncomputable def okG (sc:Scope) (g:Str):Bool:=sc.names.lookup g == some .globalImplicit && !(g == sDbg)
noncomputable def okT (sc:Scope) (N:List Str):List Nat→Bool
 | []=>true
 | x::r=>okL sc N x && okT sc N r
noncomputable def okC (sc:Scope) (ns:List Str):Bool:=(sc.kind == .function) && ((sc.names.all fun x=>x.2 != .free && x.2 != .cell) && ((sc.names.all fun x=>x.2 != .local || sc.names.lookup x.1 == some .local) && decide ns.Nodup))
mutual
noncomputable def ok (sc:Scope) (N:List Str):E→Expr→Bool
 | .loc x,_=>okL sc N x
 | .glo g,_=>okG sc g
 | .bin _ a b,z=>ok sc N a (x0 z) && ok sc N b (x1 z)
 | .neg a,z=>ok sc N a (x0 z)
 | .inv a,z=>ok sc N a (x0 z)
 | .not a,z=>ok sc N a (x0 z)
 | .cmp op a b,z=>ok sc N a (x0 z) && (ok sc N b (x1 z) && !behindInMarks op (up N b (x1 z)))
 | .cmp2 _ o2 a b c,z=>ok sc N a (x0 z) && (ok sc N b (x1 z) && (ok sc N c (x2 z) && !behindInMarks o2 (up N c (x2 z))))
 | .ife t a b,z=>ok sc N t (x0 z) && (ok sc N a (x1 z) && ok sc N b (x2 z))
 | .bop _ l,z=>oks sc N l (xl z)
 | .tup l,z=>oks sc N l (xl z) && Nat.ble l.length 1000
 | .lst l,z=>oks sc N l (xl z) && Nat.ble l.length 1000
 | .dic ks vs,z=>oko sc N ks (xk z) && (oks sc N vs (xl z) && (ks.length == vs.length && Nat.ble ks.length 15))
 | .att e n,z=>ok sc N e (x0 z) && (notSuper (up N e (x0 z)) && attNames.contains n)
 | .sub e i,z=>ok sc N e (x0 z) && ok sc N i (x1 z)
 | .slc e lo hi st,z=>ok sc N e (x0 z) && (ok sc N lo (ho (xk (x1 z))) && (ok sc N hi (ho (xk (x1 z)).tail) && ok sc N st (ho (xk (x1 z)).tail.tail)))
 | .call f as,z=>ok sc N f (x0 z) && (oks sc N as (xl z) && notAttr (up N f (x0 z)))
 | .met e _ as,z=>ok sc N e (x0 (x0 z)) && (oks sc N as (xl z) && (notSuper (up N e (x0 (x0 z))) && Nat.ble (as.length+1) 30))
 | .comp en elt ns it,z=>ok (xs z) ns elt (x0 z) && (okT (xs z) ns (List.range ns.length) && (okC (xs z) ns && ((bif en then okG sc sEnum && (ok sc N it (hd (xl (x1 z))) && notStar (up N it (hd (xl (x1 z))))) else ok sc N it (x1 z) && notSet (up N it (x1 z))) && (bif en then Nat.ble 2 ns.length else true))))
 | _,_=>true
noncomputable def oks (sc:Scope) (N:List Str):List E→List Expr→Bool
 | [],_=>true
 | e::r,l=>ok sc N e (hd l) && (oks sc N r l.tail && notStar (up N e (hd l)))
noncomputable def oko (sc:Scope) (N:List Str):List E→List (Option Expr)→Bool
 | [],_=>true
 | e::r,l=>ok sc N e (ho l) && oko sc N r l.tail
end
noncomputable def okI (sc:Scope) (N:List Str) (en:Bool) (it:E) (z:Expr):Bool:=bif en then okG sc sEnum && (ok sc N it (hd (xl z)) && notStar (up N it (hd (xl z)))) else ok sc N it z && notSet (up N it z)
noncomputable def okTs (sc:Scope) (N:List Str):List T→List Expr→Bool
 | [],_=>true
 | .nam x::r,l=>okL sc N x && okTs sc N r l.tail
 | .att e n::r,l=>ok sc N e (x0 (hd l)) && (okTs sc N r l.tail && attNames.contains n)
noncomputable def notConst (vs:List Expr):Bool:=!vs.all (foldedForSure 8) && !vs.all (constantsAlone 8)
noncomputable def nodupN:List Nat→Bool
 | []=>true
 | x::r=>!r.contains x && nodupN r
mutual
noncomputable def okS (sc:Scope) (N:List Str):S→Stmt→Bool
 | .asg x e,z=>okL sc N x && (ok sc N e (qv z) && !isComp (up N e (qv z)))
 | .asc x en e ns it,z=>okL sc N x && ok sc N (.comp en e ns it) (qv z)
 | .swp ts es,z=>okT sc N ts && (oks sc N es (xl (qv z)) && (nodupN ts && (ts.length == es.length && (notConst (ups N es (xl (qv z))) && (Nat.beq ts.length 2 || Nat.beq ts.length 3)))))
 | .upk ts e,z=>okTs sc N ts (xl (qt z)) && (ok sc N e (qv z) && (!isComp (up N e (qv z)) && tupAtt (up N e (qv z)) (upTs N ts (xl (qt z)))))
 | .ast o n e,z=>ok sc N o (x0 (qt z)) && (ok sc N e (qv z) && (!isComp (up N e (qv z)) && attNames.contains n))
 | .sst o i e,z=>ok sc N o (x0 (qt z)) && (ok sc N i (x1 (qt z)) && (ok sc N e (qv z) && !isComp (up N e (qv z))))
 | .sls o lo hi e,z=>ok sc N o (x0 (qt z)) && (ok sc N lo (ho (xk (x1 (qt z)))) && (ok sc N hi (ho (xk (x1 (qt z))).tail) && (ok sc N e (qv z) && !isComp (up N e (qv z)))))
 | .exp e,z=>ok sc N e (qv z) && !isComp (up N e (qv z))
 | .ret e,z=>ok sc N e (qv z)
 | .ifs t a b,z=>ok sc N t (qv z) && (okSs sc N a (qb z) && okSs sc N b (qo z))
 | .whl t b,z=>ok sc N t (qv z) && okSs sc N b (qb z)
 | .fori en ts it b,z=>okT sc N ts && (okI sc N en it (qv z) && (okSs sc N b (qb z) && (bif en then Nat.ble 2 ts.length else true)))
 | .brk,_=>true
 | .tryS b,z=>okSs sc N b (qb z)
 | .stuck,_=>true
noncomputable def okSs (sc:Scope) (N:List Str):List S→List Stmt→Bool
 | [],_=>true
 | s::r,l=>okS sc N s (hs l) && okSs sc N r l.tail
end
end Mine
end
section
namespace Mine
open PySem
noncomputable def t_value:Str:=⟨#[118,97,108,117,101]⟩
noncomputable def t_width:Str:=⟨#[119,105,100,116,104]⟩
noncomputable def t_low:Str:=⟨#[108,111,119]⟩
noncomputable def t_form:Str:=⟨#[102,111,114,109]⟩
noncomputable def t_word:Str:=⟨#[119,111,114,100]⟩
noncomputable def t_high:Str:=⟨#[104,105,103,104]⟩
noncomputable def t_I:Str:=⟨#[73]⟩
noncomputable def t_signed:Str:=⟨#[115,105,103,110,101,100]⟩
noncomputable def t_H:Str:=⟨#[72]⟩
noncomputable def t_S:Str:=⟨#[83]⟩
noncomputable def t_B:Str:=⟨#[66]⟩
noncomputable def t_U:Str:=⟨#[85]⟩
noncomputable def t_J:Str:=⟨#[74]⟩
noncomputable def t_opcode:Str:=⟨#[111,112,99,111,100,101]⟩
noncomputable def t_LUI:Str:=⟨#[76,85,73]⟩
noncomputable def t_AUIPC:Str:=⟨#[65,85,73,80,67]⟩
noncomputable def t_JAL:Str:=⟨#[74,65,76]⟩
noncomputable def t_NAMES_BY_BASE:Str:=⟨#[78,65,77,69,83,95,66,89,95,66,65,83,69]⟩
noncomputable def t_SYSTEM:Str:=⟨#[83,89,83,84,69,77]⟩
noncomputable def t_get:Str:=⟨#[103,101,116]⟩
noncomputable def t_x:Str:=⟨#[]⟩
noncomputable def t_FENCE:Str:=⟨#[70,69,78,67,69]⟩
noncomputable def t_fence:Str:=⟨#[102,101,110,99,101]⟩
noncomputable def t_WITH_REG:Str:=⟨#[87,73,84,72,95,82,69,71]⟩
noncomputable def t_WITH_IMM:Str:=⟨#[87,73,84,72,95,73,77,77]⟩
noncomputable def t_name:Str:=⟨#[110,97,109,101]⟩
noncomputable def t_fields:Str:=⟨#[102,105,101,108,100,115]⟩
noncomputable def t_key:Str:=⟨#[107,101,121]⟩
noncomputable def t_shift:Str:=⟨#[115,104,105,102,116]⟩
noncomputable def t_name_of:Str:=⟨#[110,97,109,101,95,111,102]⟩
noncomputable def t_INSTRUCTIONS:Str:=⟨#[73,78,83,84,82,85,67,84,73,79,78,83]⟩
noncomputable def t_PLACES:Str:=⟨#[80,76,65,67,69,83]⟩
noncomputable def t_BOUNDS:Str:=⟨#[66,79,85,78,68,83]⟩
noncomputable def t_imm:Str:=⟨#[105,109,109]⟩
noncomputable def t_imm_of:Str:=⟨#[105,109,109,95,111,102]⟩
noncomputable def t_image:Str:=⟨#[105,109,97,103,101]⟩
noncomputable def t_address:Str:=⟨#[97,100,100,114,101,115,115]⟩
noncomputable def t_piece:Str:=⟨#[112,105,101,99,101]⟩
noncomputable def t_pieces:Str:=⟨#[112,105,101,99,101,115]⟩
noncomputable def t_TEXT:Str:=⟨#[84,69,88,84]⟩
noncomputable def t_startswith:Str:=⟨#[115,116,97,114,116,115,119,105,116,104]⟩
noncomputable def t_x46:Str:=⟨#[46]⟩
noncomputable def t_rows:Str:=⟨#[114,111,119,115]⟩
noncomputable def t_middle:Str:=⟨#[109,105,100,100,108,101]⟩
noncomputable def t_len:Str:=⟨#[108,101,110]⟩
noncomputable def t_at:Str:=⟨#[97,116]⟩
noncomputable def t_text_piece:Str:=⟨#[116,101,120,116,95,112,105,101,99,101]⟩
noncomputable def t_last_at:Str:=⟨#[108,97,115,116,95,97,116]⟩
noncomputable def t_names:Str:=⟨#[110,97,109,101,115]⟩
noncomputable def t_row:Str:=⟨#[114,111,119]⟩
noncomputable def t_function_row:Str:=⟨#[102,117,110,99,116,105,111,110,95,114,111,119]⟩
noncomputable def t_self:Str:=⟨#[115,101,108,102]⟩
noncomputable def t_size:Str:=⟨#[115,105,122,101]⟩
noncomputable def t_kept:Str:=⟨#[107,101,112,116]⟩
noncomputable def t_size_done:Str:=⟨#[115,105,122,101,95,100,111,110,101]⟩
noncomputable def t_kept_done:Str:=⟨#[107,101,112,116,95,100,111,110,101]⟩
noncomputable def t_machine:Str:=⟨#[109,97,99,104,105,110,101]⟩
noncomputable def t_decode:Str:=⟨#[100,101,99,111,100,101]⟩
noncomputable def t_load:Str:=⟨#[108,111,97,100]⟩
noncomputable def t_told:Str:=⟨#[116,111,108,100]⟩
noncomputable def t_numbers:Str:=⟨#[110,117,109,98,101,114,115]⟩
noncomputable def t_addi:Str:=⟨#[97,100,100,105]⟩
noncomputable def t_rd:Str:=⟨#[114,100]⟩
noncomputable def t_SP_debug:Str:=⟨#[83,80,95,100,101,98,117,103]⟩
noncomputable def t_rs1:Str:=⟨#[114,115,49]⟩
noncomputable def t_max:Str:=⟨#[109,97,120]⟩
noncomputable def t_sub:Str:=⟨#[115,117,98]⟩
noncomputable def t_rs2:Str:=⟨#[114,115,50]⟩
noncomputable def t_start:Str:=⟨#[115,116,97,114,116]⟩
noncomputable def t_lui:Str:=⟨#[108,117,105]⟩
noncomputable def t_WORD_MASK:Str:=⟨#[87,79,82,68,95,77,65,83,75]⟩
noncomputable def t_found:Str:=⟨#[102,111,117,110,100]⟩
noncomputable def t_turn:Str:=⟨#[116,117,114,110]⟩
noncomputable def t_Entry:Str:=⟨#[69,110,116,114,121]⟩
noncomputable def t_range:Str:=⟨#[114,97,110,103,101]⟩
noncomputable def t_MOST_ROWS:Str:=⟨#[77,79,83,84,95,82,79,87,83]⟩
noncomputable def t_instruction_of:Str:=⟨#[105,110,115,116,114,117,99,116,105,111,110,95,111,102]⟩
noncomputable def t_lowered:Str:=⟨#[108,111,119,101,114,101,100]⟩
noncomputable def t_sw:Str:=⟨#[115,119]⟩
noncomputable def t_RA:Str:=⟨#[82,65]⟩
noncomputable def t_note_number:Str:=⟨#[110,111,116,101,95,110,117,109,98,101,114]⟩
noncomputable def t_jalr:Str:=⟨#[106,97,108,114]⟩
noncomputable def t_entry:Str:=⟨#[101,110,116,114,121]⟩
noncomputable def t_sp:Str:=⟨#[115,112]⟩
noncomputable def t_is_inner:Str:=⟨#[105,115,95,105,110,110,101,114]⟩
noncomputable def t_is_leaving:Str:=⟨#[105,115,95,108,101,97,118,105,110,103]⟩
noncomputable def t_registers:Str:=⟨#[114,101,103,105,115,116,101,114,115]⟩
noncomputable def t_out:Str:=⟨#[111,117,116]⟩
noncomputable def t_pc:Str:=⟨#[112,99]⟩
noncomputable def t_MOST_FRAMES:Str:=⟨#[77,79,83,84,95,70,82,65,77,69,83]⟩
noncomputable def t_append:Str:=⟨#[97,112,112,101,110,100]⟩
noncomputable def t_entry_of:Str:=⟨#[101,110,116,114,121,95,111,102]⟩
noncomputable def t_step_out:Str:=⟨#[115,116,101,112,95,111,117,116]⟩
noncomputable def t_base:Str:=⟨#[98,97,115,101]⟩
noncomputable def t_octets:Str:=⟨#[111,99,116,101,116,115]⟩
noncomputable def t_bss_size:Str:=⟨#[98,115,115,95,115,105,122,101]⟩
noncomputable def t_symbols:Str:=⟨#[115,121,109,98,111,108,115]⟩
noncomputable def t_lines:Str:=⟨#[108,105,110,101,115]⟩
noncomputable def t_a:Str:=⟨#[97]⟩
noncomputable def t_b:Str:=⟨#[98]⟩
noncomputable def t_memory_size:Str:=⟨#[109,101,109,111,114,121,95,115,105,122,101]⟩
noncomputable def t_end:Str:=⟨#[101,110,100]⟩
noncomputable def t_memory:Str:=⟨#[109,101,109,111,114,121]⟩
noncomputable def t_bytearray:Str:=⟨#[98,121,116,101,97,114,114,97,121]⟩
noncomputable def t_SP_machine:Str:=⟨#[83,80,95,109,97,99,104,105,110,101]⟩
noncomputable def t_output:Str:=⟨#[111,117,116,112,117,116]⟩
noncomputable def t_input:Str:=⟨#[105,110,112,117,116]⟩
noncomputable def t_taken:Str:=⟨#[116,97,107,101,110]⟩
noncomputable def t_steps:Str:=⟨#[115,116,101,112,115]⟩
noncomputable def t_status:Str:=⟨#[115,116,97,116,117,115]⟩
noncomputable def t_is_done:Str:=⟨#[105,115,95,100,111,110,101]⟩
noncomputable def t_known:Str:=⟨#[107,110,111,119,110]⟩
noncomputable def t_place:Str:=⟨#[112,108,97,99,101]⟩
noncomputable def t_place_of:Str:=⟨#[112,108,97,99,101,95,111,102]⟩
noncomputable def t_place_for:Str:=⟨#[112,108,97,99,101,95,102,111,114]⟩
noncomputable def t_int:Str:=⟨#[105,110,116]⟩
noncomputable def t_from_bytes:Str:=⟨#[102,114,111,109,95,98,121,116,101,115]⟩
noncomputable def t_little:Str:=⟨#[108,105,116,116,108,101]⟩
noncomputable def t_to_bytes:Str:=⟨#[116,111,95,98,121,116,101,115]⟩
noncomputable def t_number:Str:=⟨#[110,117,109,98,101,114]⟩
noncomputable def t_target:Str:=⟨#[116,97,114,103,101,116]⟩
noncomputable def t_one:Str:=⟨#[111,110,101]⟩
noncomputable def t_other:Str:=⟨#[111,116,104,101,114]⟩
noncomputable def t_instruction_at:Str:=⟨#[105,110,115,116,114,117,99,116,105,111,110,95,97,116]⟩
noncomputable def t_WITH_NUMBERS:Str:=⟨#[87,73,84,72,95,78,85,77,66,69,82,83]⟩
noncomputable def t_put:Str:=⟨#[112,117,116]⟩
noncomputable def t_WITH_REGISTERS:Str:=⟨#[87,73,84,72,95,82,69,71,73,83,84,69,82,83]⟩
noncomputable def t_LOADS:Str:=⟨#[76,79,65,68,83]⟩
noncomputable def t_STORES:Str:=⟨#[83,84,79,82,69,83]⟩
noncomputable def t_move:Str:=⟨#[109,111,118,101]⟩
noncomputable def t_BRANCHES:Str:=⟨#[66,82,65,78,67,72,69,83]⟩
noncomputable def t_jump:Str:=⟨#[106,117,109,112]⟩
noncomputable def t_lead:Str:=⟨#[108,101,97,100]⟩
noncomputable def t_is_signed:Str:=⟨#[105,115,95,115,105,103,110,101,100]⟩
noncomputable def t_store:Str:=⟨#[115,116,111,114,101]⟩
noncomputable def t_here:Str:=⟨#[104,101,114,101]⟩
noncomputable def t_jal:Str:=⟨#[106,97,108]⟩
noncomputable def t_ecall:Str:=⟨#[101,99,97,108,108]⟩
noncomputable def t_call_out:Str:=⟨#[99,97,108,108,95,111,117,116]⟩
noncomputable def t_ebreak:Str:=⟨#[101,98,114,101,97,107]⟩
noncomputable def t_auipc:Str:=⟨#[97,117,105,112,99]⟩
noncomputable def t_asked:Str:=⟨#[97,115,107,101,100]⟩
noncomputable def t_A7:Str:=⟨#[65,55]⟩
noncomputable def t_EXIT:Str:=⟨#[69,88,73,84]⟩
noncomputable def t_signed_word:Str:=⟨#[115,105,103,110,101,100,95,119,111,114,100]⟩
noncomputable def t_A0:Str:=⟨#[65,48]⟩
noncomputable def t_PUT:Str:=⟨#[80,85,84]⟩
noncomputable def t_GET:Str:=⟨#[71,69,84]⟩
noncomputable def t_min:Str:=⟨#[109,105,110]⟩
noncomputable def t_SIGN:Str:=⟨#[83,73,71,78]⟩
noncomputable def t_well:Str:=⟨#[119,101,108,108]⟩
noncomputable def t_goal:Str:=⟨#[103,111,97,108]⟩
noncomputable def t__law_draw:Str:=⟨#[95,108,97,119,95,100,114,97,119]⟩
noncomputable def t_near:Str:=⟨#[110,101,97,114]⟩
noncomputable def t_cells:Str:=⟨#[99,101,108,108,115]⟩
noncomputable def t_way:Str:=⟨#[119,97,121]⟩
noncomputable def t_begin:Str:=⟨#[98,101,103,105,110]⟩
noncomputable def t_finish:Str:=⟨#[102,105,110,105,115,104]⟩
noncomputable def t_saves:Str:=⟨#[115,97,118,101,115]⟩
noncomputable def t_loads:Str:=⟨#[108,111,97,100,115]⟩
noncomputable def t_add:Str:=⟨#[97,100,100]⟩
noncomputable def t_cell:Str:=⟨#[99,101,108,108]⟩
noncomputable def t_lw:Str:=⟨#[108,119]⟩
noncomputable def t_has_frame:Str:=⟨#[104,97,115,95,102,114,97,109,101]⟩
noncomputable def t_pick:Str:=⟨#[112,105,99,107]⟩
noncomputable def t_many:Str:=⟨#[109,97,110,121]⟩
noncomputable def t_kind:Str:=⟨#[107,105,110,100]⟩
noncomputable def t_inside:Str:=⟨#[105,110,115,105,100,101]⟩
noncomputable def t__law_frame:Str:=⟨#[95,108,97,119,95,102,114,97,109,101]⟩
noncomputable def t__law_filler:Str:=⟨#[95,108,97,119,95,102,105,108,108,101,114]⟩
noncomputable def t__law_call:Str:=⟨#[95,108,97,119,95,99,97,108,108]⟩
noncomputable def t_beq:Str:=⟨#[98,101,113]⟩
noncomputable def t_starts:Str:=⟨#[115,116,97,114,116,115]⟩
noncomputable def t_op:Str:=⟨#[111,112]⟩
noncomputable def t_far:Str:=⟨#[102,97,114]⟩
noncomputable def t_parts:Str:=⟨#[112,97,114,116,115]⟩
noncomputable def t_is_turned:Str:=⟨#[105,115,95,116,117,114,110,101,100]⟩
noncomputable def t_cut:Str:=⟨#[99,117,116]⟩
noncomputable def t_row_of_parts:Str:=⟨#[114,111,119,95,111,102,95,112,97,114,116,115]⟩
noncomputable def t_marks:Str:=⟨#[109,97,114,107,115]⟩
noncomputable def t_behind:Str:=⟨#[98,101,104,105,110,100]⟩
noncomputable def t_list:Str:=⟨#[108,105,115,116]⟩
noncomputable def t__law_NAMES:Str:=⟨#[95,108,97,119,95,78,65,77,69,83]⟩
noncomputable def t__law_word:Str:=⟨#[95,108,97,119,95,119,111,114,100]⟩
noncomputable def t_Image:Str:=⟨#[73,109,97,103,101]⟩
noncomputable def t_x46_116_101_120_116:Str:=⟨#[46,116,101,120,116]⟩
noncomputable def t_x97_46_99:Str:=⟨#[97,46,99]⟩
noncomputable def t_x46_116_101_120_116_46_98:Str:=⟨#[46,116,101,120,116,46,98]⟩
noncomputable def t_x98_46_99:Str:=⟨#[98,46,99]⟩
noncomputable def t_script:Str:=⟨#[115,99,114,105,112,116]⟩
noncomputable def t_rounds:Str:=⟨#[114,111,117,110,100,115]⟩
noncomputable def t_stride:Str:=⟨#[115,116,114,105,100,101]⟩
noncomputable def t_phase:Str:=⟨#[112,104,97,115,101]⟩
noncomputable def t_ahead:Str:=⟨#[97,104,101,97,100]⟩
noncomputable def t_stack:Str:=⟨#[115,116,97,99,107]⟩
noncomputable def t_looks:Str:=⟨#[108,111,111,107,115]⟩
noncomputable def t__law_function:Str:=⟨#[95,108,97,119,95,102,117,110,99,116,105,111,110]⟩
noncomputable def t__law_laid:Str:=⟨#[95,108,97,119,95,108,97,105,100]⟩
noncomputable def t_Machine:Str:=⟨#[77,97,99,104,105,110,101]⟩
noncomputable def t_calls_of:Str:=⟨#[99,97,108,108,115,95,111,102]⟩
noncomputable def t_function_at:Str:=⟨#[102,117,110,99,116,105,111,110,95,97,116]⟩
noncomputable def t_step:Str:=⟨#[115,116,101,112]⟩
noncomputable def t_pop:Str:=⟨#[112,111,112]⟩
noncomputable def t_bne:Str:=⟨#[98,110,101]⟩
noncomputable def t_blt:Str:=⟨#[98,108,116]⟩
noncomputable def t_bge:Str:=⟨#[98,103,101]⟩
noncomputable def t_bltu:Str:=⟨#[98,108,116,117]⟩
noncomputable def t_bgeu:Str:=⟨#[98,103,101,117]⟩
noncomputable def t_lb:Str:=⟨#[108,98]⟩
noncomputable def t_lh:Str:=⟨#[108,104]⟩
noncomputable def t_lbu:Str:=⟨#[108,98,117]⟩
noncomputable def t_lhu:Str:=⟨#[108,104,117]⟩
noncomputable def t_sb:Str:=⟨#[115,98]⟩
noncomputable def t_sh:Str:=⟨#[115,104]⟩
noncomputable def t_slti:Str:=⟨#[115,108,116,105]⟩
noncomputable def t_sltiu:Str:=⟨#[115,108,116,105,117]⟩
noncomputable def t_xori:Str:=⟨#[120,111,114,105]⟩
noncomputable def t_ori:Str:=⟨#[111,114,105]⟩
noncomputable def t_andi:Str:=⟨#[97,110,100,105]⟩
noncomputable def t_slli:Str:=⟨#[115,108,108,105]⟩
noncomputable def t_srli:Str:=⟨#[115,114,108,105]⟩
noncomputable def t_srai:Str:=⟨#[115,114,97,105]⟩
noncomputable def t_R:Str:=⟨#[82]⟩
noncomputable def t_sll:Str:=⟨#[115,108,108]⟩
noncomputable def t_slt:Str:=⟨#[115,108,116]⟩
noncomputable def t_sltu:Str:=⟨#[115,108,116,117]⟩
noncomputable def t_xor:Str:=⟨#[120,111,114]⟩
noncomputable def t_srl:Str:=⟨#[115,114,108]⟩
noncomputable def t_sra:Str:=⟨#[115,114,97]⟩
noncomputable def t_or:Str:=⟨#[111,114]⟩
noncomputable def t_and:Str:=⟨#[97,110,100]⟩
noncomputable def t_mul:Str:=⟨#[109,117,108]⟩
noncomputable def t_mulh:Str:=⟨#[109,117,108,104]⟩
noncomputable def t_mulhsu:Str:=⟨#[109,117,108,104,115,117]⟩
noncomputable def t_mulhu:Str:=⟨#[109,117,108,104,117]⟩
noncomputable def t_div:Str:=⟨#[100,105,118]⟩
noncomputable def t_divu:Str:=⟨#[100,105,118,117]⟩
noncomputable def t_rem:Str:=⟨#[114,101,109]⟩
noncomputable def t_remu:Str:=⟨#[114,101,109,117]⟩
noncomputable def t_F:Str:=⟨#[70]⟩
noncomputable def t_E:Str:=⟨#[69]⟩
noncomputable def t_f:Str:=⟨#[102]⟩
noncomputable def t_g:Str:=⟨#[103]⟩
noncomputable def t_h:Str:=⟨#[104]⟩
noncomputable def t_k:Str:=⟨#[107]⟩
noncomputable def f_signed:Fn:=⟨2,[t_value,t_width,t_low],[
 .asg 2 (.bin .BitAnd (.loc 0) (.bin .Sub (.bin .LShift (.int 1) (.loc 1)) (.int 1))),
 .ret (.ife (.cmp .Eq (.bin .RShift (.loc 2) (.bin .Sub (.loc 1) (.int 1))) (.int 1)) (.bin .Sub (.loc 2) (.bin .LShift (.int 1) (.loc 1))) (.loc 2))]⟩
noncomputable def f_imm_of:Fn:=⟨2,[t_form,t_word,t_high],[
 .ifs (.cmp .Eq (.loc 0) (.str t_I)) [
  .ret (.call (.glo t_signed) [.bin .RShift (.loc 1) (.int 20),.int 12])] [],
 .ifs (.cmp .Eq (.loc 0) (.str t_H)) [
  .ret (.bin .BitAnd (.bin .RShift (.loc 1) (.int 20)) (.int 31))] [],
 .ifs (.cmp .Eq (.loc 0) (.str t_S)) [
  .ret (.call (.glo t_signed) [.bin .BitOr (.bin .LShift (.bin .RShift (.loc 1) (.int 25)) (.int 5)) (.bin .BitAnd (.bin .RShift (.loc 1) (.int 7)) (.int 31)),.int 12])] [],
 .ifs (.cmp .Eq (.loc 0) (.str t_B)) [
  .asg 2 (.bin .BitOr (.bin .LShift (.bin .RShift (.loc 1) (.int 31)) (.int 12)) (.bin .LShift (.bin .BitAnd (.bin .RShift (.loc 1) (.int 7)) (.int 1)) (.int 11))),
  .ret (.call (.glo t_signed) [.bin .BitOr (.bin .BitOr (.loc 2) (.bin .LShift (.bin .BitAnd (.bin .RShift (.loc 1) (.int 25)) (.int 63)) (.int 5))) (.bin .LShift (.bin .BitAnd (.bin .RShift (.loc 1) (.int 8)) (.int 15)) (.int 1)),.int 13])] [],
 .ifs (.cmp .Eq (.loc 0) (.str t_U)) [
  .ret (.bin .RShift (.loc 1) (.int 12))] [],
 .ifs (.cmp .Eq (.loc 0) (.str t_J)) [
  .asg 2 (.bin .BitOr (.bin .LShift (.bin .RShift (.loc 1) (.int 31)) (.int 20)) (.bin .LShift (.bin .BitAnd (.bin .RShift (.loc 1) (.int 12)) (.int 255)) (.int 12))),
  .ret (.call (.glo t_signed) [.bin .BitOr (.bin .BitOr (.loc 2) (.bin .LShift (.bin .BitAnd (.bin .RShift (.loc 1) (.int 20)) (.int 1)) (.int 11))) (.bin .LShift (.bin .BitAnd (.bin .RShift (.loc 1) (.int 21)) (.int 1023)) (.int 1)),.int 21])] [],
 .ret (.bin .BitAnd (.bin .RShift (.loc 1) (.int 20)) (.int 255))]⟩
noncomputable def f_name_of:Fn:=⟨1,[t_word,t_opcode,t_low],[
 .swp [1,2] [.bin .BitAnd (.loc 0) (.int 127),.bin .BitAnd (.bin .RShift (.loc 0) (.int 12)) (.int 7)],
 .ifs (.cmp .In (.loc 1) (.tup [.glo t_LUI,.glo t_AUIPC,.glo t_JAL])) [
  .ret (.sub (.glo t_NAMES_BY_BASE) (.loc 1))] [],
 .ifs (.cmp .Eq (.loc 1) (.glo t_SYSTEM)) [
  .ret (.met (.glo t_NAMES_BY_BASE) t_get [.loc 0,.str t_x])] [],
 .ifs (.cmp .Eq (.loc 1) (.glo t_FENCE)) [
  .ret (.ife (.cmp .Eq (.bin .BitAnd (.loc 0) (.int 4027580415)) (.glo t_FENCE)) (.str t_fence) (.str t_x))] [],
 .ifs (.bop .Or [.cmp .Eq (.loc 1) (.glo t_WITH_REG),.bop .And [.cmp .Eq (.loc 1) (.glo t_WITH_IMM),.cmp .In (.loc 2) (.tup [.int 1,.int 5])]]) [
  .ret (.met (.glo t_NAMES_BY_BASE) t_get [.bin .BitAnd (.loc 0) (.int 4261441663),.str t_x])] [],
 .ret (.met (.glo t_NAMES_BY_BASE) t_get [.bin .BitAnd (.loc 0) (.int 28799),.str t_x])]⟩
noncomputable def f_decode:Fn:=⟨1,[t_word,t_name,t_form,t_fields,t_key,t_shift],[
 .asg 1 (.call (.glo t_name_of) [.loc 0]),
 .ifs (.cmp .Eq (.loc 1) (.str t_x)) [
  .ret (.non)] [],
 .asg 2 (.sub (.sub (.glo t_INSTRUCTIONS) (.loc 1)) (.int 0)),
 .asg 3 (.dic [] []),
 .fori false [4,5] (.sub (.glo t_PLACES) (.loc 2)) [
  .sst (.loc 3) (.loc 4) (.bin .BitAnd (.bin .RShift (.loc 0) (.loc 5)) (.int 31))],
 .ifs (.cmp .In (.loc 2) (.glo t_BOUNDS)) [
  .sst (.loc 3) (.str t_imm) (.call (.glo t_imm_of) [.loc 2,.loc 0])] [],
 .ret (.tup [.loc 1,.loc 3])]⟩
noncomputable def f_text_piece:Fn:=⟨2,[t_image,t_address,t_piece],[
 .fori false [2] (.att (.loc 0) t_pieces) [
  .ifs (.bop .Or [.cmp .Eq (.sub (.loc 2) (.int 0)) (.glo t_TEXT),.met (.sub (.loc 2) (.int 0)) t_startswith [.bin .Add (.glo t_TEXT) (.str t_x46)]]) [
   .ifs (.cmp2 .LtE .Lt (.sub (.loc 2) (.int 2)) (.loc 1) (.bin .Add (.sub (.loc 2) (.int 2)) (.sub (.loc 2) (.int 3)))) [
    .ret (.loc 2)] []] []],
 .ret (.non)]⟩
noncomputable def f_last_at:Fn:=⟨2,[t_rows,t_address,t_low,t_high,t_middle],[
 .swp [2,3] [.int 0,.call (.glo t_len) [.loc 0]],
 .whl (.cmp .Lt (.loc 2) (.loc 3)) [
  .asg 4 (.bin .FloorDiv (.bin .Add (.loc 2) (.loc 3)) (.int 2)),
  .ifs (.cmp .LtE (.sub (.sub (.loc 0) (.loc 4)) (.int 0)) (.loc 1)) [
   .asg 2 (.bin .Add (.loc 4) (.int 1))] [
   .asg 3 (.loc 4)]],
 .ret (.bin .Sub (.loc 2) (.int 1))]⟩
noncomputable def f_function_row:Fn:=⟨2,[t_image,t_address,t_piece,t_at],[
 .asg 2 (.call (.glo t_text_piece) [.loc 0,.loc 1]),
 .asg 3 (.call (.glo t_last_at) [.att (.loc 0) t_names,.loc 1]),
 .ifs (.bop .Or [.cmp .Is (.loc 2) (.non),.cmp .Lt (.loc 3) (.int 0),.cmp .Lt (.sub (.sub (.att (.loc 0) t_names) (.loc 3)) (.int 0)) (.sub (.loc 2) (.int 2))]) [
  .ret (.non)] [],
 .ret (.sub (.att (.loc 0) t_names) (.loc 3))]⟩
noncomputable def f_function_at:Fn:=⟨2,[t_image,t_address,t_row],[
 .asg 2 (.call (.glo t_function_row) [.loc 0,.loc 1]),
 .ret (.ife (.cmp .IsNot (.loc 2) (.non)) (.sub (.loc 2) (.int 1)) (.str t_x))]⟩
noncomputable def f_Entry_init:Fn:=⟨1,[t_self],[
 .ast (.loc 0) t_size (.int 0),
 .ast (.loc 0) t_kept (.neg (.int 1)),
 .ast (.loc 0) t_size_done (.int 0),
 .ast (.loc 0) t_kept_done (.int 0)]⟩
noncomputable def f_instruction_of:Fn:=⟨2,[t_machine,t_address],[
 .tryS [
  .ret (.call (.glo t_decode) [.met (.loc 0) t_load [.loc 1,.int 4]])]]⟩
noncomputable def f_lowered:Fn:=⟨2,[t_told,t_numbers,t_name,t_fields],[
 .upk [.nam 2,.nam 3] (.loc 0),
 .ifs (.bop .And [.cmp .Eq (.loc 2) (.str t_addi),.cmp .Eq (.sub (.loc 3) (.str t_rd)) (.glo t_SP_debug),.cmp .Eq (.sub (.loc 3) (.str t_rs1)) (.glo t_SP_debug)]) [
  .ret (.call (.glo t_max) [.int 0,.neg (.sub (.loc 3) (.str t_imm))])] [],
 .ifs (.bop .And [.cmp .Eq (.loc 2) (.str t_sub),.cmp .Eq (.sub (.loc 3) (.str t_rd)) (.glo t_SP_debug),.cmp .Eq (.sub (.loc 3) (.str t_rs1)) (.glo t_SP_debug)]) [
  .ret (.met (.loc 1) t_get [.sub (.loc 3) (.str t_rs2),.int 0])] [],
 .ret (.int 0)]⟩
noncomputable def f_note_number:Fn:=⟨2,[t_told,t_numbers,t_name,t_fields,t_start],[
 .upk [.nam 2,.nam 3] (.loc 0),
 .ifs (.bop .And [.cmp .Eq (.loc 2) (.str t_lui),.cmp .NotEq (.sub (.loc 3) (.str t_rd)) (.glo t_SP_debug)]) [
  .sst (.loc 1) (.sub (.loc 3) (.str t_rd)) (.bin .BitAnd (.bin .LShift (.sub (.loc 3) (.str t_imm)) (.int 12)) (.glo t_WORD_MASK)),
  .ret (.tt true)] [],
 .ifs (.bop .And [.cmp .Eq (.loc 2) (.str t_addi),.cmp .NotEq (.sub (.loc 3) (.str t_rd)) (.glo t_SP_debug),.cmp .In (.sub (.loc 3) (.str t_rs1)) (.tup [.int 0,.sub (.loc 3) (.str t_rd)])]) [
  .asg 4 (.ife (.cmp .NotEq (.sub (.loc 3) (.str t_rs1)) (.int 0)) (.met (.loc 1) t_get [.sub (.loc 3) (.str t_rs1),.int 0]) (.int 0)),
  .sst (.loc 1) (.sub (.loc 3) (.str t_rd)) (.bin .BitAnd (.bin .Add (.loc 4) (.sub (.loc 3) (.str t_imm))) (.glo t_WORD_MASK)),
  .ret (.tt true)] [],
 .ret (.tt false)]⟩
noncomputable def f_entry_of:Fn:=⟨2,[t_machine,t_start,t_found,t_numbers,t_at,t_turn,t_told,t_size,t_name,t_fields],[
 .swp [2,3,4] [.call (.glo t_Entry) [],.dic [] [],.loc 1],
 .fori false [5] (.call (.glo t_range) [.glo t_MOST_ROWS]) [
  .asg 6 (.call (.glo t_instruction_of) [.loc 0,.loc 4]),
  .ifs (.cmp .Is (.loc 6) (.non)) [
   .brk] [],
  .asg 7 (.ife (.cmp .Eq (.att (.loc 2) t_size) (.int 0)) (.call (.glo t_lowered) [.loc 6,.loc 3]) (.int 0)),
  .ifs (.cmp .Gt (.loc 7) (.int 0)) [
   .upk [.att (.loc 2) t_size,.att (.loc 2) t_size_done] (.tup [.loc 7,.bin .Add (.loc 4) (.int 4)])] [
   .ifs (.cmp .Gt (.att (.loc 2) t_size) (.int 0)) [
    .upk [.nam 8,.nam 9] (.loc 6),
    .ifs (.bop .Or [.cmp .NotEq (.loc 8) (.str t_sw),.cmp .NotEq (.sub (.loc 9) (.str t_rs1)) (.glo t_SP_debug)]) [
     .brk] [],
    .ifs (.cmp .Eq (.sub (.loc 9) (.str t_rs2)) (.glo t_RA)) [
     .upk [.att (.loc 2) t_kept,.att (.loc 2) t_kept_done] (.tup [.sub (.loc 9) (.str t_imm),.bin .Add (.loc 4) (.int 4)])] []] [
    .ifs (.not (.call (.glo t_note_number) [.loc 6,.loc 3])) [
     .brk] []]],
  .asg 4 (.bin .Add (.loc 4) (.int 4))],
 .ret (.loc 2)]⟩
noncomputable def f_is_leaving:Fn:=⟨2,[t_machine,t_address,t_told],[
 .asg 2 (.call (.glo t_instruction_of) [.loc 0,.loc 1]),
 .ret (.bop .And [.cmp .IsNot (.loc 2) (.non),.cmp .Eq (.sub (.loc 2) (.int 0)) (.str t_jalr),.cmp .Eq (.sub (.loc 2) (.int 1)) (.dic [.str t_rd,.str t_rs1,.str t_imm] [.int 0,.glo t_RA,.int 0])])]⟩
noncomputable def f_step_out:Fn:=⟨5,[t_machine,t_entry,t_at,t_sp,t_is_inner],[
 .ifs (.bop .And [.loc 4,.bop .Or [.cmp .Lt (.loc 2) (.att (.loc 1) t_size_done),.call (.glo t_is_leaving) [.loc 0,.loc 2]]]) [
  .ret (.tup [.sub (.att (.loc 0) t_registers) (.glo t_RA),.loc 3])] [],
 .ifs (.bop .Or [.cmp .Lt (.att (.loc 1) t_kept) (.int 0),.bop .And [.loc 4,.cmp .Lt (.loc 2) (.att (.loc 1) t_kept_done)]]) [
  .ret (.ife (.loc 4) (.tup [.sub (.att (.loc 0) t_registers) (.glo t_RA),.bin .BitAnd (.bin .Add (.loc 3) (.att (.loc 1) t_size)) (.glo t_WORD_MASK)]) (.non))] [],
 .tryS [
  .ret (.tup [.met (.loc 0) t_load [.bin .BitAnd (.bin .Add (.loc 3) (.att (.loc 1) t_kept)) (.glo t_WORD_MASK),.int 4],.bin .BitAnd (.bin .Add (.loc 3) (.att (.loc 1) t_size)) (.glo t_WORD_MASK)])]]⟩
noncomputable def f_calls_of:Fn:=⟨2,[t_machine,t_image,t_found,t_at,t_sp,t_turn,t_row,t_entry,t_out],[
 .asg 2 (.lst []),
 .swp [3,4] [.att (.loc 0) t_pc,.sub (.att (.loc 0) t_registers) (.glo t_SP_debug)],
 .fori false [5] (.call (.glo t_range) [.glo t_MOST_FRAMES]) [
  .asg 6 (.call (.glo t_function_row) [.loc 1,.loc 3]),
  .ifs (.cmp .Is (.loc 6) (.non)) [
   .brk] [],
  .exp (.met (.loc 2) t_append [.sub (.loc 6) (.int 1)]),
  .asg 7 (.call (.glo t_entry_of) [.loc 0,.sub (.loc 6) (.int 0)]),
  .asg 8 (.call (.glo t_step_out) [.loc 0,.loc 7,.loc 3,.loc 4,.cmp .Eq (.loc 5) (.int 0)]),
  .ifs (.bop .Or [.cmp .Is (.loc 8) (.non),.cmp .Lt (.sub (.loc 8) (.int 0)) (.int 4),.bop .And [.cmp .Lt (.att (.loc 7) t_kept) (.int 0),.cmp .Eq (.call (.glo t_function_row) [.loc 1,.bin .Sub (.sub (.loc 8) (.int 0)) (.int 4)]) (.loc 6)]]) [
   .brk] [],
  .swp [3,4] [.bin .Sub (.sub (.loc 8) (.int 0)) (.int 4),.sub (.loc 8) (.int 1)]],
 .ret (.loc 2)]⟩
noncomputable def f_Image_init:Fn:=⟨6,[t_self,t_entry,t_base,t_octets,t_bss_size,t_symbols],[
 .ast (.loc 0) t_entry (.loc 1),
 .ast (.loc 0) t_base (.loc 2),
 .ast (.loc 0) t_octets (.loc 3),
 .ast (.loc 0) t_bss_size (.loc 4),
 .ast (.loc 0) t_symbols (.loc 5),
 .ast (.loc 0) t_pieces (.lst []),
 .ast (.loc 0) t_lines (.lst []),
 .ast (.loc 0) t_names (.lst [])]⟩
noncomputable def f_added:Fn:=⟨2,[t_a,t_b],[
 .ret (.bin .Add (.loc 0) (.loc 1))]⟩
noncomputable def f_subtracted:Fn:=⟨2,[t_a,t_b],[
 .ret (.bin .Sub (.loc 0) (.loc 1))]⟩
noncomputable def f_same:Fn:=⟨2,[t_a,t_b],[
 .ret (.ife (.cmp .Eq (.loc 0) (.loc 1)) (.int 1) (.int 0))]⟩
noncomputable def f_Machine_init:Fn:=⟨3,[t_self,t_image,t_memory_size,t_size,t_end],[
 .asg 3 (.call (.glo t_len) [.att (.loc 1) t_octets]),
 .ifs (.bop .Or [.cmp .Lt (.att (.loc 1) t_base) (.int 0),.cmp .Gt (.bin .Add (.loc 3) (.att (.loc 1) t_bss_size)) (.loc 2),.cmp .Gt (.bin .Add (.att (.loc 1) t_base) (.loc 2)) (.glo t_WORD_MASK)]) [
  .stuck] [],
 .ast (.loc 0) t_base (.att (.loc 1) t_base),
 .ast (.loc 0) t_size (.loc 2),
 .ast (.loc 0) t_memory (.call (.glo t_bytearray) [.loc 2]),
 .sls (.att (.loc 0) t_memory) (.abs) (.loc 3) (.att (.loc 1) t_octets),
 .ast (.loc 0) t_registers (.bin .Mult (.lst [.int 0]) (.int 32)),
 .asg 4 (.bin .Add (.att (.loc 1) t_base) (.loc 2)),
 .sst (.att (.loc 0) t_registers) (.glo t_SP_machine) (.bin .Sub (.loc 4) (.bin .Mod (.loc 4) (.int 16))),
 .ast (.loc 0) t_pc (.att (.loc 1) t_entry),
 .ast (.loc 0) t_output (.call (.glo t_bytearray) []),
 .ast (.loc 0) t_input (.call (.glo t_bytearray) []),
 .ast (.loc 0) t_taken (.int 0),
 .ast (.loc 0) t_steps (.int 0),
 .ast (.loc 0) t_status (.int 0),
 .ast (.loc 0) t_is_done (.tt false),
 .ast (.loc 0) t_known (.dic [] [])]⟩
noncomputable def f_Machine_place_of:Fn:=⟨3,[t_self,t_address,t_size,t_place],[
 .asg 3 (.bin .Sub (.loc 1) (.att (.loc 0) t_base)),
 .ifs (.bop .Or [.cmp .Lt (.loc 3) (.int 0),.cmp .Lt (.loc 2) (.int 0),.cmp .Gt (.bin .Add (.loc 3) (.loc 2)) (.att (.loc 0) t_size)]) [
  .stuck] [],
 .ret (.loc 3)]⟩
noncomputable def f_Machine_place_for:Fn:=⟨3,[t_self,t_address,t_width],[
 .ifs (.cmp .NotEq (.bin .Mod (.loc 1) (.loc 2)) (.int 0)) [
  .stuck] [],
 .ret (.met (.loc 0) t_place_of [.loc 1,.loc 2])]⟩
noncomputable def f_Machine_load:Fn:=⟨3,[t_self,t_address,t_width,t_place],[
 .asg 3 (.met (.loc 0) t_place_for [.loc 1,.loc 2]),
 .ret (.met (.glo t_int) t_from_bytes [.slc (.att (.loc 0) t_memory) (.loc 3) (.bin .Add (.loc 3) (.loc 2)) (.abs),.str t_little])]⟩
noncomputable def f_Machine_store:Fn:=⟨4,[t_self,t_address,t_width,t_value,t_place,t_low],[
 .asg 4 (.met (.loc 0) t_place_for [.loc 1,.loc 2]),
 .asg 5 (.bin .BitAnd (.loc 3) (.bin .Sub (.bin .LShift (.int 1) (.bin .Mult (.int 8) (.loc 2))) (.int 1))),
 .sls (.att (.loc 0) t_memory) (.loc 4) (.bin .Add (.loc 4) (.loc 2)) (.met (.loc 5) t_to_bytes [.loc 2,.str t_little])]⟩
noncomputable def f_Machine_put:Fn:=⟨3,[t_self,t_number,t_value],[
 .ifs (.cmp .NotEq (.loc 1) (.int 0)) [
  .sst (.att (.loc 0) t_registers) (.loc 1) (.bin .BitAnd (.loc 2) (.glo t_WORD_MASK))] []]⟩
noncomputable def f_Machine_instruction_at:Fn:=⟨2,[t_self,t_address,t_word,t_found],[
 .asg 2 (.met (.loc 0) t_load [.loc 1,.int 4]),
 .ifs (.cmp .NotIn (.loc 2) (.att (.loc 0) t_known)) [
  .asg 3 (.call (.glo t_decode) [.loc 2]),
  .ifs (.cmp .Is (.loc 3) (.non)) [
   .stuck] [],
  .sst (.att (.loc 0) t_known) (.loc 2) (.loc 3)] [],
 .ret (.sub (.att (.loc 0) t_known) (.loc 2))]⟩
noncomputable def f_Machine_jump:Fn:=⟨2,[t_self,t_target],[
 .ifs (.cmp .NotEq (.bin .BitAnd (.loc 1) (.int 3)) (.int 0)) [
  .stuck] [],
 .ast (.loc 0) t_pc (.bin .BitAnd (.loc 1) (.glo t_WORD_MASK))]⟩
noncomputable def f_Machine_step:Fn:=⟨1,[t_self,t_name,t_fields,t_one,t_other],[
 .ifs (.att (.loc 0) t_is_done) [
  .ret (.abs)] [],
 .upk [.nam 1,.nam 2] (.met (.loc 0) t_instruction_at [.att (.loc 0) t_pc]),
 .ifs (.cmp .In (.loc 1) (.glo t_WITH_NUMBERS)) [
  .exp (.met (.loc 0) t_put [.sub (.loc 2) (.str t_rd),.call (.sub (.glo t_WITH_NUMBERS) (.loc 1)) [.sub (.att (.loc 0) t_registers) (.sub (.loc 2) (.str t_rs1)),.bin .BitAnd (.sub (.loc 2) (.str t_imm)) (.glo t_WORD_MASK)]]),
  .ast (.loc 0) t_pc (.bin .BitAnd (.bin .Add (.att (.loc 0) t_pc) (.int 4)) (.glo t_WORD_MASK))] [
  .ifs (.cmp .In (.loc 1) (.glo t_WITH_REGISTERS)) [
   .swp [3,4] [.sub (.att (.loc 0) t_registers) (.sub (.loc 2) (.str t_rs1)),.sub (.att (.loc 0) t_registers) (.sub (.loc 2) (.str t_rs2))],
   .exp (.met (.loc 0) t_put [.sub (.loc 2) (.str t_rd),.call (.sub (.glo t_WITH_REGISTERS) (.loc 1)) [.loc 3,.loc 4]]),
   .ast (.loc 0) t_pc (.bin .BitAnd (.bin .Add (.att (.loc 0) t_pc) (.int 4)) (.glo t_WORD_MASK))] [
   .ifs (.bop .Or [.cmp .In (.loc 1) (.glo t_LOADS),.cmp .In (.loc 1) (.glo t_STORES)]) [
    .exp (.met (.loc 0) t_move [.loc 1,.loc 2]),
    .ast (.loc 0) t_pc (.bin .BitAnd (.bin .Add (.att (.loc 0) t_pc) (.int 4)) (.glo t_WORD_MASK))] [
    .ifs (.cmp .In (.loc 1) (.glo t_BRANCHES)) [
     .swp [3,4] [.sub (.att (.loc 0) t_registers) (.sub (.loc 2) (.str t_rs1)),.sub (.att (.loc 0) t_registers) (.sub (.loc 2) (.str t_rs2))],
     .exp (.met (.loc 0) t_jump [.bin .Add (.att (.loc 0) t_pc) (.ife (.cmp .Eq (.call (.sub (.glo t_BRANCHES) (.loc 1)) [.loc 3,.loc 4]) (.int 1)) (.sub (.loc 2) (.str t_imm)) (.int 4))])] [
     .exp (.met (.loc 0) t_lead [.loc 1,.loc 2])]]]],
 .ast (.loc 0) t_steps (.bin .Add (.att (.loc 0) t_steps) (.int 1))]⟩
noncomputable def f_Machine_move:Fn:=⟨3,[t_self,t_name,t_fields,t_address,t_width,t_is_signed,t_value],[
 .asg 3 (.bin .BitAnd (.bin .Add (.sub (.att (.loc 0) t_registers) (.sub (.loc 2) (.str t_rs1))) (.sub (.loc 2) (.str t_imm))) (.glo t_WORD_MASK)),
 .ifs (.cmp .In (.loc 1) (.glo t_STORES)) [
  .exp (.met (.loc 0) t_store [.loc 3,.sub (.glo t_STORES) (.loc 1),.sub (.att (.loc 0) t_registers) (.sub (.loc 2) (.str t_rs2))]),
  .ret (.abs)] [],
 .upk [.nam 4,.nam 5] (.sub (.glo t_LOADS) (.loc 1)),
 .asg 6 (.met (.loc 0) t_load [.loc 3,.loc 4]),
 .ifs (.bop .And [.loc 5,.cmp .Eq (.bin .RShift (.loc 6) (.bin .Sub (.bin .Mult (.int 8) (.loc 4)) (.int 1))) (.int 1)]) [
  .asg 6 (.bin .Sub (.loc 6) (.bin .LShift (.int 1) (.bin .Mult (.int 8) (.loc 4))))] [],
 .exp (.met (.loc 0) t_put [.sub (.loc 2) (.str t_rd),.loc 6])]⟩
noncomputable def f_Machine_lead:Fn:=⟨3,[t_self,t_name,t_fields,t_here],[
 .asg 3 (.att (.loc 0) t_pc),
 .ifs (.cmp .Eq (.loc 1) (.str t_jal)) [
  .exp (.met (.loc 0) t_jump [.bin .Add (.loc 3) (.sub (.loc 2) (.str t_imm))]),
  .exp (.met (.loc 0) t_put [.sub (.loc 2) (.str t_rd),.bin .Add (.loc 3) (.int 4)])] [
  .ifs (.cmp .Eq (.loc 1) (.str t_jalr)) [
   .exp (.met (.loc 0) t_jump [.bin .BitAnd (.bin .BitAnd (.bin .Add (.sub (.att (.loc 0) t_registers) (.sub (.loc 2) (.str t_rs1))) (.sub (.loc 2) (.str t_imm))) (.glo t_WORD_MASK)) (.inv (.int 1))]),
   .exp (.met (.loc 0) t_put [.sub (.loc 2) (.str t_rd),.bin .Add (.loc 3) (.int 4)])] [
   .ifs (.cmp .Eq (.loc 1) (.str t_ecall)) [
    .exp (.met (.loc 0) t_call_out []),
    .ast (.loc 0) t_pc (.bin .BitAnd (.bin .Add (.loc 3) (.int 4)) (.glo t_WORD_MASK))] [
    .ifs (.cmp .Eq (.loc 1) (.str t_ebreak)) [
     .stuck] [
     .ifs (.cmp .Eq (.loc 1) (.str t_lui)) [
      .exp (.met (.loc 0) t_put [.sub (.loc 2) (.str t_rd),.bin .LShift (.sub (.loc 2) (.str t_imm)) (.int 12)])] [
      .ifs (.cmp .Eq (.loc 1) (.str t_auipc)) [
       .exp (.met (.loc 0) t_put [.sub (.loc 2) (.str t_rd),.bin .Add (.loc 3) (.bin .LShift (.sub (.loc 2) (.str t_imm)) (.int 12))])] []],
     .ast (.loc 0) t_pc (.bin .BitAnd (.bin .Add (.loc 3) (.int 4)) (.glo t_WORD_MASK))]]]]]⟩
noncomputable def f_Machine_call_out:Fn:=⟨1,[t_self,t_asked],[
 .asg 1 (.sub (.att (.loc 0) t_registers) (.glo t_A7)),
 .ifs (.cmp .Eq (.loc 1) (.glo t_EXIT)) [
  .ast (.loc 0) t_is_done (.tt true),
  .ast (.loc 0) t_status (.call (.glo t_signed_word) [.sub (.att (.loc 0) t_registers) (.glo t_A0)])] [
  .ifs (.cmp .Eq (.loc 1) (.glo t_PUT)) [
   .exp (.met (.att (.loc 0) t_output) t_append [.bin .BitAnd (.sub (.att (.loc 0) t_registers) (.glo t_A0)) (.int 255)])] [
   .ifs (.cmp .Eq (.loc 1) (.glo t_GET)) [
    .exp (.met (.loc 0) t_put [.glo t_A0,.ife (.cmp .Lt (.att (.loc 0) t_taken) (.call (.glo t_len) [.att (.loc 0) t_input])) (.sub (.att (.loc 0) t_input) (.att (.loc 0) t_taken)) (.neg (.int 1))]),
    .ast (.loc 0) t_taken (.call (.glo t_min) [.bin .Add (.att (.loc 0) t_taken) (.int 1),.call (.glo t_len) [.att (.loc 0) t_input]])] [
    .stuck]]]]⟩
noncomputable def f_signed_word:Fn:=⟨1,[t_value],[
 .ret (.ife (.bin .BitAnd (.loc 0) (.glo t_SIGN)) (.bin .Sub (.loc 0) (.int 4294967296)) (.loc 0))]⟩
noncomputable def f_law_draw:Fn:=⟨2,[t_well,t_size,t_numbers,t_place],[
 .upk [.nam 2,.nam 3] (.loc 0),
 .ifs (.cmp .Eq (.loc 3) (.call (.glo t_len) [.loc 2])) [
  .exp (.met (.loc 2) t_append [.bin .Mod (.bin .Add (.bin .Add (.bin .Mult (.sub (.loc 2) (.neg (.int 1))) (.int 5)) (.sub (.loc 2) (.bin .FloorDiv (.loc 3) (.int 2)))) (.loc 3)) (.int 251)])] [],
 .sst (.loc 0) (.int 1) (.bin .Add (.loc 3) (.int 1)),
 .ret (.bin .Mod (.sub (.loc 2) (.loc 3)) (.loc 1))]⟩
noncomputable def f_law_call:Fn:=⟨2,[t_well,t_goal],[
 .ifs (.cmp .Eq (.call (.glo t__law_draw) [.loc 0,.int 2]) (.int 0)) [
  .ret (.lst [.tup [.str t_jal,.loc 1]])] [],
 .ret (.lst [.tup [.str t_high,.int 6],.tup [.str t_near,.int 6,.loc 1],.tup [.str t_jalr,.int 1,.int 6,.loc 1]])]⟩
noncomputable def f_law_frame:Fn:=⟨2,[t_well,t_cells,t_size,t_way,t_begin,t_finish,t_saves,t_loads],[
 .asg 2 (.bin .Mult (.int 16) (.bin .Add (.int 1) (.call (.glo t__law_draw) [.loc 0,.int 3]))),
 .asg 3 (.call (.glo t__law_draw) [.loc 0,.int 4]),
 .swp [4,5] [.lst [.tup [.str t_addi,.int 2,.int 2,.neg (.loc 2)]],.lst [.tup [.str t_addi,.int 2,.int 2,.loc 2]]],
 .ifs (.cmp .Eq (.loc 3) (.int 2)) [
  .asg 4 (.lst [.tup [.str t_addi,.int 5,.int 0,.loc 2],.tup [.str t_sub,.int 2,.int 2,.int 5]])] [],
 .ifs (.cmp .Eq (.loc 3) (.int 3)) [
  .asg 4 (.lst [.tup [.str t_lui,.int 5,.int 1],.tup [.str t_addi,.int 5,.int 5,.neg (.int 2048)],.tup [.str t_addi,.int 5,.int 5,.bin .Sub (.loc 2) (.int 2048)],.tup [.str t_sub,.int 2,.int 2,.int 5]])] [],
 .ifs (.cmp .Gt (.loc 3) (.int 1)) [
  .asg 5 (.lst [.tup [.str t_addi,.int 5,.int 0,.loc 2],.tup [.str t_add,.int 2,.int 2,.int 5]])] [],
 .asc 6 true (.tup [.str t_sw,.loc 1,.int 2,.bin .Mult (.int 4) (.loc 0)]) [t_place,t_cell] (.loc 1),
 .asc 7 true (.tup [.str t_lw,.loc 1,.int 2,.bin .Mult (.int 4) (.loc 0)]) [t_place,t_cell] (.loc 1),
 .ret (.tup [.bin .Add (.loc 4) (.loc 6),.bin .Add (.bin .Add (.loc 7) (.loc 5)) (.lst [.tup [.str t_jalr,.int 0,.int 1,.neg (.int 1)]])])]⟩
noncomputable def f_law_filler:Fn:=⟨2,[t_well,t_has_frame,t_pick],[
 .asg 2 (.call (.glo t__law_draw) [.loc 0,.int 3]),
 .ifs (.cmp .Eq (.loc 2) (.int 0)) [
  .ret (.lst [])] [],
 .ret (.ife (.bop .And [.cmp .Eq (.loc 2) (.int 2),.loc 1]) (.lst [.tup [.str t_sw,.int 11,.int 2,.int 12]]) (.lst [.tup [.str t_addi,.int 11,.int 11,.int 1]]))]⟩
noncomputable def f_law_function:Fn:=⟨3,[t_well,t_number,t_many,t_kind,t_begin,t_finish,t_inside],[
 .ifs (.cmp .Lt (.loc 1) (.loc 2)) [
  .upk [.nam 4,.nam 5] (.call (.glo t__law_frame) [.loc 0,.sub (.lst [.lst [.int 1],.lst [.int 1,.int 9],.lst [.int 9,.int 1],.lst [.int 9,.int 1,.int 18]]) (.call (.glo t__law_draw) [.loc 0,.int 4])]),
  .asg 6 (.bin .Add (.call (.glo t__law_filler) [.loc 0,.tt true]) (.call (.glo t__law_call) [.loc 0,.bin .Add (.loc 1) (.int 1)])),
  .ifs (.cmp .Eq (.call (.glo t__law_draw) [.loc 0,.int 4]) (.int 1)) [
   .asg 6 (.bin .Add (.bin .Add (.loc 6) (.call (.glo t__law_filler) [.loc 0,.tt true])) (.call (.glo t__law_call) [.loc 0,.bin .Add (.loc 1) (.int 1)]))] [],
  .ret (.bin .Add (.bin .Add (.bin .Add (.loc 4) (.loc 6)) (.call (.glo t__law_filler) [.loc 0,.tt true])) (.loc 5))] [],
 .asg 3 (.call (.glo t__law_draw) [.loc 0,.int 4]),
 .ifs (.cmp .Eq (.loc 3) (.int 0)) [
  .ret (.bin .Add (.call (.glo t__law_filler) [.loc 0,.tt false]) (.lst [.tup [.str t_jalr,.int 0,.int 1,.neg (.int 1)]]))] [],
 .ifs (.cmp .Eq (.loc 3) (.int 1)) [
  .upk [.nam 4,.nam 5] (.call (.glo t__law_frame) [.loc 0,.lst [.int 9]]),
  .ret (.bin .Add (.bin .Add (.loc 4) (.call (.glo t__law_filler) [.loc 0,.tt true])) (.loc 5))] [],
 .upk [.nam 4,.nam 5] (.call (.glo t__law_frame) [.loc 0,.sub (.lst [.lst [.int 1],.lst [.int 1,.int 9],.lst [.int 9,.int 1],.lst [.int 9,.int 1,.int 18]]) (.call (.glo t__law_draw) [.loc 0,.int 4])]),
 .asg 6 (.call (.glo t__law_filler) [.loc 0,.tt true]),
 .ifs (.cmp .Eq (.loc 3) (.int 3)) [
  .asg 6 (.bin .Add (.bin .Add (.loc 6) (.lst [.tup [.str t_beq],.tup [.str t_addi,.int 10,.int 10,.neg (.int 1)],.tup [.str t_jal,.loc 1]])) (.call (.glo t__law_filler) [.loc 0,.tt true]))] [],
 .ret (.bin .Add (.bin .Add (.loc 4) (.loc 6)) (.loc 5))]⟩
noncomputable def f_law_word:Fn:=⟨4,[t_row,t_at,t_starts,t_base,t_op,t_low,t_far,t_high],[
 .asg 4 (.sub (.loc 0) (.int 0)),
 .ifs (.cmp .Eq (.loc 4) (.str t_ecall)) [
  .ret (.int 115)] [],
 .ifs (.cmp .Eq (.loc 4) (.str t_beq)) [
  .ret (.bin .Add (.bin .Add (.int 99) (.bin .Mult (.int 10) (.bin .Pow (.int 2) (.int 15)))) (.bin .Mult (.int 6) (.bin .Pow (.int 2) (.int 8))))] [],
 .ifs (.cmp .Eq (.loc 4) (.str t_high)) [
  .ret (.bin .Add (.bin .Add (.int 55) (.bin .Mult (.sub (.loc 0) (.int 1)) (.bin .Pow (.int 2) (.int 7)))) (.loc 3))] [],
 .ifs (.cmp .Eq (.loc 4) (.str t_lui)) [
  .ret (.bin .Add (.bin .Add (.int 55) (.bin .Mult (.sub (.loc 0) (.int 1)) (.bin .Pow (.int 2) (.int 7)))) (.bin .Mult (.sub (.loc 0) (.int 2)) (.bin .Pow (.int 2) (.int 12))))] [],
 .ifs (.cmp .Eq (.loc 4) (.str t_jal)) [
  .asg 6 (.bin .Sub (.sub (.loc 2) (.sub (.loc 0) (.int 1))) (.loc 1)),
  .asg 7 (.bin .Add (.bin .Mult (.bin .Mod (.bin .FloorDiv (.loc 6) (.bin .Pow (.int 2) (.int 20))) (.int 2)) (.bin .Pow (.int 2) (.int 31))) (.bin .Mult (.bin .Mod (.bin .FloorDiv (.loc 6) (.bin .Pow (.int 2) (.int 12))) (.bin .Pow (.int 2) (.int 8))) (.bin .Pow (.int 2) (.int 12)))),
  .ret (.bin .Add (.bin .Add (.bin .Add (.bin .Add (.int 111) (.bin .Pow (.int 2) (.int 7))) (.bin .Mult (.bin .Mod (.bin .FloorDiv (.loc 6) (.int 2)) (.bin .Pow (.int 2) (.int 10))) (.bin .Pow (.int 2) (.int 21)))) (.bin .Mult (.bin .Mod (.bin .FloorDiv (.loc 6) (.bin .Pow (.int 2) (.int 11))) (.int 2)) (.bin .Pow (.int 2) (.int 20)))) (.loc 7))] [],
 .ifs (.cmp .Eq (.loc 4) (.str t_jalr)) [
  .ret (.bin .Add (.bin .Add (.int 103) (.bin .Mult (.sub (.loc 0) (.int 1)) (.bin .Pow (.int 2) (.int 7)))) (.bin .Mult (.sub (.loc 0) (.int 2)) (.bin .Pow (.int 2) (.int 15))))] [],
 .ifs (.cmp .Eq (.loc 4) (.str t_near)) [
  .ret (.bin .Add (.bin .Add (.bin .Add (.int 19) (.bin .Mult (.sub (.loc 0) (.int 1)) (.bin .Pow (.int 2) (.int 7)))) (.bin .Mult (.sub (.loc 0) (.int 1)) (.bin .Pow (.int 2) (.int 15)))) (.bin .Mult (.bin .Sub (.sub (.loc 2) (.sub (.loc 0) (.int 2))) (.loc 3)) (.bin .Pow (.int 2) (.int 20))))] [],
 .ifs (.cmp .Eq (.loc 4) (.str t_sw)) [
  .ret (.bin .Add (.bin .Add (.bin .Add (.bin .Add (.bin .Add (.int 35) (.bin .Mult (.int 2) (.bin .Pow (.int 2) (.int 12)))) (.bin .Mult (.sub (.loc 0) (.int 1)) (.bin .Pow (.int 2) (.int 20)))) (.bin .Mult (.sub (.loc 0) (.int 2)) (.bin .Pow (.int 2) (.int 15)))) (.bin .Mult (.bin .FloorDiv (.sub (.loc 0) (.int 3)) (.int 32)) (.bin .Pow (.int 2) (.int 25)))) (.bin .Mult (.bin .Mod (.sub (.loc 0) (.int 3)) (.int 32)) (.bin .Pow (.int 2) (.int 7))))] [],
 .ifs (.bop .Or [.cmp .Eq (.loc 4) (.str t_add),.cmp .Eq (.loc 4) (.str t_sub)]) [
  .ret (.bin .Add (.bin .Add (.bin .Add (.bin .Add (.int 51) (.bin .Mult (.sub (.loc 0) (.int 1)) (.bin .Pow (.int 2) (.int 7)))) (.bin .Mult (.sub (.loc 0) (.int 2)) (.bin .Pow (.int 2) (.int 15)))) (.bin .Mult (.sub (.loc 0) (.int 3)) (.bin .Pow (.int 2) (.int 20)))) (.ife (.cmp .Eq (.loc 4) (.str t_sub)) (.bin .Pow (.int 2) (.int 30)) (.int 0)))] [],
 .asg 5 (.ife (.cmp .Eq (.loc 4) (.str t_addi)) (.int 19) (.bin .Add (.int 3) (.bin .Mult (.int 2) (.bin .Pow (.int 2) (.int 12))))),
 .ret (.bin .Add (.bin .Add (.bin .Add (.loc 5) (.bin .Mult (.sub (.loc 0) (.int 1)) (.bin .Pow (.int 2) (.int 7)))) (.bin .Mult (.sub (.loc 0) (.int 2)) (.bin .Pow (.int 2) (.int 15)))) (.bin .Mult (.bin .Mod (.sub (.loc 0) (.int 3)) (.int 4096)) (.bin .Pow (.int 2) (.int 20))))]⟩
noncomputable def f_law_laid:Fn:=⟨4,[t_parts,t_base,t_is_turned,t_cut,t_row_of_parts,t_starts,t_rows,t_marks,t_number,t_octets,t_place,t_row,t_image,t_behind],[
 .asg 4 (.bin .Add (.lst [.int 0]) (.slc (.call (.glo t_list) [.call (.glo t_range) [.int 1,.call (.glo t_len) [.loc 0]]]) (.abs) (.abs) (.ife (.loc 2) (.neg (.int 1)) (.int 1)))),
 .swp [5,6,7] [.dic [] [],.lst [],.lst []],
 .fori false [8] (.loc 4) [
  .sst (.loc 5) (.loc 8) (.bin .Add (.loc 1) (.bin .Mult (.int 4) (.call (.glo t_len) [.loc 6]))),
  .exp (.met (.loc 7) t_append [.tup [.sub (.loc 5) (.loc 8),.sub (.glo t__law_NAMES) (.loc 8)]]),
  .asg 6 (.bin .Add (.loc 6) (.sub (.loc 0) (.loc 8)))],
 .asg 9 (.byt),
 .fori true [10,11] (.loc 6) [
  .asg 9 (.bin .Add (.loc 9) (.met (.call (.glo t__law_word) [.loc 11,.bin .Add (.loc 1) (.bin .Mult (.int 4) (.loc 10)),.loc 5,.loc 1]) t_to_bytes [.int 4,.str t_little]))],
 .asg 12 (.call (.glo t_Image) [.loc 1,.loc 1,.loc 9,.int 0,.dic [] []]),
 .ast (.loc 12) t_names (.loc 7),
 .asg 13 (.ife (.cmp .Gt (.loc 3) (.int 0)) (.sub (.sub (.loc 7) (.loc 3)) (.int 0)) (.bin .Add (.loc 1) (.call (.glo t_len) [.loc 9]))),
 .ast (.loc 12) t_pieces (.lst [.tup [.str t_x46_116_101_120_116,.str t_x97_46_99,.loc 1,.bin .Sub (.loc 13) (.loc 1)]]),
 .ifs (.cmp .Gt (.loc 3) (.int 0)) [
  .exp (.met (.att (.loc 12) t_pieces) t_append [.tup [.str t_x46_116_101_120_116_46_98,.str t_x98_46_99,.loc 13,.bin .Sub (.bin .Add (.loc 1) (.call (.glo t_len) [.loc 9])) (.loc 13)]])] [],
 .ret (.tup [.loc 6,.loc 12])]⟩
noncomputable def f_law:Fn:=⟨1,[t_script,t_well,t_many,t_rounds,t_stride,t_phase,t_base,t_is_turned,t_cut,t_ahead,t_parts,t_number,t_rows,t_image,t_machine,t_stack,t_looks,t_turn,t_row],[
 .asg 1 (.lst [.bop .Or [.comp false (.bin .Mod (.loc 0) (.int 2147483647)) [t_number] (.slc (.loc 0) (.abs) (.int 60) (.abs)),.lst [.int 3]],.int 0]),
 .asg 2 (.bin .Add (.int 1) (.call (.glo t__law_draw) [.loc 1,.int 4])),
 .swp [3,4,5] [.call (.glo t__law_draw) [.loc 1,.int 3],.bin .Add (.int 1) (.call (.glo t__law_draw) [.loc 1,.int 7]),.call (.glo t__law_draw) [.loc 1,.int 40]],
 .swp [6,7,8] [.sub (.lst [.int 4096,.int 0,.int 8192]) (.call (.glo t__law_draw) [.loc 1,.int 3]),.cmp .Eq (.call (.glo t__law_draw) [.loc 1,.int 2]) (.int 1),.call (.glo t__law_draw) [.loc 1,.bin .Add (.loc 2) (.int 1)]],
 .asg 9 (.ife (.cmp .Gt (.loc 3) (.int 0)) (.lst [.tup [.str t_addi,.int 10,.int 0,.loc 3]]) (.lst [])),
 .asg 10 (.lst [.bin .Add (.bin .Add (.loc 9) (.call (.glo t__law_call) [.loc 1,.int 1])) (.lst [.tup [.str t_addi,.int 17,.int 0,.int 93],.tup [.str t_ecall]])]),
 .fori false [11] (.call (.glo t_range) [.int 1,.bin .Add (.loc 2) (.int 1)]) [
  .exp (.met (.loc 10) t_append [.call (.glo t__law_function) [.loc 1,.loc 11,.loc 2]])],
 .upk [.nam 12,.nam 13] (.call (.glo t__law_laid) [.loc 10,.loc 6,.loc 7,.loc 8]),
 .asg 14 (.call (.glo t_Machine) [.loc 13,.int 1536]),
 .swp [15,16] [.lst [.int 0],.int 0],
 .fori false [17] (.call (.glo t_range) [.int 150]) [
  .ifs (.bop .And [.cmp .GtE (.loc 17) (.loc 5),.cmp .Eq (.bin .Mod (.bin .Sub (.loc 17) (.loc 5)) (.loc 4)) (.int 0)]) [
   .asg 16 (.bin .Add (.loc 16) (.int 1)),
   .ifs (.cmp .NotEq (.call (.glo t_calls_of) [.loc 14,.loc 13]) (.comp false (.sub (.glo t__law_NAMES) (.loc 0)) [t_number] (.slc (.loc 15) (.abs) (.abs) (.neg (.int 1))))) [
    .ret (.tt false)] [],
   .ifs (.cmp .NotEq (.call (.glo t_function_at) [.loc 13,.att (.loc 14) t_pc]) (.sub (.glo t__law_NAMES) (.sub (.loc 15) (.neg (.int 1))))) [
    .ret (.tt false)] []] [],
  .asg 18 (.sub (.loc 12) (.bin .FloorDiv (.bin .Sub (.att (.loc 14) t_pc) (.loc 6)) (.int 4))),
  .exp (.met (.loc 14) t_step []),
  .ifs (.cmp .Eq (.sub (.loc 18) (.int 0)) (.str t_jal)) [
   .exp (.met (.loc 15) t_append [.sub (.loc 18) (.int 1)])] [
   .ifs (.bop .And [.cmp .Eq (.sub (.loc 18) (.int 0)) (.str t_jalr),.cmp .Eq (.sub (.loc 18) (.int 1)) (.int 1)]) [
    .exp (.met (.loc 15) t_append [.sub (.loc 18) (.int 3)])] [
    .ifs (.cmp .Eq (.sub (.loc 18) (.int 0)) (.str t_jalr)) [
     .exp (.met (.loc 15) t_pop [])] [
     .ifs (.cmp .Eq (.sub (.loc 18) (.int 0)) (.str t_ecall)) [
      .ret (.bop .And [.att (.loc 14) t_is_done,.cmp .Eq (.loc 15) (.lst [.int 0]),.cmp .Eq (.sub (.att (.loc 14) t_registers) (.int 2)) (.bin .Add (.loc 6) (.int 1536))])] []]]],
  .ifs (.cmp .Eq (.loc 16) (.int 6)) [
   .ret (.tt true)] []],
 .ret (.tt true)]⟩
noncomputable def gloTab:List (Str × V):=[
 (t_A0,.int 10),
 (t_A7,.int 17),
 (t_AUIPC,.int 23),
 (t_BOUNDS,.sta 116),
 (t_BRANCHES,.sta 639),
 (t_EXIT,.int 93),
 (t_Entry,.sta 400),
 (t_FENCE,.int 15),
 (t_GET,.int 2),
 (t_INSTRUCTIONS,.sta 42),
 (t_Image,.sta 470),
 (t_JAL,.int 111),
 (t_LOADS,.sta 640),
 (t_LUI,.int 55),
 (t_MOST_FRAMES,.int 64),
 (t_MOST_ROWS,.int 40),
 (t_Machine,.sta 754),
 (t_NAMES_BY_BASE,.sta 146),
 (t_PLACES,.sta 93),
 (t_PUT,.int 1),
 (t_RA,.int 1),
 (t_SIGN,.int 2147483648),
 (t_SP_debug,.int 2),
 (t_SP_machine,.int 2),
 (t_STORES,.sta 646),
 (t_SYSTEM,.int 115),
 (t_TEXT,.str t_x46_116_101_120_116),
 (t_WITH_IMM,.int 19),
 (t_WITH_NUMBERS,.sta 638),
 (t_WITH_REG,.int 51),
 (t_WITH_REGISTERS,.sta 636),
 (t_WORD_MASK,.int 4294967295),
 (t__law_NAMES,.sta 759),
 (t__law_call,.sta 773),
 (t__law_draw,.sta 766),
 (t__law_filler,.sta 785),
 (t__law_frame,.sta 778),
 (t__law_function,.sta 792),
 (t__law_laid,.sta 806),
 (t__law_word,.sta 799),
 (t_bytearray,.bn .bytearray),
 (t_calls_of,.sta 453),
 (t_decode,.sta 355),
 (t_entry_of,.sta 432),
 (t_function_at,.sta 383),
 (t_function_row,.sta 376),
 (t_imm_of,.sta 137),
 (t_instruction_of,.sta 411),
 (t_int,.bn .int),
 (t_is_leaving,.sta 439),
 (t_last_at,.sta 369),
 (t_len,.bn .len),
 (t_list,.bn .list),
 (t_lowered,.sta 418),
 (t_max,.bn .max),
 (t_name_of,.sta 348),
 (t_note_number,.sta 425),
 (t_range,.bn .range),
 (t_signed,.sta 130),
 (t_signed_word,.sta 481),
 (t_step_out,.sta 446),
 (t_text_piece,.sta 362)]
noncomputable def d_INSTRUCTIONS:List (V × V):=[
 (.str t_lui,.tup [.str t_U,.int 55]),
 (.str t_auipc,.tup [.str t_U,.int 23]),
 (.str t_jal,.tup [.str t_J,.int 111]),
 (.str t_jalr,.tup [.str t_I,.int 103]),
 (.str t_beq,.tup [.str t_B,.int 99]),
 (.str t_bne,.tup [.str t_B,.int 4195]),
 (.str t_blt,.tup [.str t_B,.int 16483]),
 (.str t_bge,.tup [.str t_B,.int 20579]),
 (.str t_bltu,.tup [.str t_B,.int 24675]),
 (.str t_bgeu,.tup [.str t_B,.int 28771]),
 (.str t_lb,.tup [.str t_I,.int 3]),
 (.str t_lh,.tup [.str t_I,.int 4099]),
 (.str t_lw,.tup [.str t_I,.int 8195]),
 (.str t_lbu,.tup [.str t_I,.int 16387]),
 (.str t_lhu,.tup [.str t_I,.int 20483]),
 (.str t_sb,.tup [.str t_S,.int 35]),
 (.str t_sh,.tup [.str t_S,.int 4131]),
 (.str t_sw,.tup [.str t_S,.int 8227]),
 (.str t_addi,.tup [.str t_I,.int 19]),
 (.str t_slti,.tup [.str t_I,.int 8211]),
 (.str t_sltiu,.tup [.str t_I,.int 12307]),
 (.str t_xori,.tup [.str t_I,.int 16403]),
 (.str t_ori,.tup [.str t_I,.int 24595]),
 (.str t_andi,.tup [.str t_I,.int 28691]),
 (.str t_slli,.tup [.str t_H,.int 4115]),
 (.str t_srli,.tup [.str t_H,.int 20499]),
 (.str t_srai,.tup [.str t_H,.int 1073762323]),
 (.str t_add,.tup [.str t_R,.int 51]),
 (.str t_sub,.tup [.str t_R,.int 1073741875]),
 (.str t_sll,.tup [.str t_R,.int 4147]),
 (.str t_slt,.tup [.str t_R,.int 8243]),
 (.str t_sltu,.tup [.str t_R,.int 12339]),
 (.str t_xor,.tup [.str t_R,.int 16435]),
 (.str t_srl,.tup [.str t_R,.int 20531]),
 (.str t_sra,.tup [.str t_R,.int 1073762355]),
 (.str t_or,.tup [.str t_R,.int 24627]),
 (.str t_and,.tup [.str t_R,.int 28723]),
 (.str t_mul,.tup [.str t_R,.int 33554483]),
 (.str t_mulh,.tup [.str t_R,.int 33558579]),
 (.str t_mulhsu,.tup [.str t_R,.int 33562675]),
 (.str t_mulhu,.tup [.str t_R,.int 33566771]),
 (.str t_div,.tup [.str t_R,.int 33570867]),
 (.str t_divu,.tup [.str t_R,.int 33574963]),
 (.str t_rem,.tup [.str t_R,.int 33579059]),
 (.str t_remu,.tup [.str t_R,.int 33583155]),
 (.str t_fence,.tup [.str t_F,.int 15]),
 (.str t_ecall,.tup [.str t_E,.int 115]),
 (.str t_ebreak,.tup [.str t_E,.int 1048691])]
noncomputable def d_PLACES:List (V × V):=[
 (.str t_R,.tup [.tup [.str t_rd,.int 7],.tup [.str t_rs1,.int 15],.tup [.str t_rs2,.int 20]]),
 (.str t_I,.tup [.tup [.str t_rd,.int 7],.tup [.str t_rs1,.int 15]]),
 (.str t_H,.tup [.tup [.str t_rd,.int 7],.tup [.str t_rs1,.int 15]]),
 (.str t_S,.tup [.tup [.str t_rs1,.int 15],.tup [.str t_rs2,.int 20]]),
 (.str t_B,.tup [.tup [.str t_rs1,.int 15],.tup [.str t_rs2,.int 20]]),
 (.str t_U,.tup [.tup [.str t_rd,.int 7]]),
 (.str t_J,.tup [.tup [.str t_rd,.int 7]]),
 (.str t_F,.tup []),
 (.str t_E,.tup [])]
noncomputable def d_BOUNDS:List (V × V):=[
 (.str t_I,.tup [.int (-2048),.int 2047,.int 1]),
 (.str t_H,.tup [.int 0,.int 31,.int 1]),
 (.str t_S,.tup [.int (-2048),.int 2047,.int 1]),
 (.str t_B,.tup [.int (-4096),.int 4094,.int 2]),
 (.str t_U,.tup [.int 0,.int 1048575,.int 1]),
 (.str t_J,.tup [.int (-1048576),.int 1048574,.int 2]),
 (.str t_F,.tup [.int 0,.int 255,.int 1])]
noncomputable def d_NAMES_BY_BASE:List (V × V):=[
 (.int 55,.str t_lui),
 (.int 23,.str t_auipc),
 (.int 111,.str t_jal),
 (.int 103,.str t_jalr),
 (.int 99,.str t_beq),
 (.int 4195,.str t_bne),
 (.int 16483,.str t_blt),
 (.int 20579,.str t_bge),
 (.int 24675,.str t_bltu),
 (.int 28771,.str t_bgeu),
 (.int 3,.str t_lb),
 (.int 4099,.str t_lh),
 (.int 8195,.str t_lw),
 (.int 16387,.str t_lbu),
 (.int 20483,.str t_lhu),
 (.int 35,.str t_sb),
 (.int 4131,.str t_sh),
 (.int 8227,.str t_sw),
 (.int 19,.str t_addi),
 (.int 8211,.str t_slti),
 (.int 12307,.str t_sltiu),
 (.int 16403,.str t_xori),
 (.int 24595,.str t_ori),
 (.int 28691,.str t_andi),
 (.int 4115,.str t_slli),
 (.int 20499,.str t_srli),
 (.int 1073762323,.str t_srai),
 (.int 51,.str t_add),
 (.int 1073741875,.str t_sub),
 (.int 4147,.str t_sll),
 (.int 8243,.str t_slt),
 (.int 12339,.str t_sltu),
 (.int 16435,.str t_xor),
 (.int 20531,.str t_srl),
 (.int 1073762355,.str t_sra),
 (.int 24627,.str t_or),
 (.int 28723,.str t_and),
 (.int 33554483,.str t_mul),
 (.int 33558579,.str t_mulh),
 (.int 33562675,.str t_mulhsu),
 (.int 33566771,.str t_mulhu),
 (.int 33570867,.str t_div),
 (.int 33574963,.str t_divu),
 (.int 33579059,.str t_rem),
 (.int 33583155,.str t_remu),
 (.int 15,.str t_fence),
 (.int 115,.str t_ecall),
 (.int 1048691,.str t_ebreak)]
noncomputable def d_WITH_REGISTERS:List (V × V):=[
 (.str t_add,.sta 488),
 (.str t_sub,.sta 495),
 (.str t_sll,.sta 502),
 (.str t_slt,.sta 523),
 (.str t_sltu,.sta 530),
 (.str t_xor,.sta 565),
 (.str t_srl,.sta 509),
 (.str t_sra,.sta 516),
 (.str t_or,.sta 572),
 (.str t_and,.sta 579),
 (.str t_mul,.sta 586),
 (.str t_mulh,.sta 593),
 (.str t_mulhsu,.sta 600),
 (.str t_mulhu,.sta 607),
 (.str t_div,.sta 614),
 (.str t_divu,.sta 621),
 (.str t_rem,.sta 628),
 (.str t_remu,.sta 635)]
noncomputable def d_WITH_NUMBERS:List (V × V):=[
 (.str t_addi,.sta 488),
 (.str t_slti,.sta 523),
 (.str t_sltiu,.sta 530),
 (.str t_xori,.sta 565),
 (.str t_ori,.sta 572),
 (.str t_andi,.sta 579),
 (.str t_slli,.sta 502),
 (.str t_srli,.sta 509),
 (.str t_srai,.sta 516)]
noncomputable def d_BRANCHES:List (V × V):=[
 (.str t_beq,.sta 551),
 (.str t_bne,.sta 558),
 (.str t_blt,.sta 523),
 (.str t_bge,.sta 537),
 (.str t_bltu,.sta 530),
 (.str t_bgeu,.sta 544)]
noncomputable def d_LOADS:List (V × V):=[
 (.str t_lb,.tup [.int 1,.bool true]),
 (.str t_lh,.tup [.int 2,.bool true]),
 (.str t_lw,.tup [.int 4,.bool false]),
 (.str t_lbu,.tup [.int 1,.bool false]),
 (.str t_lhu,.tup [.int 2,.bool false])]
noncomputable def d_STORES:List (V × V):=[
 (.str t_sb,.int 1),
 (.str t_sh,.int 2),
 (.str t_sw,.int 4)]
noncomputable def sdicL:List (Nat × List (V × V)):=[(42,d_INSTRUCTIONS),(93,d_PLACES),(116,d_BOUNDS),(146,d_NAMES_BY_BASE),(636,d_WITH_REGISTERS),(638,d_WITH_NUMBERS),(639,d_BRANCHES),(640,d_LOADS),(646,d_STORES)]
noncomputable def sdicAt (a:Nat):Option (List (V × V)):=ascN sdicL a
noncomputable def lawNames:List V:=[.str t_start,.str t_f,.str t_g,.str t_h,.str t_k]
noncomputable def slstAt (sa:Nat) (ns:List Int) (a:Nat):Option (List V):=if a=sa then some (ns.map V.int) else if a=759 then some lawNames else none
noncomputable def methL:List (Nat × List (Str × Nat)):=[(400,[]),(470,[]),(754,[(t_place_of,667),(t_place_for,674),(t_load,681),(t_store,688),(t_put,702),(t_instruction_at,709),(t_jump,716),(t_step,723),(t_move,730),(t_lead,737),(t_call_out,744)])]
noncomputable def methAt (c:Nat) (n:Str):Option Nat:=match ascN methL c with
 | some l=>ascS l n
 | none=>none
noncomputable def initL:List (Nat × Nat):=[(400,397),(470,467),(754,660)]
noncomputable def initAt (c:Nat):Option Nat:=ascN initL c
noncomputable def fnL:List (Nat × Fn):=[(130,f_signed),(137,f_imm_of),(348,f_name_of),(355,f_decode),(362,f_text_piece),(369,f_last_at),(376,f_function_row),(383,f_function_at),(397,f_Entry_init),(411,f_instruction_of),(418,f_lowered),(425,f_note_number),(432,f_entry_of),(439,f_is_leaving),(446,f_step_out),(453,f_calls_of),(467,f_Image_init),(488,f_added),(495,f_subtracted),(551,f_same),(660,f_Machine_init),(667,f_Machine_place_of),(674,f_Machine_place_for),(681,f_Machine_load),(688,f_Machine_store),(702,f_Machine_put),(709,f_Machine_instruction_at),(716,f_Machine_jump),(723,f_Machine_step),(730,f_Machine_move),(737,f_Machine_lead),(744,f_Machine_call_out),(481,f_signed_word),(766,f_law_draw),(773,f_law_call),(778,f_law_frame),(785,f_law_filler),(792,f_law_function),(799,f_law_word),(806,f_law_laid),(811,f_law)]
noncomputable def fnTab (a:Nat):Option Fn:=ascN fnL a
noncomputable def gloAt (n:Str):Option V:=ascS gloTab n
noncomputable def ctx (sa:Nat) (ns:List Int):Ctx:=⟨gloAt,sdicAt,slstAt sa ns,methAt,initAt⟩
end Mine
end
section
namespace Mine
open PySem PySem.W PySem.Calls PyProof.Rows
abbrev noE:Value→Shared→Prop:=fun _ _=>False
structure Vw where
 n:Nat
 ρ:Nat→Addr
 h:Heap
noncomputable def bnV:Bn→Value
 | .len=>.builtin "len"
 | .max=>.builtin "max"
 | .range=>.type "range"
 | .list=>.type "list"
 | .bytearray=>.type "bytearray"
 | .int=>.type "int"
section
variable (w:Vw)
mutual
def VR:V→Value→Prop
 | .none,x=>x=.none
 | .bool b,x=>x=.bool b
 | .int i,x=>∃ t,x=.int i t
 | .str s,x=>∃ t,x=.str s t
 | .byt b,x=>∃ t,x=.bytes ⟨b⟩ t
 | .tup l,x=>∃ a vs,x=.ref a∧w.h.IsTuple a ⟨vs⟩∧VRs l vs
 | .rng a b,x=>∃ r t u v,x=.ref r∧IsRange w.h r a b 1 t u v
 | .sta a,x=>x=.ref a
 | .bn b,x=>x=bnV b
 | .ins c k,x=>∃ a,x=.ref a∧k<w.n∧w.h.get? a=some ⟨.ref c,some (w.ρ k),.plain,#[]⟩
 | .obj k,x=>k<w.n∧x=.ref (w.ρ k)
def VRs:List V→List Value→Prop
 | [],vs=>vs=[]
 | v::l,vs=>∃ x r,vs=x::r∧VR v x∧VRs l r
end
end
def mutCls (o:Obj):Prop:=o.cls=.type "list"∨o.cls=.type "dict"∨o.cls=.type "bytearray"
def vol (o:Obj):Prop:=¬ ((o.cls=.type "tuple"∧∃ xs m,o.data=.seq xs m)∨(o.cls=.type "range"∧∃ vs,o.data=.fields vs)∨((∃ c,o.cls=.ref c)∧o.data=.plain))
theorem vol_of_cls {o:Obj} {T:String} (hc:o.cls=.type T) (h1:T ≠ "tuple") (h2:T ≠ "range"):vol o:=by
 rintro (⟨q,-⟩ | ⟨q,-⟩ | ⟨⟨c,q⟩,-⟩) <;> have q:=hc.symm.trans q
 ·exact h1 (Value.type.inj q)
 ·exact h2 (Value.type.inj q)
 ·cases q
theorem not_mut_of_vol {o:Obj} (h:¬ vol o):¬ mutCls o:=fun q=>h (by
 rcases q with q | q | q <;> exact vol_of_cls q (by decide) (by decide))
theorem vol_of_dict {o:Obj} {es ep} (h:o.data=.dict es ep):vol o:=by
 rintro (⟨-,_,_,r⟩ | ⟨-,_,r⟩ | ⟨-,r⟩) <;> cases h.symm.trans r
structure Mono (w w':Vw):Prop where
 le:w.n≤w'.n
 eq:∀ k,k<w.n→w'.ρ k=w.ρ k
 keep:∀ a o,w.h.get? a=some o→¬ vol o→w'.h.get? a=some o
section
variable {w w':Vw}
theorem IsTuple_keep (m:Mono w w') {a:Addr} {vs:Array Value} (t:w.h.IsTuple a vs):w'.h.IsTuple a vs:=by
 obtain ⟨o,ho,hc,n,hd⟩:=t
 exact ⟨o,m.keep a o ho (fun q=>q (.inl ⟨hc,_,_,hd⟩)),hc,n,hd⟩
theorem IsRange_keep (m:Mono w w') {r:Addr} {a b c:Int} {t u v:Tok} (h:IsRange w.h r a b c t u v):IsRange w'.h r a b c t u v:=m.keep _ _ h (fun q=>q (.inr (.inl ⟨rfl,_,rfl⟩)))
theorem VR.mono (m:Mono w w') {v:V}:∀ {x:Value},VR w v x→VR w' v x:=fun {x} h =>
 V.rec (motive_1:=fun v=>∀ x,VR w v x→VR w' v x) (motive_2:=fun l=>∀ vs,VRs w l vs→VRs w' l vs) (fun _ e=>e) (fun _ _ e=>e) (fun _ _ e=>e) (fun _ _ e=>e) (fun _ _ e=>e)
  (fun l ih _ e=>by obtain ⟨a,vs,e,t,hl⟩:=e; exact ⟨a,vs,e,IsTuple_keep m t,ih vs hl⟩)
  (fun a b _ e=>by obtain ⟨r,t,u,v,e,hr⟩:=e; exact ⟨r,t,u,v,e,IsRange_keep m hr⟩)
  (fun _ _ e=>e) (fun _ _ e=>e)
  (fun c k _ e=>by obtain ⟨a,e,hk,hg⟩:=e; exact ⟨a,e,Nat.lt_of_lt_of_le hk m.le,(m.eq k hk).symm ▸ m.keep _ _ hg (fun q=>q (.inr (.inr ⟨⟨_,rfl⟩,rfl⟩)))⟩)
  (fun k _ e=>⟨Nat.lt_of_lt_of_le e.1 m.le,(m.eq k e.1).symm ▸ e.2⟩)
  (fun _ e=>e) (fun v l h1 h2 _ e=>by obtain ⟨x,r,e,g1,g2⟩:=e; exact ⟨x,r,e,h1 x g1,h2 r g2⟩) v x h
theorem VRs.mono (m:Mono w w') {l:List V}:∀ {vs:List Value},VRs w l vs→VRs w' l vs:=by
 induction l with
 | nil=>exact fun e=>e
 | cons v l ih=>intro vs e; obtain ⟨x,r,e,g1,g2⟩:=e; exact ⟨x,r,e,g1.mono m,ih g2⟩
theorem VRs.length:∀ {l:List V} {vs:List Value},VRs w l vs→vs.length=l.length
 | [],_,e=>congrArg List.length (show _=[] from e)
 | v::l,_,⟨x,r,e,_,h2⟩=>(congrArg List.length e).trans (congrArg Nat.succ (VRs.length h2))
theorem VRs.append:∀ {l r:List V} {vs ws:List Value},VRs w l vs→VRs w r ws→VRs w (l++r) (vs++ws)
 | [],_,_,_,e,e'=>(show _=[] from e) ▸ e'
 | v::l,r,_,ws,⟨x,q,e,h1,h2⟩,e'=>⟨x,q++ws,e ▸ rfl,h1,VRs.append h2 e'⟩
theorem VRs.get {l:List V}:∀ {vs:List Value} (_:VRs w l vs) {i:Nat} {v:V},l[i]?=some v→∃ x,vs[i]?=some x∧VR w v x:=by
 induction l with
 | nil=>intro vs _ i v e; exact no_ns e
 | cons v l ih =>
  intro vs h i u q
  obtain ⟨x,r,rfl,h1,h2⟩:=h
  induction i using Nat.casesOn with
  | zero=>exact ⟨x,rfl,(Option.some.inj q) ▸ h1⟩
  | succ i=>exact ih h2 (i:=i) q
theorem VRs.take {l:List V}:∀ {vs:List Value} (k:Nat),VRs w l vs→VRs w (l.take k) (vs.take k):=by
 induction l with
 | nil=>intro vs k e; exact (show _=[] from e) ▸ by rw [List.take_nil,List.take_nil]; rfl
 | cons v l ih =>
  intro vs k h
  obtain ⟨x,r,rfl,h1,h2⟩:=h
  induction k using Nat.casesOn with
  | zero=>rfl
  | succ k=>exact ⟨x,r.take k,rfl,h1,ih k h2⟩
theorem VRs.set {l:List V}:∀ {vs:List Value} (k:Nat) {v:V} {x:Value},VRs w l vs→VR w v x→VRs w (l.set k v) (vs.set k x):=by
 induction l with
 | nil=>intro vs k v x e _; exact (show _=[] from e) ▸ rfl
 | cons u l ih =>
  intro vs k v y h e'
  obtain ⟨x,r,rfl,h1,h2⟩:=h
  induction k using Nat.casesOn with
  | zero=>exact ⟨y,r,rfl,e',h2⟩
  | succ k=>exact ⟨x,r.set k y,rfl,h1,ih k h2 e'⟩
theorem VRs.reverse {l:List V}:∀ {vs:List Value} (e:VRs w l vs),VRs w l.reverse vs.reverse:=by
 induction l with
 | nil=>intro vs e; exact (show _=[] from e) ▸ rfl
 | cons v l ih =>
  intro vs h
  obtain ⟨x,r,rfl,h1,h2⟩:=h
  rw [List.reverse_cons,List.reverse_cons]
  exact (ih h2).append ⟨x,[],rfl,h1,rfl⟩
theorem VRs.replicate {v:V} {x:Value} (e:VR w v x):∀ (k:Nat),VRs w (List.replicate k v) (List.replicate k x)
 | 0=>rfl
 | k+1=>⟨x,_,rfl,e,VRs.replicate e k⟩
theorem VRs.of_get:∀ {l:List V} {vs:List Value} (e:vs.length=l.length) (g:∀ (i:Nat) (v:V) (x:Value),l[i]?=some v→vs[i]?=some x→VR w v x),VRs w l vs
 | [],vs,e,_=>List.length_eq_zero_iff.mp e
 | v::l,[],e,_=>nomatch e
 | v::l,x::vs,e,g=>⟨x,vs,rfl,g 0 v x rfl rfl,VRs.of_get (Nat.succ.inj e) fun i v x h1 h2=>g (i+1) v x h1 h2⟩
end
abbrev K2:=Int ⊕ Str
noncomputable def toK:V→Option K2
 | .int i=>some (.inl i)
 | .str s=>some (.inr s)
 | _=>none
noncomputable def isK2:K2→Value→Bool
 | .inl i,v=>v.isInt i
 | .inr s,v=>v.isStrOf s
theorem isK2_shape {k:K2} {v:Value} (h:isK2 k v=true):(∃ i t,k=.inl i∧v=.int i t)∨(∃ x t,k=.inr x∧v=.str x t):=by
 cases k with
 | inl i=>obtain ⟨t,rfl⟩:=Value.isInt_shape h; exact .inl ⟨i,t,rfl,rfl⟩
 | inr s=>obtain ⟨t,rfl⟩:=Value.isStrOf_shape h; exact .inr ⟨s,t,rfl,rfl⟩
noncomputable def kvKind (prog:Program) (w:World):KeyKind prog w K2 where
 is:=isK2
 hash:=fun k=>match k with
  | .inl i=>hashInt i
  | .inr s=>hashStr w s
 inj:=fun v a b ha hb=>by
  rcases isK2_shape ha with ⟨i,t,rfl,rfl⟩ | ⟨i,t,rfl,rfl⟩ <;> rcases isK2_shape hb with ⟨j,u,rfl,e⟩ | ⟨j,u,rfl,e⟩ <;> cases e <;> rfl
 byValue:=fun k v h=>by
  rcases isK2_shape h with ⟨i,t,rfl,rfl⟩ | ⟨i,t,rfl,rfl⟩ <;> rfl
 pyHash:=fun {A E s k v Q} hv h=>by
  rcases isK2_shape hv with ⟨i,t,rfl,rfl⟩ | ⟨i,t,rfl,rfl⟩
  ·exact wpAny_pyHash_int h
  ·exact wpAny_pyHash_str h
 eqBool:=fun {A E s a b u v Q} hu hv h=>by
  rcases isK2_shape hu with ⟨i,t,rfl,rfl⟩ | ⟨i,t,rfl,rfl⟩ <;> rcases isK2_shape hv with ⟨j,u,rfl,rfl⟩ | ⟨j,u,rfl,rfl⟩
  ·exact wpAny_eqBool_int (by rw [show (i == j)=decide ((Sum.inl i:K2)=.inl j) from Bool.eq_iff_iff.mpr (by rw [beq_iff_eq,decide_eq_true_iff]; exact ⟨fun e=>e ▸ rfl,Sum.inl.inj⟩)]; exact h)
  ·exact SeqAt.EqAt.int_str i t j u prog w E Q ((decide_eq_false (p:=(Sum.inl i:K2)=.inr j) nofun) ▸ h)
  ·exact SeqAt.EqAt.str_int i t j u prog w E Q ((decide_eq_false (p:=(Sum.inr i:K2)=.inl j) nofun) ▸ h)
  ·exact wpAny_eqBool_str (by rw [show decide (i=j)=decide ((Sum.inr i:K2)=.inr j) from Bool.eq_iff_iff.mpr (by rw [decide_eq_true_iff,decide_eq_true_iff]; exact ⟨fun e=>e ▸ rfl,Sum.inr.inj⟩)]; exact h)
 «strs»:=fun k x t v h=>by
  rcases isK2_shape h with ⟨i,u,rfl,e⟩ | ⟨i,u,rfl,e⟩ <;> cases e
  cases v <;> rfl
end Mine
end
section
namespace Mine
open PySem PySem.W PySem.Calls PyProof.Rows
def PR (w:Vw):List (V × V)→List (K2 × Value)→Prop
 | [],l=>l=[]
 | (k,v)::d,l=>∃ k' x r,l=(k',x)::r∧toK k=some k'∧VR w v x∧PR w d r
abbrev Vw.b (h:Heap):Vw:=⟨0,fun _=>0,h⟩
structure Wd (prog:Program) (w:World) (h₀:Heap) (K:Frag) (g b:Addr) (a:Nat) (ns:List Int):Prop where
 KI:K.In h₀
 ga:∀ c,insCls c=true→findIn K (.ref c) "__getattribute__"=some (some (.builtin "object.__getattribute__"))
 gh:∀ c,insCls c=true→findIn K (.ref c) "__getattr__"=some none
 sa:∀ c,insCls c=true→findIn K (.ref c) "__setattr__"=some (some (.builtin "object.__setattr__"))
 dct:∀ c,insCls c=true→hasDictIn K c=true
 over:∀ c,insCls c=true→plainOver K c=true
 attr:∀ c n,insCls c=true→attNames.contains n=true→findIn K (.ref c) n=some none
 meth:∀ c n f,methAt c n=some f→insCls c=true∧findIn K (.ref c) n=some (some (.ref f))∧typeIn K (.ref f)=some (.type "function")
 sysm:∃ o,h₀.get? sysModules=some o
 sdic:∀ t d,sdicAt t=some d→(t == sysModules)=false∧∃ kvs,h₀.DictOf (kvKind prog w) t kvs∧PR (.b h₀) d kvs
 slst:∀ t l,slstAt a ns t=some l→∃ vs,h₀.IsList t ⟨vs⟩∧VRs (.b h₀) l vs
 glo:∀ x v,gloAt x=some v→∃ val,VR (.b h₀) v val∧∃ mg,h₀.Ns g mg∧(mg x=some val∨(mg x=none∧∃ mb,h₀.Ns b mb∧mb x=some val))
 lim:h₀.NoLimit
 en:∃ mg,h₀.Ns g mg∧mg sEnum=none∧∃ mb,h₀.Ns b mb∧mb sEnum=some (.type "enumerate")
 init:∀ a i,initAt a=some i→keepIn K (.ref a)=true ∧
  ∃ nm q Nn bs sn sub col dd k0 k1 k2 k3 k5 mN oI,h₀.get? a=some (excClassObj nm q a Nn bs [.type "object"] true sn sub false col dd k0 k1 k2 k3 k5 "object.__new__")∧h₀.Ns Nn mN∧mN "__init__"=some (.ref i)∧h₀.get? i=some oI∧oI.cls=.type "function"
structure FnB (h₀:Heap) (K:Frag) (g b:Addr) (f:Nat) (d:Fn):Prop where
 keep:keepIn K (.ref f)=true
 ok:∃ dc fd sl body,h₀.get? f=some ⟨.type "function",dc,.func fd,sl⟩∧fd.scope.isCoroutine=false∧fd.scope.isGenerator=false∧fd.scope.kind=.function∧fd.body=.stmts (sps d.names d.body body)∧okSs fd.scope d.names d.body body=true∧fd.closure=[]∧h₀.CodeRec fd.code fd.qualname ∧
  (∀ args:List Value,args.length=d.arity→bindArgs fd ⟨args,[]⟩=pure ((d.names.take d.arity).zip args))∧(∀ x ∈ fd.scope.names,x.2 ≠ .cell)∧(∀ x ∈ d.names,fd.scope.names.lookup x=some .local)∧d.names.Nodup∧fd.globals=g∧fd.builtins=b
structure Cx where
 a:Nat
 ns:List Int
 prog:Program
 w:World
 h₀:Heap
 K:Frag
 g:Addr
 b:Addr
 F:sdicAt a=none∧a ≠ 759
 W:Wd prog w h₀ K g b a ns
 FB:∀ f d,fnTab f=some d→FnB h₀ K g b f d
noncomputable abbrev Cx.kv (c:Cx):KeyKind c.prog c.w K2:=kvKind c.prog c.w
noncomputable abbrev Cx.M (c:Cx):Model:=model c.prog c.w
section
variable {c:Cx} {w w':Vw}
theorem PR.mono (m:Mono w w'):∀ {d:List (V × V)} {es:List (K2 × Value)},PR w d es→PR w' d es
 | [],_,e=>e
 | (k,v)::d,_,⟨k',x,r,e,h1,h2,h3⟩=>⟨k',x,r,e,h1,h2.mono m,PR.mono m h3⟩
variable (c w)
def OR (a:Addr):MO→Prop
 | .lst l=>∃ vs m,w.h.get? a=some { cls:=.type "list",dict:=none,data:=.seq ⟨vs⟩ m,slots:=#[] }∧VRs w l vs
 | .dic d=>∃ kvs,w.h.DictOf c.kv a kvs∧PR w d kvs
 | .bya b=>∃ sl,w.h.get? a=some { cls:=.type "bytearray",dict:=none,data:=.bytearray ⟨b⟩ 0,slots:=sl }
variable {c w}
theorem OR.mono (m:Mono w w') {a:Addr} (ha:∀ o,w.h.get? a=some o→w'.h.get? a=some o) {x:MO} (h:OR c w a x):OR c w' a x:=by
 induction x using MO.casesOn with
 | lst l=>exact h.imp fun vs h=>h.imp fun n h=>⟨ha _ h.1,h.2.mono m⟩
 | dic d=>exact h.imp fun kvs h=>⟨h.1.imp fun o h=>h.imp fun es h=>h.imp fun ep h=>⟨ha o h.1,h.2⟩,h.2.mono m⟩
 | bya b=>exact h.imp fun sl h=>ha _ h
theorem OR.get {a:Addr}:∀ {x:MO},OR c w a x→∃ o,w.h.get? a=some o∧mutCls o
 | .lst l,⟨_,_,ho,_⟩=>⟨_,ho,.inl rfl⟩
 | .dic d,⟨_,⟨o,_,_,ho,h1,_⟩,_⟩=>⟨o,ho,.inr (.inl h1.1)⟩
 | .bya b,⟨_,ho⟩=>⟨_,ho,.inr (.inr rfl)⟩
end
structure Rep (c:Cx) (H:MH) (ρ:Nat→Addr) (s:Shared):Prop where
 base:∀ b o,c.h₀.get? b=some o→s.heap.get? b=some o
 obj:∀ k,k<H.n→∃ x,H.o k=some x∧OR c ⟨H.n,ρ,s.heap⟩ (ρ k) x
 dom:∀ k x,H.o k=some x→k<H.n
 new:∀ k,k<H.n→c.h₀.get? (ρ k)=none
 inj:∀ j k,j<H.n→k<H.n→ρ j=ρ k→j=k
 gens:s.gens=#[]
structure P (c:Cx) (H:MH) where
 ρ:Nat→Addr
 s:Shared
 R:Rep c H ρ s
abbrev P.w {c:Cx} {H:MH} (p:P c H):Vw:=⟨H.n,p.ρ,p.s.heap⟩
abbrev P.h {c:Cx} {H:MH} (p:P c H):Heap:=p.s.heap
structure Ext {c:Cx} {H H':MH} (X:Addr→Prop) (p:P c H) (q:P c H'):Prop where
 le:H.n≤H'.n
 eq:∀ k,k<H.n→q.ρ k=p.ρ k
 keep:∀ b o,p.h.get? b=some o→(∀ k,k<H.n→p.ρ k ≠ b)→¬ X b→q.h.get? b=some o
 alive:∀ b o,p.h.get? b=some o→∃ o',q.h.get? b=some o'
 fresh:∀ k,H.n≤k→k<H'.n→p.h.get? (q.ρ k)=none
 os:q.s.os=p.s.os
abbrev noX:Addr→Prop:=fun _=>False
abbrev onlyX (a:Addr):Addr→Prop:=fun b=>b=a
section
variable {c:Cx} {H H' H'':MH} {p:P c H} {q:P c H'} {r:P c H''} {X Y:Addr→Prop}
theorem P.mutAt (p:P c H) {k:Nat} (hk:k<H.n):∃ o,p.h.get? (p.ρ k)=some o∧mutCls o :=
 let ⟨_,_,hx⟩:=p.R.obj k hk
 hx.get
theorem P.away (p:P c H) {a:Addr} {o:Obj} (ho:p.h.get? a=some o) (hm:¬ mutCls o):∀ k,k<H.n→p.ρ k ≠ a:=by
 rintro k hk rfl
 obtain ⟨o',ho',hm'⟩:=p.mutAt hk
 exact hm (Option.some.inj (ho'.symm.trans ho) ▸ hm')
theorem P.awayNone (p:P c H) {a:Addr} (ha:p.h.get? a=none):∀ k,k<H.n→p.ρ k ≠ a:=by
 rintro k hk rfl
 obtain ⟨o',ho',hm'⟩:=p.mutAt hk
 cases ho'.symm.trans ha
theorem P.free (p:P c H) {a:Addr} (ha:p.h.get? a=none):c.h₀.get? a=none:=by
 cases e:c.h₀.get? a with
 | none=>rfl
 | some o=>cases (p.R.base _ _ e).symm.trans ha
theorem size_none (h:Heap):h.get? h.objs.size=none:=Heap.get?_none_of_le (Nat.le_refl _)
theorem Ext.mono (e:Ext X p q) (hX:∀ a o,X a→p.h.get? a=some o→vol o):Mono p.w q.w :=
 ⟨e.le,e.eq,fun a o ho hm=>e.keep a o ho (p.away ho (not_mut_of_vol hm)) fun hx=>hm (hX a o hx ho)⟩
theorem Ext.m (e:Ext noX p q):Mono p.w q.w:=e.mono fun _ _ x=>x.elim
theorem Ext.refl (X:Addr→Prop) (p:P c H):Ext X p p :=
 ⟨Nat.le_refl _,fun _ _=>rfl,fun _ _ e _ _=>e,fun _ o e=>⟨o,e⟩,fun _ h1 h2=>absurd h2 (Nat.not_lt.mpr h1),rfl⟩
theorem Ext.ne_fresh (e:Ext X p q) {b:Addr} {o:Obj} (hb:p.h.get? b=some o) (ha:∀ k,k<H.n→p.ρ k ≠ b):∀ k,k<H'.n→q.ρ k ≠ b:=fun k hk z =>
 if h:k<H.n then ha k h ((e.eq k h).symm.trans z) else nomatch (z ▸ e.fresh k (Nat.not_lt.mp h) hk).symm.trans hb
theorem Ext.none_of (e:Ext X p q) {a:Addr} (h:q.h.get? a=none):p.h.get? a=none:=by
 cases g:p.h.get? a with
 | none=>rfl
 | some o =>
  obtain ⟨o',ho'⟩:=e.alive a o g
  cases ho'.symm.trans h
theorem Ext.trans (e:Ext X p q) (e':Ext X q r):Ext X p r :=
 ⟨Nat.le_trans e.le e'.le,fun k hk=>(e'.eq k (Nat.lt_of_lt_of_le hk e.le)).trans (e.eq k hk),
  fun b o hb ha hx=>e'.keep b o (e.keep b o hb ha hx) (e.ne_fresh hb ha) hx,
  fun b o hb=>(e.alive b o hb).elim fun o' h'=>e'.alive b o' h',
  fun k h1 h2=>if h:k<H'.n then (e'.eq k h).symm ▸ e.fresh k h1 h else e.none_of (e'.fresh k (Nat.not_lt.mp h) h2),
  e'.os.trans e.os⟩
theorem Ext.drop (e:Ext X p q) (h:∀ a,X a→Y a∨p.h.get? a=none):Ext Y p q :=
 ⟨e.le,e.eq,fun b o hb ha hy=>e.keep b o hb ha fun hx=>(h b hx).elim hy fun q=>(nomatch q.symm.trans hb),e.alive,e.fresh,e.os⟩
theorem Ext.lift (e:Ext noX p q):Ext X p q:=e.drop fun _ q=>q.elim
theorem Rep.others (p:P c H) {h':Heap} (t:Nat) (ha:∀ a,X a→(∀ k,k<H.n→p.ρ k ≠ a)∧c.h₀.get? a=none∧∀ o,p.h.get? a=some o→vol o) (hs:∀ b o,¬ X b→p.h.get? b=some o→h'.get? b=some o) :
  Rep c H p.ρ { p.s with heap:=h',toks:=t } :=
 ⟨fun b o e=>hs b o (fun q=>(nomatch (ha b q).2.1.symm.trans e)) (p.R.base b o e),
  fun k hkn=>let ⟨y,hy,ho⟩:=p.R.obj k hkn
  ⟨y,hy,ho.mono (w:=p.w) (w':=⟨H.n,p.ρ,h'⟩) ⟨Nat.le_refl _,fun _ _=>rfl,fun b o e hm=>hs b o (fun q=>hm ((ha b q).2.2 o e)) e⟩ fun o e=>hs _ o (fun q=>(ha _ q).1 k hkn rfl) e⟩,p.R.dom,p.R.new,p.R.inj,p.R.gens⟩
abbrev P.others (p:P c H) {h':Heap} (t:Nat) (ha:∀ a,X a→(∀ k,k<H.n→p.ρ k ≠ a)∧c.h₀.get? a=none∧∀ o,p.h.get? a=some o→vol o) (hs:∀ b o,¬ X b→p.h.get? b=some o→h'.get? b=some o):P c H:=⟨p.ρ,_,Rep.others p t ha hs⟩
theorem Ext.others (p:P c H) {h':Heap} {t:Nat} {R:Rep c H p.ρ { p.s with heap:=h',toks:=t }} (hs:∀ b o,¬ X b→p.h.get? b=some o→h'.get? b=some o) (hal:∀ b o,p.h.get? b=some o→∃ o',h'.get? b=some o'):Ext X p ⟨p.ρ,_,R⟩ :=
 ⟨Nat.le_refl _,fun _ _=>rfl,fun b o e _ hx=>hs b o hx e,hal,fun _ h1 h2=>absurd h2 (Nat.not_lt.mpr h1),rfl⟩
abbrev P.grown (p:P c H) {h':Heap} (t:Nat) (hk:∀ b o,p.h.get? b=some o→h'.get? b=some o):P c H:=p.others (X:=noX) t (fun _ q=>q.elim) fun b o _ e=>hk b o e
theorem Ext.grown (p:P c H) {h':Heap} (t:Nat) (hk:∀ b o,p.h.get? b=some o→h'.get? b=some o):Ext noX p (p.grown t hk):=.others p (fun b o _ e=>hk b o e) fun b o e=>⟨o,hk b o e⟩
abbrev P.toks (p:P c H) (t:Nat):P c H:=p.grown (h':=p.h) t fun _ _ e=>e
theorem Ext.toks (p:P c H) (t:Nat):Ext noX p (p.toks t):=.grown p t _
noncomputable def adv (p:P c H) (a:Addr):Nat→Addr:=fun k=>if k=H.n then a else p.ρ k
theorem adv_lt {k:Nat} {a:Addr} (h:k<H.n):adv p a k=p.ρ k:=if_neg (Nat.ne_of_lt h)
theorem adv_new {a:Addr}:adv p a H.n=a:=if_pos rfl
theorem lt_new {k:Nat} {x:MO} (h:k<(H.new x).n):k<H.n∨k=H.n:=Nat.lt_or_eq_of_le (Nat.le_of_lt_succ h)
theorem new_o (H:MH) (x:MO):(H.new x).o H.n=some x:=if_pos rfl
theorem Rep.alloc (p:P c H) {h':Heap} {D:Addr} {x:MO} (t:Nat) (hk:∀ b o,p.h.get? b=some o→h'.get? b=some o) (hD:p.h.get? D=none) (hx:OR c ⟨H.n,p.ρ,h'⟩ D x):Rep c (H.new x) (adv p D) { p.s with heap:=h',toks:=t }:=by
 have m':Mono ⟨H.n,p.ρ,h'⟩ ⟨(H.new x).n,adv p D,h'⟩:=⟨Nat.le_succ _,fun k hk=>adv_lt hk,fun a o e _=>e⟩
 have m:Mono p.w ⟨(H.new x).n,adv p D,h'⟩:=⟨Nat.le_succ _,fun k hk=>adv_lt hk,fun a o e _=>hk a o e⟩
 refine ⟨fun b o e=>hk b o (p.R.base b o e),fun k hkn=>?_,fun k y e=>?_,fun k hkn=>?_,fun j k hj hk e=>?_,p.R.gens⟩
 ·rcases lt_new hkn with q | rfl
  ·obtain ⟨y,hy,ho⟩:=p.R.obj k q
   exact ⟨y,(if_neg (Nat.ne_of_lt q)).trans hy,(adv_lt q).symm ▸ ho.mono m fun o e=>hk _ o e⟩
  ·exact ⟨x,new_o H x,(adv_new (p:=p) (a:=D)).symm ▸ hx.mono m' fun o e=>e⟩
 ·exact if q:k=H.n then q ▸ Nat.lt_succ_self _ else Nat.lt_succ_of_lt (p.R.dom k y ((if_neg q).symm.trans e))
 ·rcases lt_new hkn with q | rfl
  ·exact (adv_lt q).symm ▸ p.R.new k q
  ·exact (adv_new (p:=p) (a:=D)).symm ▸ p.free hD
 ·rcases lt_new hj with q | rfl <;> rcases lt_new hk with r | rfl
  ·exact p.R.inj j k q r ((adv_lt q).symm.trans (e.trans (adv_lt r)))
  ·exact absurd ((adv_lt q).symm.trans (e.trans adv_new)) (p.awayNone hD j q)
  ·exact absurd ((adv_lt r).symm.trans (e.symm.trans adv_new)) (p.awayNone hD k r)
  ·rfl
noncomputable abbrev P.alloc (p:P c H) {h':Heap} {D:Addr} {x:MO} (t:Nat) (hk:∀ b o,p.h.get? b=some o→h'.get? b=some o) (hD:p.h.get? D=none) (hx:OR c ⟨H.n,p.ρ,h'⟩ D x):P c (H.new x):=⟨adv p D,_,Rep.alloc p t hk hD hx⟩
theorem Ext.alloc (p:P c H) {h':Heap} {D:Addr} {x:MO} {t:Nat} (hk:∀ b o,p.h.get? b=some o→h'.get? b=some o) (hD:p.h.get? D=none) (hx:OR c ⟨H.n,p.ρ,h'⟩ D x):Ext noX p (p.alloc t hk hD hx) :=
 ⟨Nat.le_succ _,fun k hk=>adv_lt hk,fun b o e _ _=>hk b o e,fun b o e=>⟨o,hk b o e⟩,fun k h1 h2=>by
  rcases lt_new h2 with q | rfl
  ·exact absurd q (Nat.not_lt.mpr h1)
  ·exact (congrArg p.h.get? adv_new).trans hD,rfl⟩
theorem VR.new (p:P c H) {h:Heap} {D:Addr} {x:MO}:VR ⟨(H.new x).n,adv p D,h⟩ (.obj H.n) (.ref D):=⟨Nat.lt_succ_self _,congrArg Value.ref adv_new.symm⟩
theorem Rep.put (p:P c H) {h':Heap} {j:Nat} {x:MO} (t:Nat) (hj:j<H.n) (hs:∀ b o,b ≠ p.ρ j→p.h.get? b=some o→h'.get? b=some o) (hx:OR c ⟨H.n,p.ρ,h'⟩ (p.ρ j) x):Rep c (H.put j x) p.ρ { p.s with heap:=h',toks:=t }:=by
 obtain ⟨oj,hoj,hmj⟩:=p.mutAt hj
 have m:Mono p.w ⟨H.n,p.ρ,h'⟩:=⟨Nat.le_refl _,fun k hk=>rfl,fun a o e hm=>hs a o (fun q=>not_mut_of_vol hm (Option.some.inj ((q ▸ hoj).symm.trans e) ▸ hmj)) e⟩
 refine ⟨fun b o e=>hs b o (fun q=>nomatch (q ▸ p.R.new j hj).symm.trans e) (p.R.base b o e),fun k hkn=>?_,fun k y e=>?_,p.R.new,p.R.inj,p.R.gens⟩
 ·by_cases q:k=j
  ·exact q.symm ▸ ⟨x,if_pos rfl,hx⟩
  ·obtain ⟨y,hy,ho⟩:=p.R.obj k hkn
   exact ⟨y,(if_neg q).trans hy,ho.mono m fun o e=>hs _ o (fun r=>q (p.R.inj k j hkn hj r)) e⟩
 ·exact if q:k=j then q ▸ hj else p.R.dom k y ((if_neg q).symm.trans e)
abbrev P.put (p:P c H) {h':Heap} {j:Nat} {x:MO} (t:Nat) (hj:j<H.n) (hs:∀ b o,b ≠ p.ρ j→p.h.get? b=some o→h'.get? b=some o) (hx:OR c ⟨H.n,p.ρ,h'⟩ (p.ρ j) x):P c (H.put j x):=⟨p.ρ,_,Rep.put p t hj hs hx⟩
theorem Ext.put (p:P c H) {h':Heap} {j:Nat} {x:MO} {t:Nat} (hj:j<H.n) (hs:∀ b o,b ≠ p.ρ j→p.h.get? b=some o→h'.get? b=some o) (hx:OR c ⟨H.n,p.ρ,h'⟩ (p.ρ j) x):Ext noX p (p.put t hj hs hx) :=
 ⟨Nat.le_refl _,fun _ _=>rfl,fun b o e ha _=>hs b o (fun q=>ha j hj q.symm) e,fun b o e=>by
  by_cases q:b=p.ρ j
  ·obtain ⟨o',ho',_⟩:=hx.get
   exact ⟨o',q ▸ ho'⟩
  ·exact ⟨o,hs b o q e⟩,fun k h1 h2=>absurd h2 (Nat.not_lt.mpr h1),rfl⟩
theorem Mono.put (p:P c H) {h':Heap} {j:Nat} (hj:j<H.n) (hs:∀ b o,b ≠ p.ρ j→p.h.get? b=some o→h'.get? b=some o):Mono p.w ⟨H.n,p.ρ,h'⟩:=by
 obtain ⟨oj,hoj,hmj⟩:=p.mutAt hj
 exact ⟨Nat.le_refl _,fun k hk=>rfl,fun a o e hm=>hs a o (fun q=>not_mut_of_vol hm (Option.some.inj ((q ▸ hoj).symm.trans e) ▸ hmj)) e⟩
theorem P.lst (p:P c H) {k:Nat} {l:List V} (e:H.o k=some (.lst l)):k<H.n∧∃ vs m,p.h.get? (p.ρ k)=some { cls:=.type "list",dict:=none,data:=.seq ⟨vs⟩ m,slots:=#[] }∧VRs p.w l vs:=by
 obtain ⟨x,hx,ho⟩:=p.R.obj k (p.R.dom k _ e)
 cases hx.symm.trans e
 exact ⟨p.R.dom k _ e,ho⟩
theorem P.isl (p:P c H) {k:Nat} {l:List V} (e:H.o k=some (.lst l)):∃ vs,p.h.IsList (p.ρ k) ⟨vs⟩∧VRs p.w l vs:=by
 obtain ⟨_,vs,m,h1,h2⟩:=p.lst e
 exact ⟨vs,⟨_,h1,rfl,m,rfl⟩,h2⟩
theorem P.dic (p:P c H) {k:Nat} {d:List (V × V)} (e:H.o k=some (.dic d)):k<H.n∧∃ kvs,p.h.DictOf c.kv (p.ρ k) kvs∧PR p.w d kvs:=by
 obtain ⟨x,hx,ho⟩:=p.R.obj k (p.R.dom k _ e)
 cases hx.symm.trans e
 exact ⟨p.R.dom k _ e,ho⟩
theorem P.bya (p:P c H) {k:Nat} {b:List UInt8} (e:H.o k=some (.bya b)):k<H.n∧∃ sl,p.h.get? (p.ρ k)=some { cls:=.type "bytearray",dict:=none,data:=.bytearray ⟨b⟩ 0,slots:=sl }:=by
 obtain ⟨x,hx,ho⟩:=p.R.obj k (p.R.dom k _ e)
 cases hx.symm.trans e
 exact ⟨p.R.dom k _ e,ho⟩
theorem Mono.base (p:P c H):Mono (.b c.h₀) p.w:=⟨Nat.zero_le _,fun k hk=>absurd hk (Nat.not_lt_zero _),fun a o e _=>p.R.base a o e⟩
theorem P.notSys (p:P c H) {k:Nat} (hk:k<H.n):(p.ρ k == sysModules)=false:=by
 obtain ⟨o,ho⟩:=c.W.sysm
 exact beq_eq_false_iff_ne.2 fun e=>nomatch (e ▸ p.R.new k hk).symm.trans ho
theorem P.sdic (p:P c H) {t:Nat} {d:List (V × V)} (e:sdicAt t=some d):(t == sysModules)=false∧∃ kvs,p.h.DictOf c.kv t kvs∧PR p.w d kvs:=by
 obtain ⟨h1,kvs,⟨o,es,ep,ho,r⟩,h3⟩:=c.W.sdic t d e
 exact ⟨h1,kvs,⟨o,es,ep,p.R.base _ _ ho,r⟩,h3.mono (.base p)⟩
theorem P.slst (p:P c H) {t:Nat} {l:List V} (e:slstAt c.a c.ns t=some l):∃ vs,p.h.IsList t ⟨vs⟩∧VRs p.w l vs:=by
 obtain ⟨vs,⟨o,ho,r⟩,h3⟩:=c.W.slst t l e
 exact ⟨vs,⟨o,p.R.base _ _ ho,r⟩,h3.mono (.base p)⟩
end
end Mine
end
section
namespace Mine
open PySem PySem.W PySem.Calls PyProof.Rows
section
variable {w:Vw}
theorem isKey_inv {v:V} (e:isKey v=true):(∃ i,v=.int i)∨∃ s,v=.str s:=by
 cases v <;> first | exact .inl ⟨_,rfl⟩ | exact .inr ⟨_,rfl⟩ | cases e
theorem isKey_toK {v:V} (e:isKey v=true):∃ k,toK v=some k:=by
 rcases isKey_inv e with ⟨i,rfl⟩ | ⟨i,rfl⟩ <;> exact ⟨_,rfl⟩
theorem toK_inv {v:V} {k:K2} (e:toK v=some k):(∃ i,v=.int i∧k=.inl i)∨∃ s,v=.str s∧k=.inr s:=by
 cases v <;> first | exact .inl ⟨_,rfl,(Option.some.inj e).symm⟩ | exact .inr ⟨_,rfl,(Option.some.inj e).symm⟩ | cases e
theorem VR.key {v:V} {x:Value} {k:K2} (e:toK v=some k) (hv:VR w v x):isK2 k x=true:=by
 rcases toK_inv e with ⟨i,rfl,rfl⟩ | ⟨i,rfl,rfl⟩ <;> obtain ⟨t,rfl⟩:=hv <;> exact beq_self_eq_true i
theorem keyEq_of {a b:V} {i j:K2} (ha:toK a=some i) (hb:toK b=some j):(keyEq a b=true∧i=j)∨(keyEq a b=false∧i ≠ j):=by
 rcases toK_inv ha with ⟨x,rfl,rfl⟩ | ⟨x,rfl,rfl⟩ <;> rcases toK_inv hb with ⟨y,rfl,rfl⟩ | ⟨y,rfl,rfl⟩
 ·exact if h:x=y then .inl ⟨beq_iff_eq.2 h,h ▸ rfl⟩ else .inr ⟨beq_eq_false_iff_ne.2 h,fun e=>h (Sum.inl.inj e)⟩
 ·exact .inr ⟨rfl,nofun⟩
 ·exact .inr ⟨rfl,nofun⟩
 ·exact if h:x=y then .inl ⟨beq_iff_eq.2 h,h ▸ rfl⟩ else .inr ⟨beq_eq_false_iff_ne.2 h,fun e=>h (Sum.inr.inj e)⟩
theorem valueAt_cons {k' k:K2} {x:Value} {r:List (K2 × Value)}:valueAt ((k',x)::r) k=if k'=k then some x else valueAt r k:=by
 unfold valueAt
 rw [List.find?_cons]
 by_cases q:k'=k
 ·rw [if_pos q,decide_eq_true (show (k',x).1=k from q)]; rfl
 ·rw [if_neg q,decide_eq_false (show ¬ (k',x).1=k from q)]
theorem dget_cons {a v k:V} {d:List (V × V)}:dget ((a,v)::d) k=if keyEq a k=true then some v else dget d k:=rfl
theorem dput_cons {a x k v:V} {d:List (V × V)}:dput ((a,x)::d) k v=if keyEq a k=true then (a,v)::d else (a,x)::dput d k v:=rfl
theorem both {f:Bool→Bool→Bool} {a b:Option Bool} {c:Bool} (e:(a.bind fun x=>b.bind fun y=>some (f x y))=some c):∃ x y,a=some x∧b=some y∧f x y=c:=by
 induction a using Option.casesOn with
 | none=>cases e
 | some x=>induction b using Option.casesOn with
  | none=>cases e
  | some y=>exact ⟨x,y,rfl,rfl,Option.some.inj e⟩
theorem PR.at {key:V} {k:K2} (hk:toK key=some k):∀ {d:List (V × V)} {kvs:List (K2 × Value)} (_:PR w d kvs),(∃ v x,dget d key=some v∧valueAt kvs k=some x∧VR w v x)∨(dget d key=none∧valueAt kvs k=none)
 | [],_,e=>.inr ⟨rfl,(show _=[] from e) ▸ rfl⟩
 | (a,v)::d,_,⟨k',x,r,e,h1,h2,h3⟩=>by
  subst e
  rw [valueAt_cons]
  rw [dget_cons]
  rcases keyEq_of h1 hk with ⟨q,q2⟩ | ⟨q,q2⟩
  ·rw [if_pos q,if_pos q2]
   exact .inl ⟨v,x,rfl,rfl,h2⟩
  ·rw [q,if_neg Bool.false_ne_true,if_neg q2]
   exact PR.at hk h3
theorem PR.hit {key:V} {k:K2} (hk:toK key=some k) {d:List (V × V)} {kvs:List (K2 × Value)} (p:PR w d kvs) {v:V} (e:dget d key=some v):∃ x,valueAt kvs k=some x∧VR w v x:=by
 rcases PR.at hk p with ⟨v',x,q,h1,h2⟩ | ⟨q,h1⟩
 ·exact ⟨x,h1,Option.some.inj (q.symm.trans e) ▸ h2⟩
 ·cases q.symm.trans e
theorem PR.miss {key:V} {k:K2} (hk:toK key=some k) {d:List (V × V)} {kvs:List (K2 × Value)} (p:PR w d kvs) (e:dget d key=none):valueAt kvs k=none:=by
 rcases PR.at hk p with ⟨v',x,q,h1,h2⟩ | ⟨q,h1⟩
 ·cases q.symm.trans e
 ·exact h1
theorem PR.isSome {key:V} {k:K2} (hk:toK key=some k) {d:List (V × V)} {kvs:List (K2 × Value)} (p:PR w d kvs):(valueAt kvs k).isSome=(dget d key).isSome:=by
 rcases PR.at hk p with ⟨v',x,q,h1,h2⟩ | ⟨q,h1⟩ <;> rw [q,h1] <;> rfl
theorem PR.length:∀ {d:List (V × V)} {kvs:List (K2 × Value)} (_:PR w d kvs),kvs.length=d.length
 | [],_,e=>congrArg List.length (show _=[] from e)
 | (a,v)::d,_,⟨k',x,r,e,h1,h2,h3⟩=>(congrArg List.length e).trans (congrArg Nat.succ (PR.length h3))
theorem stored_cons_ne {k' k:K2} {x v:Value} {r:List (K2 × Value)} (q:k' ≠ k):stored ((k',x)::r) k v=(k',x)::stored r k v:=by
 unfold stored
 rw [List.any_cons,decide_eq_false (show ¬ (k',x).1=k from q),Bool.false_or,List.map_cons,if_neg (show ¬ (k',x).1=k from q)]
 split <;> rfl
theorem stored_cons_eq {k:K2} {x v:Value} {r:List (K2 × Value)} (h:k ∉ r.map (·.1)):stored ((k,x)::r) k v=(k,v)::r:=by
 unfold stored
 rw [List.any_cons,decide_eq_true (show (k,x).1=k from rfl),Bool.true_or,if_pos rfl,List.map_cons,if_pos (show (k,x).1=k from rfl),map_store_of_not_mem r _ v h]
theorem PR.put {key v:V} {k:K2} {x:Value} (hk:toK key=.some k) (hv:VR w v x):∀ {d:List (V × V)} {kvs:List (K2 × Value)} (_:PR w d kvs) (_:(kvs.map (·.1)).Nodup),PR w (dput d key v) (stored kvs k x)
 | [],_,e,_=>(show _=[] from e) ▸ ⟨k,x,[],rfl,hk,hv,rfl⟩
 | (a,u)::d,_,⟨k',y,r,e,h1,h2,h3⟩,hn=>by
  subst e
  rw [List.map_cons,List.nodup_cons] at hn
  rw [dput_cons]
  rcases keyEq_of h1 hk with ⟨q,rfl⟩ | ⟨q,q2⟩
  ·rw [if_pos q,stored_cons_eq hn.1]
   exact ⟨k',x,r,rfl,h1,hv,h3⟩
  ·rw [q,if_neg Bool.false_ne_true,stored_cons_ne q2]
   exact ⟨k',y,_,rfl,h1,h2,PR.put hk hv h3 hn.2⟩
theorem dict_nodup {prog:Program} {wo:World} {h:Heap} {a:Addr} {kvs:List (K2 × Value)} (hm:h.DictOf (kvKind prog wo) a kvs):(kvs.map (·.1)).Nodup:=by
 obtain ⟨_,_,_,_,_,_,_,_,hn⟩:=hm
 exact hn
theorem dput_length:∀ (d:List (V × V)) (k v:V),(dput d k v).length≤d.length+1
 | [],_,_=>Nat.le_refl _
 | (a,x)::r,k,v=>by
  rw [dput_cons]
  split
  ·exact Nat.le_succ _
  ·exact Nat.succ_le_succ (dput_length r k v)
theorem flat_inv {a b:V} {c:Bool} (e:flatEq a b=some c):(∃ i j,a=.int i∧b=.int j∧(i == j)=c)∨∃ i j,a=.str i∧b=.str j∧(i == j)=c:=by
 induction a using V.casesOn with
 | int i=>induction b using V.casesOn <;> first | exact .inl ⟨_,_,rfl,rfl,Option.some.inj e⟩ | exact no_ns e
 | str i=>induction b using V.casesOn <;> first | exact .inr ⟨_,_,rfl,rfl,Option.some.inj e⟩ | exact no_ns e
 | _=>exact no_ns e
theorem flat_at {a b:V} {x y:Value} {c:Bool} (e:flatEq a b=some c) (ha:VR w a x) (hb:VR w b y) (A:Around) (s:Shared):SeqAt.EqAt A s x y c:=by
 rcases flat_inv e with ⟨i,j,rfl,rfl,rfl⟩ | ⟨i,j,rfl,rfl,rfl⟩ <;> obtain ⟨t,rfl⟩:=ha <;> obtain ⟨u,rfl⟩:=hb
 ·exact SeqAt.EqAt.int_int _ _ _ _
 ·exact SeqAt.EqAt.str_str _ _ _ _
theorem flats_cons {a b:V} {l r:List V}:flatEqs (a::l) (b::r)=(flatEq a b).bind fun x=>(flatEqs l r).bind fun y=>some (x && y):=by
 show (match flatEq a b,flatEqs l r with | some x,some y=>some (x && y) | _,_=>none)=_
 cases flatEq a b with
 | none=>rfl
 | some x=>cases flatEqs l r <;> rfl
theorem flats_all {l r:List V} {vs ws:List Value} {c:Bool} (e:flatEqs l r=some c) (hlen:l.length=r.length) (h1:VRs w l vs) (h2:VRs w r ws) :
  ∃ e:Nat→Bool,(∀ A s j (h1:j<vs.length) (h2:j<ws.length),SeqAt.EqAt A s vs[j] ws[j] (e j))∧c=(List.range l.length).all e:=by
 induction l generalizing r vs ws c with
 | nil =>
  induction r using List.casesOn with
  | nil=>exact ⟨fun _=>true,fun _ _ j hj=>absurd ((show _=[] from h1) ▸ hj) (Nat.not_lt_zero _),(Option.some.inj e).symm⟩
  | cons b r=>cases hlen
 | cons a l ih =>
  induction r using List.casesOn with
  | nil=>cases hlen
  | cons b r =>
  obtain ⟨x,vs,rfl,h3,h4⟩:=h1
  obtain ⟨y,ws,rfl,h5,h6⟩:=h2
  obtain ⟨p,q,hp,hq,rfl⟩:=both (flats_cons.symm.trans e)
  obtain ⟨f,hf,rfl⟩:=ih hq (Nat.succ.inj hlen) h4 h6
  refine ⟨fun j=>Nat.casesOn j p f,fun A s j g1 g2=>?_,?_⟩
  ·induction j using Nat.casesOn with
   | zero=>exact flat_at hp h3 h5 A s
   | succ j=>exact hf A s j (Nat.lt_of_succ_lt_succ g1) (Nat.lt_of_succ_lt_succ g2)
  ·rw [List.length_cons,List.range_succ_eq_map,List.all_cons,List.all_map]
   rfl
noncomputable def eqVal:Value→Value→Bool
 | .int a _,.int b _=>a == b
 | .str a _,.str b _=>a == b
 | _,_=>false
theorem flat_val {a b:V} {x y:Value} {c:Bool} (e:flatEq a b=some c) (ha:VR w a x) (hb:VR w b y):eqVal x y=c:=by
 rcases flat_inv e with ⟨i,j,rfl,rfl,rfl⟩ | ⟨i,j,rfl,rfl,rfl⟩ <;> obtain ⟨t,rfl⟩:=ha <;> obtain ⟨u,rfl⟩:=hb <;> rfl
theorem mem_cons {x b:V} {l:List V}:memV x (b::l)=(flatEq b x).bind fun p=>(memV x l).bind fun q=>some (p || q):=by
 show (match flatEq b x,memV x l with | some p,some q=>some (p || q) | _,_=>none)=_
 cases flatEq b x with
 | none=>rfl
 | some p=>cases memV x l <;> rfl
theorem mem_any {a:V} {x:Value} (ha:VR w a x) {l:List V} {vs:List Value} {c:Bool} (e:memV a l=some c) (hl:VRs w l vs) :
  (∀ y,y ∈ vs→∀ A s,SeqAt.EqAt A s y x (eqVal y x))∧c=vs.any (fun y=>eqVal y x):=by
 induction l generalizing vs c with
 | nil=>exact (show _=[] from hl) ▸ ⟨fun y hy=>(nomatch hy),(Option.some.inj e).symm⟩
 | cons b l ih =>
  obtain ⟨y,vs,rfl,h3,h4⟩:=hl
  obtain ⟨p,q,hp,hq,rfl⟩:=both (mem_cons.symm.trans e)
  obtain ⟨h5,rfl⟩:=ih hq h4
  have h7:=flat_val hp h3 ha
  refine ⟨fun z hz A s=>?_,by rw [List.any_cons,h7]⟩
  rcases List.mem_cons.mp hz with rfl | hz
  ·rw [h7]; exact flat_at hp h3 ha A s
  ·exact h5 z hz A s
theorem dictSame_cons {k v:V} {e d:List (V × V)}:dictSame e ((k,v)::d)=match dget e k with
  | some x=>(flatEq v x).bind fun a=>(dictSame e d).bind fun b=>some (a && b)
  | .none=>some false:=by
 show (match dget e k with | some x=>(match flatEq v x,dictSame e d with | some a,some b=>some (a && b) | _,_=>none) | .none=>some false)=_
 cases dget e k with
 | none=>rfl
 | some x =>
  show (match flatEq v x,dictSame e d with | some a,some b=>some (a && b) | _,_=>none)=(flatEq v x).bind fun a=>(dictSame e d).bind fun b=>some (a && b)
  cases flatEq v x with
  | none=>rfl
  | some y=>cases dictSame e d <;> rfl
theorem dictSame_hits {A:Around} {s:Shared} {e:List (V × V)} {kb:List (K2 × Value)} (pb:PR w e kb) {d:List (V × V)} {ka:List (K2 × Value)} {c:Bool} (q:dictSame e d=some c) (pa:PR w d ka):KeqHits A s kb ka c:=by
 induction d generalizing ka c with
 | nil=>exact (show _=[] from pa) ▸ Option.some.inj q ▸ .nil
 | cons kv d ih =>
  obtain ⟨k,v⟩:=kv
  obtain ⟨k',x,r,rfl,h1,h2,h3⟩:=pa
  have q:=dictSame_cons.symm.trans q
  cases hy:dget e k with
  | none =>
   rw [hy] at q
   cases q
   exact .miss (PR.miss h1 pb hy)
  | some y =>
   rw [hy] at q
   obtain ⟨p1,p2,hp1,hp2,rfl⟩:=both q
   obtain ⟨x',hx',hv'⟩:=PR.hit h1 pb hy
   exact .hit hx' (flat_at hp1 h2 hv' A s) (ih hp2 h3)
theorem str_beq (x y:Str):(x.cps.toList == y.cps.toList)=(x == y):=by
 refine Bool.eq_iff_iff.mpr ?_
 rw [beq_iff_eq,beq_iff_eq,Array.toList_inj]
 exact ⟨Str.ext',fun e=>e ▸ rfl⟩
end
end Mine
end
section
namespace Mine
open PySem PySem.W PySem.Calls PyProof.Rows
section
variable (c:Cx) (A:Around) {H:MH}
def Does (m:Sem Value) (p:P c H) (v:V) (H':MH):Prop :=
 ∀ Q:Value→Shared→Prop,(∀ x (q:P c H'),Ext noX p q→VR q.w v x→Q x q.s)→wpAny (model c.prog c.w) A m Q noE p.s
end
structure BinR (c:Cx) (H:MH) (op:Operator) (x y z:V) (H':MH):Prop where
 r:∀ (A:Around) (p:P c H) (a b:Value),VR p.w x a→VR p.w y b→Does c A (binaryOp op a b) p z H'
structure CmpR (c:Cx) (H:MH) (op:CmpOp) (x y:V) (k:Bool):Prop where
 r:∀ (A:Around) (p:P c H) (a b:Value) (Q:Value→Shared→Prop),A.units+1<cLine→VR p.w x a→VR p.w y b→(∀ t,Q (.bool k) { p.s with toks:=t })→wpAny (model c.prog c.w) A (compareOp op a b) Q noE p.s
section
variable {c:Cx} {A:Around} {H:MH} {p:P c H} {h:Heap} {i j:Int}
theorem VRs.push {l:List V} {vs:List Value} {o:Obj} (h:VRs p.w l vs):VRs ⟨H.n,p.ρ,p.h.push o⟩ l vs:=h.mono (w:=p.w) (w':=⟨H.n,p.ρ,p.h.push o⟩) ⟨Nat.le_refl _,fun _ _=>rfl,fun _ _ e _=>Heap.get?_push_of_some _ e⟩
theorem does_newlist {m:Sem Value} {h':Heap} {D:Addr} {l:List V} {vs:List Value} {n t:Nat} (hk:∀ b o,p.h.get? b=some o→h'.get? b=some o) (hD:p.h.get? D=none) (ho:h'.get? D=some { cls:=.type "list",dict:=none,data:=.seq ⟨vs⟩ n,slots:=#[] }) (hl:VRs p.w l vs)
  {Q:Value→Shared→Prop} (k:∀ x (q:P c (H.new (.lst l))),Ext noX p q→VR q.w (.obj H.n) x→Q x q.s):Q (.ref D) { p.s with heap:=h',toks:=t } :=
 k _ (p.alloc t hk hD ⟨vs,n,ho,hl.mono (w:=p.w) (w':=⟨H.n,p.ρ,h'⟩) ⟨Nat.le_refl _,fun _ _=>rfl,fun a o e _=>hk a o e⟩⟩) (.alloc p ..) (.new p)
theorem does_list {m:Sem Value} {l:List V} {vs:List Value} (hl:VRs p.w l vs)
  (h:∀ Q:Value→Shared→Prop,(∀ t,Q (.ref p.h.objs.size) { p.s with heap:=p.h.push { cls:=.type "list",data:=.seq ⟨vs⟩ },toks:=t })→wpAny (model c.prog c.w) A m Q noE p.s) :
  Does c A m p (.obj H.n) (H.new (.lst l)):=fun Q k=>h Q fun t =>
 does_newlist (m:=m) (fun _ _ e=>Heap.get?_push_of_some _ e) (size_none _) (Heap.get?_push_size _ rfl) hl k
theorem small_lt {a:Int} (h:small a=true):a.natAbs<2 ^ 64:=of_decide_eq_true h
theorem does_int {m:Sem Value} {i:Int} (h:∀ Q:Value→Shared→Prop,Q (.int i p.s.toks) { p.s with toks:=p.s.toks+1 }→wpAny (model c.prog c.w) A m Q noE p.s):Does c A m p (.int i) H:=fun Q k=>h Q (k _ (p.toks _) (.toks ..) ⟨_,rfl⟩)
theorem b_of {op:Operator} {z:Int} (h:∀ (A:Around) (s:Shared) (t u:Tok) (Q:Value→Shared→Prop),Q (.int z s.toks) { s with toks:=s.toks+1 }→wpAny (model c.prog c.w) A (binaryOp op (.int i t) (.int j u)) Q noE s):BinR c H op (.int i) (.int j) (.int z) H :=
 ⟨fun A p a b ⟨t,ha⟩ ⟨u,hb⟩=>ha ▸ hb ▸ does_int fun Q k=>h A _ t u Q k⟩
theorem b_add:BinR c H .Add (.int i) (.int j) (.int (i+j)) H:=b_of fun _ _ _ _ _ k=>PyProof.Rows.add_int k
theorem b_sub:BinR c H .Sub (.int i) (.int j) (.int (i - j)) H:=b_of fun _ _ _ _ _ k=>PyProof.Rows.sub_int k
theorem b_mul (h:small i=true) (g:small j=true):BinR c H .Mult (.int i) (.int j) (.int (i * j)) H:=b_of fun _ _ _ _ _ k=>PyProof.Rows.mul_int k (by
 have h1:=small_lt h
 have h2:=small_lt g
 mul_fits)
theorem b_fdv (h:j ≠ 0) (g:j.natAbs<1073741824):BinR c H .FloorDiv (.int i) (.int j) (.int (i.fdiv j)) H:=b_of fun _ _ _ _ _ k=>PyProof.Rows.floordiv_int h k (.inl (PyProof.noPylong_small g))
theorem b_mod (h:j ≠ 0):BinR c H .Mod (.int i) (.int j) (.int (i.fmod j)) H:=b_of fun _ _ _ _ _ k=>PyProof.Rows.mod_int' h k
theorem b_pow (h:0≤j) (g:j≤1000) (q:small i=true):BinR c H .Pow (.int i) (.int j) (.int (i ^ j.toNat)) H:=b_of fun _ _ _ _ _ k=>PyProof.Rows.pow_int_small h (by lia) (small_lt q) k
theorem b_shl (h:0≤j) (g:j≤1000) (q:small i=true):BinR c H .LShift (.int i) (.int j) (.int (i * 2 ^ j.toNat)) H:=b_of fun _ _ _ _ _ k=>PyProof.Rows.lshift_int_small h (by lia) (small_lt q) k
theorem b_shr (h:0≤j):BinR c H .RShift (.int i) (.int j) (.int (i.fdiv (2 ^ j.toNat))) H:=b_of fun _ _ _ _ _ k=>PyProof.Rows.rshift_int h k
theorem b_and:BinR c H .BitAnd (.int i) (.int j) (.int (Builtin.bitAnd i j)) H:=b_of fun _ _ _ _ _ k=>PyProof.Rows.and_int k
theorem b_or:BinR c H .BitOr (.int i) (.int j) (.int (Builtin.bitOr i j)) H:=b_of fun _ _ _ _ _ k=>PyProof.Rows.or_int k
theorem ite_inv {p:Prop} [Decidable p] {a b:Int} (h:(if p then some a else none)=some b):p∧a=b:=by
 by_cases q:p
 ·exact ⟨q,Option.some.inj ((if_pos q).symm.trans h)⟩
 ·cases (if_neg q).symm.trans h
theorem b_int {op:Operator} {z:Int} (e:binI op i j=some z):BinR c H op (.int i) (.int j) (.int z) H:=by
 cases op with
 | Add=>exact Option.some.inj e ▸ b_add
 | Sub=>exact Option.some.inj e ▸ b_sub
 | Mult =>
  have q:=ite_inv e
  exact q.2 ▸ b_mul (Bool.and_eq_true_iff.1 q.1).1 (Bool.and_eq_true_iff.1 q.1).2
 | FloorDiv=>have q:=ite_inv e; exact q.2 ▸ b_fdv q.1.1 q.1.2
 | Mod=>have q:=ite_inv e; exact q.2 ▸ b_mod q.1
 | Pow=>have q:=ite_inv e; exact q.2 ▸ b_pow q.1.1 q.1.2.1 q.1.2.2
 | LShift=>have q:=ite_inv e; exact q.2 ▸ b_shl q.1.1 q.1.2.1 q.1.2.2
 | RShift=>have q:=ite_inv e; exact q.2 ▸ b_shr q.1
 | BitAnd=>exact Option.some.inj e ▸ b_and
 | BitOr=>exact Option.some.inj e ▸ b_or
 | _=>cases e
theorem b_str {x y:Str} (h:x.length+y.length≤100) (h1:0<x.length) (h2:0<y.length):BinR c H .Add (.str x) (.str y) (.str (x++y)) H :=
 ⟨fun A p a b ⟨t,ha⟩ ⟨u,hb⟩ Q k=>by
  subst ha hb
  refine P.add_str ?_
  rw [if_neg (fun e=>Nat.ne_of_gt h1 (beq_iff_eq.1 e)),if_neg (fun e=>Nat.ne_of_gt h2 (beq_iff_eq.1 e))]
  refine ⟨?_,k _ (p.toks _) (.toks ..) ⟨_,rfl⟩⟩
  rw [Str.length_append]
  exact Nat.le_trans h (by decide)⟩
theorem b_byt {x y:List UInt8} (h:x.length+y.length≤100000):BinR c H .Add (.byt x) (.byt y) (.byt (x++y)) H :=
 ⟨fun A p a b ⟨t,ha⟩ ⟨u,hb⟩ Q k=>by
  subst ha hb
  refine KBy.add_bytes (Nat.le_trans h (by decide)) fun t' j=>k _ (p.toks _) (.toks ..) ⟨t',?_⟩
  rw [List.append_toArray]⟩
theorem b_lst {a b:Nat} {l r:List V} (h1:H.o a=some (.lst l)) (h2:H.o b=some (.lst r)) (h:l.length+r.length≤100000):BinR c H .Add (.obj a) (.obj b) (.obj H.n) (H.new (.lst (l++r))) :=
 ⟨fun A p a b ⟨_,ha⟩ ⟨_,hb⟩=>by
  subst ha hb
  obtain ⟨_,vs,n,ho,hvs⟩:=p.lst h1
  obtain ⟨_,ws,n2,ho2,hws⟩:=p.lst h2
  refine does_list (hvs.append hws) fun Q k=>?_
  refine concat_meets ⟨_,ho,rfl⟩ ⟨_,ho2,rfl⟩ noFill_list_add seq_list_add PySem.F.slot_list_add PySem.F.entry_list_add (PySem.F.args_list_add_2 _ _) (list_addW _ _ ⟨vs⟩ ⟨ws⟩ n n2 none none #[] #[] ?_) ⟨ho,ho2,?_⟩
  ·show vs.length+ws.length≤_
   rw [hvs.length,hws.length]
   exact Nat.le_trans h (by decide)
  ·rw [List.append_toArray]
   exact k _⟩
theorem b_rep {a:Nat} {n:Int} {x:V} (h1:H.o a=some (.lst [x])) (h0:0≤n) (hn:n≤1000):BinR c H .Mult (.obj a) (.int n) (.obj H.n) (H.new (.lst (List.replicate n.toNat x))) :=
 ⟨fun A p a b ⟨_,ha⟩ ⟨u,hb⟩=>by
  subst ha hb
  obtain ⟨_,vs,m,ho,x0,r,rfl,hx0,rfl⟩:=p.lst h1
  refine does_list (VRs.replicate hx0 _) fun Q k=>?_
  refine wpAny_binaryOp_repeat_ref (T:="list") (U:="int") (by decide) ⟨_,ho,rfl⟩ (fun s'=>typeIs_int s' _ u) noFill_list_mul F.fills_int_mul F.slot_int_rmul repeat_list F.slot_int_index.lookup
   (call_meets F.slot_int_rmul (typeIs_int p.s _ u) F.entry_int_rmul (F.args_int_rmul_2 _ _) (lm_int_rmul_list_any _ u _ ⟨[x0]⟩ m none #[])
    ⟨ho,rfl,⟨_,ho,rfl⟩,call_meets F.slot_list_mul ⟨_,ho,rfl⟩ F.entry_list_mul (F.args_list_mul_2 _ _)
     (lm_list_mul_any _ ⟨[x0]⟩ m none #[] _ u (by simp [Builtin.List.listFitsIndex]; lia) (by simp; lia) (by simp [Builtin.List.listTooLong,sizeLine]; lia))
     ⟨ho,?_⟩⟩)
  rw [listMul_foldl_if]
  have:=k p.s.toks
  simpa using this⟩
end
end Mine
end
section
namespace Mine
open PySem PySem.W PySem.Calls PyProof.Rows
section
variable {c:Cx} {A:Around} {H:MH} {i j:Int} {k:Bool}
theorem q_int {op:CmpOp} (h:∀ (A:Around) (s:Shared) (t u:Tok) (Q:Value→Shared→Prop),Q (.bool k) s→wpAny (model c.prog c.w) A (compareOp op (.int i t) (.int j u)) Q noE s):CmpR c H op (.int i) (.int j) k :=
 ⟨fun A p a b Q _ ⟨t,ha⟩ ⟨u,hb⟩ kk=>ha ▸ hb ▸ h A _ t u Q (kk _)⟩
theorem q_lt (h:i<j):CmpR c H .Lt (.int i) (.int j) true:=q_int fun _ _ _ _ _ kk=>P.lt_int ((decide_eq_true h).symm ▸ kk)
theorem q_ltf (h:¬ i<j):CmpR c H .Lt (.int i) (.int j) false:=q_int fun _ _ _ _ _ kk=>P.lt_int ((decide_eq_false h).symm ▸ kk)
theorem q_le (h:i≤j):CmpR c H .LtE (.int i) (.int j) true:=q_int fun _ _ _ _ _ kk=>P.le_int ((decide_eq_true h).symm ▸ kk)
theorem q_lef (h:¬ i≤j):CmpR c H .LtE (.int i) (.int j) false:=q_int fun _ _ _ _ _ kk=>P.le_int ((decide_eq_false h).symm ▸ kk)
theorem q_gt (h:i > j):CmpR c H .Gt (.int i) (.int j) true:=q_int fun _ _ _ _ _ kk=>P.gt_int ((decide_eq_true h).symm ▸ kk)
theorem q_gtf (h:¬ i > j):CmpR c H .Gt (.int i) (.int j) false:=q_int fun _ _ _ _ _ kk=>P.gt_int ((decide_eq_false h).symm ▸ kk)
theorem q_ge (h:i ≥ j):CmpR c H .GtE (.int i) (.int j) true:=q_int fun _ _ _ _ _ kk=>P.ge_int ((decide_eq_true h).symm ▸ kk)
theorem q_gef (h:¬ i ≥ j):CmpR c H .GtE (.int i) (.int j) false:=q_int fun _ _ _ _ _ kk=>P.ge_int ((decide_eq_false h).symm ▸ kk)
theorem q_ieq (h:(i == j)=k):CmpR c H .Eq (.int i) (.int j) k:=q_int fun _ _ _ _ _ kk=>P.eq_int (h.symm ▸ kk)
theorem q_eq (h:i=j):CmpR c H .Eq (.int i) (.int j) true:=q_ieq (beq_iff_eq.2 h)
theorem q_eqf (h:¬ i=j):CmpR c H .Eq (.int i) (.int j) false:=q_ieq (beq_eq_false_iff_ne.2 h)
theorem q_ine (h:(i != j)=k):CmpR c H .NotEq (.int i) (.int j) k:=q_int fun _ _ _ _ _ kk=>P.ne_int (h.symm ▸ kk)
theorem q_ne (h:¬ i=j):CmpR c H .NotEq (.int i) (.int j) true:=q_ine (bne_iff_ne.2 h)
theorem q_nef (h:i=j):CmpR c H .NotEq (.int i) (.int j) false:=q_ine (h ▸ bne_self_eq_false _)
theorem q_seq {s t:Str} (h:(s == t)=k):CmpR c H .Eq (.str s) (.str t) k :=
 ⟨fun A p a b Q _ ⟨t,ha⟩ ⟨u,hb⟩ kk=>ha ▸ hb ▸ P.eq_str ((str_beq _ _).trans h ▸ kk p.s.toks)⟩
theorem q_sT {s t:Str} (h:(s == t)=true):CmpR c H .Eq (.str s) (.str t) true:=q_seq h
theorem q_sF {s t:Str} (h:(s == t)=false):CmpR c H .Eq (.str s) (.str t) false:=q_seq h
theorem q_sne {s t:Str} (h:(s == t)=!k):CmpR c H .NotEq (.str s) (.str t) k :=
 ⟨fun A p a b Q _ ⟨t,ha⟩ ⟨u,hb⟩ kk=>ha ▸ hb ▸ P.ne_str (by rw [bne,str_beq,h,Bool.not_not]; exact kk p.s.toks)⟩
theorem q_isN {H:MH}:CmpR c H .Is .none .none true:=⟨fun A p a b Q _ ha hb kk=>by cases ha; cases hb; exact is_none_none (kk p.s.toks)⟩
theorem q_isT {l:List V}:CmpR c H .Is (.tup l) .none false:=⟨fun A p a b Q _ ⟨t,vs,ha,_⟩ hb kk=>ha ▸ (show b=_ from hb) ▸ is_ref_none (kk p.s.toks)⟩
theorem q_isO {n:Nat}:CmpR c H .Is (.obj n) .none false:=⟨fun A p a b Q _ ⟨_,ha⟩ hb kk=>ha ▸ (show b=_ from hb) ▸ is_ref_none (kk p.s.toks)⟩
theorem q_niN:CmpR c H .IsNot .none .none false:=⟨fun A p a b Q _ ha hb kk=>by cases ha; cases hb; exact isnot_none_none (kk p.s.toks)⟩
theorem q_niT {l:List V}:CmpR c H .IsNot (.tup l) .none true:=⟨fun A p a b Q _ ⟨t,vs,ha,_⟩ hb kk=>ha ▸ (show b=_ from hb) ▸ isnot_ref_none (kk p.s.toks)⟩
theorem q_niO {n:Nat}:CmpR c H .IsNot (.obj n) .none true:=⟨fun A p a b Q _ ⟨_,ha⟩ hb kk=>ha ▸ (show b=_ from hb) ▸ isnot_ref_none (kk p.s.toks)⟩
theorem q_in {x:V} {d:Nat} {D:List (V × V)} (h:sdicAt d=some D) (q:isKey x=true) (g:(dget D x).isSome=k):CmpR c H .In x (.sta d) k :=
 ⟨fun A p a b Q _ ha hb kk=>by
  obtain ⟨k,hk⟩:=isKey_toK q
  obtain ⟨h1,kvs,hm,hp⟩:=p.sdic h
  obtain rfl:=hb
  exact wpAny_in_of (ha.key hk) h1 hm.mapOf ((PR.isSome hk hp).trans g ▸ kk _)⟩
theorem q_inT {s:Str} {d:Nat} {D:List (V × V)} (h:sdicAt d=some D) (g:(dget D (.str s)).isSome=true):CmpR c H .In (.str s) (.sta d) true:=q_in h rfl g
theorem q_inF {s:Str} {d:Nat} {D:List (V × V)} (h:sdicAt d=some D) (g:(dget D (.str s)).isSome=false):CmpR c H .In (.str s) (.sta d) false:=q_in h rfl g
theorem q_tin {x:V} {l:List V} (h:memV x l=some k):CmpR c H .In x (.tup l) k :=
 ⟨fun A p a b Q _ ha ⟨t,vs,hb,ht,hvs⟩ kk=>by
  obtain ⟨h1,rfl⟩:=mem_any ha h hvs
  subst hb
  exact SeqAt.in_tupleAt (fun y=>eqVal y a) ht (fun y hy=>h1 y (List.mem_toArray.1 hy) _ _) (by simpa using kk p.s.toks)⟩
theorem q_nin {x:V} {n:Nat} {D:List (V × V)} (h:H.o n=some (.dic D)) (q:isKey x=true) (g:(dget D x).isSome=!k):CmpR c H .NotIn x (.obj n) k :=
 ⟨fun A p a b Q _ ha ⟨_,hb⟩ kk=>by
  obtain ⟨k,hk⟩:=isKey_toK q
  obtain ⟨hj,kvs,hm,hp⟩:=p.dic h
  subst hb
  exact wpAny_notIn_of (ha.key hk) (p.notSys hj) hm.mapOf (by rw [PR.isSome hk hp,g,Bool.not_not]; exact kk _)⟩
theorem le_c {A:Around} (h:A.units+1<cLine):A.units<cLine:=Nat.lt_of_succ_lt h
theorem q_nT {l:List V}:CmpR c H .Eq .none (.tup l) false :=
 ⟨fun A p a b Q hu ha ⟨t,vs,hb,ht,_⟩ kk=>(show a=_ from ha) ▸ hb ▸ SeqAt.RcAt.none_tuple ht (le_c hu) c.prog c.w _ Q (kk p.s.toks)⟩
theorem q_tT {l r:List V} (h:l.length=r.length) (e:flatEqs l r=some k):CmpR c H .Eq (.tup l) (.tup r) k :=
 ⟨fun A p a b Q hu ⟨t,vs,ha,ht,hvs⟩ ⟨u,ws,hb,hu',hws⟩ kk=>by
  obtain ⟨f,hf,rfl⟩:=flats_all e h hvs hws
  subst ha hb
  refine SeqAt.eq_tupleAt (e:=f) ht hu' (le_c hu) (fun j h1 h2=>hf _ _ j h1 h2) ?_
  rw [show Array.size ⟨vs⟩=l.length from hvs.length,show Array.size ⟨ws⟩=l.length from hws.length.trans h.symm,Nat.min_self,beq_self_eq_true,Bool.and_true]
  exact kk p.s.toks⟩
theorem q_lL {n m:Nat} {l r:List V} (h1:H.o n=some (.lst l)) (h2:H.o m=some (.lst r)) (h:l.length=r.length) (e:flatEqs l r=some k):CmpR c H .Eq (.obj n) (.obj m) k :=
 ⟨fun A p a b Q hu ⟨_,ha⟩ ⟨_,hb⟩ kk=>by
  obtain ⟨vs,hl,hvs⟩:=p.isl h1
  obtain ⟨ws,hr,hws⟩:=p.isl h2
  obtain ⟨f,hf,rfl⟩:=flats_all e h hvs hws
  subst ha hb
  refine SeqAt.eq_listAt (e:=f) hl hr ((hvs.length.trans h).trans hws.length.symm) (le_c hu) (fun j h1 h2=>hf _ _ j h1 h2) ?_
  rw [show Array.size ⟨vs⟩=l.length from hvs.length]
  exact kk p.s.toks⟩
theorem q_lLf {n m:Nat} {l r:List V} (h1:H.o n=some (.lst l)) (h2:H.o m=some (.lst r)) (h:l.length ≠ r.length):CmpR c H .Eq (.obj n) (.obj m) false :=
 ⟨fun A p a b Q hu ⟨_,ha⟩ ⟨_,hb⟩ kk=>by
  obtain ⟨vs,hl,hvs⟩:=p.isl h1
  obtain ⟨ws,hr,hws⟩:=p.isl h2
  subst ha hb
  exact SeqAt.eq_list_lengthsAt hl hr (bne_iff_ne.2 fun q=>h (hvs.length.symm.trans (Eq.trans q hws.length))) (le_c hu) (kk p.s.toks)⟩
theorem q_lN {n m:Nat} {l r:List V} (h1:H.o n=some (.lst l)) (h2:H.o m=some (.lst r)) (h:l.length=r.length) (e:flatEqs l r=some !k):CmpR c H .NotEq (.obj n) (.obj m) k :=
 ⟨fun A p a b Q hu ⟨_,ha⟩ ⟨_,hb⟩ kk=>by
  obtain ⟨vs,hl,hvs⟩:=p.isl h1
  obtain ⟨ws,hr,hws⟩:=p.isl h2
  obtain ⟨f,hf,ek⟩:=flats_all e h hvs hws
  subst ha hb
  refine SeqAt.RcNeAt.lists (e:=f) hl hr ((hvs.length.trans h).trans hws.length.symm) (le_c hu) (fun j h1 h2=>hf _ _ j h1 h2) c.prog c.w _ Q ?_
  rw [show Array.size ⟨vs⟩=l.length from hvs.length,← ek,Bool.not_not]
  exact kk p.s.toks⟩
theorem q_dD {n m:Nat} {d e:List (V × V)} (h1:H.o n=some (.dic d)) (h2:H.o m=some (.dic e)) (h:d.length=e.length) (q:dictSame e d=some k):CmpR c H .Eq (.obj n) (.obj m) k :=
 ⟨fun A p a b Q hu ⟨hj,ha⟩ ⟨hk,hb⟩ kk=>by
  obtain ⟨_,ka,hl,pa⟩:=p.dic h1
  obtain ⟨_,kb,hr,pb⟩:=p.dic h2
  subst ha hb
  refine keq_eq (p.notSys hj) (p.notSys hk) hl hr (le_c hu) (fun _=>dictSame_hits pb q pa) ?_
  rw [show (ka.length == kb.length)=true from beq_iff_eq.2 ((pa.length.trans h).trans pb.length.symm),Bool.true_and]
  exact kk p.s.toks⟩
theorem q_dDf {n m:Nat} {d e:List (V × V)} (h1:H.o n=some (.dic d)) (h2:H.o m=some (.dic e)) (h:d.length ≠ e.length):CmpR c H .Eq (.obj n) (.obj m) false :=
 ⟨fun A p a b Q hu ⟨hj,ha⟩ ⟨hk,hb⟩ kk=>by
  obtain ⟨_,ka,hl,pa⟩:=p.dic h1
  obtain ⟨_,kb,hr,pb⟩:=p.dic h2
  subst ha hb
  have ne:ka.length ≠ kb.length:=fun q=>h (pa.length.symm.trans (q.trans pb.length))
  refine keq_eq (r:=false) (p.notSys hj) (p.notSys hk) hl hr (le_c hu) (fun q=>absurd q ne) ?_
  rw [Bool.and_false]
  exact kk p.s.toks⟩
theorem w_truth {p:P c H} {a:V} {x:Value} {k:Bool} {Q:Bool→Shared→Prop} (e:truth H a=some k) (ha:VR p.w a x) (h:∀ t,Q k { p.s with toks:=t }):wpAny (model c.prog c.w) A (truthy x) Q noE p.s:=by
 induction a using V.casesOn with
 | none=>cases e; obtain rfl:=ha; exact truthy_none (h p.s.toks)
 | bool b=>cases e; obtain rfl:=ha; exact wpAny_truthy_bool (h p.s.toks)
 | int i=>cases e; obtain ⟨t,rfl⟩:=ha; exact P.truthy_int (h p.s.toks)
 | obj n =>
  have e:(match H.o n with | some (.lst l)=>if l.length≤100000 then some (!l.isEmpty) else .none | _=>.none)=some k:=e
  cases q:H.o n with
  | none=>rw [q] at e; cases e
  | some o =>
   rw [q] at e
   induction o using MO.casesOn with
   | lst l =>
    by_cases hlen:l.length≤100000
    ·cases (if_pos hlen).symm.trans e
     obtain ⟨vs,hl,hvs⟩:=p.isl q
     obtain ⟨_,rfl⟩:=ha
     refine wpAny_truthy_list hl (by rw [show Array.size ⟨vs⟩=_ from hvs.length]; lia) ?_
     have e2:=h (p.s.toks+1+1)
     induction l using List.casesOn with
     | nil=>cases (show vs=[] from hvs); exact e2
     | cons a l=>obtain ⟨x,r,rfl,_⟩:=hvs; exact e2
    ·cases (if_neg hlen).symm.trans e
   | _=>cases e
 | _=>cases e
end
end Mine
end
section
namespace Mine
open PySem PySem.W PySem.Calls PyProof.Rows
noncomputable def decC:Code→Bool
 | .builtin id _=>Builtin.Bytes.decodersThatHold.contains id
 | _=>false
def Clean (l:List (Code × Pos)):Prop:=∀ x ∈ l,decC x.1=false
def wpG {α:Type} (M:Model) (A:Around) (t:Sem α) (Q:α→Shared→Prop) (s:Shared):Prop :=
 ∀ Γ p,Γ.In A→decC Γ.code=false→Clean Γ.below→Sem.wp M Γ t (fun a _ s'=>Q a s') (fun _ _ _=>False) p s
def onlyOk (Q:Flow→Shared→Prop):Result→Shared→Prop:=fun r s'=>match r with | .ok f=>Q f s' | .error _=>False
def codeG (M:Model) (A:Around) (c:Code) (Q:Flow→Shared→Prop) (s:Shared):Prop :=
 ∀ Γ p,Γ.code=c→Γ.Below A→decC c=false→Clean Γ.below→wpCode M Γ (onlyOk Q) p s
namespace G
section
variable {α β:Type} {M:Model} {A:Around} {s:Shared}
theorem of {t:Sem α} {Q:α→Shared→Prop} (h:wpAny M A t Q noE s):wpG M A t Q s:=fun Γ p h1 _ _=>h Γ p h1
theorem pure {a:α} {Q:α→Shared→Prop} (h:Q a s):wpG M A (Pure.pure a) Q s:=fun _ _ _ _ _=>h
theorem mono {t:Sem α} {Q Q':α→Shared→Prop} (h:wpG M A t Q s) (hQ:∀ a s,Q a s→Q' a s):wpG M A t Q' s :=
 fun Γ p h1 h2 h3=>Sem.wp_mono M Γ t (fun a _ s=>hQ a s) (fun _ _ _ h=>h) p s (h Γ p h1 h2 h3)
theorem bind {m:Sem α} {f:α→Sem β} {Q:β→Shared→Prop} (h:wpG M A m (fun a s'=>wpG M A (f a) Q s') s):wpG M A (m >>= f) Q s:=fun Γ p h1 h2 h3=>by
 rw [Sem.wp_bind']
 exact Sem.wp_mono M Γ m (fun a p' s' h'=>h' Γ p' h1 h2 h3) (fun _ _ _ h'=>h') p s (h Γ p h1 h2 h3)
theorem step {m:Sem α} {f:α→Sem β} {Q:β→Shared→Prop} (h:wpAny M A m (fun a s'=>wpG M A (f a) Q s') noE s):wpG M A (m >>= f) Q s:=bind (of h)
theorem of_eq {t:Sem α} {a:α} {Q:α→Shared→Prop} (e:t=Pure.pure a) (h:Q a s):wpG M A t Q s:=by rw [e]; exact pure h
theorem ifn {c:Prop} [Decidable c] {x y:Sem α} {Q:α→Shared→Prop} (h:¬ c) (k:wpG M A y Q s):wpG M A (if c then x else y) Q s:=by rw [if_neg h]; exact k
theorem ifp {c:Prop} [Decidable c] {x y:Sem α} {Q:α→Shared→Prop} (h:c) (k:wpG M A x Q s):wpG M A (if c then x else y) Q s:=by rw [if_pos h]; exact k
theorem holding {vs:List Value} {m:Sem α} {Q:α→Shared→Prop} (h:wpG M A m Q s):wpG M A (PySem.holding vs m) Q s:=fun Γ p h1 h2 h3=>by
 rw [Sem.wp_holding]
 exact h Γ p h1 h2 h3
theorem keep {vs:List Value} {m:Sem α} {Q:α→Shared→Prop} (h:wpG M A m Q s):wpG M A (m.keep vs) Q s:=fun Γ p h1 h2 h3=>by
 rw [Sem.wp_keep]
 exact h Γ p h1 h2 h3
theorem standAt {pos:Pos} {Q:Unit→Shared→Prop} (h:Q () s):wpG M A (PySem.standAt pos) Q s:=fun _ _ _ _ _=>h
theorem stand {pos:Pos} {f:Unit→Sem β} {Q:β→Shared→Prop} (h:wpG M A (f ()) Q s):wpG M A (PySem.standAt pos >>= f) Q s:=bind (standAt h)
theorem point {Q:Unit→Shared→Prop} (h:Q () s):wpG M A PySem.point Q s:=of (wpAny_point h)
theorem rule {tag:String} {f:Unit→Sem β} {Q:β→Shared→Prop} (h:wpG M A (f ()) Q s):wpG M A (PySem.rule tag >>= f) Q s:=step (wpAny_rule h)
theorem operate {vs:List Value} {m:Sem Value} {Q:Value→Shared→Prop} (h:wpG M A m Q s):wpG M A (PySem.operate vs m) Q s:=fun Γ p h1 h2 h3=>by
 rw [Sem.wp_operate]
 exact h Γ p h1 h2 h3
theorem onRaise {m:Sem α} {k:Value→Sem Unit} {Q:α→Shared→Prop} (h:wpG M A m Q s):wpG M A (m.onRaise k) Q s:=fun Γ p h1 h2 h3=>by
 rw [Sem.wp_onRaise]
 exact Sem.wp_mono M Γ m (fun _ _ _ h'=>h') (fun e p' s' h'=>h'.elim) p s (h Γ p h1 h2 h3)
theorem attempt {m:Sem α} {Q:Except Value α→Shared→Prop} (h:wpG M A m (fun a=>Q (.ok a)) s):wpG M A m.attempt Q s:=fun Γ p h1 h2 h3=>by
 rw [Sem.wp_attempt]
 exact Sem.wp_mono M Γ m (fun _ _ _ h'=>h') (fun e p' s' h'=>h'.elim) p s (h Γ p h1 h2 h3)
theorem mark_none (A:Around):A.mark none=A:=rfl
theorem run {c:Code} {Q:Flow→Shared→Prop} (hd:decC c=false) (h:codeG M A c Q s):wpG M A (PySem.run c none) Q s:=fun Γ p h1 h2 h3=>by
 rw [Sem.wp_run]
 refine wpCode_mono (fun r s' hr=>?_) (h _ p rfl (mark_none A ▸ h1.enter c none p (by intro x; cases x)) hd ?_)
 ·cases r with
  | ok f=>exact hr
  | error e=>exact hr
 ·intro x hx
  rcases List.mem_cons.mp hx with rfl | hx
  ·exact h2
  ·exact h3 x hx
theorem runValue {c:Code} {Q:Value→Shared→Prop} (hd:decC c=false) (h:codeG M A c (fun f s'=>∃ v,f=.ret v∧Q v s') s):wpG M A (PySem.runValue c) Q s:=fun Γ p h1 h2 h3=>by
 rw [Sem.wp_runValue]
 refine wpCode_mono (fun r s' hr=>?_) (h _ p rfl (mark_none A ▸ h1.enter c none p (by intro x; cases x)) hd ?_)
 ·cases r with
  | ok f=>obtain ⟨v,rfl,hq⟩:=hr; exact hq
  | error e=>exact hr
 ·intro x hx
  rcases List.mem_cons.mp hx with rfl | hx
  ·exact h2
  ·exact h3 x hx
theorem call {f:Value} {args:List Value} {Q:Value→Shared→Prop} (h:codeG M A (.call f ⟨args,[]⟩) (fun f s'=>∃ v,f=.ret v∧Q v s') s):wpG M A (PySem.call f args) Q s:=runValue rfl h
theorem code_of {c:Code} {Q:Flow→Shared→Prop} (h:codeAny M A c (onlyOk Q) s):codeG M A c Q s:=fun Γ p h1 h2 _ _=>h Γ p h1 h2
theorem code_mono {c:Code} {Q Q':Flow→Shared→Prop} (h:codeG M A c Q s) (hQ:∀ f s,Q f s→Q' f s):codeG M A c Q' s:=fun Γ p h1 h2 h3 h4 =>
 wpCode_mono (fun r s' hr=>by cases r with | ok f=>exact hQ f s' hr | error e=>exact hr) (h Γ p h1 h2 h3 h4)
def finG (M:Model) (A:Around) (Q:Flow→Shared→Prop):Fin→Shared→Prop:=fun fin s'=>match fin with
 | .done f=>Q f s'
 | .again c'=>c'.quiet=true∧decC c'=false∧codeG M A c' Q s'
theorem code_tree {c:Code} {Q:Flow→Shared→Prop} (h:wpG M (A.under c) (M.den c) (finG M A Q) s):codeG M A c Q s:=fun Γ p hc hΓ hd hcl=>by
 rw [wpCode_iff_wp,hc]
 refine Sem.wp_mono M Γ _ (fun fin p' s' h'=>?_) (fun _ _ _ h'=>h'.elim) p s (h Γ p (hc ▸ hΓ.in) (hc ▸ hd) hcl)
 cases fin with
 | done f=>exact h'
 | again c'=>exact ⟨h'.1,h'.2.2 (Γ.goto c') p' rfl (hΓ.goto c') h'.2.1 hcl⟩
theorem code_loop {c:Code} {Q:Flow→Shared→Prop} (hq:c.quiet=true) (hd:decC c=false) (I:Nat→Shared→Prop)
  (turn:∀ n s,I n s→wpG M (A.under c) (M.den c) (fun fin s'=>(fin=.again c∧∃ m,m<n∧I m s')∨finG M A Q fin s') s)
  (n:Nat) (h:I n s):codeG M A c Q s:=by
 induction n using Nat.strongRecOn generalizing s with
 | ind n ih =>
  refine code_tree (mono (turn n s h) fun fin s' hf=>?_)
  rcases hf with ⟨rfl,m,hm,hI⟩ | hf
  ·exact ⟨hq,hd,ih m hm hI⟩
  ·exact hf
end
section
variable {prog:Program} {w:World} {A:Around} {s:Shared} {env:Env} {Q:Value→Shared→Prop} {QF:Flow→Shared→Prop} {QB:Bool→Shared→Prop} {QU:Unit→Shared→Prop}
theorem mono' {α:Type} {M:Model} {t:Sem α} {Q Q':α→Shared→Prop} (hQ:∀ a s,Q a s→Q' a s) (h:wpG M A t Q s):wpG M A t Q' s:=mono h hQ
theorem BinOp {l op r pos} (h:wpG (model prog w) A (eval l env) (fun a s₁=>wpG (model prog w) A (eval r env) (fun b s₂=>wpG (model prog w) A (binaryOp op a b) Q s₂) s₁) s) :
  wpG (model prog w) A (eval (.BinOp l op r pos) env) Q s:=by
 rw [arm_eval_BinOp]
 exact bind (mono h fun a s₁ h₁=>bind (holding (mono h₁ fun b s₂ h₂=>stand (operate h₂))))
theorem UnaryOp {op x pos} (h:wpG (model prog w) A (eval x env) (fun a s₁=>wpG (model prog w) A (unaryOp op a) Q s₁) s) :
  wpG (model prog w) A (eval (.UnaryOp op x pos) env) Q s:=by
 rw [arm_eval_UnaryOp]
 exact bind (mono h fun a s₁ h₁=>stand (holding h₁))
theorem IfExp {t a b pos} (h:wpG (model prog w) A (isTrue t env (eval t env)) (fun c s₁=>if c then wpG (model prog w) A (eval a env) Q s₁ else wpG (model prog w) A (eval b env) Q s₁) s) :
  wpG (model prog w) A (eval (.IfExp t a b pos) env) Q s:=by
 rw [arm_eval_IfExp]
 refine bind (mono h fun c s₁ h₁=>?_)
 cases c <;> exact h₁
theorem tests_value {e:Expr} (he:∀ whole,isTrue e env whole=(do let v ← whole; PySem.standAt e.pos; PySem.holding [v] (truthy v)))
  (h:wpG (model prog w) A (eval e env) (fun v s₁=>wpG (model prog w) A (truthy v) QB s₁) s):wpG (model prog w) A (isTrue e env (eval e env)) QB s:=by
 rw [he]
 exact bind (mono h fun v s₁ h₁=>stand (holding h₁))
theorem tests_Not {x pos whole} (h:wpG (model prog w) A (isTrue x env (eval x env)) (fun b s₁=>QB (!b) s₁) s):wpG (model prog w) A (isTrue (.UnaryOp .Not x pos) env whole) QB s:=by
 rw [arm_isTrue_UnaryOp]
 exact bind (mono h fun b s₁ h₁=>pure h₁)
theorem tests_BoolOp {op l pos whole} (h:wpG (model prog w) A (allTrue op l env) QB s):wpG (model prog w) A (isTrue (.BoolOp op l pos) env whole) QB s:=by
 rw [arm_isTrue_BoolOp]
 exact h
theorem allTrue_nil {op} (h:QB (op == .And) s):wpG (model prog w) A (allTrue op [] env) QB s:=pure h
theorem allTrue_cons {op x rest} (h:wpG (model prog w) A (isTrue x env (eval x env)) (fun b s₁=>match op,b with
   | .And,false=>QB false s₁
   | .Or,true=>QB true s₁
   | _,_=>wpG (model prog w) A (allTrue op rest env) QB s₁) s):wpG (model prog w) A (allTrue op (x::rest) env) QB s:=by
 rw [arm_allTrue_cons]
 refine bind (mono h fun b s₁ h₁=>?_)
 cases op <;> cases b <;> first | exact pure h₁ | exact h₁
theorem bools_one {op x pos} (h:wpG (model prog w) A (eval x env) Q s):wpG (model prog w) A (boolOp pos op [eval x env]) Q s:=by
 exact show wpG _ A (eval x env) Q s from h
theorem bools_cons {op x pos} {r:Sem Value} {rest:List (Sem Value)} (h:wpG (model prog w) A x (fun v s₁=>wpG (model prog w) A (truthy v) (fun b s₂=>match op,b with
   | .And,false=>Q v s₂
   | .Or,true=>Q v s₂
   | _,_=>wpG (model prog w) A (boolOp pos op (r::rest)) Q s₂) s₁) s):wpG (model prog w) A (boolOp pos op (x::r::rest)) Q s:=by
 show wpG _ A (x >>= fun v=>PySem.standAt pos >>= fun _=>PySem.holding [v] (truthy v) >>= fun t=>match op,t with | .And,false | .Or,true=>Pure.pure v | _,_=>boolOp pos op (r::rest)) Q s
 refine bind (mono h fun v s₁ h₁=>stand (bind (holding (mono h₁ fun b s₂ h₂=>?_))))
 cases op <;> cases b <;> first | exact pure h₂ | exact h₂
theorem execs_nil (h:QF .next s):wpG (model prog w) A (execs [] env) QF s:=pure h
theorem execs_cons {st rest} (h:wpG (model prog w) A (exec st env) (fun f s'=>match f with | .next=>wpG (model prog w) A (execs rest env) QF s' | f=>QF f s') s) :
  wpG (model prog w) A (execs (st::rest) env) QF s:=by
 rw [PySem.execs_cons]
 refine bind (mono h fun f s' h'=>?_)
 cases f <;> first | exact pure h' | exact h'
theorem If {t a b pos} (h:wpG (model prog w) A (isTrue t env (eval t env)) (fun c s₁=>if c then wpG (model prog w) A (execs a env) QF s₁ else wpG (model prog w) A (execs b env) QF s₁) s) :
  wpG (model prog w) A (exec (.If t a b pos) env) QF s:=by
 rw [exec_If]
 refine stand (bind (mono h fun c s₁ h₁=>?_))
 cases c <;> exact h₁
theorem Return_some {e pos} (h:wpG (model prog w) A (eval e env) (fun v=>QF (.ret v)) s):wpG (model prog w) A (exec (.Return (some e) pos) env) QF s:=by
 rw [exec_Return_some]
 exact stand (bind (mono h fun v s₁ h₁=>pure h₁))
theorem Return_none {pos} (h:QF (.ret .none) s):wpG (model prog w) A (exec (.Return none pos) env) QF s:=by
 rw [exec_Return_none]
 exact stand (pure h)
theorem Break {pos} (h:QF .brk s):wpG (model prog w) A (exec (.Break pos) env) QF s:=by
 rw [arm_exec_Break]
 exact stand (pure h)
theorem runOwn {c:Code} (hd:decC c=false) (h:codeG (model prog w) A c QF s):wpG (model prog w) A (PySem.runOwn c env none) QF s:=by
 unfold PySem.runOwn
 exact onRaise (run hd h)
theorem While {t b pos} (h:codeG (model prog w) A (.whileLoop t b [] env) QF s):wpG (model prog w) A (exec (.While t b [] pos) env) QF s:=by
 rw [exec_While]
 exact stand (runOwn rfl h)
theorem For {target iter body pos} (hs:∀ x,foldedSetIterable iter env x=Pure.pure x) (h:wpG (model prog w) A (eval iter env) (fun x s₁=>wpG (model prog w) A (pyIter x) (fun it s₂=>codeG (model prog w) A (.forLoop target it body [] env) QF s₂) s₁) s) :
  wpG (model prog w) A (exec (.For target iter body [] pos) env) QF s:=by
 rw [exec_For]
 exact stand (bind (mono h fun x s₁ h₁=>bind (of_eq (hs x) (stand (bind (holding (mono h₁ fun it s₂ h₂=>runOwn rfl h₂)))))))
end
end G
end Mine
end
section
namespace Mine
open PySem PySem.W PySem.Calls PyProof.Rows
namespace G
section
variable {prog:Program} {w:World} {A:Around} {s:Shared} {env:Env} {Q:Value→Shared→Prop} {QF:Flow→Shared→Prop} {QB:Bool→Shared→Prop} {QU:Unit→Shared→Prop}
theorem code_while {t b} (h:wpG (model prog w) A (isTrue t env (eval t env)) (fun c s₁=>if c then wpG (model prog w) A (execs b env) (fun f s₂=>match f with
    | .next | .cont=>codeG (model prog w) A (.whileLoop t b [] env) QF s₂
    | .brk=>QF .next s₂
    | .ret v=>QF (.ret v) s₂) s₁ else QF .next s₁) s):codeG (model prog w) A (.whileLoop t b [] env) QF s:=by
 refine code_tree ?_
 show wpG _ A ((whileTurn t b [] env).onRaise (fun x=>do noteFrame x env; theTreesLotGoes x)) _ s
 refine onRaise ?_
 unfold whileTurn
 refine bind (mono h fun c s₁ h₁=>?_)
 induction c using Bool.casesOn with
 | false=>exact bind (execs_nil (pure h₁))
 | true =>
  refine bind (mono h₁ fun f s₂ h₂=>?_)
  cases f with
  | next=>exact pure ⟨rfl,rfl,h₂⟩
  | cont=>exact pure ⟨rfl,rfl,h₂⟩
  | brk=>exact pure h₂
  | ret v=>exact pure h₂
theorem code_for {target it b} (h:wpG (model prog w) A (pyNext it) (fun r s₁=>match r with
   | none=>QF .next s₁
   | some v=>wpG (model prog w) A (letOwnedTupleGo target it v) (fun _ s₂=>wpG (model prog w) A (assign target env v) (fun _ s₃=>wpG (model prog w) A (execs b env) (fun f s₄=>match f with
    | .next | .cont=>codeG (model prog w) A (.forLoop target it b [] env) QF s₄
    | .brk=>QF .next s₄
    | .ret v=>QF (.ret v) s₄) s₃) s₂) s₁) s):codeG (model prog w) A (.forLoop target it b [] env) QF s:=by
 refine code_tree ?_
 show wpG _ A ((forTurn target it b [] env).onRaise (fun x=>do noteFrame x env; theTreesLotGoes x)) _ s
 refine onRaise ?_
 unfold forTurn
 refine stand (bind (onRaise (mono h fun r s₁ h₁=>?_)))
 induction r using Option.casesOn with
 | none =>
  refine pure ⟨rfl,rfl,code_tree ?_⟩
  show wpG _ A (do return Fin.done (← (execs [] env).onRaise (fun x=>do noteFrame x env; theTreesLotGoes x))) _ s₁
  exact bind (onRaise (execs_nil (pure h₁)))
 | some v =>
  refine bind (mono h₁ fun _ s₂ h₂=>bind (mono h₂ fun _ s₃ h₃=>bind (mono h₃ fun f s₄ h₄=>?_)))
  cases f with
  | next=>exact pure ⟨rfl,rfl,h₄⟩
  | cont=>exact pure ⟨rfl,rfl,h₄⟩
  | brk=>exact pure h₄
  | ret v=>exact pure h₄
theorem Compare1 {l op r pos} (hm:behindInMarks op r=false) (h:wpG (model prog w) A (eval l env) (fun a s₁=>wpG (model prog w) A (eval r env) (fun b s₂=>wpG (model prog w) A (compareOp op a b) Q s₂) s₁) s) :
  wpG (model prog w) A (eval (.Compare l [op] [r] pos) env) Q s:=by
 rw [eval_Compare1,markedBehindIn_of_false hm]
 exact bind (mono h fun a s₁ h₁=>bind (holding (mono h₁ fun b s₂ h₂=>stand (operate h₂))))
theorem tests_Compare1 {l op r pos whole} (hm:behindInMarks op r=false) (h:wpG (model prog w) A (eval l env) (fun a s₁=>wpG (model prog w) A (eval r env) (fun b s₂=>wpG (model prog w) A (compareOp op a b) (fun c s₃=>wpG (model prog w) A (truthy c) QB s₃) s₂) s₁) s) :
  wpG (model prog w) A (isTrue (.Compare l [op] [r] pos) env whole) QB s:=by
 rw [isTrue_Compare1,markedBehindIn_of_false hm]
 exact bind (mono h fun a s₁ h₁=>bind (holding (mono h₁ fun b s₂ h₂=>stand (bind (operate (mono h₂ fun c s₃ h₃=>holding h₃))))))
theorem release {vs keep:List Value} {f:Unit→Sem Value} (h:wpG (model prog w) A (f ()) Q s):wpG (model prog w) A (PySem.release vs keep >>= f) Q s :=
 bind (fun Γ p h1 h2 h3=>by rw [Sem.wp_release]; exact h)
theorem releaseB {vs keep:List Value} {f:Unit→Sem Bool} (h:wpG (model prog w) A (f ()) QB s):wpG (model prog w) A (PySem.release vs keep >>= f) QB s :=
 bind (fun Γ p h1 h2 h3=>by rw [Sem.wp_release]; exact h)
theorem releaseU {vs keep:List Value} (h:QU () s):wpG (model prog w) A (PySem.release vs keep) QU s :=
 fun Γ p h1 h2 h3=>by rw [Sem.wp_release]; exact h
theorem Compare2 {l o1 o2 r q pos} (hm:behindInMarks o2 q=false) (h:wpG (model prog w) A (eval l env) (fun a s₁=>wpG (model prog w) A (eval r env) (fun b s₂=>wpG (model prog w) A (compareOp o1 a b) (fun c s₃=>wpG (model prog w) A (truthy c)
   (fun t s₄=>if t then wpG (model prog w) A (eval q env) (fun d s₅=>wpG (model prog w) A (compareOp o2 b d) Q s₅) s₄ else Q c s₄) s₃) s₂) s₁) s) :
  wpG (model prog w) A (eval (.Compare l [o1,o2] [r,q] pos) env) Q s:=by
 rw [arm_eval_Compare]
 show wpG _ A (do compareChain pos (← eval l env) [o1,o2] [eval r env,markedBehindIn o2 q (eval q env)]) Q s
 rw [markedBehindIn_of_false hm]
 refine bind (mono h fun a s₁ h₁=>?_)
 show wpG _ A (do
  let rv ← PySem.holding [a] (eval r env)
  PySem.standAt pos
  let c ← PySem.holding [a,rv] (compareOp o1 a rv)
  PySem.release [a,rv] [c]
  if ← PySem.holding [c,rv] (truthy c) then compareChain pos rv [o2] [eval q env] else Pure.pure c) Q s₁
 refine bind (holding (mono h₁ fun b s₂ h₂=>stand (bind (holding (mono h₂ fun c s₃ h₃=>release (bind (holding (mono h₃ fun t s₄ h₄=>?_))))))))
 induction t using Bool.casesOn with
 | false=>exact pure h₄
 | true=>exact bind (holding (mono h₄ fun d s₅ h₅=>stand (operate h₅)))
theorem tests_Compare2 {l o1 o2 r q pos whole} (hm:behindInMarks o2 q=false) (h:wpG (model prog w) A (eval l env) (fun a s₁=>wpG (model prog w) A (eval r env) (fun b s₂=>wpG (model prog w) A (compareOp o1 a b) (fun c s₃=>wpG (model prog w) A (truthy c)
   (fun t s₄=>if t then wpG (model prog w) A (eval q env) (fun d s₅=>wpG (model prog w) A (compareOp o2 b d) (fun e s₆=>wpG (model prog w) A (truthy e) QB s₆) s₅) s₄ else QB false s₄) s₃) s₂) s₁) s) :
  wpG (model prog w) A (isTrue (.Compare l [o1,o2] [r,q] pos) env whole) QB s:=by
 rw [arm_isTrue_Compare]
 show wpG _ A (do testChain pos (← eval l env) [o1,o2] [eval r env,markedBehindIn o2 q (eval q env)]) QB s
 rw [markedBehindIn_of_false hm]
 refine bind (mono h fun a s₁ h₁=>?_)
 show wpG _ A (do
  let rv ← PySem.holding [a] (eval r env)
  PySem.standAt pos
  let c ← PySem.holding [a,rv] (compareOp o1 a rv)
  PySem.release [a,rv] [c]
  if ← PySem.holding [c,rv] (truthy c) then testChain pos rv [o2] [eval q env] else Pure.pure false) QB s₁
 refine bind (holding (mono h₁ fun b s₂ h₂=>stand (bind (holding (mono h₂ fun c s₃ h₃=>releaseB (bind (holding (mono h₃ fun t s₄ h₄=>?_))))))))
 induction t using Bool.casesOn with
 | false=>exact pure h₄
 | true=>exact bind (holding (mono h₄ fun d s₅ h₅=>stand (bind (operate (mono h₅ fun e s₆ h₆=>holding h₆)))))
theorem spliced_nil {Q:List Value→Shared→Prop} (h:Q [] s):wpG (model prog w) A (spliced []) Q s:=pure h
theorem spliced_cons {x:Sem Value} {rest:List (Bool × Sem Value)} {Q:List Value→Shared→Prop}
  (h:wpG (model prog w) A x (fun v s₁=>wpG (model prog w) A (spliced rest) (fun vs s₂=>Q (v::vs) s₂) s₁) s):wpG (model prog w) A (spliced ((false,x)::rest)) Q s:=by
 rw [spliced]
 refine bind (mono h fun v s₁ h₁=>?_)
 simp only [Bool.false_eq_true,if_false]
 exact bind (pure (bind (holding (mono h₁ fun vs s₂ h₂=>pure h₂))))
theorem evalArgs {f:Value} {args:List (Bool × Sem Value)} {Q:Args→Shared→Prop} (hp:args.any (·.1)=false) (h:wpG (model prog w) A (spliced args) (fun vs s'=>Q ⟨vs,[]⟩ s') s):wpG (model prog w) A (PySem.evalArgs f true args []) Q s:=by
 unfold PySem.evalArgs
 induction args using List.casesOn with
 | nil =>
  refine bind (mono h fun vs s' h'=>bind (pure ?_))
  refine holding ?_
  exact bind (pure (bind (pure (pure h'))))
 | cons a r =>
  obtain ⟨b,x⟩:=a
  induction b using Bool.casesOn with
  | true=>simp at hp
  | false =>
   refine bind (mono h fun vs s' h'=>bind (pure ?_))
   refine holding ?_
   exact bind (pure (bind (pure (pure h'))))
theorem List_ {elts pos} (h:wpG (model prog w) A (spliced (backTo pos (starEach elts env))) (fun vs s₁=>wpG (model prog w) A (newList vs) Q s₁) s):wpG (model prog w) A (eval (.List elts pos) env) Q s:=by
 rw [arm_eval_List]
 exact stand (bind h)
theorem Tuple_ {elts c pos} (h:wpG (model prog w) A (spliced (backTo pos (starEach elts env))) (fun vs s₁=>wpG (model prog w) A (newTuple vs) Q s₁) s):wpG (model prog w) A (eval (.Tuple elts c pos) env) Q s:=by
 rw [arm_eval_Tuple]
 exact stand (bind h)
theorem ite {α:Type} {c:Prop} [Decidable c] {x y:Sem α} {Q:α→Shared→Prop} (h1:wpG (model prog w) A x Q s) (h2:wpG (model prog w) A y Q s):wpG (model prog w) A (if c then x else y) Q s:=by
 by_cases h:c
 ·rw [if_pos h]; exact h1
 ·rw [if_neg h]; exact h2
theorem callWith {pos:Pos} {f:Value} {first:List Value} {args:List (Bool × Sem Value)} {k:Keeper} (hp:args.any (·.1)=false)
  (h:wpG (model prog w) A (PySem.evalArgs f true args []) (fun a s₁=>a.kw=[]∧wpAny (model prog w) A (keeperOf f) (fun k' s'=>k'=k∧s'=s₁) noE s₁∧wpG (model prog w) A (PySem.call f (first++a.pos)) Q s₁) s) :
  wpG (model prog w) A (PySem.callWith pos f first args []) Q s:=by
 unfold PySem.callWith
 refine bind (holding (mono h fun a s₁ h₁=>stand ?_))
 obtain ⟨hk,hkeep,hc⟩:=h₁
 have tail:∀ {t:Sem Value},wpG (model prog w) A t Q s₁→wpG (model prog w) A (t >>= fun r=>PySem.holding [r] PySem.point >>= fun _=>Pure.pure r) Q s₁ :=
  fun ht=>bind (mono ht fun r s₂ hr=>bind (holding (point (pure hr))))
 refine step (wpAny_mono hkeep (fun k' s' hk'=>?_) fun _ _ x=>x)
 obtain ⟨rfl,rfl⟩:=hk'
 rw [hp,hk]
 cases k'
 ·exact ite (c:=args.length+2 * 0 > 30) (tail hc) (tail (keep hc))
 ·exact ite (c:=args.length+2 * 0 > 30) (tail hc) (tail (keep hc))
 ·exact tail hc
 ·exact tail (operate hc)
theorem attributeBase_of {o:Expr} {attr:Str} {whole:Sem Value} (h:notSuper o=true):attributeBase o attr env whole=whole:=by
 induction o using Expr.casesOn with
 | Call f a k p=>induction a using List.casesOn with
  | nil=>cases h
  | cons x r=>cases f <;> rfl
 | _=>rfl
theorem Attribute {value attr pos} (hn:notSuper value=true) (h:wpG (model prog w) A (eval value env) (fun o s₁=>wpG (model prog w) A (getAttr o attr true) Q s₁) s):wpG (model prog w) A (eval (.Attribute value attr pos) env) Q s:=by
 rw [arm_eval_Attribute,attributeBase_of hn]
 exact bind (mono h fun o s₁ h₁=>stand (bind (holding (mono h₁ fun r s₂ h₂=>step (wpAny_letTemporaryGo (pure h₂))))))
theorem Subscript {value slice:Expr} {pos:Pos}
  (h:wpG (model prog w) A (eval value env) (fun o s₁=>wpG (model prog w) A (eval slice env) (fun i s₂=>SubscriptOn (model prog w) A o i Q noE s₂) s₁) s) :
  wpG (model prog w) A (eval (.Subscript value slice pos) env) Q s:=by
 rw [eval_Subscript]
 refine bind (mono h fun o s₁ h₁=>bind (holding (mono h₁ fun i s₂ h₂=>stand ?_)))
 obtain ⟨T,id,hl,hT,hg⟩:=h₂
 refine bind ?_
 rw [getitemInPython_of_ne hT.not_modules]
 refine step (wpAny_specialOf hT hl ?_)
 refine pure (bind ?_)
 have fin:∀ vs,wpG (model prog w) A (PySem.operate vs (getItem o i)) (fun r s₃=>wpG (model prog w) A (letTemporaryGo value o r >>= fun _=>Pure.pure r) Q s₃) s₂:=fun vs =>
  operate (of (wpAny_mono hg (fun r s₃ h₃=>step (wpAny_letTemporaryGo (pure h₃))) fun _ _ x=>x))
 cases slice with
 | Slice _ _ t _=>cases t <;> exact fin _
 | _=>exact fin _
theorem opt_none {Q:Value→Shared→Prop} (h:Q .none s):wpG (model prog w) A (valueOrNone (evalOpt none env)) Q s:=by
 show wpG _ A (Pure.pure .none) Q s
 exact pure h
theorem opt_some {e:Expr} (h:wpG (model prog w) A (eval e env) Q s):wpG (model prog w) A (valueOrNone (evalOpt (some e) env)) Q s:=h
theorem Slice_ {lo hi st:Option Expr} {pos} (h:wpG (model prog w) A (valueOrNone (evalOpt lo env)) (fun l s₁=>wpG (model prog w) A (valueOrNone (evalOpt hi env)) (fun u s₂=>wpG (model prog w) A (valueOrNone (evalOpt st env))
   (fun t s₃=>Q (.ref s₃.heap.objs.size) { s₃ with heap:=s₃.heap.push { cls:=.type "slice",data:=.fields #[l,u,t] } }) s₂) s₁) s) :
  wpG (model prog w) A (eval (.Slice lo hi st pos) env) Q s:=by
 rw [arm_eval_Slice]
 refine bind (mono h fun l s₁ h₁=>bind (holding (mono h₁ fun u s₂ h₂=>bind (holding (mono h₂ fun t s₃ h₃=>of (wpAny_newObj_type h₃))))))
end
end G
end Mine
end
section
namespace Mine
open PySem PySem.W PySem.Calls PyProof.Rows
namespace G
section
variable {prog:Program} {w:World} {A:Around} {s:Shared} {env:Env} {Q:Value→Shared→Prop} {QF:Flow→Shared→Prop} {QB:Bool→Shared→Prop} {QU:Unit→Shared→Prop}
theorem Call {func args pos} (hn:notAttr func=true) (h:wpG (model prog w) A (eval func env) (fun f s₁=>wpG (model prog w) A (PySem.callWith pos f [] (backTo pos (starEach args env)) []) Q s₁) s) :
  wpG (model prog w) A (eval (.Call func args [] pos) env) Q s:=by
 have e:eval (.Call func args [] pos) env=(do PySem.callWith pos (← eval func env) [] (backTo pos (starEach args env)) (backToKw pos (keywordEach [] env))):=by
  cases func <;> first | rfl | cases hn
 rw [e]
 exact bind h
theorem Method {o name apos args pos} (hn:notSuper o=true) (hp:(apos.endLine == pos.line)=true) (hs:(backTo pos (starEach args env)).all (!·.1)=true) (hlen:args.length<30)
  (h:wpG (model prog w) A (eval o env) (fun ov s₁=>∀ pl,wpAny (model prog w) A (getMethod ov name pl) (fun f s₂=>wpG (model prog w) A (PySem.callWith pos f.1 f.2 (backTo pos (starEach args env)) []) Q s₂) noE s₁) s) :
  wpG (model prog w) A (eval (.Call (.Attribute o name apos) args [] pos) env) Q s:=by
 rw [arm_eval_Call,attributeBase_of hn]
 refine bind (mono h fun ov s₁ h₁=>stand ?_)
 unfold methodCall
 have hf:methodCallForm (args.length+([]:List Keyword).length) (backTo pos (starEach args env)) (backToKw pos (keywordEach [] env))=true:=by
  simp only [methodCallForm,hs,Bool.true_and]
  show (true && decide (args.length+0+0<30))=true
  simpa using hlen
 rw [hf]
 refine bind (holding (of (wpAny_mono (h₁ _) (fun f s₂ h₂=>?_) fun _ _ x=>x)))
 refine bind (of_eq (a:=pos) ?_ h₂)
 unfold methodCallPos
 simp [hp]
theorem swapsWith_false {value:Expr} {t:Option Expr} {l:Nat} (h:isComp value=false):swapsWith value t l env=Pure.pure false:=by
 cases value <;> first | rfl | cases h
theorem Assign_plain {t value pos} (hc:isComp value=false) (hsw:swappedStores [t] value env=Pure.pure none)
  (h:wpG (model prog w) A (eval value env) (fun v s₁=>wpG (model prog w) A (((assignEach [t] env).map (·.2)).headD (fun _=>Pure.pure ()) v) (fun _ s₂=>QF .next s₂) s₁) s) (h1:(assignEach [t] env).length=1):wpG (model prog w) A (exec (.Assign [t] value pos) env) QF s:=by
 rw [arm_exec_Assign]
 refine stand ?_
 show wpG _ A (swapsWith value (some t) pos.line env >>= _) QF s
 rw [swapsWith_false hc]
 refine bind (pure ?_)
 refine bind (mono h fun v s₁ h₁=>?_)
 rw [hsw]
 refine bind (pure ?_)
 unfold assignStores
 obtain ⟨x,hx⟩:=List.length_eq_one_iff.mp h1
 rw [hx] at h₁ ⊢
 exact bind (mono h₁ fun _ s₂ h₂=>pure h₂)
theorem Assign_Name {x p value pos} (hc:isComp value=false) (h:wpG (model prog w) A (eval value env) (fun v s₁=>wpG (model prog w) A (storeName env x v) (fun _ s₂=>QF .next s₂) s₁) s) :
  wpG (model prog w) A (exec (.Assign [.Name x p] value pos) env) QF s:=by
 rw [exec_Assign_Name (hs:=swapsWith_false hc)]
 refine stand (bind (mono h fun v s₁ h₁=>stand (bind ?_)))
 intro Γ q h1 h2 h3
 rw [Sem.wp_bindName]
 exact mono h₁ (fun _ s₂ h₂=>pure h₂) Γ q h1 h2 h3
theorem assign_Name {x p v} (h:wpG (model prog w) A (storeName env x v) QU s):wpG (model prog w) A (assign (.Name x p) env v) QU s:=by
 rw [arm_assign_Name]
 refine stand ?_
 intro Γ q h1 h2 h3
 rw [Sem.wp_bindName]
 exact h Γ q h1 h2 h3
theorem assign_Attribute {o attr p v} (h:wpG (model prog w) A (eval o env) (fun ov s₁=>wpG (model prog w) A (setAttr ov attr v) QU s₁) s):wpG (model prog w) A (assign (.Attribute o attr p) env v) QU s:=by
 rw [arm_assign_Attribute]
 exact bind (holding (mono h fun ov s₁ h₁=>stand (bind (holding (mono h₁ fun _ s₂ h₂=>releaseU h₂)))))
theorem assign_Subscript {o i p v} (h:wpG (model prog w) A (eval o env) (fun ov s₁=>wpG (model prog w) A (eval i env) (fun iv s₂=>wpG (model prog w) A (setItem ov iv v) QU s₂) s₁) s) :
  wpG (model prog w) A (assign (.Subscript o i p) env v) QU s:=by
 rw [arm_assign_Subscript]
 exact bind (holding (mono h fun ov s₁ h₁=>bind (holding (mono h₁ fun iv s₂ h₂=>stand (bind (holding (mono h₂ fun _ s₃ h₃=>releaseU h₃)))))))
theorem Assign_Attribute {o attr p value pos} (hc:isComp value=false) (h:wpG (model prog w) A (eval value env) (fun v s₁=>wpG (model prog w) A (eval o env) (fun ov s₂=>wpG (model prog w) A (setAttr ov attr v) (fun _ s₃=>QF .next s₃) s₂) s₁) s) :
  wpG (model prog w) A (exec (.Assign [.Attribute o attr p] value pos) env) QF s :=
 Assign_plain hc rfl (mono h fun v s₁ h₁=>assign_Attribute h₁) rfl
theorem Assign_Subscript {o i p value pos} (hc:isComp value=false) (h:wpG (model prog w) A (eval value env) (fun v s₁=>wpG (model prog w) A (eval o env) (fun ov s₂=>wpG (model prog w) A (eval i env) (fun iv s₃=>wpG (model prog w) A (setItem ov iv v) (fun _ s₄=>QF .next s₄) s₃) s₂) s₁) s) :
  wpG (model prog w) A (exec (.Assign [.Subscript o i p] value pos) env) QF s :=
 Assign_plain hc rfl (mono h fun v s₁ h₁=>assign_Subscript h₁) rfl
theorem assignInOrder_nil {vs} (h:QU () s):wpG (model prog w) A (assignInOrder [] vs) QU s:=pure h
theorem assignInOrder_cons {t ts x xs} (h:wpG (model prog w) A (t x) (fun _ s₁=>wpG (model prog w) A (assignInOrder ts xs) QU s₁) s):wpG (model prog w) A (assignInOrder (t::ts) (x::xs)) QU s:=by
 exact show wpG _ A (PySem.holding xs (t x) >>= fun _=>assignInOrder ts xs) QU s from bind (holding h)
theorem Assign_Tuple {elts c p value pos} (hc:isComp value=false) (hsw:swappedStores [.Tuple elts c p] value env=Pure.pure none)
  (h:wpG (model prog w) A (eval value env) (fun v s₁=>wpAny (model prog w) A (unpackItems v (assignEach elts env).length ((assignEach elts env).findIdx? (·.1))) (fun vs s₂=>wpG (model prog w) A (assignInOrder ((assignEach elts env).map (·.2)) vs) (fun _ s₃=>QF .next s₃) s₂) noE s₁) s) :
  wpG (model prog w) A (exec (.Assign [.Tuple elts c p] value pos) env) QF s:=by
 refine Assign_plain hc hsw (mono h fun v s₁ h₁=>?_) rfl
 show wpG _ A (assign (.Tuple elts c p) env v) _ s₁
 rw [arm_assign_Tuple]
 refine stand ?_
 unfold unpack
 exact bind (holding (of h₁))
theorem Assign_swap {ts c p value pos names} (hc:isComp value=false) (hsw:swappedStores [.Tuple ts c p] value env=Pure.pure (some names))
  (h:wpG (model prog w) A (eval value env) (fun v s₁=>wpAny (model prog w) A (unpackItems v names.length none) (fun vs s₂=>wpG (model prog w) A (assignInOrder (names.reverse.map fun n=>bindName env n) vs.reverse) (fun _ s₃=>QF .next s₃) s₂) noE s₁) s) :
  wpG (model prog w) A (exec (.Assign [.Tuple ts c p] value pos) env) QF s:=by
 rw [arm_exec_Assign]
 refine stand ?_
 show wpG _ A (swapsWith value (some (.Tuple ts c p)) pos.line env >>= _) QF s
 rw [swapsWith_false hc]
 refine bind (pure ?_)
 refine bind (mono h fun v s₁ h₁=>?_)
 rw [hsw]
 refine bind (pure ?_)
 unfold assignStores
 refine rule (bind (of (wpAny_mono h₁ (fun vs s₂ h₂=>?_) fun _ _ x=>x)))
 exact bind (mono h₂ fun _ s₃ h₃=>pure h₃)
theorem let_go (h:∀ v,Q v s):wpG (model prog w) A (PySem.runValue (.builtin "proto.let_go" {})) Q s :=
 of (wpAny_runValue (codeAny_builtin entry_let_go (show wpAny _ _ (ret .none) _ _ s from wpAny_pure (h _))))
theorem dropValue {f as ks p pos v} (h:QF .next s):wpG (model prog w) A (PySem.dropValue (.Call f as ks p) pos v) QF s:=by
 cases v <;> first | exact pure h | exact stand (bind (let_go fun _=>pure h))
theorem Expr_ {f as ks p pos} (hi:interactive env=false) (h:wpG (model prog w) A (eval (.Call f as ks p) env) (fun _ s₁=>QF .next s₁) s):wpG (model prog w) A (exec (.Expr (.Call f as ks p) pos) env) QF s:=by
 rw [exec_Expr _ _ _ hi rfl]
 exact stand (bind (mono h fun v s₁ h₁=>dropValue h₁))
theorem Try {body handlers pos} (h:wpG (model prog w) A (execs body env) QF s):wpG (model prog w) A (exec (.Try body handlers [] [] pos) env) QF s:=by
 rw [arm_exec_Try]
 refine stand ?_
 unfold tryStmt
 refine bind (attempt (mono h fun f s₁ h₁=>?_))
 cases f <;> first | exact execs_nil h₁ | exact pure h₁
theorem code_b {id:String} {as:Args} {b:Builtin} {QC:Flow→Shared→Prop} (hb:entryFor table id=some b) (h:wpG (model prog w) (A.under (.builtin id as)) (b as) (finG (model prog w) A QC) s):codeG (model prog w) A (.builtin id as) QC s:=by
 refine code_tree ?_
 show wpG _ _ (match entryFor table id with | some b=>b as | none=>unsupported ((withoutEnding? id "#data").getD id)) _ _
 rw [hb]
 exact h
theorem call_fn {a:Addr} {o:Obj} {fd:FuncData} {args:List Value} {body:List Stmt} {binds:List (Str × Value)} (hroom:A.depth<recursionLimit) (ho:s.heap.get? a=some o) (hd:o.data=.func fd)
  (hco:fd.scope.isCoroutine=false) (hgen:fd.scope.isGenerator=false) (hk:fd.scope.kind=.function) (hbody:fd.body=.stmts body) (hcl:fd.closure=[]) (hcd:s.heap.CodeRec fd.code fd.qualname) (hlim:s.heap.NoLimit)
  (hbind:bindArgs fd ⟨args,[]⟩=Pure.pure binds) (hcell:∀ x ∈ fd.scope.names,x.2 ≠ .cell) (hloc:∀ x ∈ binds,fd.scope.names.lookup x.1=some .local)
  (h:∀ h₁,h₁.Ns s.heap.objs.size (fun x=>binds.reverse.lookup x)→Heap.SameBut s.heap.objs.size (s.heap.push { cls:=.type "frame",data:=.dict #[] }) h₁ →
   wpG (model prog w) (A.deeper (newEnv fd.scope s.heap.objs.size fd.globals [] (fd.qualname++".<locals>.") (some a) fd.code none fd.builtins)) (execs body (newEnv fd.scope s.heap.objs.size fd.globals [] (fd.qualname++".<locals>.") (some a) fd.code none fd.builtins))
    (fun f s'=>Q (match f with | .ret v=>v | _=>.none) s') { s with heap:=h₁,toks:=s.toks+binds.length }) :
  wpG (model prog w) A (PySem.call (.ref a) args) Q s:=by
 refine call (code_tree ?_)
 show wpG _ A.in1 (callAny (.ref a) ⟨args,[]⟩) _ s
 obtain ⟨c,oc,vs,tq,hc,hoc,hdc,hq⟩:=hcd
 obtain ⟨cls,dct,dt,sl⟩:=o
 cases (show dt=_ from hd)
 obtain ⟨f1,f2,f3,f4,f5,f6,f7,f8,f9,f10,f11,f12,f13,f14,f15⟩:=fd
 cases (show f13=_ from hc)
 cases (show f4=_ from hbody)
 refine step (wpAny_load ho ?_)
 show wpG _ A.in1 (callFunction a _ ⟨args,[]⟩) _ s
 unfold callFunction
 refine bind (of (wpAny_field hoc hdc hq ?_))
 refine bind (pure ?_)
 rw [hbind]
 refine bind (pure ?_)
 rw [hcl]
 refine bind (of (wpAny_newFunctionEnv hcell hloc (fun h₁ hns hsb=>?_) hk))
 refine bind (of (wpAny_enterFrame (hlim.fresh _ hsb) hroom ?_))
 rw [hgen,hco]
 refine pure ⟨rfl,rfl,code_tree ?_⟩
 show wpG _ (A.deeper _) (do PySem.point; match ← (execs body _).onRaise (leaving _) with | .ret v=>ret v | _=>ret .none) _ _
 refine bind (point (bind (onRaise (mono (h h₁ hns hsb) fun f s' h'=>?_))))
 cases f <;> exact pure ⟨_,rfl,h'⟩
end
end G
end Mine
end
section
namespace Mine
open PySem PySem.W PySem.Calls PyProof.Rows
namespace G
section
variable {prog:Program} {w:World} {A:Around} {env:Env} {h:Heap} {g:Array GenState} {d:Drawn} {t:Nat} {os:OsState}
variable {nm q:Str} {C N:Addr} {bs:List Value} {sn:List Str} {sub:List Value} {col:Option Bool} {dd:Option Addr} {k0 k1 k2 k3 k5:Option Value}
theorem decC_b {id:String} {args:Args} (h:Builtin.Bytes.decodersThatHold.contains id=false):decC (.builtin id args)=false:=h
theorem call_cls {mN:Str→Option Value} {rest:List Value} {fI:Addr} {oI:Obj} {Q:Value→Shared→Prop}
  (hC:h.get? C=some (excClassObj nm q C N bs [.type "object"] true sn sub false col dd k0 k1 k2 k3 k5 "object.__new__")) (hn:h.Ns N mN) (hi:mN "__init__"=some (.ref fI))
  (hfI:h.get? fI=some oI) (hfc:oI.cls=.type "function")
  (hq:wpG (model prog w) (A.under (.builtin "type.__call__" ⟨.ref C::rest,[]⟩)) (PySem.call (.ref fI) (.ref (h.objs.size+1)::rest)) (fun r s'=>r=.none∧Q (.ref (h.objs.size+1)) s')
   ⟨(h.push { cls:=.type "dict",data:=.dict #[] }).push { cls:=.ref C,dict:=some h.objs.size,data:=.plain },g,d,t,os⟩) :
  wpG (model prog w) A (PySem.call (.ref C) rest) Q ⟨h,g,d,t,os⟩:=by
 have f1:=tc_lookup
 have f2:=tc_bind (.ref C)
 have hT:(⟨h,g,d,t,os⟩:Shared).TypeIs (.ref C) "type":=⟨_,hC,rfl⟩
 refine call (code_tree (of ?_))
 show wpAny _ _ (callAny (.ref C) _) _ _ _
 repeat (any_goals (first | assumption | with_reducible refine wpAny_loadPart_at hC ?_ | wp_step))
 refine ⟨rfl,rfl,code_tree (of ?_)⟩
 show wpAny _ _ (do checkBuiltinCall "type.__call__" ⟨.ref C::rest,[]⟩; again (.builtin "type.__call__" ⟨.ref C::rest,[]⟩)) _ _ _
 refine wpAny_bind (wpAny_check_type_call_sub hC (wpAny_pure ⟨Code.quiet_builtin _ (by decide +kernel),decC_b (by decide +kernel),code_b entry_typeCall ?_⟩))
 have hmro:mroOf (.type "object")=Pure.pure [.type "object"]:=by kernel_rfl
 have hlk:typeLookup (.type "object") "__init__"=Pure.pure (some (.builtin "object.__init__")):=by rw [typeLookup_type,builtinLookup_eq_fast]; kernel_rfl
 unfold Builtin.«type.__call__»
 dsimp only
 rw [if_neg (show ¬ ((Value.ref C == Value.type "type")=true) from Bool.false_ne_true)]
 refine step (wpAny_mroOf_exc hC ?_)
 simp only [List.isEmpty_cons,Bool.false_eq_true,if_false]
 refine step (wpAny_madeBy_exc hC ?_)
 dsimp only
 refine bind (pure ?_)
 refine bind (holding (of ?_))
 refine wpAny_call (codeAny_call_builtin_code (Code.quiet_builtin _ PySem.F.objNew.quiet) (wpAny_check_obj_new PySem.F.objNew hC (codeAny_obj_new PySem.F.objNew hC hn hi ?_)))
 dsimp only
 have hC₁:=Heap.get?_push_of_some { cls:=.ref C,dict:=some h.objs.size,data:=.plain } (Heap.get?_push_of_some { cls:=.type "dict",data:=.dict #[] } hC)
 have hfI₁:=Heap.get?_push_of_some { cls:=.ref C,dict:=some h.objs.size,data:=.plain } (Heap.get?_push_of_some { cls:=.type "dict",data:=.dict #[] } hfI)
 have hn₁:((h.push { cls:=.type "dict",data:=.dict #[] }).push { cls:=.ref C,dict:=some h.objs.size,data:=.plain }).Ns N mN :=
  let ⟨o,es,ep,e,r⟩:=hn; ⟨o,es,ep,Heap.get?_push_of_some _ (Heap.get?_push_of_some _ e),r⟩
 have hget:((h.push { cls:=.type "dict",data:=.dict #[] }).push { cls:=.ref C,dict:=some h.objs.size,data:=.plain }).get? (h.objs.size+1)=some { cls:=.ref C,dict:=some h.objs.size,data:=.plain }:=by heap_get
 have hcC:(Value.ref C::[Value.type "object"]).contains (.ref C)=true:=by simp
 refine step ?_
 unfold isInstance
 repeat (first | with_reducible refine wpAny_loadPart_at hget ?_ | (with_reducible refine wpAny_isSubtype_exc hC₁ ?_; rw [hcC]) | wp_step)
 rw [if_neg (by decide)]
 refine bind (holding ?_)
 unfold callSpecial? specialOf
 refine step (wpAny_bind (wpAny_typeOf_ref hget ?_))
 refine wpAny_typeLookup_exc hC₁ hn₁ hmro hlk ?_
 rw [hi]
 dsimp only
 refine holding (step ?_)
 unfold bindSpecial
 refine wpAny_bind (wpAny_typeOf (T:="function") ⟨_,hfI₁,hfc⟩ ?_)
 rw [if_pos (by decide)]
 refine wpAny_pure ?_
 refine bind (mono hq fun r s' hr=>pure ?_)
 obtain ⟨rfl,hQ⟩:=hr
 dsimp only
 rw [if_neg (by decide)]
 exact pure ⟨_,rfl,hQ⟩
end
end G
end Mine
end
section
namespace Mine
open PySem PySem.W PySem.Calls PyProof.Rows
namespace G
section
variable {prog:Program} {w:World} {A:Around} {s:Shared} {env:Env} {Q:Value→Shared→Prop} {QF:Flow→Shared→Prop} {QB:Bool→Shared→Prop} {QU:Unit→Shared→Prop}
theorem standIf {α:Type} {c:Prop} [Decidable c] {pos:Pos} {k:PUnit→Sem α} {Q:α→Shared→Prop} (h:wpG (model prog w) A (k ()) Q s) :
  wpG (model prog w) A (if c then (PySem.standAt pos >>= k) else k ()) Q s:=by
 split
 ·exact stand h
 ·exact h
theorem comp_plain {e:Expr} {scope:Scope} {pos:Pos} {newAcc first:Sem Value} {g:Comprehension} {gs:List Comprehension}
  (hcl:clausesOf e=g::gs) (hs:∀ x,foldedSetIterable g.iter env x=Pure.pure x)
  (hfree:∀ x ∈ scope.names,x.2 ≠ .free) (hkind:scope.kind=.function) (hnames:∀ x ∈ scope.names,x.2=.local→scope.names.lookup x.1=some .local)
  (h:wpG (model prog w) A first (fun x s₁=>wpG (model prog w) A (pyIter x) (fun it s₂=>wpG (model prog w) A newAcc (fun acc s₃ =>
   wpG (model prog w) A (newFunctionEnv scope env.globals [] [] env.qual none .none (some env)) (fun cenv s₄ =>
    codeG (model prog w) A (.compStart e 0 it acc { cenv with scope:=scope }) (fun _ s'=>∃ m,s'.heap.Ns cenv.locals m∧∀ h',Heap.SameBut cenv.locals s'.heap h'→Q acc { s' with heap:=h' }) s₄) s₃) s₂) s₁) s) :
  wpG (model prog w) A (comprehension e scope env pos newAcc false first) Q s:=by
 unfold comprehension
 rw [closureFor_none hfree,hcl]
 refine bind (mono h fun x s₁ h₁=>stand (bind (of_eq (hs x) (bind (holding (mono h₁ fun it s₂ h₂=>standIf (bind (mono h₂ fun acc s₃ h₃=>bind (pure (bind (mono h₃ fun cenv s₄ h₄=>?_)))))))))))
 dsimp only
 rw [map_eq_self (l:=scope.names) (fun x hx=>by
  obtain ⟨n,k⟩:=x
  have:(k == NameKind.free)=false:=by simpa using hfree _ hx
  simp [this])]
 have hv:∀ x ∈ (scope.names.filter fun x=>(x.2 == .local || x.2 == .cell) && x.1 != (".0":Str)).reverse,x.2=.local →
   Env.kindOf { cenv with scope:=scope } x.1=some .local:=fun x hx hl=>hnames x (List.mem_filter.mp (List.mem_reverse.mp hx)).1 hl
 refine holding (bind (attempt (holding (run rfl (code_mono h₄ fun f s' hr=>?_)))))
 obtain ⟨m,hn,hr⟩:=hr
 exact bind (holding (of (wpAny_comp_letGo (cenv:={ cenv with scope:=scope }) hkind _ s' m hv hn fun h' m' _ hs'=>pure (hr h' hs'))))
theorem comp_use {e:Expr} {scope:Scope} {pos:Pos} {newAcc first:Sem Value} {g:Comprehension} {gs:List Comprehension} {u:Value→Sem Unit}
  (hcl:clausesOf e=g::gs) (hs:∀ x,foldedSetIterable g.iter env x=Pure.pure x)
  (hfree:∀ x ∈ scope.names,x.2 ≠ .free) (hkind:scope.kind=.function) (hnames:∀ x ∈ scope.names,x.2=.local→scope.names.lookup x.1=some .local)
  (h:wpG (model prog w) A first (fun x s₁=>wpG (model prog w) A (pyIter x) (fun it s₂=>wpG (model prog w) A newAcc (fun acc s₃ =>
   wpG (model prog w) A (newFunctionEnv scope env.globals [] [] env.qual none .none (some env)) (fun cenv s₄ =>
    codeG (model prog w) A (.compStart e 0 it acc { cenv with scope:=scope }) (fun _ s'=>wpG (model prog w) A (u acc) (fun _ s''=>∃ m,s''.heap.Ns cenv.locals m∧∀ h',Heap.SameBut cenv.locals s''.heap h'→Q .none { s'' with heap:=h' }) s') s₄) s₃) s₂) s₁) s) :
  wpG (model prog w) A (comprehension e scope env pos newAcc false first (some u)) Q s:=by
 unfold comprehension
 rw [closureFor_none hfree,hcl]
 refine bind (mono h fun x s₁ h₁=>stand (bind (of_eq (hs x) (bind (holding (mono h₁ fun it s₂ h₂=>standIf (bind (mono h₂ fun acc s₃ h₃=>bind (pure (bind (mono h₃ fun cenv s₄ h₄=>?_)))))))))))
 dsimp only
 rw [map_eq_self (l:=scope.names) (fun x hx=>by
  obtain ⟨n,k⟩:=x
  have:(k == NameKind.free)=false:=by simpa using hfree _ hx
  simp [this])]
 have hv:∀ x ∈ (scope.names.filter fun x=>(x.2 == .local || x.2 == .cell) && x.1 != (".0":Str)).reverse,x.2=.local →
   Env.kindOf { cenv with scope:=scope } x.1=some .local:=fun x hx hl=>hnames x (List.mem_filter.mp (List.mem_reverse.mp hx)).1 hl
 have hv':∀ x ∈ (scope.names.filter fun x=>(x.2 == .local || x.2 == .cell) && x.1 != (".0":Str)).reverse.drop 1++(scope.names.filter fun x=>(x.2 == .local || x.2 == .cell) && x.1 != (".0":Str)).reverse.take 1,
   x.2=.local→Env.kindOf { cenv with scope:=scope } x.1=some .local:=fun x hx hl=>by
  rcases List.mem_append.mp hx with h1 | h1
  ·exact hv x (List.mem_of_mem_drop h1) hl
  ·exact hv x (List.mem_of_mem_take h1) hl
 refine holding (bind (attempt (holding (run rfl (code_mono h₄ fun f s' hr=>?_)))))
 refine rule (bind (holding (mono hr fun _ s'' hr'=>?_)))
 obtain ⟨m,hn,hr'⟩:=hr'
 exact bind (of (wpAny_comp_letGo (cenv:={ cenv with scope:=scope }) hkind _ s'' m hv' hn fun h' m' _ hs'=>pure (hr' h' hs')))
theorem code_compStart {elt target iter scope pos it acc}
  (h0:codeG (model prog w) A (.compLoop (.ListComp elt [⟨target,iter,[],0⟩] scope pos) 0 it acc env) QF s)
  (h:wpAny (model prog w) A (pyIter it) (fun it' s'=>codeG (model prog w) A (.compLoop (.ListComp elt [⟨target,iter,[],0⟩] scope pos) 0 it' acc env) QF s') noE s) :
  codeG (model prog w) A (.compStart (.ListComp elt [⟨target,iter,[],0⟩] scope pos) 0 it acc env) QF s:=by
 refine code_tree ?_
 show wpG _ _ ((compStart (.ListComp elt [⟨target,iter,[],0⟩] scope pos) 0 it acc env).onRaise (fun x=>do noteFrame x env; PySem.standAt theWindowsPlace)) _ s
 refine onRaise (of ?_)
 unfold compStart
 show wpAny _ _ (ask >>= _) _ _ s
 refine wpAny_bind (wpAny_askSetting (wpAny_ite ?_))
 split
 ·first
   | exact wpAny_bind (wpAny_pure (wpAny_pure ⟨rfl,rfl,h0⟩))
   | exact wpAny_pure ⟨rfl,rfl,h0⟩
 ·first
   | exact wpAny_bind (wpAny_rule (wpAny_bind (wpAny_standAt (wpAny_bind (wpAny_mono h (fun it' s' h'=>wpAny_pure ⟨rfl,rfl,h'⟩) fun _ _ x=>x)))))
   | (refine wpAny_bind (wpAny_rule ?_); show wpAny _ _ (PySem.standAt iter.pos >>= _) _ _ s; exact wpAny_bind (wpAny_standAt (wpAny_bind (wpAny_mono h (fun it' s' h'=>wpAny_pure ⟨rfl,rfl,h'⟩) fun _ _ x=>x))))
theorem code_compLoop {elt target iter:Expr} {scope:Scope} {pos:Pos} {it acc:Value}
  (h:wpG (model prog w) A (pyNext it) (fun r s₁=>match r with
   | none=>QF .next s₁
   | some v=>wpG (model prog w) A (letOwnedTupleGo target it v) (fun _ s₂=>wpG (model prog w) A (assign target env v) (fun _ s₃=>wpG (model prog w) A (eval elt env) (fun x s₄ =>
     wpG (model prog w) A (PySem.call (.builtin "list.append") [acc,x]) (fun _ s₅=>codeG (model prog w) A (.compLoop (.ListComp elt [⟨target,iter,[],0⟩] scope pos) 0 it acc env) QF s₅) s₄) s₃) s₂) s₁) s) :
  codeG (model prog w) A (.compLoop (.ListComp elt [⟨target,iter,[],0⟩] scope pos) 0 it acc env) QF s:=by
 refine code_tree ?_
 show wpG _ _ ((compTurn (.ListComp elt [⟨target,iter,[],0⟩] scope pos) 0 it acc env).onRaise (fun x=>do noteFrame x env; theTreesLotGoes x)) _ s
 refine onRaise ?_
 rw [compTurn_list1]
 refine stand (bind (mono h fun r s₁ h₁=>?_))
 induction r using Option.casesOn with
 | none=>exact pure h₁
 | some v =>
  exact bind (mono h₁ fun _ s₂ h₂=>bind (mono h₂ fun _ s₃ h₃=>bind (bind (mono h₃ fun x s₄ h₄=>bind (mono h₄ fun _ s₅ h₅=>pure (pure ⟨rfl,rfl,h₅⟩))))))
theorem ListComp {elt target iter scope pos} (hs:∀ x,foldedSetIterable iter env x=Pure.pure x)
  (hfree:∀ x ∈ scope.names,x.2 ≠ .free) (hkind:scope.kind=.function) (hnames:∀ x ∈ scope.names,x.2=.local→scope.names.lookup x.1=some .local)
  (h:wpG (model prog w) A (eval iter env) (fun x s₁=>wpG (model prog w) A (pyIter x) (fun it s₂=>wpG (model prog w) A (newList []) (fun acc s₃ =>
   wpG (model prog w) A (newFunctionEnv scope env.globals [] [] env.qual none .none (some env)) (fun cenv s₄ =>
    codeG (model prog w) A (.compStart (.ListComp elt [⟨target,iter,[],0⟩] scope pos) 0 it acc { cenv with scope:=scope }) (fun _ s'=>∃ m,s'.heap.Ns cenv.locals m∧∀ h',Heap.SameBut cenv.locals s'.heap h'→Q acc { s' with heap:=h' }) s₄) s₃) s₂) s₁) s) :
  wpG (model prog w) A (eval (.ListComp elt [⟨target,iter,[],0⟩] scope pos) env) Q s:=by
 rw [eval_ListComp]
 exact comp_plain rfl hs hfree hkind hnames h
theorem Assign_ListComp_used {y py elt target iter scope pos spos} (hsw:swapsWith (.ListComp elt [⟨target,iter,[],0⟩] scope pos) (some (.Name y py)) spos.line env=Pure.pure true) (hs:∀ x,foldedSetIterable iter env x=Pure.pure x)
  (hfree:∀ x ∈ scope.names,x.2 ≠ .free) (hkind:scope.kind=.function) (hnames:∀ x ∈ scope.names,x.2=.local→scope.names.lookup x.1=some .local)
  (h:wpG (model prog w) A (eval iter env) (fun x s₁=>wpG (model prog w) A (pyIter x) (fun it s₂=>wpG (model prog w) A (newList []) (fun acc s₃ =>
   wpG (model prog w) A (newFunctionEnv scope env.globals [] [] env.qual none .none (some env)) (fun cenv s₄ =>
    codeG (model prog w) A (.compStart (.ListComp elt [⟨target,iter,[],0⟩] scope pos) 0 it acc { cenv with scope:=scope })
     (fun _ s'=>wpG (model prog w) A (storeName env y acc) (fun _ s''=>∃ m,s''.heap.Ns cenv.locals m∧∀ h',Heap.SameBut cenv.locals s''.heap h'→QF .next { s'' with heap:=h' }) s') s₄) s₃) s₂) s₁) s) :
  wpG (model prog w) A (exec (.Assign [.Name y py] (.ListComp elt [⟨target,iter,[],0⟩] scope pos) spos) env) QF s:=by
 rw [exec_Assign_Name_used _ _ _ _ hsw]
 refine stand (bind ?_)
 show wpG _ A (do let _ ← comprehension (.ListComp elt [⟨target,iter,[],0⟩] scope pos) scope env _ (newList []) false (eval iter env) (some (assign (.Name y py) env))) _ s
 refine bind (mono (Q:=fun _ s'=>QF .next s') (comp_use rfl hs hfree hkind hnames (mono h fun x s₁ h₁=>mono h₁ fun it s₂ h₂=>mono h₂ fun acc s₃ h₃=>mono h₃ fun cenv s₄ h₄=>code_mono h₄ fun f s' h'=>assign_Name h')) fun _ s' hq=>pure (pure hq))
theorem Assign_Name_not {x p value pos} (hsw:swapsWith value (some (.Name x p)) pos.line env=Pure.pure false) (h:wpG (model prog w) A (eval value env) (fun v s₁=>wpG (model prog w) A (storeName env x v) (fun _ s₂=>QF .next s₂) s₁) s) :
  wpG (model prog w) A (exec (.Assign [.Name x p] value pos) env) QF s:=by
 rw [exec_Assign_Name (hs:=hsw)]
 refine stand (bind (mono h fun v s₁ h₁=>stand (bind ?_)))
 intro Γ q h1 h2 h3
 rw [Sem.wp_bindName]
 exact mono h₁ (fun _ s₂ h₂=>pure h₂) Γ q h1 h2 h3
end
end G
end Mine
end
section
namespace Mine
open PySem PySem.W PySem.Calls PyProof.Rows
namespace BA
theorem owner:Manifest.owners.lookup (String.ofList ['y','a','r','r','a','e','t','y','b'].reverse)=some Manifest.sig_bytearray:=by kernel_rfl
theorem mro:mroOf (.type "bytearray")=pure [.type "bytearray",.type "object"]:=by rw [mroOf_type]; kernel_rfl
theorem lookup_new:typeLookup (.type "bytearray") "__new__"=pure (some (.builtin "bytearray.__new__")):=by rw [typeLookup_type,builtinLookup_eq_fast]; kernel_rfl
theorem slot_init:Slot "bytearray" "__init__" "bytearray.__init__" :=
 .of (owner:="bytearray") (n:="__init__") (by rw [typeLookup_type,builtinLookup_eq_fast]; kernel_rfl) (by decide +kernel) (by decide +kernel) (by decide +kernel)
  (by first | exact .inl (by decide +kernel) | exact .inr (by decide +kernel)) (by rw [isSubtype_type]; kernel_rfl)
theorem sub_self:isSubtype (.type "bytearray") (.type "bytearray")=pure true:=by rw [isSubtype_type]; kernel_rfl
theorem called:TypeCalled "bytearray" "bytearray.__new__" "bytearray.__init__" :=
 ⟨by decide +kernel,by decide +kernel,⟨_,_,mro⟩,madeBy_type mro lookup_new (by decide +kernel),by decide +kernel,sub_self,slot_init⟩
theorem typeCall_0:checkTypeCall "bytearray" ⟨[],[]⟩=pure ():=by kernel_rfl
theorem typeCall_1 (a:Value):checkTypeCall "bytearray" ⟨[a],[]⟩=pure ():=by kernel_rfl
theorem newCall_0:checkBuiltinCall "bytearray.__new__" ⟨[.type "bytearray"],[]⟩=pure ():=by kernel_rfl
theorem newCall_1 (a:Value):checkBuiltinCall "bytearray.__new__" ⟨[.type "bytearray",a],[]⟩=pure ():=by kernel_rfl
theorem entry_new:entryFor table "bytearray.__new__"=some Builtin.«list.__new__»:=entryFor_alias (id':="list.__new__") (by rw [fastTable_eq_tree]; kernel_rfl) (by decide +kernel) (by decide +kernel) (by rw [fastTable_eq_tree]; kernel_rfl)
theorem plain_new:plainId "bytearray.__new__"=true:=by decide +kernel
theorem entry_init:entryFor table "bytearray.__init__"=some Builtin.«bytearray.__init__»:=entryFor_of_tree (by kernel_rfl)
theorem args_init_1 (a:Value):argsOk "bytearray.__init__" ⟨[a],[]⟩:=by
 unfold argsOk; rw [signature?_of (id:="bytearray.__init__") (n:=['_','_','t','i','n','i','_','_']) (o:=['y','a','r','r','a','e','t','y','b']) (by kernel_rfl) owner]; kernel_rfl
theorem args_init_2 (a b:Value):argsOk "bytearray.__init__" ⟨[a,b],[]⟩:=by
 unfold argsOk; rw [signature?_of (id:="bytearray.__init__") (n:=['_','_','t','i','n','i','_','_']) (o:=['y','a','r','r','a','e','t','y','b']) (by kernel_rfl) owner]; kernel_rfl
theorem slot_getitem:Slot "bytearray" "__getitem__" "bytearray.__getitem__" :=
 .of (owner:="bytearray") (n:="__getitem__") (by rw [typeLookup_type,builtinLookup_eq_fast]; kernel_rfl) (by decide +kernel) (by decide +kernel) (by decide +kernel)
  (by first | exact .inl (by decide +kernel) | exact .inr (by decide +kernel)) (by rw [isSubtype_type]; kernel_rfl)
theorem entry_getitem:entryFor table "bytearray.__getitem__"=some Builtin.«bytearray.__getitem__»:=entryFor_of_tree (by kernel_rfl)
theorem args_getitem_2 (a b:Value):argsOk "bytearray.__getitem__" ⟨[a,b],[]⟩:=by
 unfold argsOk; rw [signature?_of (id:="bytearray.__getitem__") (n:=['_','_','m','e','t','i','t','e','g','_','_']) (o:=['y','a','r','r','a','e','t','y','b']) (by kernel_rfl) owner]; kernel_rfl
theorem slot_setitem:Slot "bytearray" "__setitem__" "bytearray.__setitem__" :=
 .of (owner:="bytearray") (n:="__setitem__") (by rw [typeLookup_type,builtinLookup_eq_fast]; kernel_rfl) (by decide +kernel) (by decide +kernel) (by decide +kernel)
  (by first | exact .inl (by decide +kernel) | exact .inr (by decide +kernel)) (by rw [isSubtype_type]; kernel_rfl)
theorem entry_setitem:entryFor table "bytearray.__setitem__"=some Builtin.«bytearray.__setitem__»:=entryFor_of_tree (by kernel_rfl)
theorem args_setitem_3 (a b c:Value):argsOk "bytearray.__setitem__" ⟨[a,b,c],[]⟩:=by
 unfold argsOk; rw [signature?_of (id:="bytearray.__setitem__") (n:=['_','_','m','e','t','i','t','e','s','_','_']) (o:=['y','a','r','r','a','e','t','y','b']) (by kernel_rfl) owner]; kernel_rfl
theorem look_release:typeLookup (.type "bytearray") "__release_buffer__"=pure (some (.builtin "bytearray.__release_buffer__")):=by rw [typeLookup_type,builtinLookup_eq_fast]; kernel_rfl
set_option maxRecDepth 1000000 in
theorem owner_new:("bytearray.__new__".splitOn ".__new__").headD ""="bytearray":=by simp +decide [String.splitOn,String.splitOnAux]
section
variable {prog:Program} {w:World} {A:Around} {E:Value→Shared→Prop} {s:Shared}
theorem code_new {args:List Value} {Q₁:Value→Shared→Prop} (hc:checkBuiltinCall "bytearray.__new__" ⟨.type "bytearray"::args,[]⟩=pure ())
  (h:Q₁ (.ref s.heap.objs.size) { s with heap:=s.heap.push { cls:=.type "bytearray",data:=.bytearray #[] } }) :
  codeAny (model prog w) A (.call (.builtin "bytearray.__new__") ⟨.type "bytearray"::args,[]⟩) (wants Q₁ E) s:=by
 refine codeAny_of_tree ?_
 show wpAny _ A.in1 (do checkBuiltinCall "bytearray.__new__" ⟨.type "bytearray"::args,[]⟩; again (.builtin "bytearray.__new__" ⟨.type "bytearray"::args,[]⟩)) _ _ s
 refine wpAny_bind (wpAny_of_eq hc (wpAny_pure ⟨plainId_quiet plain_new _,codeAny_builtin_stack entry_new rfl fun p st=>?_⟩))
 rw [Around.under_plainId plain_new _]
 have hsub:=sub_self
 have hown:=owner_new
 obtain ⟨hp,g,d,tk,os⟩:=s
 simp only [hown]
 wp_walk
 exact h
end
end BA
end Mine
namespace Mine
open PySem PySem.W PySem.Calls PyProof.Rows
namespace BA
section
variable {prog:Program} {w:World} {A:Around} {s:Shared} {S:Addr} {o:Obj}
theorem m_no {id:String} {as:Args} {q:Pos} {f1:∀ (v:Value) (l:List Value) (kw:List (Str × Value)) (p:Pos),Bool} {f2:∀ (v:Value) (l:List Value) (kw:List (Str × Value)) (p:Pos),Bool} {f3:∀ (u v:Value) (l:List Value) (kw:List (Str × Value)) (p:Pos),Bool} {f4:∀ (v:Value) (l:List Value) (kw:List (Str × Value)) (p:Pos),Bool} {f5:∀ (u v:Value) (l:List Value) (kw:List (Str × Value)) (p:Pos),Bool} {f6:∀ (id:String) (v:Value) (l:List Value) (kw:List (Str × Value)) (p:Pos),Bool} {f7:Code × Pos→Bool}
  (n1:¬ id="bytearray.__contains__") (n2:¬ id="bytearray.__mod__") (n3:¬ id="bytearray.__rmod__") (n4:¬ id="_struct.pack_into.held") (n5:¬ id="bytearray.find.held") (h6:∀ v l,f6 id v l as.kw q=false) (h7:∀ x,f7 x=false):Builtin.Bytes.exported.match_1 (fun _=>Bool) (Code.builtin id as,q) f1 f2 f3 f4 f5 f6 f7=false:=by
 delta Builtin.Bytes.exported.match_1
 refine (dif_neg n1).trans ?_
 refine (dif_neg n2).trans ?_
 refine (dif_neg n3).trans ?_
 refine (dif_neg n4).trans ?_
 refine (dif_neg n5).trans ?_
 obtain ⟨pos,kw⟩:=as
 induction pos using List.casesOn with
 | nil=>exact h7 _
 | cons v l=>exact h6 v l
theorem exported_no {Q:Bool→Shared→Prop} (hg:A.guards=some []) (h:Q false s):wpG (model prog w) A (Builtin.Bytes.exported (.ref S)) Q s:=fun Γ p h1 h2 h3=>by
 unfold Builtin.Bytes.exported
 have hgs:guardsOf ((Γ.code,p)::Γ.below)=[]:=by rw [guardsOf_cons]; exact h1.2.2.2.1 [] hg
 have hno:∀ x ∈ ((Γ.code,p)::Γ.below),x.1.isGuard=false:=fun x hx=>by
  cases e:x.1.isGuard with
  | false=>rfl
  | true =>
   have:x.1 ∈ guardsOf ((Γ.code,p)::Γ.below):=List.mem_filter.mpr ⟨List.mem_map.mpr ⟨x,hx,rfl⟩,e⟩
   rw [hgs] at this
   cases this
 show Q (((Γ.code,p)::Γ.below).any _) s
 rw [show ((Γ.code,p)::Γ.below).any _=false from List.any_eq_false.mpr fun x hx=>?_]
 ·exact h
 ·obtain ⟨c,q⟩:=x
  have hd:decC c=false:=by
   rcases List.mem_cons.mp hx with e | e
   ·cases e; exact h2
   ·exact h3 _ e
  have h1:=hno _ hx
  rw [Bool.not_eq_true]
  cases c with
  | builtin id as =>
   have g {t:String} (ht:guardIds.contains t=true):¬ id=t:=fun e=>by
    have h:guardIds.contains id=false:=h1
    rw [e,ht] at h
    cases h
   exact m_no (g (by decide +kernel)) (g (by decide +kernel)) (g (by decide +kernel)) (g (by decide +kernel)) (g (by decide +kernel)) (fun v l=>by rw [show Builtin.Bytes.decodersThatHold.contains id=false from hd,Bool.and_false]) fun _=>rfl
  | _=>rfl
theorem own_release {Q:Bool→Shared→Prop} {M:Model} {E:Value→Shared→Prop} (ho:s.heap.get? S=some o) (hc:o.cls=.type "bytearray") (h:Q false s):wpAny M A (Builtin.Bytes.ownRelease (.ref S)) Q E s:=by
 unfold Builtin.Bytes.ownRelease
 refine wpAny_bind ?_
 have hT:s.TypeIs (.ref S) "bytearray":=⟨o,ho,hc⟩
 unfold Builtin.Bytes.slotIsOwn
 refine wpAny_bind (wpAny_specialOf hT look_release ?_)
 dsimp only
 rw [if_neg (by decide +kernel)]
 refine wpAny_isInstance (T:="bytearray") (b:=true) hT ?_ (wpAny_pure h)
 have e:("bytearray.__release_buffer__".dropRight ("__release_buffer__".length+1))="bytearray":=by decide +kernel
 rw [e]
 exact sub_self
theorem payload_ {M:Model} {E:Value→Shared→Prop} {b:Array UInt8} {n:Nat} {Q:Array UInt8→Shared→Prop} (ho:s.heap.get? S=some o) (hd:o.data=.bytearray b n) (h:Q b s):wpAny M A (Builtin.Bytes.payload (.ref S)) Q E s:=by
 unfold Builtin.Bytes.payload Builtin.Bytes.payload?
 refine wpAny_bind (wpAny_bind (wpAny_load ho ?_))
 rw [hd]
 exact wpAny_pure (wpAny_pure h)
theorem exportsOf_ {M:Model} {E:Value→Shared→Prop} {b:Array UInt8} {n:Nat} {Q:Nat→Shared→Prop} (ho:s.heap.get? S=some o) (hd:o.data=.bytearray b n) (h:Q n s):wpAny M A (Builtin.Bytes.exportsOf (.ref S)) Q E s:=by
 unfold Builtin.Bytes.exportsOf
 refine wpAny_bind (wpAny_load ho ?_)
 rw [hd]
 exact wpAny_pure h
theorem get_map {f:Array UInt8→Array UInt8} {b:Array UInt8} {n:Nat} (ho:s.heap.get? S=some o) (hd:o.data=.bytearray b n):(s.heap.update S (Obj.mapBytearray f)).get? S=some { o with data:=.bytearray (f b) n }:=by
 obtain ⟨c,d,dt,sl⟩:=o
 simp only at hd
 subst hd
 exact Heap.get?_update_self (Obj.mapBytearray f) ho rfl
theorem write_ {M:Model} {E:Value→Shared→Prop} {f:Array UInt8→Array UInt8} {b:Array UInt8} {n:Nat} {Q:Unit→Shared→Prop} (ho:s.heap.get? S=some o) (hd:o.data=.bytearray b n) (hz:(f b).size≤sizeLine)
  (h:Q () { s with heap:=s.heap.update S (Obj.mapBytearray f) }):wpAny M A (Builtin.Bytes.write (.ref S) f) Q E s:=by
 show wpAny M A (updateBytearray S f) Q E s
 unfold updateBytearray
 refine wpAny_bind (wpAny_load ho ?_)
 rw [hd]
 refine wpAny_bind (wpAny_update ho ?_)
 refine wpAny_lookBehind (get_map ho hd) ?_ h
 show (if (f b).size > sizeLine then some "bytearray:memory" else none)=none
 rw [if_neg (by lia)]
end
end BA
end Mine
namespace Mine
open PySem PySem.W PySem.Calls PyProof.Rows
namespace BA
theorem bind_0:Builtin.Bytes.bindOptional "bytearray.__init__" "bytearray" ["source","encoding","errors"] [] []=pure [none,none,none]:=by kernel_rfl
theorem bind_1 (v:Value):Builtin.Bytes.bindOptional "bytearray.__init__" "bytearray" ["source","encoding","errors"] [v] []=pure [some v,none,none]:=by kernel_rfl
theorem int_no_buffer:typeLookup (.type "int") "__buffer__"=pure none:=by rw [typeLookup_type,builtinLookup_eq_fast]; kernel_rfl
theorem bytes_no_index:typeLookup (.type "bytes") "__index__"=pure none:=by rw [typeLookup_type,builtinLookup_eq_fast]; kernel_rfl
theorem buffer_full {id:String} {b:Array UInt8} {t:Tok}:Builtin.Bytes.buffer? id (.bytes b t) true=pure (some b):=by
 unfold Builtin.Bytes.buffer?
 rw [KBy.special_eq KBy.look_buffer,KBy.own_buffer,KBy.own_release]
 kernel_rfl
section
variable {prog:Program} {w:World} {A:Around} {s:Shared} {S:Addr} {o:Obj} {Q:Fin→Shared→Prop}
theorem init_0 (hg:A.guards=some []) (ho:s.heap.get? S=some o) (hc:o.cls=.type "bytearray") (hd:o.data=.bytearray #[] 0)
  (hq:∀ h',Heap.SameBut S s.heap h'→h'.get? S=some { o with data:=.bytearray #[] 0 }→Q (.done (.ret .none)) { s with heap:=h' }) :
  wpG (model prog w) A (Builtin.«bytearray.__init__» ⟨[.ref S],[]⟩) Q s:=by
 refine G.step (own_release ho hc ?_)
 refine G.bind (G.of_eq bind_0 ?_)
 refine G.bind (G.of_eq (a:=()) rfl ?_)
 refine G.bind (G.of_eq (a:=()) rfl ?_)
 refine G.bind (G.bind (exported_no hg ?_))
 refine G.step (exportsOf_ ho hd ?_)
 refine G.pure ?_
 refine G.step (write_ ho hd (by decide) ?_)
 have h1:=get_map (f:=fun _=>#[]) ho hd
 have h2:=hq _ (Heap.SameBut.update ..) h1
 exact G.bind (G.pure (G.pure h2))
theorem init_int {t:Tok} (hg:A.guards=some []) (ho:s.heap.get? S=some o) (hc:o.cls=.type "bytearray") (hd:o.data=.bytearray #[] 0)
  (hq:∀ h',Heap.SameBut S s.heap h'→h'.get? S=some { o with data:=.bytearray (Array.replicate 1536 0) 0 }→Q (.done (.ret .none)) { s with heap:=h' }) :
  wpG (model prog w) A (Builtin.«bytearray.__init__» ⟨[.ref S,.int 1536 t],[]⟩) Q s:=by
 refine G.step (own_release ho hc ?_)
 refine G.bind (G.of_eq (bind_1 _) ?_)
 refine G.bind (G.of_eq (a:=()) rfl ?_)
 refine G.bind (G.of_eq (a:=()) rfl ?_)
 refine G.bind (G.bind (exported_no hg ?_))
 refine G.step (exportsOf_ ho hd ?_)
 refine G.pure ?_
 refine G.step (write_ ho hd (by decide) ?_)
 have h1:=get_map (f:=fun _=>#[]) ho hd
 refine G.bind (G.of_eq (a:=none) rfl ?_)
 refine G.bind (G.pure ?_)
 refine G.step (wpAny_specialOf (typeIs_int _ 1536 t) int_index ?_)
 refine G.bind (G.attempt (G.of_eq (a:=(1536:Int)) rfl ?_))
 refine G.rule ?_
 refine G.step (write_ h1 rfl (by simp [sizeLine]) ?_)
 exact G.pure (hq _ ((Heap.SameBut.update ..).trans (Heap.SameBut.update ..)) (get_map (s:={ s with heap:=_ }) (o:={ o with data:=.bytearray #[] 0 }) h1 rfl))
theorem init_bytes {b:List UInt8} {t:Tok} (hn:b.length≤100000) (hg:A.guards=some []) (ho:s.heap.get? S=some o) (hc:o.cls=.type "bytearray") (hd:o.data=.bytearray #[] 0)
  (hq:∀ h',Heap.SameBut S s.heap h'→h'.get? S=some { o with data:=.bytearray ⟨b⟩ 0 }→Q (.done (.ret .none)) { s with heap:=h' }) :
  wpG (model prog w) A (Builtin.«bytearray.__init__» ⟨[.ref S,.bytes ⟨b⟩ t],[]⟩) Q s:=by
 refine G.step (own_release ho hc ?_)
 refine G.bind (G.of_eq (bind_1 _) ?_)
 refine G.bind (G.of_eq (a:=()) rfl ?_)
 refine G.bind (G.of_eq (a:=()) rfl ?_)
 refine G.bind (G.bind (exported_no hg ?_))
 refine G.step (exportsOf_ ho hd ?_)
 refine G.pure ?_
 refine G.step (write_ ho hd (by decide) ?_)
 have h1:=get_map (f:=fun _=>#[]) ho hd
 refine G.bind (G.of_eq (a:=none) rfl ?_)
 refine G.bind (G.pure ?_)
 refine G.step (wpAny_specialOf (typeIs_bytes _ ⟨b⟩ t) bytes_no_index ?_)
 refine G.bind (G.of_eq buffer_full ?_)
 refine G.rule ?_
 refine G.step (write_ h1 rfl (by simp [sizeLine]; lia) ?_)
 exact G.pure (hq _ ((Heap.SameBut.update ..).trans (Heap.SameBut.update ..)) (get_map (s:={ s with heap:=_ }) (o:={ o with data:=.bytearray #[] 0 }) h1 rfl))
end
end BA
end Mine
end
section
namespace Mine
open PySem PySem.W PySem.Calls PyProof.Rows
namespace BA
section
variable {prog:Program} {w:World} {A:Around} {s:Shared} {Q:Value→Shared→Prop}
theorem call_ba {args:List Value} (hct:checkTypeCall "bytearray" ⟨args,[]⟩=pure ()) (hcn:checkBuiltinCall "bytearray.__new__" ⟨.type "bytearray"::args,[]⟩=pure ()) (hok:∀ obj,argsOk "bytearray.__init__" ⟨obj::args,[]⟩)
  (hi:wpG (model prog w) A.in1.in1 (Builtin.«bytearray.__init__» ⟨.ref s.heap.objs.size::args,[]⟩) (fun fin s'=>fin=.done (.ret .none)∧Q (.ref s.heap.objs.size) s') { s with heap:=s.heap.push { cls:=.type "bytearray",data:=.bytearray #[] } }) :
  wpG (model prog w) A (PySem.call (.type "bytearray") args) Q s:=by
 refine G.call (G.code_tree ?_)
 show wpG _ _ (callAny (.type "bytearray") _) _ _
 refine G.pure ⟨Code.quiet_builtin _ (by decide +kernel),G.decC_b (by decide +kernel),G.code_b entry_typeCall ?_⟩
 rw [Around.under_plain (weight_type_call_type "bytearray" args []) rfl]
 unfold Builtin.«type.__call__»
 refine G.ifn ?_ ?_
 ·rw [called.notType]; exact Bool.false_ne_true
 dsimp only
 rw [called.canCreate,if_neg Bool.false_ne_true]
 refine G.bind (G.of_eq hct ?_)
 refine G.bind (G.of_eq mro ?_)
 rw [if_neg (by decide)]
 refine G.bind (G.of_eq called.made ?_)
 refine G.bind (G.pure ?_)
 refine G.bind (G.holding (G.of ?_))
 refine wpAny_call (codeAny_mono (code_new (E:=noE) (A:=A.in1) (s:=s) hcn (Q₁:=fun v s'=>v=.ref s.heap.objs.size∧s'={ s with heap:=s.heap.push { cls:=.type "bytearray",data:=.bytearray #[] } }) ⟨rfl,rfl⟩) fun r s' hr=>?_)
 cases r with
 | error e=>exact hr.elim
 | ok fl =>
  cases fl with
  | ret obj =>
   obtain ⟨rfl,rfl⟩:=hr
   have hS:(s.heap.push { cls:=.type "bytearray",data:=.bytearray #[] }).get? s.heap.objs.size=some { cls:=.type "bytearray",data:=.bytearray #[] }:=Heap.get?_push_size _ rfl
   have hT:({ s with heap:=s.heap.push { cls:=.type "bytearray",data:=.bytearray #[] } }:Shared).TypeIs (.ref s.heap.objs.size) "bytearray":=⟨_,hS,rfl⟩
   refine G.step (wpAny_isInstance (T:="bytearray") (b:=true) hT sub_self ?_)
   refine G.ifn ?_ ?_
   ·decide
   refine G.bind (G.holding ?_)
   refine G.step (wpAny_specialOf hT slot_init.lookup ?_)
   refine G.holding ?_
   refine G.bind (G.of_eq (slot_init.bind _) ?_)
   refine G.bind (G.call (G.code_tree ?_))
   show wpG _ _ (do checkBuiltinCall "bytearray.__init__" ⟨.ref s.heap.objs.size::args,[]⟩; again (.builtin "bytearray.__init__" ⟨.ref s.heap.objs.size::args,[]⟩)) _ _
   refine G.step (slot_init.check _ _ _ _ _ _ _ _ hT (hok _) ?_)
   refine G.pure ⟨plainId_quiet slot_init.plain _,G.decC_b (by decide +kernel),G.code_b entry_init ?_⟩
   rw [Around.under_plainId slot_init.plain _]
   refine G.mono hi fun fin s' h'=>?_
   obtain ⟨rfl,hq⟩:=h'
   refine ⟨.none,rfl,G.pure ?_⟩
   refine G.ifn ?_ ?_
   ·decide
   exact G.pure ⟨_,rfl,hq⟩
  | _=>exact hr.elim
end
end BA
end Mine
namespace Mine
open PySem PySem.W PySem.Calls PyProof.Rows
namespace G
section
variable {prog:Program} {w:World} {A:Around} {s:Shared} {Q:Value→Shared→Prop}
theorem call_entry {T:String} {name:Str} {id:String} {b:Builtin} {self:Value} {rest:List Value} (h:Slot T name id) (hT:s.TypeIs self T) (hb:entryFor table id=some b) (hd:Builtin.Bytes.decodersThatHold.contains id=false)
  (ha:argsOk id ⟨self::rest,[]⟩) (hc:wpG (model prog w) A.in1 (b ⟨self::rest,[]⟩) (fun fin s'=>∃ v,fin=.done (.ret v)∧Q v s') s):wpG (model prog w) A (PySem.call (.builtin id) (self::rest)) Q s:=by
 refine call (code_tree ?_)
 show wpG _ _ (do checkBuiltinCall id ⟨self::rest,[]⟩; again (.builtin id ⟨self::rest,[]⟩)) _ _
 refine step (h.check _ _ _ _ _ _ _ _ hT ha ?_)
 refine pure ⟨plainId_quiet h.plain _,decC_b hd,code_b hb ?_⟩
 rw [Around.under_plainId h.plain _]
 refine mono hc fun fin s' h'=>?_
 obtain ⟨v,rfl,hq⟩:=h'
 exact ⟨v,rfl,hq⟩
end
end G
namespace BA
noncomputable def baPart (v:Value):Sem Value:=do
 if v == .none then return .none
 if (← specialOf v "__index__").isNone then
  rule "bytes.slice.part-no-index"; raiseError "TypeError" "slice indices must be integers or None or have an __index__ method"
 return rawInt (← asIndex v)
theorem baPart_ {M:Model} {A:Around} {E:Value→Shared→Prop} {s:Shared} {v:Value} {k:Option Int} {Q:Value→Shared→Prop} (hv:IsPart v k) (h:Q (rawPart k) s):wpAny M A (baPart v) Q E s:=by
 cases hv with
 | none=>exact wpAny_pure h
 | int i t =>
  unfold baPart
  rw [if_neg (show ¬ ((Value.int i t == Value.none)=true) from Bool.false_ne_true)]
  refine wpAny_bind (wpAny_specialOf (T:="int") (typeIs_int s i t) int_index ?_)
  simp only [Option.isNone_some,Bool.false_eq_true,if_false]
  exact wpAny_bind (wpAny_of_eq (a:=i) rfl (wpAny_pure h))
theorem sliceParts_eq (s:Value):Builtin.Bytes.sliceParts s=(do
  let step ← baPart (← field s 2)
  if step == rawInt 0 then rule "bytes.slice.step-zero"; raiseError "ValueError" "slice step cannot be zero"
  let first ← baPart (← field s 0)
  let last ← baPart (← field s 1)
  return (first,last,step)):=rfl
theorem bytes_not_ba:isSubtype (.type "bytes") (.type "bytearray")=pure false:=by rw [isSubtype_type]; kernel_rfl
theorem bytes_not_complex:isSubtype (.type "bytes") (.type "complex")=pure false:=by rw [isSubtype_type]; kernel_rfl
theorem bytes_no_int:typeLookup (.type "bytes") "__int__"=pure none:=by rw [typeLookup_type,builtinLookup_eq_fast]; kernel_rfl
theorem bytes_no_float:typeLookup (.type "bytes") "__float__"=pure none:=by rw [typeLookup_type,builtinLookup_eq_fast]; kernel_rfl
section
variable {prog:Program} {w:World} {A:Around} {s:Shared} {Q:Value→Shared→Prop}
theorem sliceParts_ {M:Model} {E:Value→Shared→Prop} {sl:Addr} {vl vu vs:Value} {lo hi st:Option Int} {Q:Value × Value × Value→Shared→Prop} (hs:s.heap.IsSliceOf sl vl vu vs) (pl:IsPart vl lo) (pu:IsPart vu hi) (ps:IsPart vs st) (h0:st ≠ some 0)
  (h:Q (rawPart lo,rawPart hi,rawPart st) s):wpAny M A (Builtin.Bytes.sliceParts (.ref sl)) Q E s:=by
 obtain ⟨o,ho,hc,hd⟩:=hs
 rw [sliceParts_eq]
 refine wpAny_bind (wpAny_field ho hd rfl (wpAny_bind (baPart_ ps ?_)))
 rw [if_neg (by
  induction st using Option.casesOn with
  | none=>exact Bool.false_ne_true
  | some i =>
   show ¬ ((rawInt i == rawInt 0)=true)
   intro q
   have:=eq_of_beq q
   simp [rawInt] at this
   exact h0 (by rw [this]))]
 refine wpAny_bind (wpAny_field ho hd rfl (wpAny_bind (baPart_ pl ?_)))
 refine wpAny_bind (wpAny_field ho hd rfl (wpAny_bind (baPart_ pu ?_)))
 exact wpAny_pure h
theorem getSlice {a sl:Addr} {b:List UInt8} {o:Obj} {vl vu vs:Value} {lo hi:Option Int} {i j:Int} (ho:s.heap.get? a=some o) (hc:o.cls=.type "bytearray") (hd:o.data=.bytearray ⟨b⟩ 0) (hs:s.heap.IsSliceOf sl vl vu vs) (pl:IsPart vl lo) (pu:IsPart vu hi) (ps:IsPart vs none)
  (hb:sliceBounds lo hi none b.length=(i,j,1)) (hz:b.length≤100000) (hlen:(Builtin.Bytes.sliced ⟨b⟩ i j 1).size≤100000)
  (h:Q (.ref s.heap.objs.size) { s with heap:=s.heap.push { cls:=.type "bytearray",data:=.bytearray (Builtin.Bytes.sliced ⟨b⟩ i j 1) } }):wpAny (model prog w) A (getItem (.ref a) (.ref sl)) Q noE s:=by
 have hT:s.TypeIs (.ref a) "bytearray":=⟨o,ho,hc⟩
 have hTs:s.TypeIs (.ref sl) "slice":=let ⟨o,ho,hc,_⟩:=hs; ⟨o,ho,hc⟩
 unfold getItem
 try with_reducible refine wpAny_holding ?_
 refine wpAny_bind (wpAny_sequenceKey hT (by decide) ?_)
 refine wpAny_bind (wpAny_callSpecial?_slot (name:=Str.ofString "__getitem__") hT slot_getitem
  (wpAny_call_entry slot_getitem hT entry_getitem ?_ (args_getitem_2 _ _)))
 unfold Builtin.«bytearray.__getitem__»
 refine wpAny_bind (m:=slotArgs "__getitem__" 1 _) (wpAny_pure ?_)
 dsimp only
 refine wpAny_bind ?_
 unfold Builtin.Bytes.subscript?
 refine wpAny_bind (wpAny_specialOf hTs slice_no_index ?_)
 rw [if_pos (by decide)]
 refine wpAny_pure ?_
 dsimp only
 refine wpAny_bind (wpAny_typeOf hTs ?_)
 rw [if_neg (by decide)]
 refine wpAny_bind (sliceParts_ hs pl pu ps (by intro q; cases q) ?_)
 dsimp only
 refine wpAny_bind (payload_ ho hd ?_)
 rw [show Array.size ⟨b⟩=b.length from rfl,show rawPart none=Value.none from rfl,show (Value.none)=rawPart none from rfl,sliceIndices_raw lo hi none _ (by intro q; cases q),hb]
 refine wpAny_bind (wpAny_pure ?_)
 dsimp only
 refine wpAny_bind ?_
 unfold Builtin.Bytes.newBytearray
 refine wpAny_newObj_type (wpAny_pure ⟨_,rfl,?_⟩) ?_
 ·exact wpAny_pure h
 ·show (Builtin.Bytes.sliced ⟨b⟩ i j 1).size≤sizeLine
  have:sizeLine=2 ^ 24:=rfl
  omega
end
end BA
end Mine
namespace Mine
open PySem PySem.W PySem.Calls PyProof.Rows
namespace BA
section
variable {prog:Program} {w:World} {A:Around} {s:Shared}
theorem new_bytes {c:List UInt8} {t:Tok} {Q:Value→Shared→Prop} (hc:c.length≤100000) (hg:A.guards=some [])
  (h:∀ h',Heap.SameBut s.heap.objs.size (s.heap.push { cls:=.type "bytearray",data:=.bytearray #[] }) h'→h'.get? s.heap.objs.size=some { cls:=.type "bytearray",data:=.bytearray ⟨c⟩ }→Q (.ref s.heap.objs.size) { s with heap:=h' }) :
  wpG (model prog w) A (PySem.call (.type "bytearray") [.bytes ⟨c⟩ t]) Q s :=
 call_ba (typeCall_1 _) (newCall_1 _) (fun obj=>args_init_2 obj _) (init_bytes (o:={ cls:=.type "bytearray",data:=.bytearray #[] }) hc hg (Heap.get?_push_size _ rfl) rfl rfl fun h' hs hget=>⟨rfl,h h' hs hget⟩)
theorem new_int {t:Tok} {Q:Value→Shared→Prop} (hg:A.guards=some [])
  (h:∀ h',Heap.SameBut s.heap.objs.size (s.heap.push { cls:=.type "bytearray",data:=.bytearray #[] }) h'→h'.get? s.heap.objs.size=some { cls:=.type "bytearray",data:=.bytearray (Array.replicate 1536 0) }→Q (.ref s.heap.objs.size) { s with heap:=h' }) :
  wpG (model prog w) A (PySem.call (.type "bytearray") [.int 1536 t]) Q s :=
 call_ba (typeCall_1 _) (newCall_1 _) (fun obj=>args_init_2 obj _) (init_int (o:={ cls:=.type "bytearray",data:=.bytearray #[] }) hg (Heap.get?_push_size _ rfl) rfl rfl fun h' hs hget=>⟨rfl,h h' hs hget⟩)
theorem new_none {Q:Value→Shared→Prop} (hg:A.guards=some [])
  (h:∀ h',Heap.SameBut s.heap.objs.size (s.heap.push { cls:=.type "bytearray",data:=.bytearray #[] }) h'→h'.get? s.heap.objs.size=some { cls:=.type "bytearray",data:=.bytearray #[] }→Q (.ref s.heap.objs.size) { s with heap:=h' }) :
  wpG (model prog w) A (PySem.call (.type "bytearray") []) Q s :=
 call_ba typeCall_0 newCall_0 (fun obj=>args_init_1 obj) (init_0 (o:={ cls:=.type "bytearray",data:=.bytearray #[] }) hg (Heap.get?_push_size _ rfl) rfl rfl fun h' hs hget=>⟨rfl,h h' hs hget⟩)
theorem setSlice {a sl:Addr} {b c:List UInt8} {t:Tok} {o:Obj} {vl vu vs:Value} {lo hi:Option Int} {i j:Int} {Q:Unit→Shared→Prop} (ho:s.heap.get? a=some o) (hc:o.cls=.type "bytearray") (hd:o.data=.bytearray ⟨b⟩ 0) (hs:s.heap.IsSliceOf sl vl vu vs) (pl:IsPart vl lo) (pu:IsPart vu hi) (ps:IsPart vs none)
  (hb:sliceBounds lo hi none b.length=(i,j,1)) (h0:0≤i) (hij:i≤j) (hjb:j≤b.length) (hcl:(c.length:Int)=j - i) (hz:b.length≤100000) (hg:A.guards=some [])
  (h:∀ h',(∀ x y,x ≠ a→s.heap.get? x=some y→h'.get? x=some y)→h'.get? a=some { o with data:=.bytearray (Array.extract ⟨b⟩ 0 i.toNat++⟨c⟩++Array.extract ⟨b⟩ (max i j).toNat b.length) 0 }→s.heap.objs.size≤h'.objs.size→Q () { s with heap:=h' }) :
  wpG (model prog w) A (setItem (.ref a) (.ref sl) (.bytes ⟨c⟩ t)) Q s:=by
 have hT:s.TypeIs (.ref a) "bytearray":=⟨o,ho,hc⟩
 have hTs:s.TypeIs (.ref sl) "slice":=let ⟨o,ho,hc,_⟩:=hs; ⟨o,ho,hc⟩
 refine G.holding (G.step (wpAny_sequenceKey hT (by decide) ?_))
 refine G.bind (G.step (wpAny_specialOf hT slot_setitem.lookup ?_))
 refine G.holding ?_
 refine G.bind (G.of_eq (slot_setitem.bind _) ?_)
 refine G.bind (G.call_entry slot_setitem hT entry_setitem (by decide +kernel) (args_setitem_3 _ _ _) ?_)
 unfold Builtin.«bytearray.__setitem__»
 refine G.ifn ?_ ?_
 ·exact Bool.false_ne_true
 refine G.bind (G.step (wpAny_specialOf hTs slice_no_index ?_))
 rw [if_pos (by decide)]
 refine G.pure ?_
 refine G.step (wpAny_typeOf hTs ?_)
 refine G.ifn ?_ ?_
 ·decide
 refine G.step (sliceParts_ hs pl pu ps (by intro q; cases q) ?_)
 refine G.ifn ?_ ?_
 ·exact Bool.false_ne_true
 refine G.step (wpAny_isInstance (T:="bytes") (b:=false) rfl bytes_not_ba ?_)
 refine G.ifp ?_ ?_
 ·decide
 have hTb:s.TypeIs (.bytes ⟨c⟩ t) "bytes":=rfl
 refine G.step (wpAny_bind (wpAny_bind (wpAny_specialOf hTb bytes_no_index (wpAny_pure ?_))))
 refine wpAny_bind (wpAny_bind (wpAny_specialOf hTb bytes_no_int (wpAny_pure ?_)))
 refine wpAny_bind (wpAny_bind (wpAny_specialOf hTb bytes_no_float (wpAny_pure ?_)))
 refine wpAny_isInstance (T:="bytes") (b:=false) rfl bytes_not_complex ?_
 refine G.bind (G.of_eq (a:=none) rfl ?_)
 refine G.ifn ?_ ?_
 ·decide
 refine G.rule ?_
 refine G.bind (new_bytes (by omega) hg fun h1 hs1 hget=>?_)
 have keep:∀ x y,s.heap.get? x=some y→h1.get? x=some y:=fun x y e=>hs1.extBut x y (Nat.ne_of_lt (Heap.lt_size e)) (Heap.get?_push_of_some _ e)
 have ho1:=keep _ _ ho
 have hsz1:h1.objs.size=s.heap.objs.size+1:=hs1.1.trans (Heap.size_push ..)
 have hs1':h1.IsSliceOf sl vl vu vs:=let ⟨o,ho,r⟩:=hs; ⟨o,keep _ _ ho,r⟩
 refine G.bind (G.holding (G.of (sliceParts_ (s:={ s with heap:=h1 }) hs1' pl pu ps (by intro q; cases q) ?_)))
 refine G.step (payload_ (s:={ s with heap:=h1 }) hget rfl ?_)
 refine G.step (payload_ (s:={ s with heap:=h1 }) ho1 hd ?_)
 refine G.bind (G.of_eq ((sliceIndices_raw lo hi none b.length (by intro q; cases q)).trans (congrArg _ hb)) ?_)
 refine G.ifp ?_ ?_
 ·decide
 refine G.rule ?_
 have hmx:max i j=j:=by omega
 refine G.ifn ?_ ?_
 ·rw [hmx]; simp; omega
 refine G.step (write_ (s:={ s with heap:=h1 }) ho1 hd ?_ ?_)
 ·simp [sizeLine]
  omega
 ·refine G.pure ⟨_,rfl,G.pure ?_⟩
  refine G.pure (h _ (fun x y hx e=>?_) ?_ ?_)
  ·exact (Heap.get?_update_other _ _ (Ne.symm hx)).trans (keep x y e)
  ·exact get_map (s:={ s with heap:=h1 }) ho1 hd
  ·refine Nat.le_trans ?_ (Nat.le_of_eq (Heap.SameBut.update ..).1.symm)
   show s.heap.objs.size≤h1.objs.size
   rw [hsz1]
   exact Nat.le_succ _
end
end BA
end Mine
end
section
namespace Mine
open PySem PySem.W PySem.Calls PyProof.Rows
structure SubR (c:Cx) (H:MH) (x y v:V):Prop where
 r:∀ (A:Around) (p:P c H) (a b:Value) (Q:Value→Shared→Prop),VR p.w x a→VR p.w y b→(∀ z t,VR p.w v z→Q z { p.s with toks:=t })→SubscriptOn (model c.prog c.w) A a b Q noE p.s
structure SetR (c:Cx) (H:MH) (x y v:V) (H':MH):Prop where
 r:∀ (A:Around) (p:P c H) (a b z:Value) (Q:Unit→Shared→Prop),VR p.w x a→VR p.w y b→VR p.w v z→(∀ q:P c H',Ext noX p q→Q () q.s)→wpAny (model c.prog c.w) A (setItem a b z) Q noE p.s
structure SlcR (c:Cx) (H:MH) (x lo hi st v:V) (H':MH):Prop where
 r:∀ (A:Around) (p:P c H) (a xl xu xs:Value) (sl:Addr) (Q:Value→Shared→Prop),VR p.w x a→VR p.w lo xl→VR p.w hi xu→VR p.w st xs→p.h.IsSliceOf sl xl xu xs→(∀ y (q:P c H'),Ext noX p q→VR q.w v y→Q y q.s)→SubscriptOn (model c.prog c.w) A a (.ref sl) Q noE p.s
structure SetSR (c:Cx) (H:MH) (x lo hi v:V) (H':MH):Prop where
 r:∀ (A:Around) (p:P c H) (a xl xu z:Value) (sl:Addr) (Q:Unit→Shared→Prop),A.guards=some []→VR p.w x a→VR p.w lo xl→VR p.w hi xu→VR p.w v z→p.h.IsSliceOf sl xl xu .none→(∀ q:P c H',Ext noX p q→Q () q.s)→wpG (model c.prog c.w) A (setItem a (.ref sl) z) Q p.s
section
variable {c:Cx} {A:Around} {H:MH} {p:P c H}
theorem idx_inv {l:List V} {i:Int} {v:V} (h:idx l i=some v):l.length≤100000∧∃ j,l[j]?=some v∧((0≤i∧j=i.toNat)∨(i<0∧0≤i+l.length∧j=(i+l.length).toNat)):=by
 unfold idx at h
 split at h
 ·cases h
 ·rename_i hl
  refine ⟨Nat.not_lt.1 hl,?_⟩
  split at h
  ·rename_i h0
   exact ⟨_,h,.inl ⟨h0,rfl⟩⟩
  ·rename_i h0
   split at h
   ·rename_i h1
    exact ⟨_,h,.inr ⟨Int.not_le.1 h0,h1,rfl⟩⟩
   ·cases h
theorem sub_list {l:List V} {vs:List Value} {t:Addr} {i:Int} {v:V} {u:Tok} {Q:Value→Shared→Prop} (ht:p.h.IsList t ⟨vs⟩) (hl:VRs p.w l vs) (e:idx l i=some v) (k:∀ z t,VR p.w v z→Q z { p.s with toks:=t }):SubscriptOn (model c.prog c.w) A (.ref t) (.int i u) Q noE p.s:=by
 obtain ⟨h1,j,hj,hh⟩:=idx_inv e
 obtain ⟨z,hz,hv⟩:=hl.get hj
 have hn:=hl.length
 have hlt:j<vs.length:=(List.getElem?_eq_some_iff.mp hz).1
 refine ⟨"list",_,slot_list_getitem.lookup,ht.typeIs,?_⟩
 rcases hh with ⟨g1,rfl⟩ | ⟨g1,g2,rfl⟩
 ·exact wpAny_getItem_list ht g1 (by lia) ((List.getElem?_toArray ..).trans hz) (k z p.s.toks hv)
 ·exact wpAny_getItem_list_neg ht g1 (show -(vs.length:Int)≤i by lia) (by lia) ((List.getElem?_toArray ..).trans (show vs[(i+(vs.length:Int)).toNat]?=_ from hn.symm ▸ hz)) (k z p.s.toks hv)
theorem sub_l {n:Nat} {l:List V} {i:Int} {v:V} (h:H.o n=some (.lst l)) (e:idx l i=some v):SubR c H (.obj n) (.int i) v :=
 ⟨fun A p a b Q ⟨_,ha⟩ ⟨u,hb⟩ k=>by
  obtain ⟨vs,ht,hvs⟩:=p.isl h
  subst ha hb
  exact sub_list ht hvs e k⟩
theorem sub_a {t:Nat} {l:List V} {i:Int} {v:V} (h:slstAt c.a c.ns t=some l) (e:idx l i=some v):SubR c H (.sta t) (.int i) v :=
 ⟨fun A p a b Q ha ⟨u,hb⟩ k=>by
  obtain ⟨vs,ht,hvs⟩:=p.slst h
  cases ha; subst hb
  exact sub_list ht hvs e k⟩
theorem sub_t {l:List V} {i:Int} {v:V} (e:idx l i=some v):SubR c H (.tup l) (.int i) v :=
 ⟨fun A p a b Q ⟨t,vs,ha,ht,hvs⟩ ⟨u,hb⟩ k=>by
  obtain ⟨h1,j,hj,hh⟩:=idx_inv e
  obtain ⟨z,hz,hv⟩:=hvs.get hj
  have hn:=hvs.length
  have hlt:j<vs.length:=(List.getElem?_eq_some_iff.mp hz).1
  subst ha hb
  refine ⟨"tuple",_,F.slot_tuple_getitem.lookup,ht.typeIs,?_⟩
  refine PyProof.Rows.getItem_tuple (j:=j) ht ?_ ?_ ?_ ((List.getElem?_toArray ..).trans hz) (k z p.s.toks hv)
  ·lia
  ·lia
  ·unfold seqIndex?
   rw [show Array.size ⟨vs⟩=l.length from hn]
   rcases hh with ⟨g1,rfl⟩ | ⟨g1,g2,rfl⟩
   ·simp [Int.not_lt.mpr g1]; lia
   ·simp [g1]; lia⟩
theorem sub_dict {d:List (V × V)} {kvs:List (K2 × Value)} {t:Addr} {y v:V} {b:Value} {Q:Value→Shared→Prop} (ht:p.h.DictOf c.kv t kvs) (hp:PR p.w d kvs) (hk:isKey y=true) (hb:VR p.w y b) (e:dget d y=some v) (k:∀ z t,VR p.w v z→Q z { p.s with toks:=t }):SubscriptOn (model c.prog c.w) A (.ref t) b Q noE p.s:=by
 obtain ⟨k',hk⟩:=isKey_toK hk
 obtain ⟨z,hz,hv⟩:=PR.hit hk hp e
 exact ⟨"dict",_,F.slot_dict_getitem.lookup,ht.typeIs,wpAny_getItem_of (hb.key hk) ht.mapOf hz (k z _ hv)⟩
theorem sub_d {n:Nat} {D:List (V × V)} {y v:V} (h:H.o n=some (.dic D)) (q:isKey y=true) (g:dget D y=some v):SubR c H (.obj n) y v :=
 ⟨fun A p a b Q ⟨_,ha⟩ hb k=>by
  obtain ⟨_,kvs,ht,hp⟩:=p.dic h
  subst ha
  exact sub_dict ht hp q hb g k⟩
theorem sub_s {t:Nat} {D:List (V × V)} {y v:V} (h:sdicAt t=some D) (q:isKey y=true) (g:dget D y=some v):SubR c H (.sta t) y v :=
 ⟨fun A p a b Q ha hb k=>by
  obtain ⟨_,kvs,ht,hp⟩:=p.sdic h
  cases ha
  exact sub_dict ht hp q hb g k⟩
theorem upd_list {h:Heap} {f:Array Value→Array Value} {vs ws:List Value} {m:Nat} {a:Addr} (ho:h.get? a=some { cls:=.type "list",dict:=none,data:=.seq ⟨vs⟩ m,slots:=#[] }) (e:f ⟨vs⟩=⟨ws⟩):∃ m',(h.update a (Obj.mapSeq f)).get? a=some { cls:=.type "list",dict:=none,data:=.seq ⟨ws⟩ m',slots:=#[] }:=by
 obtain ⟨m',hm⟩:=Obj.data_mapSeq (o:={ cls:=.type "list",dict:=none,data:=.seq ⟨vs⟩ m,slots:=#[] }) rfl f
 have h1:=Heap.get?_update_self (Obj.mapSeq f) ho (Obj.isFreed_of_seq hm)
 rw [e] at hm
 refine ⟨m',h1.trans (congrArg some ?_)⟩
 have h2:∀ o:Obj,o.cls=.type "list"→o.dict=none→o.slots=#[]→o.data=.seq ⟨ws⟩ m'→o={ cls:=.type "list",dict:=none,data:=.seq ⟨ws⟩ m',slots:=#[] }:=by
  rintro ⟨c,d,dt,sl⟩ rfl rfl rfl rfl
  rfl
 exact h2 _ rfl rfl rfl hm
theorem put_list {f:Array Value→Array Value} {j m t:Nat} {l:List V} {vs ws:List Value} {Q:Shared→Prop} (hj:j<H.n) (ho:p.h.get? (p.ρ j)=some { cls:=.type "list",dict:=none,data:=.seq ⟨vs⟩ m,slots:=#[] }) (e:f ⟨vs⟩=⟨ws⟩) (hl:VRs p.w l ws)
  (k:∀ q:P c (H.put j (.lst l)),Ext noX p q→q.ρ=p.ρ→q.s={ p.s with heap:=p.h.update (p.ρ j) (Obj.mapSeq f),toks:=t }→Q q.s):Q { p.s with heap:=p.h.update (p.ρ j) (Obj.mapSeq f),toks:=t }:=by
 obtain ⟨m',hm⟩:=upd_list ho e
 have hs:∀ b o,b ≠ p.ρ j→p.h.get? b=some o→(p.h.update (p.ρ j) (Obj.mapSeq f)).get? b=some o:=fun b o hb e=>((Heap.SameBut.update ..).2 b hb).trans e
 exact k (p.put t hj hs ⟨ws,m',hm,hl.mono (.put p hj hs)⟩) (.put p ..) rfl rfl
theorem set_l {n:Nat} {l:List V} {v:V} {i:Int} (h:H.o n=some (.lst l)) (h0:0≤i) (hi:i<l.length) (hlen:l.length≤100000):SetR c H (.obj n) (.int i) v (H.put n (.lst (l.set i.toNat v))) :=
 ⟨fun A p a b x QU ⟨_,ha⟩ ⟨t,hb⟩ hx k=>by
  subst ha hb
  obtain ⟨hj,vs,m,ho,hl⟩:=p.lst h
  have hT:p.s.TypeIs (.ref (p.ρ n)) "list":=⟨_,ho,rfl⟩
  have e1:=hl.length
  unfold setItem
  try with_reducible refine wpAny_holding ?_
  refine wpAny_bind (wpAny_sequenceKey hT (by decide) ?_)
  refine wpAny_bind (wpAny_callSpecial?_slot (name:=Str.ofString "__setitem__") hT slot_list_setitem
   (wpAny_call_entry slot_list_setitem hT entry_list_setitem ?_ (args_list_setitem _ _ _)))
  show wpAny _ _ (Builtin.List.listSubscript? (.int i t) >>= _) _ _ p.s
  refine wpAny_bind (wpAny_listSubscript_int (fitsIndex_of h0 (by lia)) ?_)
  obtain ⟨j,rfl⟩:=Int.eq_ofNat_of_zero_le h0
  have hn:j<vs.length:=by lia
  show wpAny _ _ ((seqItemAt (p.ρ n) j >>= fun r=>pure (r.map (j,·))) >>= _) _ _ p.s
  refine wpAny_bind (wpAny_bind (wpAny_seqItemAt ho rfl (wpAny_pure ?_)))
  rw [show (Array.mk vs)[j]?=some (vs[j]) from (List.getElem?_toArray ..).trans (List.getElem?_eq_getElem hn)]
  show wpAny _ _ (setSeqItemAt (p.ρ n) j x >>= _) _ _ p.s
  refine wpAny_bind (wpAny_setSeqItemAt ho rfl ?_)
  have fin:=put_list (p:=p) (f:=(·.setIfInBounds j x)) (t:=p.s.toks) (Q:=fun s=>QU () s) hj ho (List.setIfInBounds_toArray ..) (hl.set j hx) fun q E _ _=>k q E
  first
   | exact wpAny_bind (wpAny_pure (wpAny_pure ⟨.none,rfl,wpAny_pure fin⟩))
   | exact wpAny_pure ⟨.none,rfl,wpAny_pure fin⟩⟩
theorem put_dict {h':Heap} {j t:Nat} {d:List (V × V)} {kvs:List (K2 × Value)} {Q:Shared→Prop} (hj:j<H.n) (hs:Heap.SameBut (p.ρ j) p.h h') (hm:h'.DictOf c.kv (p.ρ j) kvs) (hp:PR p.w d kvs)
  (k:∀ q:P c (H.put j (.dic d)),Ext noX p q→q.ρ=p.ρ→Q q.s):Q { p.s with heap:=h',toks:=t }:=by
 have hs:∀ b o,b ≠ p.ρ j→p.h.get? b=some o→h'.get? b=some o:=fun b o hb e=>(hs.2 b hb).trans e
 exact k (p.put t hj hs ⟨kvs,hm,hp.mono (.put p hj hs)⟩) (.put p ..) rfl
theorem set_d {n:Nat} {d:List (V × V)} {y v:V} (h:H.o n=some (.dic d)) (hk:isKey y=true) (hlen:d.length≤100000):SetR c H (.obj n) y v (H.put n (.dic (dput d y v))) :=
 ⟨fun A p a b x QU ⟨_,ha⟩ hb hx k=>by
  subst ha
  obtain ⟨hj,kvs,hm,hp⟩:=p.dic h
  obtain ⟨k',hk⟩:=isKey_toK hk
  exact wpAny_setItem_pairs (hb.key hk) hm (fun h' hm' hs'=>put_dict (Q:=fun s=>QU () s) hj hs' hm' (hp.put hk hx (dict_nodup hm)) fun q E _=>k q E) (by rw [hp.length,sizeLine_eq]; lia)⟩
theorem part_n {w:Vw} {x:Value} (h:VR w .none x):IsPart x none:=(show x=.none from h) ▸ .none
theorem part_i {w:Vw} {x:Value} {i:Int} (h:VR w (.int i) x):IsPart x (some i):=let ⟨t,e⟩:=h; e ▸ .int i t
theorem slc_list {l l':List V} {vs:List Value} {a sl:Addr} {xl xu xs:Value} {lo hi st:Option Int} (hl:p.h.IsList a ⟨vs⟩) (hvs:VRs p.w l vs) (hs:p.h.IsSliceOf sl xl xu xs)
  (pl:IsPart xl lo) (pu:IsPart xu hi) (ps:IsPart xs st) (h0:st ≠ some 0) (hlen:l.length≤100000) (e:∃ ws,slicePick ⟨vs⟩ lo hi st=⟨ws⟩∧VRs p.w l' ws) {Q:Value→Shared→Prop} (k:∀ y (q:P c (H.new (.lst l'))),Ext noX p q→VR q.w (.obj H.n) y→Q y q.s) :
  SubscriptOn (model c.prog c.w) A (.ref a) (.ref sl) Q noE p.s:=by
 obtain ⟨ws,e1,e2⟩:=e
 refine ⟨"list",_,slot_list_getitem.lookup,hl.typeIs,?_⟩
 exact does_list e2 (fun Q k=>wpAny_getItem_list_slice hl hs pl pu ps h0 (by rw [e1]; exact k p.s.toks) (Nat.le_trans (Nat.le_of_eq hvs.length) (Nat.le_trans hlen (by decide)))) Q k
theorem slc_upto {t:Nat} {l:List V} {m:Nat} (h:slstAt c.a c.ns t=some l) (hl:l.length≤100000):SlcR c H (.sta t) .none (.int m) .none (.obj H.n) (H.new (.lst (l.take m))) :=
 ⟨fun A p a xl xu xs sl Q ha hlo hhi hst hs k=>by
  obtain ⟨vs,hL,hvs⟩:=p.slst h
  cases ha
  exact slc_list hL hvs hs (part_n hlo) (part_i hhi) (part_n hst) nofun hl ⟨vs.take m,slicePick_upto' _ _,hvs.take m⟩ k⟩
theorem slc_all {n:Nat} {l:List V} (h:H.o n=some (.lst l)) (hl:l.length≤100000):SlcR c H (.obj n) .none .none (.int 1) (.obj H.n) (H.new (.lst l)) :=
 ⟨fun A p a xl xu xs sl Q ⟨_,ha⟩ hlo hhi hst hs k=>by
  obtain ⟨vs,hL,hvs⟩:=p.isl h
  subst ha
  exact slc_list hL hvs hs (part_n hlo) (part_n hhi) (part_i hst) (by decide) hl ⟨vs,slicePick_all _,hvs⟩ k⟩
theorem slc_rev {n:Nat} {l:List V} (h:H.o n=some (.lst l)) (hl:l.length≤100000):SlcR c H (.obj n) .none .none (.int (-1)) (.obj H.n) (H.new (.lst l.reverse)) :=
 ⟨fun A p a xl xu xs sl Q ⟨_,ha⟩ hlo hhi hst hs k=>by
  obtain ⟨vs,hL,hvs⟩:=p.isl h
  subst ha
  exact slc_list hL hvs hs (part_n hlo) (part_n hhi) (part_i hst) (by decide) hl ⟨vs.reverse,krv_pick _,hvs.reverse⟩ k⟩
theorem bounds_run {x y n:Nat} (h1:x≤y) (h2:y≤n):sliceBounds (some (x:Int)) (some (y:Int)) none n=((x:Int),(y:Int),1):=by
 rw [sliceBounds_plain]
 simp only [Option.elim,clipAt_nat]
 rw [Nat.min_eq_left (Nat.le_trans h1 h2),Nat.min_eq_left h2]
theorem bounds_upto {y n:Nat} (h2:y≤n):sliceBounds none (some (y:Int)) none n=(((0:Nat):Int),(y:Int),1):=by
 rw [sliceBounds_plain]
 simp only [Option.elim,clipAt_nat]
 rw [Nat.min_eq_left h2]
theorem slc_b {n:Nat} {b:List UInt8} {x y:Nat} (h:H.o n=some (.bya b)) (h1:x≤y) (h2:y≤b.length) (h3:b.length≤100000):SlcR c H (.obj n) (.int x) (.int y) .none (.obj H.n) (H.new (.bya ((b.drop x).take (y - x)))) :=
 ⟨fun A p a xl xu xs sl Q ⟨_,ha⟩ hlo hhi hst hs k=>by
  obtain ⟨hj,sl',ho⟩:=p.bya h
  subst ha
  have es:Builtin.Bytes.sliced ⟨b⟩ (x:Int) (y:Int) 1=⟨(b.drop x).take (y - x)⟩:=by
   unfold Builtin.Bytes.sliced
   rw [sliceRange_one,pick_run]
  refine ⟨"bytearray",_,BA.slot_getitem.lookup,⟨_,ho,rfl⟩,?_⟩
  refine BA.getSlice ho rfl rfl hs (part_i hlo) (part_i hhi) (part_n hst) (bounds_run h1 h2) h3 ?_ ?_ <;> rw [es]
  ·exact Nat.le_trans (List.length_take_le ..) (Nat.le_trans (Nat.sub_le ..) (Nat.le_trans h2 h3))
  ·exact k _ (p.alloc p.s.toks (fun _ _ e=>Heap.get?_push_of_some _ e) (size_none _) ⟨#[],Heap.get?_push_size _ rfl⟩) (.alloc p ..) (.new p)⟩
theorem set_run {n:Nat} {b e:List UInt8} {x y:Nat} {lo hi:Option Int} {xl xu:Value} {sl:Addr} {t:Tok} {Q:Unit→Shared→Prop} (h:H.o n=some (.bya b)) (pl:IsPart xl lo) (pu:IsPart xu hi) (hb:sliceBounds lo hi none b.length=((x:Int),(y:Int),1)) (h1:x≤y) (h2:y≤b.length) (h3:e.length=y - x) (h4:b.length≤100000) (hg:A.guards=some []) (hs:p.h.IsSliceOf sl xl xu .none)
  (k:∀ q:P c (H.put n (.bya (b.take x++e++b.drop y))),Ext noX p q→Q () q.s):wpG (model c.prog c.w) A (setItem (.ref (p.ρ n)) (.ref sl) (.bytes ⟨e⟩ t)) Q p.s:=by
 obtain ⟨hj,sl',ho⟩:=p.bya h
 refine BA.setSlice ho rfl rfl hs pl pu .none hb (Int.natCast_nonneg _) (Int.ofNat_le.2 h1) (Int.ofNat_le.2 h2) (by lia) h4 hg fun h' hk hget hsz=>?_
 have e1:Array.extract ⟨b⟩ 0 ((x:Int)).toNat++⟨e⟩++Array.extract ⟨b⟩ (max (x:Int) (y:Int)).toNat b.length=⟨b.take x++e++b.drop y⟩:=by
  rw [show (max (x:Int) (y:Int)).toNat=y by lia]
  simp [List.take_drop]
  rw [show y+(b.length - y)=b.length by lia,List.take_length]
 rw [e1] at hget
 exact k (p.put p.s.toks hj (fun b o hb e=>hk b o hb e) ⟨sl',hget⟩) (.put p ..)
theorem ssl_0 {n:Nat} {b e:List UInt8} (h:H.o n=some (.bya b)) (h1:e.length≤b.length) (h2:b.length≤100000):SetSR c H (.obj n) .none (.int e.length) (.byt e) (H.put n (.bya (b.take 0++e++b.drop e.length))) :=
 ⟨fun A p a xl xu z sl Q hg ⟨_,ha⟩ hlo hhi ⟨t,hz⟩ hs k=>by
  subst ha hz
  exact set_run h (part_n hlo) (part_i hhi) (bounds_upto h1) (Nat.zero_le _) h1 (Nat.sub_zero _).symm h2 hg hs k⟩
theorem ssl {n:Nat} {b e:List UInt8} {x:Nat} (h:H.o n=some (.bya b)) (h1:x+e.length≤b.length) (h2:b.length≤100000):SetSR c H (.obj n) (.int x) (.int (x+e.length:Nat)) (.byt e) (H.put n (.bya (b.take x++e++b.drop (x+e.length)))) :=
 ⟨fun A p a xl xu z sl Q hg ⟨_,ha⟩ hlo hhi ⟨t,hz⟩ hs k=>by
  subst ha hz
  exact set_run h (part_i hlo) (part_i hhi) (bounds_run (Nat.le_add_right ..) h1) (Nat.le_add_right ..) h1 (Nat.add_sub_cancel_left ..).symm h2 hg hs k⟩
end
end Mine
end
section
namespace Mine
open PySem PySem.W PySem.Calls PyProof.Rows
structure AttR (c:Cx) (H:MH) (x:V) (m:Str) (v:V):Prop where
 r:∀ (A:Around) (p:P c H) (a:Value) (e:Bool) (Q:Value→Shared→Prop),attNames.contains m=true→VR p.w x a→(∀ z t,VR p.w v z→Q z { p.s with toks:=t })→wpAny (model c.prog c.w) A (getAttr a m e) Q noE p.s
structure SetAR (c:Cx) (H:MH) (x:V) (m:Str) (v:V) (H':MH):Prop where
 r:∀ (A:Around) (p:P c H) (a z:Value) (Q:Unit→Shared→Prop),attNames.contains m=true→VR p.w x a→VR p.w v z→(∀ q:P c H',Ext noX p q→Q () q.s)→wpAny (model c.prog c.w) A (setAttr a m z) Q noE p.s
section
variable {c:Cx} {A:Around} {H:MH} {p:P c H}
theorem lookIn_of {h:Heap} {a:Addr} {kvs:List (K2 × Value)} (hm:h.DictOf c.kv a kvs):∃ o es ep,h.get? a=some o∧o.data=.dict es ep∧es.any (·.refKey)=false∧∀ x,lookIn x o=some (valueAt kvs (.inr x)):=by
 obtain ⟨o,es,ep,ho,hx,hd,hk,hp,hn⟩:=hm
 have hr:es.any (·.refKey)=false:=by
  rw [Array.any_eq_false']
  intro e he
  obtain ⟨k,hk,_⟩:=hk e he
  rcases isK2_shape hk with ⟨i,t,_,q⟩ | ⟨i,t,_,q⟩ <;> rw [DictEntry.refKey,q] <;> exact Bool.false_ne_true
 refine ⟨o,es,ep,ho,hd,hr,fun x=>?_⟩
 have f:=hp.find (.inr x)
 have e:(fun e:DictEntry=>c.kv.is (.inr x) e.key)=fun e=>e.key.isStr x:=by
  funext e
  exact c.kv.strs (.inr x) x 0 e.key (beq_self_eq_true x)
 rw [e] at f
 unfold lookIn
 rw [hd]
 dsimp only
 rw [← f]
 cases q:es.toList.find? fun e=>e.key.isStr x with
 | some en=>rfl
 | none =>
  dsimp only
  rw [if_neg (by rw [Array.any_toList,hr]; exact Bool.false_ne_true)]
  rfl
theorem P.inst (p:P c H) {k n:Nat} {x:Value} {d:List (V × V)} (hd:H.o n=some (.dic d)) (ha:VR p.w (.ins k n) x) :
  ∃ a o kvs,x=.ref a∧n<H.n∧p.h.DictOf c.kv (p.ρ n) kvs∧PR p.w d kvs∧InstAt p.h a ⟨.ref k,some (p.ρ n),.plain,#[]⟩ k (some o)∧p.h.get? (p.ρ n)=some o∧(∀ y,lookIn y o=some (valueAt kvs (.inr y))):=by
 obtain ⟨a,rfl,hk,hg⟩:=ha
 obtain ⟨_,kvs,hm,hp⟩:=p.dic hd
 obtain ⟨o,es,ep,ho,hd',hr,hl⟩:=lookIn_of hm
 exact ⟨a,o,kvs,rfl,hk,hm,hp,⟨hg,rfl,rfl,ho⟩,ho,hl⟩
theorem handed_of {w:Vw} {v:V} {z:Value} (h:VR w v z) (nb:∀ n,v ≠ .bn n):handedIn z=true:=by
 induction v using V.casesOn with
 | bn f=>exact absurd rfl (nb f)
 | none=>exact (show z=_ from h) ▸ rfl
 | bool b=>exact (show z=_ from h) ▸ rfl
 | sta i=>exact (show z=_ from h) ▸ rfl
 | int i=>exact h.elim fun _ e=>e ▸ rfl
 | str i=>exact h.elim fun _ e=>e ▸ rfl
 | byt i=>exact h.elim fun _ e=>e ▸ rfl
 | tup l=>exact h.elim fun _ e=>e.elim fun _ e=>e.1 ▸ rfl
 | rng i j=>exact h.elim fun _ e=>e.elim fun _ e=>e.elim fun _ e=>e.elim fun _ e=>e.1 ▸ rfl
 | ins c k=>exact h.elim fun _ e=>e.1 ▸ rfl
 | obj k=>exact h.2 ▸ rfl
theorem at_of {k n:Nat} {D:List (V × V)} {m:Str} {v:V} (h:H.o n=some (.dic D)) (i:insCls k=true) (g:dget D (.str m)=some v) (nb:∀ n,v ≠ .bn n):AttR c H (.ins k n) m v :=
 ⟨fun A p x e Q hn ha kk=>by
  obtain ⟨a,o,kvs,rfl,hk,hm,hp,hI,ho,hl⟩:=p.inst h ha
  obtain ⟨z,hz,hvz⟩:=PR.hit (key:=.str m) rfl hp g
  exact get_value (c.W.KI.keeps p.R.base) hI (c.W.ga k i) (findObj_own (c.W.dct k i) (c.W.attr k m i hn) rfl ((hl m).trans (congrArg some hz))) (handed_of hvz nb) (kk z _ hvz)⟩
theorem nsSet_dict {s:Shared} {a:Addr} {kvs:List (K2 × Value)} {x:Str} {v:Value} {Q:Unit→Shared→Prop} (hm:s.heap.DictOf c.kv a kvs)
  (hQ:∀ h',h'.DictOf c.kv a (stored kvs (.inr x) v)→Heap.SameBut a s.heap h'→Q () { s with heap:=h',toks:=s.toks+1 }):wpAny (model c.prog c.w) A (nsSet a x v) Q noE s:=by
 refine hide fun Gl kG=>?_
 obtain ⟨o,es,ep,ho,hx,hd,hk,hp,hn⟩:=id hm
 obtain ⟨o',es',ep',ho',hd',hr,_⟩:=lookIn_of hm
 cases ho.symm.trans ho'
 cases hd.symm.trans hd'
 refine kG ?_
 unfold nsSet strHash
 refine wpAny_bind (wpAny_bind (wpAny_askSetting (wpAny_pure (wpAny_bind (wpAny_mkText (wpAny_bind (wpAny_loadPart ho ?_)))))))
 rw [hd]
 dsimp only
 rw [aRefKeyMayBeTheName_at,hr,Bool.and_false,if_neg Bool.false_ne_true]
 refine wpAny_updatePart ho (hQ _ ?_ (Heap.SameBut.update ..))
 have e:(fun e:DictEntry=>e.key.isStr x)=fun e=>c.kv.is (.inr x) e.key:=by
  funext e
  exact (c.kv.strs (.inr x) x 0 e.key (beq_self_eq_true x)).symm
 obtain ⟨cl,dd,dt,sl⟩:=o
 replace hd:dt=.dict es ep:=hd
 subst hd
 have hfi:es.toList.findIdx? (fun e=>c.kv.is (.inr x) e.key)=es.findIdx? (fun e=>e.key.isStr x):=by
  rw [e]
  obtain ⟨l⟩:=es
  exact List.findIdx?_toArray ..|>.symm
 cases hi:es.findIdx? (fun e=>e.key.isStr x) with
 | some i =>
  rw [hi] at hfi
  have hput:Obj.putName x (PyData.keyHash c.w.params x) (.str x s.toks) v ⟨cl,dd,.dict es ep,sl⟩=⟨cl,dd,.dict (es.modify i (fun e=>{ e with val:=v })) ep,sl⟩:=by simp only [Obj.putName_eq,Obj.putNameByArray,hi]
  have hst:=any_of_findIdx_some ((hp.findIdx (.inr x)).symm.trans hfi)
  refine ⟨_,es.modify i (fun e=>{ e with val:=v }),ep,(Heap.get?_update_self _ ho (hput ▸ rfl)).trans (congrArg some hput),hx,rfl,KeysOf.modify hk i v,?_,?_⟩
  ·rw [stored,if_pos hst,Array.toList_modify]
   exact hp.modify hn hfi v
  ·rw [stored,if_pos hst,keys_map_store]
   exact hn
 | none =>
  rw [hi] at hfi
  have hnm:=not_mem_of_findIdx_none ((hp.findIdx (.inr x)).symm.trans hfi)
  have hst:stored kvs (.inr x) v=kvs++[(.inr x,v)]:=by
   rw [stored,if_neg]
   intro q
   obtain ⟨kv,hkv,hq⟩:=List.any_eq_true.mp q
   exact hnm (List.mem_map.mpr ⟨kv,hkv,of_decide_eq_true hq⟩)
  have hput:Obj.putName x (PyData.keyHash c.w.params x) (.str x s.toks) v ⟨cl,dd,.dict es ep,sl⟩=⟨cl,dd,.dict (es.push ⟨PyData.keyHash c.w.params x,.str x s.toks,v⟩) (ep+1),sl⟩:=by simp only [Obj.putName_eq,Obj.putNameByArray,hi]
  have hkey:c.kv.is (.inr x) (.str x s.toks)=true:=beq_self_eq_true x
  refine ⟨_,es.push ⟨PyData.keyHash c.w.params x,.str x s.toks,v⟩,ep+1,(Heap.get?_update_self _ ho (hput ▸ rfl)).trans (congrArg some hput),hx,rfl,KeysOf.push hk hkey v,?_,?_⟩
  ·rw [hst,Array.toList_push]
   exact hp.append hkey _ v
  ·rw [hst,List.map_append,List.nodup_append]
   refine ⟨hn,List.pairwise_singleton ..,fun a ha b hb e=>hnm ?_⟩
   cases List.mem_singleton.1 hb
   exact (show a=Sum.inr x from e) ▸ ha
theorem set_att {k n:Nat} {D:List (V × V)} {m:Str} {v:V} (h:H.o n=some (.dic D)) (i:insCls k=true) (l:D.length≤1000):SetAR c H (.ins k n) m v (H.put n (.dic (dput D (.str m) v))) :=
 ⟨fun A p x z Q hn ha hv kk=>by
  refine hide fun Gl kG=>?_
  obtain ⟨a,o,kvs,rfl,hk,hm,hp,hI,ho,hl⟩:=p.inst h ha
  have KS:=c.W.KI.keeps p.R.base
  have hpp:=hp.put (key:=.str m) (k:=.inr m) rfl hv (dict_nodup hm)
  obtain ⟨cd,hcd,hd'⟩:=any_some (c.W.dct k i)
  have hx:=hI.1
  refine kG ?_
  refine set_plain KS hI (c.W.sa k i) (osa_open (s:={ p.s with toks:=p.s.toks+1 }) (r:=none) KS hI (c.W.over k i) (by unfold takerIn; rw [c.W.attr k m i hn]; rfl) fun b=>?_)
  refine wpAny_bind (wpAny_pure (wpAny_bind (wpAny_bind (wpAny_loadPart hx (wpAny_bind ((looks_clsIn (M:=model c.prog c.w) KS hcd).here (s:={ p.s with toks:=p.s.toks+1 }) ?_))))))
  rw [hd']
  refine wpAny_pure (a:=some (p.ρ n)) (wpAny_bind (wpAny_pure (wpAny_bind ?_)))
  refine nsSet_dict (s:={ p.s with toks:=p.s.toks+1 }) hm fun h' hm' hs=>?_
  have hlen:∃ o' es' ep',h'.get? (p.ρ n)=some o'∧o'.data=.dict es' ep'∧es'.size≤1001:=by
   obtain ⟨o2,es2,ep2,ho2,_,hd2,_,hp2,_⟩:=hm'
   exact ⟨o2,es2,ep2,ho2,hd2,Nat.le_trans (Nat.le_of_eq ((Array.length_toList ..).symm.trans (hp2.length.trans hpp.length))) (Nat.le_trans (dput_length D _ _) (Nat.succ_le_succ l))⟩
  obtain ⟨o',es',ep',ho',hdd',hlen'⟩:=hlen
  refine wpAny_bind (wpAny_lookBehind ho' (by rw [hdd']; exact pastItsLine_dict (by rw [sizeLine_eq]; lia)) ?_)
  exact put_dict (Q:=fun s=>wpAny (model c.prog c.w) _ (pure ()) Q noE s) hk hs hm' hpp fun q E _=>wpAny_pure (kk q E)⟩
end
end Mine
end
section
namespace Mine
open PySem PySem.W PySem.Calls PyProof.Rows
def DoesG (c:Cx) (A:Around) {H:MH} (m:Sem Value) (p:P c H) (v:V) (H':MH):Prop :=
 ∀ Q:Value→Shared→Prop,(∀ x (q:P c H'),Ext noX p q→VR q.w v x→Q x q.s)→wpG (model c.prog c.w) A m Q p.s
structure BltR (c:Cx) (H:MH) (f:Bn) (vs:List V) (v:V) (H':MH):Prop where
 r:∀ (A:Around) (p:P c H) (ws:List Value),A.handled=none→A.guards=some []→VRs p.w vs ws→DoesG c A (call (bnV f) ws) p v H'
def MethR (h:Heap) (a:Value):MK→Value × List Value→Prop
 | .fn f,p=>p=(.ref f,[a])
 | .blt id,p=>p=(.builtin id,[a])
 | .bnd,p=>∃ u,p=(.ref u,[])∧h.get? u=some KFB.bound
structure LookR (c:Cx) (H:MH) (x:V) (m:Str) (k:MK):Prop where
 r:∀ (A:Around) (p:P c H) (a:Value) (pl:Sem Bool) (Q:Value × List Value→Shared→Prop),VR p.w x a→(∀ pr (q:P c H),Ext noX p q→MethR q.h a k pr→Q pr q.s)→wpAny (model c.prog c.w) A (getMethod a m pl) Q noE p.s
structure MetR (c:Cx) (H:MH) (x:V) (k:MK) (vs:List V) (v:V) (H':MH):Prop where
 r:∀ (A:Around) (p:P c H) (a:Value) (pr:Value × List Value) (ws:List Value),MethR p.h a k pr→VR p.w x a→VRs p.w vs ws→Does c A (call pr.1 (pr.2++ws)) p v H'
section
variable {c:Cx} {A:Around} {H H':MH} {p:P c H} {q:P c H'}
theorem Does.g {m:Sem Value} {v:V} (d:Does c A m p v H'):DoesG c A m p v H':=fun Q k=>G.of (d Q k)
theorem MethR.ext (e:Ext noX p q) {a:Value}:∀ {k:MK} {pr:Value × List Value},MethR p.h a k pr→MethR q.h a k pr
 | .fn f,_,h=>h
 | .blt _,_,h=>h
 | .bnd,_,⟨u,h,hu⟩=>⟨u,h,e.keep _ _ hu (p.away hu (by rintro (r | r | r) <;> exact absurd (Value.type.inj (show Value.type "builtin_function_or_method"=_ from r)) (by decide))) id⟩
theorem bl_len {n:Nat} {l:List V} (h:H.o n=some (.lst l)) (g:l.length≤100000):BltR c H .len [.obj n] (.int l.length) H :=
 ⟨fun A p ws _ _ ⟨x,r,e,⟨_,hx⟩,er⟩=>by
  cases er; subst e hx
  obtain ⟨vs,hl,hvs⟩:=p.isl h
  have e1:Array.size ⟨vs⟩=l.length:=hvs.length
  exact Does.g fun Q k=>call_len_list hl (by rw [e1]; lia) (k _ (p.toks _) (.toks ..) ⟨_,by rw [e1]⟩)⟩
theorem bl_lenb {b:List UInt8} (g:b.length≤100000):BltR c H .len [.byt b] (.int b.length) H :=
 ⟨fun A p ws _ _ ⟨x,r,e,⟨t,hx⟩,er⟩=>by
  cases er; subst e hx
  exact Does.g fun Q k=>len_bytes (show b.length≤_ by lia) (k _ (p.toks _) (.toks ..) ⟨_,rfl⟩)⟩
theorem bl_max {i j:Int}:BltR c H .max [.int i,.int j] (.int (if j > i then j else i)) H :=
 ⟨fun A p ws hh _ ⟨x,r,e,⟨t,hx⟩,y,r2,e2,⟨u,hy⟩,er⟩=>by
  cases er; subst e2; subst e hx hy
  refine Does.g fun Q k=>max_two_ints hh fun h' tk hk=>k _ (p.grown tk hk) (.grown ..) ?_
  split
  ·exact ⟨u,rfl⟩
  ·exact ⟨t,rfl⟩⟩
theorem bl_rng1 {i:Int}:BltR c H .range [.int i] (.rng 0 i) H :=
 ⟨fun A p ws _ _ ⟨x,r,e,⟨t,hx⟩,er⟩=>by
  cases er; subst e hx
  exact Does.g fun Q k=>call_range_1 (k _ (p.grown _ fun _ _ e=>Heap.get?_push_of_some _ e) (.grown ..) ⟨_,_,_,_,rfl,Heap.get?_push_size _ rfl⟩)⟩
theorem bl_rng2 {i j:Int}:BltR c H .range [.int i,.int j] (.rng i j) H :=
 ⟨fun A p ws _ _ ⟨x,r,e,⟨t,hx⟩,y,r2,e2,⟨u,hy⟩,er⟩=>by
  cases er; subst e2; subst e hx hy
  exact Does.g fun Q k=>call_range_2 (k _ (p.grown _ fun _ _ e=>Heap.get?_push_of_some _ e) (.grown ..) ⟨_,_,_,_,rfl,Heap.get?_push_size _ rfl⟩)⟩
theorem range_size (a b:Int):Builtin.Range.rangeSize a b 1=((b - a).toNat:Nat):=by
 unfold Builtin.Range.rangeSize
 rw [if_pos (by decide)]
 split <;> lia
theorem range_small {a b:Int} (ha:a.natAbs≤1000000) (hb:b.natAbs≤1000000):Builtin.Range.small a b 1=true:=by
 have fits:∀ {i:Int},i.natAbs≤2000000→Builtin.Range.rangeFitsLong i=true:=fun {i} h=>Bool.and_eq_true_iff.2 ⟨decide_eq_true (show -(2 ^ 63)≤i by lia),decide_eq_true (show i<2 ^ 63 by lia)⟩
 unfold Builtin.Range.small
 rw [range_size a b,fits (Nat.le_trans ha (by decide)),fits (Nat.le_trans hb (by decide)),fits (i:=1) (by decide),fits (i:=((b - a).toNat:Nat)) (by lia),if_pos (by decide),show b+(1 - 1)=b from Int.add_zero b,fits (Nat.le_trans hb (by decide)),Bool.or_true]
 rfl
theorem ints_items {w:Vw} {a:Int} {m:Nat} {acc:Array Value} (h:ItemsOf (fun i v=>∃ t,v=.int (a+i * 1) t) acc m):∃ vs,acc=⟨vs⟩∧VRs w ((List.range m).map fun i:Nat=>V.int (a+i)) vs:=by
 obtain ⟨vs⟩:=acc
 refine ⟨vs,rfl,VRs.of_get (by rw [List.length_map,List.length_range]; exact h.1) fun i v x h1 h2=>?_⟩
 obtain ⟨t,rfl⟩:=h.2 i x ((List.getElem?_toArray ..).trans h2)
 rw [List.getElem?_map] at h1
 obtain ⟨j,hj,rfl⟩:=Option.map_eq_some_iff.mp h1
 obtain ⟨hj1,hj2⟩:=List.getElem?_eq_some_iff.mp hj
 rw [List.getElem_range] at hj2
 subst hj2
 exact ⟨t,by rw [Int.mul_one]⟩
theorem bl_list {i j:Int} (h1:i.natAbs≤1000000) (h2:j.natAbs≤1000000) (h3:j - i≤1000):BltR c H .list [.rng i j] (.obj H.n) (H.new (.lst (rangeL i j))) :=
 ⟨fun A p ws hh _ ⟨x,r,e,⟨rr,t,u,v,hx,hr⟩,er⟩=>by
  cases er; subst e hx
  refine Does.g fun Q k=>call_list_range hh hr (range_small h1 h2) (range_size i j) (by lia) fun h' tk acc cc hk hget hit=>?_
  obtain ⟨vs,rfl,hvs⟩:=ints_items (w:=p.w) hit
  exact does_newlist (m:=pure .none) hk (size_none _) hget hvs k⟩
theorem new_bya {n t:Nat} {b:List UInt8} {h':Heap} {Q:Value→Shared→Prop} (hs:Heap.SameBut p.h.objs.size (p.h.push { cls:=.type "bytearray",data:=.bytearray #[] }) h') (hget:h'.get? p.h.objs.size=some { cls:=.type "bytearray",data:=.bytearray ⟨b⟩ })
  (k:∀ x (q:P c (H.new (.bya b))),Ext noX p q→VR q.w (.obj H.n) x→Q x q.s):Q (.ref p.h.objs.size) { p.s with heap:=h' } :=
 k _ (p.alloc (D:=p.h.objs.size) p.s.toks (fun b o e=>hs.extBut b o (Nat.ne_of_lt (Heap.lt_size e)) (Heap.get?_push_of_some _ e)) (size_none _) ⟨#[],hget⟩) (.alloc p ..) (.new p)
theorem bl_ba:BltR c H .bytearray [.int 1536] (.obj H.n) (H.new (.bya (List.replicate 1536 0))) :=
 ⟨fun A p ws _ hg ⟨x,r,e,⟨t,hx⟩,er⟩=>by
  cases er; subst e hx
  exact fun Q k=>BA.new_int hg fun h' hs hget=>new_bya (n:=0) (t:=0) hs (hget.trans (by rw [← List.toArray_replicate])) k⟩
theorem bl_ba0:BltR c H .bytearray [] (.obj H.n) (H.new (.bya [])) :=
 ⟨fun A p ws _ hg er=>by
  cases er
  exact fun Q k=>BA.new_none hg fun h' hs hget=>new_bya (n:=0) (t:=0) hs hget k⟩
theorem lk_of {k n f:Nat} {D:List (V × V)} {m:Str} (h:H.o n=some (.dic D)) (g:methAt k m=some f) (hn:dget D (.str m)=none):LookR c H (.ins k n) m (.fn f) :=
 ⟨fun A p x pl Q ha kk=>by
  obtain ⟨a,o,kvs,rfl,hk,hm',hp,hI,ho,hl⟩:=p.inst h ha
  obtain ⟨hc,h1,h2⟩:=c.W.meth k m f g
  refine method_fn (c.W.KI.keeps p.R.base) hI (c.W.ga k hc) (c.W.gh k hc) h1 h2 ?_ (kk _ p (.refl ..) rfl)
  show (lookIn m o).map _=_
  rw [hl m,PR.miss (key:=.str m) rfl hp hn]
  rfl⟩
theorem e_append:t_append=Str.ofString "append":=by decide +kernel
theorem e_pop:t_pop=Str.ofString "pop":=by decide +kernel
theorem e_get:t_get=Str.ofString "get":=by decide +kernel
theorem e_starts:t_startswith=Str.ofString "startswith":=by decide +kernel
theorem e_toB:t_to_bytes=Str.ofString "to_bytes":=by decide +kernel
theorem e_fromB:t_from_bytes=Str.ofString "from_bytes":=by decide +kernel
theorem e_little:t_little=Str.ofString "little":=by decide +kernel
theorem lk_app {n:Nat} {l:List V} (h:H.o n=some (.lst l)):LookR c H (.obj n) t_append (.blt "list.append") :=
 ⟨fun A p x pl Q ⟨_,ha⟩ kk=>by
  subst ha
  obtain ⟨hj,vs,mm,ho,hvs⟩:=p.lst h
  rw [e_append]
  exact getMethod_builtin ⟨_,ho,rfl⟩ F.plainAttrs_list slot_list_append (by show builtinType _=_; rw [builtinType_eq_fast]; kernel_rfl) (fun a q=>by cases q; exact ⟨_,ho,rfl⟩) (kk _ p (.refl ..) rfl)⟩
theorem lk_pop {n:Nat} {l:List V} (h:H.o n=some (.lst l)):LookR c H (.obj n) t_pop (.blt "list.pop") :=
 ⟨fun A p x pl Q ⟨_,ha⟩ kk=>by
  subst ha
  obtain ⟨hj,vs,mm,ho,hvs⟩:=p.lst h
  rw [e_pop]
  exact getMethod_builtin ⟨_,ho,rfl⟩ F.plainAttrs_list PySem.F.slot_list_pop (by show builtinType _=_; rw [builtinType_eq_fast]; kernel_rfl) (fun a q=>by cases q; exact ⟨_,ho,rfl⟩) (kk _ p (.refl ..) rfl)⟩
theorem getm_get {a:Addr} {kvs:List (K2 × Value)} {pl:Sem Bool} {Q:Value × List Value→Shared→Prop} (hm:p.h.DictOf c.kv a kvs) (kk:Q (.builtin "dict.get",[.ref a]) p.s):wpAny (model c.prog c.w) A (getMethod (.ref a) t_get pl) Q noE p.s:=by
 rw [e_get]
 exact getMethod_builtin hm.typeIs F.plainAttrs_dict F.slot_dict_get (by show builtinType _=_; rw [builtinType_eq_fast]; kernel_rfl) (fun a q=>by cases q; exact hm.mapOf.noDict _ rfl) kk
theorem lk_get {n:Nat} {D:List (V × V)} (h:H.o n=some (.dic D)):LookR c H (.obj n) t_get (.blt "dict.get") :=
 ⟨fun A p x pl Q ⟨_,ha⟩ kk=>by
  subst ha
  obtain ⟨hj,kvs,hm,hp⟩:=p.dic h
  exact getm_get hm (kk _ p (.refl ..) rfl)⟩
theorem lk_gets {t:Nat} {D:List (V × V)} (h:sdicAt t=some D):LookR c H (.sta t) t_get (.blt "dict.get") :=
 ⟨fun A p x pl Q ha kk=>by
  cases ha
  obtain ⟨hj,kvs,hm,hp⟩:=p.sdic h
  exact getm_get hm (kk _ p (.refl ..) rfl)⟩
theorem lk_st {x:Str}:LookR c H (.str x) t_startswith (.blt "str.startswith") :=
 ⟨fun A p a pl Q ⟨t,ha⟩ kk=>by
  subst ha
  rw [e_starts]
  exact GM.startswith (kk _ p (.refl ..) rfl)⟩
theorem lk_tob {i:Int}:LookR c H (.int i) t_to_bytes (.blt "int.to_bytes") :=
 ⟨fun A p a pl Q ⟨t,ha⟩ kk=>by
  subst ha
  rw [e_toB]
  exact KTBy.method (kk _ p (.refl ..) rfl)⟩
theorem fb_find:findCls [] (.type "int") (.type "type") (PySem.Str.ofString "from_bytes")=some (.get (.builtin "classmethod_descriptor.__get__") (.builtin "int.from_bytes") .none (.type "int")):=by kernel_rfl
theorem getm_from {M:Model} {s:Shared} {pl:Sem Bool} {Q:Value × List Value→Shared→Prop} {prog:Program} {w:World}
  (h:Q (.ref s.heap.objs.size,[]) { s with heap:=s.heap.push KFB.bound,toks:=s.toks+1 }) :
  wpAny (model prog w) A (getMethod (.type "int") (PySem.Str.ofString "from_bytes") pl) Q noE s:=by
 have X:Frag.In [] s.heap:=fun a o e=>by cases e
 have hstub:opaqueClassAbove (.type "int")=pure none:=by unfold opaqueClassAbove; dsimp only; rw [show Manifest.isStub "int"=false by decide +kernel]; rfl
 have ht:typeOf (.type "int")=pure (.type "type"):=by first | rfl | kernel_rfl
 have L0:Looks (model prog w) s.heap (typeOf (.type "int")) (.type "type"):=Looks.of_pure ht
 have hg:findIn [] (.type "type") "__getattribute__"=some (some (.builtin "type.__getattribute__")):=type_tga
 unfold getMethod specialOf
 refine wpAny_bind (wpAny_bind (L0.here ((looks_findIn X hg).here ?_)))
 dsimp only
 rw [if_pos canon_tga]
 refine wpAny_bind (wpAny_mono (Q:=fun v=>Q (v,[])) (E:=noE) ?_ (fun _ _ z=>wpAny_pure z) fun _ _ z=>z)
 have LO:Looks (model prog w) s.heap (opaqueClassAbove (.type "int")) none:=Looks.of_pure hstub
 refine cls_open X LO L0 hg (looks_hook X (r:=none) (by rfl)) (by show subIn [] _ _=_; rfl) fb_find ?_
 show wpAny _ _ (holding [.builtin "int.from_bytes"] (call (.builtin "classmethod_descriptor.__get__") [.builtin "int.from_bytes",.none,.type "int"]) >>= fun v=>ret v) _ _ _
 exact wpAny_bind (wpAny_holding (wpAny_call_entry KFB.slot_get KFB.type_fb KFB.entry_get (KFB.run_get ⟨_,rfl,wpAny_pure (wpAny_pure h)⟩) (KFB.args_get _ _ _)))
theorem lk_fb:LookR c H (.bn .int) t_from_bytes .bnd :=
 ⟨fun A p a pl Q ha kk=>by
  cases ha
  rw [e_fromB]
  exact getm_from (M:=model c.prog c.w) (kk _ (p.grown _ fun _ _ e=>Heap.get?_push_of_some _ e) (.grown ..) ⟨_,rfl,Heap.get?_push_size _ rfl⟩)⟩
end
end Mine
end
section
namespace Mine
open PySem PySem.W PySem.Calls PyProof.Rows
theorem leInt_value:∀ (b:List UInt8),KFB.value ((b.map fun c=>((c.toNat:Nat):Int)).reverse)=leInt b
 | []=>rfl
 | c::r=>by
  have ih:=leInt_value r
  unfold KFB.value at ih ⊢
  rw [List.map_cons,List.reverse_cons,List.foldl_append,ih]
  show leInt r * 256+(c.toNat:Int)=c.toNat+256 * leInt r
  lia
theorem byt_of_ints:∀ (b c:List UInt8),(b.map fun c=>((c.toNat:Nat):Int))=(c.map fun c=>((c.toNat:Nat):Int))→b=c
 | [],[],_=>rfl
 | [],_::_,e=>nomatch e
 | _::_,[],e=>nomatch e
 | x::b,y::c,e=>by
  rw [List.map_cons,List.map_cons,List.cons.injEq] at e
  rw [byt_of_ints b c e.2,UInt8.toNat_inj.mp (Int.ofNat.inj e.1)]
theorem leBytes_little:∀ (n x:Nat),((leBytes n x).map fun c=>((c.toNat:Nat):Int))=KTBy.little n x
 | 0,_=>rfl
 | n+1,x=>by
  show ((x.toUInt8.toNat:Nat):Int)::(leBytes n (x / 256)).map _=KTBy.little (n+1) x
  rw [leBytes_little n (x / 256)]
  have h1:((x.toUInt8.toNat:Nat):Int)=(x:Int) % 256:=by
   show (((UInt8.ofNat x).toNat:Nat):Int)=_
   rw [UInt8.toNat_ofNat']
   lia
  rw [h1]
  rfl
section
variable {M:Model} {A:Around} {E:Value→Shared→Prop} {s:Shared} {prog:Program} {w:World}
theorem tree_ba {a:Addr} {b:List UInt8} {sl:Array (Option Value)} {u:Tok} {P:Fin→Shared→Prop} (ho:s.heap.get? a=some ⟨.type "bytearray",none,.bytearray ⟨b⟩ 0,sl⟩) (hl:b.length≤8) (h:P (.done (.ret (.int (leInt b) s.toks))) { s with toks:=s.toks+1 }) :
  wpAny (model prog w) A (Builtin.«int.from_bytes» ⟨[.type "int",.ref a,.str (PySem.Str.ofString "little") u],[]⟩) P E s:=by
 have hv:((b.reverse.foldl (fun (acc:Nat) (b:UInt8)=>acc * 256+b.toNat) 0:Nat):Int)=leInt b:=by
  rw [KFB.fold_cast,List.map_reverse,← leInt_value]
  rfl
 have hn:b.reverse.foldl (fun (acc:Nat) (b:UInt8)=>acc * 256+b.toNat) 0<2 ^ 64:=by
  have h1:=KFB.fold_lt b.reverse 0
  rw [Nat.zero_add,Nat.one_mul,List.length_reverse] at h1
  exact Nat.lt_of_lt_of_le h1 (Nat.pow_le_pow_right (by decide) hl)
 have KI:Frag.In [(a,(⟨.type "bytearray",none,.bytearray ⟨b⟩ 0,sl⟩:Obj))] s.heap:=fun x o e=>by
  rw [List.lookup_cons] at e
  split at e
  ·rename_i q
   cases e
   rw [eq_of_beq q]
   exact ho
  ·cases e
 have lk1:List.lookup a [(a,(⟨.type "bytearray",none,.bytearray ⟨b⟩ 0,sl⟩:Obj))]=some ⟨.type "bytearray",none,.bytearray ⟨b⟩ 0,sl⟩:=by rw [List.lookup_cons,beq_self_eq_true]
 have tI:typeIn [(a,(⟨.type "bytearray",none,.bytearray ⟨b⟩ 0,sl⟩:Obj))] (.ref a)=some (.type "bytearray"):=congrArg (Option.map Obj.cls) lk1
 have L1:Looks (model prog w) s.heap (specialOf (.ref a) "__bytes__") none:=looks_specialIn KI (Option.bind_eq_some_iff.2 ⟨_,tI,by kernel_rfl⟩)
 have L2:Looks (model prog w) s.heap (specialOf (.ref a) "__buffer__") (some (.builtin "bytearray.__buffer__")):=looks_specialIn KI (Option.bind_eq_some_iff.2 ⟨_,tI,by kernel_rfl⟩)
 have L3:Looks (model prog w) s.heap (specialOf (.ref a) "__release_buffer__") (some (.builtin "bytearray.__release_buffer__")):=looks_specialIn KI (Option.bind_eq_some_iff.2 ⟨_,tI,by kernel_rfl⟩)
 have L4:Looks (model prog w) s.heap (isInstance (.ref a) (.type "bytearray")) true:=looks_instIn KI (Option.bind_eq_some_iff.2 ⟨_,tI,by kernel_rfl⟩)
 unfold Builtin.«int.from_bytes»
 refine wpAny_bind (wpAny_of_eq (a:=true) KFB.type_int ?_)
 refine KFB.if_not rfl ?_
 refine wpAny_bind (wpAny_of_eq (a:=true) F.conv_sub_int ?_)
 refine KFB.if_not rfl ?_
 refine wpAny_bind (wpAny_of_eq (a:=[some (.ref a),some (.str (PySem.Str.ofString "little") u),none]) (by kernel_rfl) ?_)
 refine wpAny_bind (wpAny_of_eq (a:=PySem.Str.ofString "little") (by kernel_rfl) ?_)
 refine wpAny_bind (wpAny_of_eq (a:=false) rfl ?_)
 refine wpAny_bind (wpAny_of_eq (a:=true) (by kernel_rfl) ?_)
 refine wpAny_bind (wpAny_mono (Q:=fun x s'=>x=⟨b⟩∧s'=s) ?_ (fun x s' h'=>?_) (fun _ _ h'=>h'))
 ·obtain ⟨hp,g,d,tk,os⟩:=s
  replace ho:hp.get? a=_:=ho
  repeat lk
  exact ⟨rfl,rfl⟩
 ·obtain ⟨rfl,rfl⟩:=h'
  show wpAny _ _ (mkIntGrown (b.reverse.foldl (fun (acc:Int) (b:UInt8)=>acc * 256+(b.toNat:Int)) ((0:Nat):Int)) >>= fun v=>_) _ _ _
  rw [KFB.foldI_eq]
  refine wpAny_bind (KFB.grown hn ?_)
  rw [hv]
  refine KFB.if_so (by decide +kernel) ?_
  exact wpAny_bind (wpAny_pure (wpAny_pure h))
theorem check_ba (a:Addr) (x:Str) (u:Tok):checkBoundCall "int.from_bytes" ⟨[.type "int",.ref a,.str x u],[]⟩=pure ():=by first | kernel_rfl | rfl
theorem call_ba_from {x a:Addr} {b:List UInt8} {sl:Array (Option Value)} {u:Tok} {Q:Value→Shared→Prop} (hx:s.heap.get? x=some KFB.bound) (ho:s.heap.get? a=some ⟨.type "bytearray",none,.bytearray ⟨b⟩ 0,sl⟩) (hl:b.length≤8)
  (h:Q (.int (leInt b) s.toks) { s with toks:=s.toks+1 }):wpAny (model prog w) A (call (.ref x) [.ref a,.str (PySem.Str.ofString "little") u]) Q E s:=by
 refine wpAny_call (codeAny_of_tree ?_)
 show wpAny _ A.in1 (callAny (.ref x) ⟨[.ref a,.str (PySem.Str.ofString "little") u],[]⟩) _ _ s
 refine wpAny_bind (wpAny_load hx ?_)
 refine KFB.if_so rfl ?_
 refine KFB.if_so rfl ?_
 refine wpAny_bind (wpAny_of_eq (a:=()) (check_ba _ _ _) ?_)
 refine wpAny_bind (wpAny_pure (wpAny_pure ?_))
 exact ⟨KFB.quiet_fb,codeAny_builtin KFB.entry_fb (tree_ba ho hl h)⟩
end
section
variable {c:Cx} {A:Around} {H H':MH} {p:P c H}
theorem does_append {n:Nat} {l:List V} {v:V} {x:Value} (h:H.o n=some (.lst l)) (hlen:l.length≤100000) (hx:VR p.w v x):Does c A (call (.builtin "list.append") [.ref (p.ρ n),x]) p .none (H.put n (.lst (l++[v]))):=fun Q k=>by
 obtain ⟨hj,vs,m,ho,hl⟩:=p.lst h
 refine wpAny_call_entry slot_list_append ⟨_,ho,rfl⟩ entry_list_append ?_ (args_list_append _ _)
 show wpAny _ _ (updateSeq (p.ρ n) (·.push x) >>= fun _=>ret .none) _ _ p.s
 have e1:Array.size ⟨vs⟩=l.length:=hl.length
 refine wpAny_bind (wpAny_updateSeq ho rfl (wpAny_pure ⟨.none,rfl,?_⟩) (by rw [e1,sizeLine_eq]; lia))
 exact put_list (p:=p) (f:=(·.push x)) (t:=p.s.toks) (Q:=fun s=>Q .none s) hj ho (List.push_toArray ..) (hl.append (r:=[v]) ⟨x,[],rfl,hx,rfl⟩) fun q E _ _=>k _ q E rfl
theorem mt_app {n:Nat} {l:List V} {v:V} (h:H.o n=some (.lst l)) (hlen:l.length≤100000):MetR c H (.obj n) (.blt "list.append") [v] .none (H.put n (.lst (l++[v]))) :=
 ⟨fun A p a pr ws hp ⟨_,ha⟩ ⟨x,r,e,hx,er⟩=>by
  cases er; subst e ha; cases hp
  exact does_append h hlen hx⟩
theorem mt_pop {n:Nat} {l:List V} {v:V} (h:H.o n=some (.lst l)) (hlen:l.length≤100000) (hv:l.getLast?=some v):MetR c H (.obj n) (.blt "list.pop") [] v (H.put n (.lst l.dropLast)) :=
 ⟨fun A p a pr ws hp ⟨_,ha⟩ er Q k=>by
  cases er; subst ha; cases hp
  obtain ⟨hj,vs,m,ho,hl⟩:=p.lst h
  have e1:=hl.length
  rw [List.getLast?_eq_getElem?] at hv
  obtain ⟨y,hy,hvy⟩:=hl.get hv
  have hl':VRs p.w l.dropLast vs.dropLast:=by
   rw [List.dropLast_eq_take,List.dropLast_eq_take,e1]
   exact hl.take _
  refine call_meets PySem.F.slot_list_pop ⟨_,ho,rfl⟩ PySem.F.entry_list_pop (PySem.F.args_list_pop_1 _) (MeetsSeq.list_pop_last (p.ρ n) ⟨vs⟩ m y (by simpa [e1] using hy) (by simp [sizeLine]; lia)) ⟨ho,?_⟩
  exact put_list (p:=p) (f:=fun xs=>xs.eraseIdxIfInBounds (Array.size ⟨vs⟩ - 1)) (t:=p.s.toks) (Q:=fun s=>Q y s) hj ho (by
   simp only [List.size_toArray,List.eraseIdxIfInBounds_toArray]
   rw [List.eraseIdx_length_sub_one]) hl' fun q E _ _=>k _ q E (hvy.mono E.m)⟩
theorem mt_get' {t:Addr} {d:List (V × V)} {kvs:List (K2 × Value)} {i df:V} {y z:Value} (hs:(t == sysModules)=false) (hm:p.h.DictOf c.kv t kvs) (hp:PR p.w d kvs) (hk:isKey i=true) (hi:VR p.w i y) (hdf:VR p.w df z) :
  Does c A (call (.builtin "dict.get") [.ref t,y,z]) p ((dget d i).getD df) H:=fun Q k=>by
 obtain ⟨k',hk⟩:=isKey_toK hk
 refine call_meetsIn F.slot_dict_get hm.typeIs F.entry_dict_get (F.args_dict_get_3 _ _ _) (meets_dict_get_default c.kv t (hi.key hk) hs z) ⟨_,hm.mapOf,?_⟩
 refine k _ (p.toks _) (.toks ..) ?_
 rcases PR.at hk hp with ⟨v,x,h1,h2,h3⟩ | ⟨h1,h2⟩ <;> rw [h1,h2]
 ·exact h3
 ·exact hdf
theorem mt_get {n:Nat} {D:List (V × V)} {i df:V} (h:H.o n=some (.dic D)) (hk:isKey i=true):MetR c H (.obj n) (.blt "dict.get") [i,df] ((dget D i).getD df) H :=
 ⟨fun A p a pr ws hp ⟨_,ha⟩ ⟨x,r,e,hx,y,r2,e2,hy,er⟩=>by
  cases er; subst e2; subst e ha; cases hp
  obtain ⟨hj,kvs,hm,hpp⟩:=p.dic h
  exact mt_get' (p.notSys hj) hm hpp hk hx hy⟩
theorem mt_gets {t:Nat} {D:List (V × V)} {i df:V} (h:sdicAt t=some D) (hk:isKey i=true):MetR c H (.sta t) (.blt "dict.get") [i,df] ((dget D i).getD df) H :=
 ⟨fun A p a pr ws hp ha ⟨x,r,e,hx,y,r2,e2,hy,er⟩=>by
  cases er; subst e2; subst e; cases ha; cases hp
  obtain ⟨hj,kvs,hm,hpp⟩:=p.sdic h
  exact mt_get' hj hm hpp hk hx hy⟩
theorem mt_st {x y:Str}:MetR c H (.str x) (.blt "str.startswith") [.str y] (.bool (strOpens x y)) H :=
 ⟨fun A p a pr ws hp ⟨t,ha⟩ ⟨z,r,e,⟨u,hz⟩,er⟩ Q k=>by
  cases er; subst e hz ha; cases hp
  exact SC.startswith (k _ p (.refl ..) rfl)⟩
theorem mt_tob {x n:Nat} (h8:n≤8) (hlt:x<256 ^ n):MetR c H (.int x) (.blt "int.to_bytes") [.int n,.str t_little] (.byt (leBytes n x)) H :=
 ⟨fun A p a pr ws hp ⟨t,ha⟩ ⟨z,r,e,⟨u,hz⟩,z2,r2,e2,⟨u2,hz2⟩,er⟩ Q k=>by
  cases er; subst e2 hz2; subst e hz ha; cases hp
  rw [e_little]
  refine KTBy.to_little (k:=n) h8 rfl (Int.natCast_nonneg _) (by exact_mod_cast hlt) fun b t' k' hb _=>?_
  obtain ⟨b⟩:=b
  have hbb:b=leBytes n x:=byt_of_ints _ _ ((show _=_ from hb).trans (leBytes_little n x).symm)
  subst hbb
  exact k _ (p.toks _) (.toks ..) ⟨t',rfl⟩⟩
theorem mt_fb {n:Nat} {b:List UInt8} (h:H.o n=some (.bya b)) (hl:b.length≤8):MetR c H (.bn .int) .bnd [.obj n,.str t_little] (.int (leInt b)) H :=
 ⟨fun A p a pr ws ⟨u,hp,hu⟩ ha ⟨x,r,e,⟨_,hx⟩,y,r2,e2,⟨_,hy⟩,er⟩ Q k=>by
  cases er; subst e2 hy; subst e hx hp
  obtain ⟨hj,sl,ho⟩:=p.bya h
  rw [e_little]
  exact call_ba_from hu ho hl (k _ (p.toks _) (.toks ..) ⟨_,rfl⟩)⟩
end
end Mine
end
section
namespace Mine
open PySem PySem.W PySem.Calls PyProof.Rows
def AOk (n:Nat) (A:Around):Prop:=A.handled=none∧A.guards=some []∧A.depth+4 * n+2≤900∧A.units+20 * n+50≤9000
def AOkC (n:Nat) (A:Around):Prop:=A.handled=none∧A.guards=some []∧A.depth+4 * n≤900∧A.units+20 * n+40≤9000
structure Fm (c:Cx) (d:Nat) where
 A:Around
 ok:AOk d A
 env:Env
 N:List Str
 kind:env.scope.kind=.function
 glo:env.globals=c.g
 blt:env.builtins=c.b
 nd:N.Nodup
abbrev Fm.sc {c:Cx} {d:Nat} (m:Fm c d):Scope:=m.env.scope
structure FrR {c:Cx} {d:Nat} (m:Fm c d) (L:LL) {H:MH} (p:P c H):Prop where
 ns:∃ f,p.h.Ns m.env.locals f∧∀ (x:Nat) v,x<m.N.length→L x=some v→∃ val,f (nmAt m.N x)=some val∧VR p.w v val
 away:∀ k,k<H.n→p.ρ k ≠ m.env.locals
 base:c.h₀.get? m.env.locals=none
def DoesT (c:Cx) (A:Around) {H:MH} (m:Sem Bool) (p:P c H) (t:Bool) (H':MH):Prop :=
 ∀ Q:Bool→Shared→Prop,(∀ (q:P c H'),Ext noX p q→Q t q.s)→wpG (model c.prog c.w) A m Q p.s
def DoesL (c:Cx) (A:Around) {H:MH} (m:Sem (List Value)) (p:P c H) (vs:List V) (H':MH):Prop :=
 ∀ Q:List Value→Shared→Prop,(∀ ws (q:P c H'),Ext noX p q→VRs q.w vs ws→Q ws q.s)→wpG (model c.prog c.w) A m Q p.s
structure Ev (c:Cx) (d:Nat) (e:E) (L:LL) (H:MH) (v:V) (H':MH):Prop where
 r:∀ (m:Fm c d) (z:Expr) (p:P c H),ok m.sc m.N e z=true→FrR m L p→DoesG c m.A (eval (up m.N e z) m.env) p v H'
structure Et (c:Cx) (d:Nat) (e:E) (L:LL) (H:MH) (b:Bool) (H':MH):Prop where
 r:∀ (m:Fm c d) (z:Expr) (p:P c H),ok m.sc m.N e z=true→FrR m L p→DoesT c m.A (isTrue (up m.N e z) m.env (eval (up m.N e z) m.env)) p b H'
theorem and_l {a b:Bool} (h:(a && b)=true):a=true:=(Bool.and_eq_true_iff.1 h).1
theorem and_r {a b:Bool} (h:(a && b)=true):b=true:=(Bool.and_eq_true_iff.1 h).2
theorem not_f {a:Bool} (h:(!a)=true):a=false:=by cases a <;> first | rfl | cases h
section
variable {c:Cx} {d:Nat} {m:Fm c d} {L L1 L':LL} {H H1 H2 H3 H':MH} {p:P c H} {q:P c H1} {e a b t:E} {x y z v w:V} {i j:Int} {fl:Fl} {X:Addr→Prop}
theorem FrR.vol (F:FrR m L p):∃ o,p.h.get? m.env.locals=some o∧Mine.vol o:=by
 obtain ⟨f,⟨o',es,ep,ho',hd,_⟩,_⟩:=F.ns
 exact ⟨o',ho',vol_of_dict hd⟩
theorem FrR.volX (F:FrR m L p):∀ a o,onlyX m.env.locals a→p.h.get? a=some o→Mine.vol o:=fun a o q ho=>by
 cases q
 obtain ⟨o',h1,h2⟩:=F.vol
 exact Option.some.inj (h1.symm.trans ho) ▸ h2
theorem FrR.extX (F:FrR m L p) (E:Ext X p q) (hX:∀ a o,X a→p.h.get? a=some o→Mine.vol o) (hn:¬ X m.env.locals):FrR m L q:=by
 obtain ⟨⟨f,⟨o,es,ep,ho,hd,r⟩,hm⟩,ha,hb⟩:=F
 refine ⟨⟨f,⟨o,es,ep,E.keep _ _ ho ha hn,hd,r⟩,fun x v h1 h2=>?_⟩,E.ne_fresh ho ha,hb⟩
 obtain ⟨val,h3,h4⟩:=hm x v h1 h2
 exact ⟨val,h3,h4.mono (E.mono hX)⟩
theorem FrR.ext (F:FrR m L p) (E:Ext noX p q):FrR m L q:=F.extX E (fun _ _ x=>x.elim) id
theorem dbg_eq:sDbg=("__debug__":Str):=by decide +kernel
theorem okL_lt {sc:Scope} {N:List Str} {x:Nat} (h:okL sc N x=true):x<N.length:=of_decide_eq_true (and_l h)
theorem okL_loc {sc:Scope} {N:List Str} {x:Nat} (h:okL sc N x=true):sc.names.lookup (nmAt N x)=some .local:=beq_iff_eq.1 (and_l (and_r h))
theorem okL_dbg {sc:Scope} {N:List Str} {x:Nat} (h:okL sc N x=true):(nmAt N x == ("__debug__":Str))=false:=dbg_eq ▸ not_f (and_r (and_r h))
theorem nm_get {N:List Str} {x:Nat} (h:x<N.length):N[x]?=some (nmAt N x):=by
 unfold nmAt
 rw [List.getD_eq_getElem?_getD,List.getElem?_eq_getElem h]
 rfl
theorem Fm.kindL (m:Fm c d) {x:Nat} (h:okL m.sc m.N x=true):m.env.kindOf (nmAt m.N x)=some .local:=okL_loc h
theorem d_loc {k:Nat} (h:L k=some v):Ev c d (.loc k) L H v H :=
 ⟨fun m z p o F Q kk=>by
  obtain ⟨f,hm,hl⟩:=F.ns
  obtain ⟨val,h4,h5⟩:=hl k v (okL_lt o) h
  exact G.of (wpAny_Name (wpAny_loadName_local m.kind (m.kindL o) hm h4 (kk _ p (.refl ..) h5)) (okL_dbg o))⟩
theorem glo_name (m:Fm c d) {g:Str} {z:Expr} (o:okG m.sc g=true) {val:Value} (hv:∃ mg,c.h₀.Ns c.g mg∧(mg g=some val∨(mg g=none∧∃ mb,c.h₀.Ns c.b mb∧mb g=some val))) {Q:Value→Shared→Prop} (kk:Q val p.s):wpAny (model c.prog c.w) m.A (eval (.Name g (ps z)) m.env) Q noE p.s:=by
 obtain ⟨mg,hg,hh⟩:=hv
 refine Name_function_global m.kind (beq_iff_eq.1 (and_l o)) ?_ (dbg_eq ▸ not_f (and_r o))
 rcases hh with h | ⟨h,mb,hb,hb'⟩
 ·exact loadGlobal_global (m.glo ▸ hg.keeps p.R.base) h kk
 ·exact loadGlobal_builtin (m.glo ▸ hg.keeps p.R.base) h (m.blt ▸ hb.keeps p.R.base) hb' kk
theorem d_glo {g:Str} (h:gloAt g=some v):Ev c d (.glo g) L H v H :=
 ⟨fun m z p o F Q kk=>by
  obtain ⟨val,h5,hv⟩:=c.W.glo g v h
  exact G.of (glo_name m o hv (kk _ p (.refl ..) (h5.mono (.base p))))⟩
theorem get_inj {N:List Str} (hN:N.Nodup) {x y:Nat} (h1:x<N.length) (h2:y<N.length) (h:nmAt N x=nmAt N y):x=y :=
 (List.getElem?_inj h1 hN).mp ((nm_get h1).trans ((congrArg some h).trans (nm_get h2).symm))
theorem sim_store {x:Nat} {val:Value} {QU:Unit→Shared→Prop} (F:FrR m L p) (o:okL m.sc m.N x=true) (hv:VR p.w v val)
  (k:∀ q:P c H,Ext (onlyX m.env.locals) p q→FrR m (L.put x v) q→QU () q.s):wpAny (model c.prog c.w) m.A (storeName m.env (nmAt m.N x) val) QU noE p.s:=by
 obtain ⟨f,hm,hl⟩:=F.ns
 refine wpAny_storeName_local (m.kindL o) hm (fun h' hm' hs=>?_) (by rw [m.kind]; rfl)
 have hk:∀ b o,¬ onlyX m.env.locals b→p.h.get? b=some o→h'.get? b=some o:=fun b o n e=>(hs.2 b n).trans e
 have R:=Rep.others (X:=onlyX m.env.locals) p (p.s.toks+1) (fun a q=>by cases q; exact ⟨F.away,F.base,fun o ho=>F.volX _ o rfl ho⟩) hk
 have E':Ext (onlyX m.env.locals) p ⟨p.ρ,_,R⟩:=.others p hk fun b o e=>by
  by_cases q:b=m.env.locals
  ·obtain ⟨o,_,_,ho,_⟩:=hm'; exact q ▸ ⟨o,ho⟩
  ·exact ⟨o,hk b o q e⟩
 refine k ⟨p.ρ,_,R⟩ E' ⟨⟨_,hm',fun y u g1 g2=>?_⟩,F.away,F.base⟩
 have mono:=E'.mono F.volX
 unfold LL.put at g2
 split at g2
 ·rename_i q
  cases g2
  subst q
  exact ⟨val,if_pos rfl,hv.mono mono⟩
 ·rename_i q
  obtain ⟨val',h4,h5⟩:=hl y u g1 g2
  exact ⟨val',(if_neg fun e=>q (get_inj m.nd g1 (okL_lt o) e)).trans h4,h5.mono mono⟩
noncomputable def pl:E→Bool
 | .not _=>false
 | .bop _ _=>false
 | .ife _ _ _=>false
 | .cmp _ _ _=>false
 | .cmp2 _ _ _ _ _=>false
 | .abs=>false
 | _=>true
theorem tests_pl {env:Env} {N:List Str} {z:Expr} {s:Shared} {A:Around} {Q:Bool→Shared→Prop} (h:pl e=true) (hh:wpG (model c.prog c.w) A (eval (up N e z) env) (fun v s₁=>wpG (model c.prog c.w) A (truthy v) Q s₁) s):wpG (model c.prog c.w) A (isTrue (up N e z) env (eval (up N e z) env)) Q s:=by
 cases e <;> first | exact G.tests_value (fun _=>rfl) hh | cases h
theorem t_of {k:Bool} (h:pl e=true) (e1:Ev c d e L H x H1) (r:truth H1 x=some k):Et c d e L H k H1 :=
 ⟨fun m z p o F Q kk=>tests_pl h (e1.r m z p o F _ fun x' q E hx=>G.of (w_truth r hx fun t=>kk (q.toks t) (E.trans (.toks ..))))⟩
theorem d_int:Ev c d (.int i) L H (.int i) H:=⟨fun m z p _ _ Q kk=>G.of fun Γ p' hΓ=>kk (.int i p.s.toks) (p.toks (p.s.toks+1)) (.toks ..) ⟨_,rfl⟩⟩
theorem d_str {s:Str}:Ev c d (.str s) L H (.str s) H:=⟨fun m z p _ _ Q kk=>G.of (Constant_str (kk (.str s p.s.toks) (p.toks (p.s.toks+1)) (.toks ..) ⟨_,rfl⟩))⟩
theorem d_tt {s:Bool}:Ev c d (.tt s) L H (.bool s) H:=⟨fun m z p _ _ Q kk=>G.of fun Γ p' hΓ=>kk (.bool s) p (.refl ..) rfl⟩
theorem d_non:Ev c d .non L H .none H:=⟨fun m z p _ _ Q kk=>G.of fun Γ p' hΓ=>kk .none p (.refl ..) rfl⟩
theorem d_byt:Ev c d .byt L H (.byt []) H:=⟨fun m z p _ _ Q kk=>G.of fun Γ p' hΓ=>kk (.bytes #[] p.s.toks) (p.toks (p.s.toks+1)) (.toks ..) ⟨_,rfl⟩⟩
theorem d_bin {op:Operator} (e1:Ev c d a L H x H1) (e2:Ev c d b L H1 y H2) (r:BinR c H2 op x y z H3):Ev c d (.bin op a b) L H z H3 :=
 ⟨fun m z p o F Q kk=>G.BinOp (e1.r m _ p (and_l o) F _ fun x' q1 E1 hx=>e2.r m _ q1 (and_r o) (F.ext E1) _ fun y' q2 E2 hy=>G.of (r.r _ q2 _ _ (hx.mono E2.m) hy Q fun z' q3 E3 hz=>kk z' q3 ((E1.trans E2).trans E3) hz))⟩
theorem d_add (e1:Ev c d a L H (.int i) H1) (e2:Ev c d b L H1 (.int j) H2):Ev c d (.bin .Add a b) L H (.int (i+j)) H2:=d_bin e1 e2 b_add
theorem d_sbt (e1:Ev c d a L H (.int i) H1) (e2:Ev c d b L H1 (.int j) H2):Ev c d (.bin .Sub a b) L H (.int (i - j)) H2:=d_bin e1 e2 b_sub
theorem d_mul (e1:Ev c d a L H (.int i) H1) (e2:Ev c d b L H1 (.int j) H2) (h:small i=true) (g:small j=true):Ev c d (.bin .Mult a b) L H (.int (i * j)) H2:=d_bin e1 e2 (b_mul h g)
theorem d_neg (e1:Ev c d a L H (.int i) H1):Ev c d (.neg a) L H (.int (-i)) H1 :=
 ⟨fun m z p o F Q kk=>G.UnaryOp (e1.r m _ p o F _ fun x' q1 E1 ⟨t,hx⟩=>hx ▸ G.of (neg_int (kk _ (q1.toks _) (E1.trans (.toks ..)) ⟨_,rfl⟩)))⟩
theorem d_inv (e1:Ev c d a L H (.int i) H1):Ev c d (.inv a) L H (.int (-i - 1)) H1 :=
 ⟨fun m z p o F Q kk=>G.UnaryOp (e1.r m _ p o F _ fun x' q1 E1 ⟨t,hx⟩=>hx ▸ G.of (invert_int (kk _ (q1.toks _) (E1.trans (.toks ..)) ⟨_,by first | rfl | (congr 1)⟩)))⟩
theorem t_not {k:Bool} (e1:Et c d a L H k H1):Et c d (.not a) L H (!k) H1:=⟨fun m z p o F Q kk=>G.tests_Not (e1.r m _ p o F _ kk)⟩
theorem AOk.units {A:Around} (hA:AOk d A):A.units+1<cLine:=by
 have:=hA.2.2.2
 unfold cLine
 lia
theorem cmp_core {A:Around} {op:CmpOp} {k:Bool} {l r:Sem Value} {Q:Value→Shared→Prop} (hA:AOk d A) (h1:DoesG c A l p x H1) (h2:∀ q:P c H1,Ext noX p q→DoesG c A r q y H2) (rr:CmpR c H2 op x y k) (kk:∀ q:P c H2,Ext noX p q→Q (.bool k) q.s) :
  wpG (model c.prog c.w) A l (fun x s₁=>wpG (model c.prog c.w) A r (fun y s₂=>wpG (model c.prog c.w) A (compareOp op x y) Q s₂) s₁) p.s :=
 h1 _ fun x' q1 E1 hx=>h2 q1 E1 _ fun y' q2 E2 hy=>G.of (rr.r _ q2 _ _ Q hA.units (hx.mono E2.m) hy fun t=>kk (q2.toks t) ((E1.trans E2).trans (.toks ..)))
theorem t_cmp {op:CmpOp} {k:Bool} (e1:Ev c d a L H x H1) (e2:Ev c d b L H1 y H2) (r:CmpR c H2 op x y k):Et c d (.cmp op a b) L H k H2 :=
 ⟨fun m z p o F Q kk=>G.tests_Compare1 (not_f (and_r (and_r o))) (cmp_core m.ok (e1.r m _ p (and_l o) F) (fun q E=>e2.r m _ q (and_l (and_r o)) (F.ext E)) r fun q E=>G.of (wpAny_truthy_bool (kk q E)))⟩
theorem d_cmp {op:CmpOp} {k:Bool} (e1:Ev c d a L H x H1) (e2:Ev c d b L H1 y H2) (r:CmpR c H2 op x y k):Ev c d (.cmp op a b) L H (.bool k) H2 :=
 ⟨fun m z p o F Q kk=>G.Compare1 (not_f (and_r (and_r o))) (cmp_core m.ok (e1.r m _ p (and_l o) F) (fun q E=>e2.r m _ q (and_l (and_r o)) (F.ext E)) r fun q E=>kk _ q E rfl)⟩
theorem cm2_core {A:Around} {op:CmpOp} {k:Bool} {l r:Sem Value} {Q:Value→Value→Value→Shared→Prop} (hA:AOk d A) (h1:DoesG c A l p x H1) (h2:∀ q:P c H1,Ext noX p q→DoesG c A r q y H2) (rr:CmpR c H2 op x y k) (kk:∀ (q:P c H2) x' y',Ext noX p q→VR q.w y y'→Q x' y' (.bool k) q.s) :
  wpG (model c.prog c.w) A l (fun x s₁=>wpG (model c.prog c.w) A r (fun y s₂=>wpG (model c.prog c.w) A (compareOp op x y) (Q x y) s₂) s₁) p.s :=
 h1 _ fun x' q1 E1 hx=>h2 q1 E1 _ fun y' q2 E2 hy=>G.of (rr.r _ q2 _ _ _ hA.units (hx.mono E2.m) hy fun t=>kk (q2.toks t) x' y' ((E1.trans E2).trans (.toks ..)) hy)
theorem t_cm2 {o1 o2:CmpOp} {k:Bool} (e1:Ev c d a L H x H1) (e2:Ev c d b L H1 y H2) (r:CmpR c H2 o1 x y true) (e3:Ev c d e L H2 z H3) (r2:CmpR c H3 o2 y z k):Et c d (.cmp2 o1 o2 a b e) L H k H3 :=
 ⟨fun m z p o F Q kk=>G.tests_Compare2 (not_f (and_r (and_r (and_r o)))) (cm2_core m.ok (e1.r m _ p (and_l o) F) (fun q E=>e2.r m _ q (and_l (and_r o)) (F.ext E)) r fun q x' y' E hy=>G.of (wpAny_truthy_bool (e3.r m _ q (and_l (and_r (and_r o))) (F.ext E) _ fun z' q3 E3 hz=>G.of (r2.r _ q3 _ _ _ m.ok.units (hy.mono E3.m) hz fun t=>G.of (wpAny_truthy_bool (kk (q3.toks t) ((E.trans E3).trans (.toks ..))))))))⟩
theorem t_cm2f {o1 o2:CmpOp} (e1:Ev c d a L H x H1) (e2:Ev c d b L H1 y H2) (r:CmpR c H2 o1 x y false):Et c d (.cmp2 o1 o2 a b e) L H false H2 :=
 ⟨fun m z p o F Q kk=>G.tests_Compare2 (not_f (and_r (and_r (and_r o)))) (cm2_core m.ok (e1.r m _ p (and_l o) F) (fun q E=>e2.r m _ q (and_l (and_r o)) (F.ext E)) r fun q x' y' E hy=>G.of (wpAny_truthy_bool (kk q E)))⟩
theorem d_ife {k:Bool} (e1:Et c d t L H k H1) (e2:Ev c d (cond k a b) L H1 v H2):Ev c d (.ife t a b) L H v H2 :=
 ⟨fun m z p o F Q kk=>G.IfExp (e1.r m _ p (and_l o) F _ fun q E=>by
  cases k
  ·exact e2.r m _ q (and_r (and_r o)) (F.ext E) Q fun y' q2 E2 hy=>kk y' q2 (E.trans E2) hy
  ·exact e2.r m _ q (and_l (and_r o)) (F.ext E) Q fun y' q2 E2 hy=>kk y' q2 (E.trans E2) hy)⟩
theorem e_tt (p:Ev c d a L H v H'):Ev c d (cond true a b) L H v H':=p
theorem e_ff (p:Ev c d b L H v H'):Ev c d (cond false a b) L H v H':=p
end
end Mine
end
section
namespace Mine
open PySem PySem.W PySem.Calls PyProof.Rows
structure Ea (c:Cx) (d:Nat) (es:List E) (L:LL) (H:MH) (vs:List V) (H':MH):Prop where
 len:vs.length=es.length
 r:∀ (m:Fm c d) (z:List Expr) (p:P c H) (pos:Pos),oks m.sc m.N es z=true→FrR m L p→DoesL c m.A (spliced (backTo pos (starEach (ups m.N es z) m.env))) p vs H'
structure Es (c:Cx) (d:Nat) (op:BoolOp) (es:List E) (L:LL) (H:MH) (b:Bool) (H':MH):Prop where
 r:∀ (m:Fm c d) (z:List Expr) (p:P c H),oks m.sc m.N es z=true→FrR m L p→DoesT c m.A (allTrue op (ups m.N es z) m.env) p b H'
structure Eb (c:Cx) (d:Nat) (op:BoolOp) (es:List E) (L:LL) (H:MH) (v:V) (H':MH):Prop where
 r:∀ (m:Fm c d) (z:List Expr) (p:P c H) (pos:Pos),oks m.sc m.N es z=true→FrR m L p→DoesG c m.A (boolOp pos op (evalEach (ups m.N es z) m.env)) p v H'
section
variable {c:Cx} {d:Nat} {m:Fm c d} {L L1 L':LL} {H H1 H2 H3 H':MH} {p:P c H} {q:P c H1} {e a b t:E} {x y z v w:V} {i j:Int} {fl:Fl} {X:Addr→Prop} {es:List E} {vs:List V}
theorem a_nil:Ea c d [] L H [] H:=⟨rfl,fun m z p pos _ _ Q kk=>G.spliced_nil (kk [] p (.refl ..) rfl)⟩
theorem starEach_cons {env:Env} {e:Expr} {r:List Expr} (h:notStar e=true):starEach (e::r) env=(false,eval e env)::starEach r env:=by
 cases e <;> first | rfl | cases h
theorem spl_cons {env:Env} {N:List Str} {sc:Scope} {pos:Pos} {z:List Expr} (o:oks sc N (e::es) z=true):backTo pos (starEach (ups N (e::es) z) env)=(false,eval (up N e (hd z)) env)::backTo pos (starEach (ups N es z.tail) env):=congrArg (backTo pos) (starEach_cons (r:=ups N es z.tail) (and_r (and_r o)))
theorem spl_plain {env:Env} {N:List Str} {sc:Scope} {pos:Pos}:∀ {es:List E} {z:List Expr} (o:oks sc N es z=true),(backTo pos (starEach (ups N es z) env)).all (!·.1)=true∧(backTo pos (starEach (ups N es z) env)).any (·.1)=false
 | [],z,o=>⟨rfl,rfl⟩
 | e::es,z,o=>by
  rw [spl_cons o]
  exact spl_plain (es:=es) (and_l (and_r o))
theorem ups_length {N:List Str}:∀ {es:List E} {z:List Expr},(ups N es z).length=es.length
 | [],z=>rfl
 | e::es,z=>congrArg Nat.succ (ups_length (es:=es))
theorem a_cons (e1:Ev c d e L H v H1) (e2:Ea c d es L H1 vs H2):Ea c d (e::es) L H (v::vs) H2 :=
 ⟨congrArg Nat.succ e2.len,fun m z p pos o F Q kk=>by
  rw [spl_cons o]
  exact G.spliced_cons (e1.r m _ p (and_l o) F _ fun x' q E hx=>e2.r m _ q pos (and_l (and_r o)) (F.ext E) _ fun ws q2 E2 hws=>kk _ q2 (E.trans E2) ⟨x',ws,rfl,hx.mono E2.m,hws⟩)⟩
theorem s_and0:Es c d .And [] L H true H:=⟨fun m z p _ _ Q kk=>G.allTrue_nil (kk p (.refl ..))⟩
theorem s_or0:Es c d .Or [] L H false H:=⟨fun m z p _ _ Q kk=>G.allTrue_nil (kk p (.refl ..))⟩
def Sk (c:Cx) (d:Nat) (es:List E) (L:LL) (H:MH) (b:Bool) (H':MH):BoolOp→Bool→Prop
 | .And,false=>b=false∧H'=H
 | .Or,true=>b=true∧H'=H
 | .And,true=>Es c d .And es L H b H'
 | .Or,false=>Es c d .Or es L H b H'
theorem k_af:Sk c d es L H false H .And false:=⟨rfl,rfl⟩
theorem k_ot:Sk c d es L H true H .Or true:=⟨rfl,rfl⟩
theorem k_at {k:Bool} (h:Es c d .And es L H k H'):Sk c d es L H k H' .And true:=h
theorem k_of {k:Bool} (h:Es c d .Or es L H k H'):Sk c d es L H k H' .Or false:=h
theorem s_cons {op:BoolOp} {k l:Bool} (e1:Et c d e L H k H1) (e2:Sk c d es L H1 l H2 op k):Es c d op (e::es) L H l H2 :=
 ⟨fun m z p o F Q kk=>G.allTrue_cons (e1.r m _ p (and_l o) F _ fun q E=>by
  cases op <;> cases k
  ·obtain ⟨rfl,rfl⟩:=e2; exact kk q E
  ·exact e2.r m _ q (and_l (and_r o)) (F.ext E) Q fun q2 E2=>kk q2 (E.trans E2)
  ·exact e2.r m _ q (and_l (and_r o)) (F.ext E) Q fun q2 E2=>kk q2 (E.trans E2)
  ·obtain ⟨rfl,rfl⟩:=e2; exact kk q E)⟩
theorem t_bop {op:BoolOp} {k:Bool} (e1:Es c d op es L H k H1):Et c d (.bop op es) L H k H1:=⟨fun m z p o F Q kk=>G.tests_BoolOp (e1.r m _ p o F Q kk)⟩
theorem d_bop {op:BoolOp} (e1:Eb c d op es L H v H1):Ev c d (.bop op es) L H v H1:=⟨fun m z p o F Q kk=>(arm_eval_BoolOp ..).symm ▸ e1.r m _ p _ o F Q kk⟩
theorem b_one {op:BoolOp} (e1:Ev c d e L H v H1):Eb c d op [e] L H v H1:=⟨fun m z p pos o F Q kk=>G.bools_one (e1.r m _ p (and_l o) F Q kk)⟩
theorem b_go {op:BoolOp} {k:Bool} {g:E} (e1:Ev c d e L H x H1) (t:truth H1 x=some k) (hk:k=(op == .And)) (e2:Eb c d op (g::es) L H1 v H2):Eb c d op (e::g::es) L H v H2 :=
 ⟨fun m z p pos o F Q kk=>G.bools_cons (e1.r m _ p (and_l o) F _ fun x' q E hx=>G.of (w_truth t hx fun tk=>by
  have:=e2.r m _ (q.toks tk) pos (and_l (and_r o)) (F.ext (E.trans (.toks ..))) Q fun y' q2 E2 hy=>kk y' q2 ((E.trans (.toks ..)).trans E2) hy
  subst hk
  cases op <;> exact this))⟩
theorem b_stop {op:BoolOp} {k:Bool} {g:E} (e1:Ev c d e L H x H1) (t:truth H1 x=some k) (hk:k=(op == .Or)):Eb c d op (e::g::es) L H x H1 :=
 ⟨fun m z p pos o F Q kk=>G.bools_cons (e1.r m _ p (and_l o) F _ fun x' q E hx=>G.of (w_truth t hx fun tk=>by
  have:=kk x' (q.toks tk) (E.trans (.toks ..)) hx
  subst hk
  cases op <;> exact this))⟩
theorem d_tup (e1:Ea c d es L H vs H1):Ev c d (.tup es) L H (.tup vs) H1 :=
 ⟨fun m z p o F Q kk=>G.Tuple_ (e1.r m _ p _ (and_l o) F _ fun ws q E hws=>G.of (wpAny_newTuple (kk _ (q.grown q.s.toks fun _ _ e=>Heap.get?_push_of_some _ e) (E.trans (.grown ..)) ⟨_,ws,rfl,⟨_,Heap.get?_push_size _ rfl,rfl,0,rfl⟩,hws.push⟩) (by
  have h1:=hws.length.trans e1.len
  have h2:=Nat.le_of_ble_eq_true (and_r o)
  rw [sizeLine_eq]; lia)))⟩
theorem d_lst (e1:Ea c d es L H vs H1):Ev c d (.lst es) L H (.obj H1.n) (H1.new (.lst vs)) :=
 ⟨fun m z p o F Q kk=>G.List_ (e1.r m _ p _ (and_l o) F _ fun ws q E hws=>G.of (does_list (A:=m.A) (p:=q) hws (fun Q k=>wpAny_newList (k q.s.toks) (by
  have h1:=hws.length.trans e1.len
  have h2:=Nat.le_of_ble_eq_true (and_r o)
  rw [sizeLine_eq]; lia)) Q fun y q2 E2 hy=>kk y q2 (E.trans E2) hy))⟩
theorem d_att {n:Str} (e1:Ev c d e L H x H1) (r:AttR c H1 x n v):Ev c d (.att e n) L H v H1 :=
 ⟨fun m z p o F Q kk=>G.Attribute (and_l (and_r o)) (e1.r m _ p (and_l o) F _ fun ov q E hx=>G.of (r.r _ q _ _ Q (and_r (and_r o)) hx fun y t hy=>kk y (q.toks t) (E.trans (.toks ..)) hy))⟩
theorem d_sub (e1:Ev c d a L H x H1) (e2:Ev c d b L H1 y H2) (r:SubR c H2 x y v):Ev c d (.sub a b) L H v H2 :=
 ⟨fun m z p o F Q kk=>G.Subscript (e1.r m _ p (and_l o) F _ fun ov q E hx=>e2.r m _ q (and_r o) (F.ext E) _ fun iv q2 E2 hy=>r.r _ q2 _ _ Q (hx.mono E2.m) hy fun y t hy=>kk y (q2.toks t) ((E.trans E2).trans (.toks ..)) hy)⟩
structure Eo (c:Cx) (d:Nat) (e:E) (L:LL) (H:MH) (v:V) (H':MH):Prop where
 r:∀ (m:Fm c d) (z:Expr) (p:P c H),ok m.sc m.N e z=true→FrR m L p→DoesG c m.A (valueOrNone (evalOpt (opt e (up m.N e z)) m.env)) p v H'
theorem o_abs:Eo c d .abs L H .none H:=⟨fun m z p _ _ Q kk=>G.opt_none (kk _ p (.refl ..) rfl)⟩
theorem o_of (h:∀ z,opt e z=some z) (e1:Ev c d e L H v H1):Eo c d e L H v H1:=⟨fun m z p o F=>(h (up m.N e z)).symm ▸ fun Q kk=>G.opt_some (e1.r m z p o F Q kk)⟩
theorem d_slc {lo hi st:E} {H4 H5:MH} {u w:V} (e1:Ev c d a L H x H1) (e2:Eo c d lo L H1 y H2) (e3:Eo c d hi L H2 z H3) (e4:Eo c d st L H3 w H4) (r:SlcR c H4 x y z w u H5):Ev c d (.slc a lo hi st) L H u H5 :=
 ⟨fun m zz p o F Q kk=>G.Subscript (e1.r m _ p (and_l o) F _ fun ov q1 E1 hx=>G.Slice_ (e2.r m _ q1 (and_l (and_r o)) (F.ext E1) _ fun xv q2 E2 hxv=>e3.r m _ q2 (and_l (and_r (and_r o))) ((F.ext E1).ext E2) _ fun yv q3 E3 hyv =>
  e4.r m _ q3 (and_r (and_r (and_r o))) (((F.ext E1).ext E2).ext E3) _ fun zv q4 E4 hzv=>by
   have E5:=Ext.grown q4 (h':=q4.h.push { cls:=.type "slice",data:=.fields #[xv,yv,zv] }) q4.s.toks fun _ _ e=>Heap.get?_push_of_some _ e
   have E45:=E4.trans E5
   have E35:=E3.trans E45
   exact r.r _ _ _ _ _ _ _ Q (hx.mono (E2.trans E35).m) (hxv.mono E35.m) (hyv.mono E45.m) (hzv.mono E5.m) (Heap.IsSliceOf.new ..) fun r' q6 E6 hr=>kk r' q6 ((E1.trans (E2.trans E35)).trans E6) hr))⟩
structure Ck (c:Cx) (d:Nat) (x:V) (vs:List V) (H:MH) (v:V) (H':MH):Prop where
 r:∃ f,(∀ {H0:MH} (p:P c H0) y,VR p.w x y→y=f)∧(∃ kp,∀ (A:Around) (s:Shared),(∀ b o,c.h₀.get? b=some o→s.heap.get? b=some o)→wpAny (model c.prog c.w) A (keeperOf f) (fun k' s'=>k'=kp∧s'=s) noE s) ∧
  ∀ (A:Around) (p:P c H) ws,AOk d A→VRs p.w vs ws→DoesG c A (call f ws) p v H'
structure Cl (c:Cx) (d:Nat) (f:Nat) (as:List V) (H:MH) (v:V) (H':MH):Prop where
 keep:keepIn c.K (.ref f)=true
 r:∀ (A:Around) (p:P c H) ws,AOkC d A→VRs p.w as ws→DoesG c A (call (.ref f) ws) p v H'
theorem Cl.up {f:Nat} (e:Cl c d f vs H v H') (k:Nat):Cl c (d+k) f vs H v H':=⟨e.keep,fun A p ws hA=>e.r A p ws ⟨hA.1,hA.2.1,Nat.le_trans (by lia) hA.2.2.1,Nat.le_trans (by lia) hA.2.2.2⟩⟩
theorem AOk.cc {A:Around} (hA:AOk d A):AOkC d A:=⟨hA.1,hA.2.1,Nat.le_trans (Nat.le_add_right _ 2) hA.2.2.1,Nat.le_trans (Nat.add_le_add_left (Nat.le_of_ble_eq_true rfl) _) hA.2.2.2⟩
theorem AOk.make {A:Around} (hA:AOk d A) (a:Addr) (vs:List Value):AOkC d (A.under (.builtin "type.__call__" ⟨.ref a::vs,[]⟩)):=by
 refine ⟨hA.1,?_,?_,?_⟩
 ·unfold Around.under
  dsimp only
  rw [show (Code.builtin "type.__call__" ⟨.ref a::vs,[]⟩).guards=[] from by unfold Code.guards Code.isGuard; rw [if_neg (by show ¬ guardIds.contains "type.__call__"=true; decide)]]
  exact hA.2.1
 ·rw [depth_under_make]
  have:=hA.2.2.1
  lia
 ·rw [units_under_make]
  have:=hA.2.2.2
  lia
theorem keeper_K {f:Value} (e:keepIn c.K f=true):∃ kp:Keeper,∀ (A:Around) (s:Shared),(∀ b o,c.h₀.get? b=some o→s.heap.get? b=some o)→wpAny (model c.prog c.w) A (keeperOf f) (fun k' s'=>k'=kp∧s'=s) noE s:=by
 obtain ⟨kp,_,hL⟩:=looks_keep (M:=model c.prog c.w) e (h:=c.h₀) c.W.KI
 exact ⟨kp,fun A s hb=>hL A _ _ s hb ⟨rfl,rfl⟩⟩
theorem ck_fn {f:Nat} (i:initAt f=none) (e:Cl c d f vs H v H'):Ck c d (.sta f) vs H v H':=⟨.ref f,fun _ _ h=>h,keeper_K e.keep,fun A p ws hA hv=>e.r A p ws hA.cc hv⟩
theorem ck_cl {f k:Nat} (i:initAt f=some k) (e:Cl c d k (V.ins f H.n::vs) (H.new (.dic [])) .none H2):Ck c d (.sta f) vs H (V.ins f H.n) H2 :=
 ⟨.ref f,fun _ _ h=>h,keeper_K (c.W.init f k i).1,fun A p ws hA hv Q kk=>by
  obtain ⟨_,nm,q,Nn,bs,sn,sub,col,dd,k0,k1,k2,k3,k5,mN,oI,hC,hNs,hI,hoI,hcI⟩:=c.W.init f k i
  obtain ⟨ρ,⟨hp,gg,d,t,os⟩,R⟩:=p
  refine G.call_cls (R.base _ _ hC) (hNs.keeps R.base) hI (R.base _ _ hoI) hcI ?_
  have hD:OR c ⟨H.n,ρ,hp.push { cls:=.type "dict",data:=.dict #[] }⟩ hp.objs.size (.dic []):=⟨[],Heap.DictOf.new _,rfl⟩
  have E1:=Ext.alloc (⟨ρ,⟨hp,gg,d,t,os⟩,R⟩:P c H) (t:=t) (fun _ _ e=>Heap.get?_push_of_some _ e) (size_none _) hD
  have E2:=E1.trans (.grown _ (h':=(hp.push { cls:=.type "dict",data:=.dict #[] }).push { cls:=.ref f,dict:=some hp.objs.size,data:=.plain }) t fun _ _ e=>Heap.get?_push_of_some _ e)
  have hx:VR ⟨(H.new (.dic [])).n,adv (⟨ρ,⟨hp,gg,d,t,os⟩,R⟩:P c H) hp.objs.size,(hp.push { cls:=.type "dict",data:=.dict #[] }).push { cls:=.ref f,dict:=some hp.objs.size,data:=.plain }⟩ (.ins f H.n) (.ref (hp.objs.size+1)):=by
   refine ⟨_,rfl,Nat.lt_succ_self _,?_⟩
   show _=some ({ cls:=.ref f,dict:=some (adv (⟨ρ,⟨hp,gg,d,t,os⟩,R⟩:P c H) hp.objs.size H.n),data:=.plain }:Obj)
   rw [adv_new]
   heap_get
  exact e.r _ _ _ (hA.make f ws) ⟨_,ws,rfl,hx,hv.mono E2.m⟩ _ fun r q3 E3 hr=>⟨hr,kk _ q3 (E2.trans E3) (hx.mono E3.m)⟩⟩
theorem ck_bl {k:Bn} (r:BltR c H k vs v H'):Ck c d (.bn k) vs H v H' :=
 ⟨bnV k,fun _ _ h=>h,⟨.machine,fun A s _=>by cases k <;> exact wpAny_pure ⟨rfl,rfl⟩⟩,fun A p ws hA hv=>r.r A p ws hA.1 hA.2.1 hv⟩
theorem d_cal {as:List E} (e1:Ev c d a L H x H1) (e2:Ea c d as L H1 vs H2) (r:Ck c d x vs H2 v H3):Ev c d (.call a as) L H v H3 :=
 ⟨fun m z p o F Q kk=>by
  obtain ⟨f,h1,⟨kp,h2⟩,h3⟩:=r.r
  have hany:=(spl_plain (pos:=ps z) (env:=m.env) (and_l (and_r o))).2
  exact G.Call (and_r (and_r o)) (e1.r m _ p (and_l o) F _ fun fv q E hx=>by
   obtain rfl:=h1 q _ hx
   exact G.callWith (k:=kp) hany (G.evalArgs hany (e2.r m _ q _ (and_l (and_r o)) (F.ext E) _ fun ws q2 E2 hws=>⟨rfl,h2 _ q2.s q2.R.base,h3 _ q2 ws m.ok hws Q fun y q3 E3 hy=>kk y q3 ((E.trans E2).trans E3) hy⟩)))⟩
def Mk (c:Cx) (d:Nat) (x:V) (vs:List V) (H:MH) (v:V) (H':MH):MK→Prop
 | .fn f=>Cl c d f (x::vs) H v H'
 | .blt i=>MetR c H x (.blt i) vs v H'
 | .bnd=>MetR c H x .bnd vs v H'
theorem mk_fn {f:Nat} (h:Cl c d f (x::vs) H v H'):Mk c d x vs H v H' (.fn f):=h
theorem mk_bl {i:String} (h:MetR c H x (.blt i) vs v H'):Mk c d x vs H v H' (.blt i):=h
theorem mk_bd (h:MetR c H x .bnd vs v H'):Mk c d x vs H v H' .bnd:=h
theorem mk_call {A:Around} {k:MK} {a:Value} {pr:Value × List Value} {ws:List Value} (r:Mk c d x vs H v H' k) (hA:AOk d A) (h:MethR p.h a k pr) (hx:VR p.w x a) (hv:VRs p.w vs ws):DoesG c A (call pr.1 (pr.2++ws)) p v H':=by
 induction k using MK.casesOn with
 | fn f=>obtain rfl:=h; exact r.r A p _ hA.cc ⟨a,ws,rfl,hx,hv⟩
 | blt i=>exact (r.r A p a pr ws h hx hv).g
 | bnd=>exact (r.r A p a pr ws h hx hv).g
theorem mk_keep {k:MK} (r:Mk c d x vs H v H' k):∃ kp:Keeper,∀ (A:Around) {H3:MH} (q:P c H3) a pr,MethR q.h a k pr→wpAny (model c.prog c.w) A (keeperOf pr.1) (fun k' s'=>k'=kp∧s'=q.s) noE q.s:=by
 induction k using MK.casesOn with
 | fn f =>
  obtain ⟨kp,hkp⟩:=keeper_K (Cl.keep r)
  exact ⟨kp,fun A _ q a pr h=>by obtain rfl:=h; exact hkp A q.s q.R.base⟩
 | blt i=>exact ⟨.machine,fun A _ q a pr h=>by obtain rfl:=h; exact wpAny_pure ⟨rfl,rfl⟩⟩
 | bnd =>
  refine ⟨.machine,fun A _ q a pr h=>?_⟩
  obtain ⟨u,rfl,hget⟩:=h
  refine wpAny_bind (wpAny_load hget ?_)
  refine KFB.if_so (by decide) ?_
  exact wpAny_pure ⟨if_pos (by decide),rfl⟩
theorem d_met {n:Str} {k:MK} {as:List E} (e1:Ev c d e L H x H1) (l:LookR c H1 x n k) (e2:Ea c d as L H1 vs H2) (r:Mk c d x vs H2 v H3 k):Ev c d (.met e n as) L H v H3 :=
 ⟨fun m z p o F Q kk=>by
  obtain ⟨kp,hkp⟩:=mk_keep r
  have hh:=spl_plain (pos:=ps z) (env:=m.env) (and_l (and_r o))
  exact G.Method (and_l (and_r (and_r o))) (beq_self_eq_true _) hh.1 (ups_length.symm ▸ Nat.le_of_ble_eq_true (and_r (and_r (and_r o)))) (e1.r m _ p (and_l o) F _ fun ov q1 E1 hx pl=>l.r _ q1 _ pl _ hx fun pr q2 E2 hpr =>
   G.callWith (k:=kp) hh.2 (G.evalArgs hh.2 (e2.r m _ q2 _ (and_l (and_r o)) (F.ext (E1.trans E2)) _ fun ws q3 E3 hws =>
    ⟨rfl,hkp _ q3 _ _ (hpr.ext E3),mk_call r m.ok (hpr.ext E3) (hx.mono (E2.trans E3).m) hws Q fun y q4 E4 hy=>kk y q4 ((E1.trans (E2.trans E3)).trans E4) hy⟩)))⟩
end
end Mine
end
section
namespace Mine
open PySem PySem.W PySem.Calls PyProof.Rows
def PVs (w:Vw):List (V × V)→List (Value × Value)→Prop
 | [],ws=>ws=[]
 | (k,v)::l,ws=>∃ x y r,ws=(x,y)::r∧VR w k x∧VR w v y∧PVs w l r
namespace G
section
variable {prog:Program} {w:World} {A:Around} {s:Shared} {env:Env}
theorem subDict {pairs:List (Sem Value × Sem Value)} {Q:Addr→Shared→Prop} (hlen:pairs.length≤15)
  (h:wpG (model prog w) A (evalPairs pairs) (fun vs s₁=>wpAny (model prog w) A (forIn vs PUnit.unit fun (x:Value × Value) (_:PUnit)=>(do dictSet s.heap.objs.size x.1 x.2; Pure.pure (ForInStep.yield PUnit.unit):Sem (ForInStep PUnit))) (fun _ s₂=>Q s.heap.objs.size s₂) noE s₁)
   { s with heap:=s.heap.push { cls:=.type "dict",data:=.dict #[] } }) :
  wpG (model prog w) A (PySem.subDict pairs) Q s:=by
 unfold PySem.subDict
 refine step (wpAny_alloc ?_)
 refine bind (holding ?_)
 rw [if_pos hlen]
 refine bind (mono h fun vs s₁ h₁=>?_)
 refine holding ?_
 exact bind (of (wpAny_mono h₁ (fun _ s₂ h₂=>pure (pure h₂)) fun _ _ e=>e))
theorem Dict_ {keys:List (Option Expr)} {values:List Expr} {pos:Pos} {Q:Value→Shared→Prop}
  (hall:keys.all (·.isSome)=true) (hl:keys.length=values.length) (h0:keys ≠ []) (hlen:keys.length≤15)
  (h:wpG (model prog w) A (evalPairs (pairTrees keys values env pos)) (fun vs s₁=>wpAny (model prog w) A (forIn vs PUnit.unit fun (x:Value × Value) (_:PUnit)=>(do dictSet s.heap.objs.size x.1 x.2; Pure.pure (ForInStep.yield PUnit.unit):Sem (ForInStep PUnit))) (fun _ s₂=>Q (.ref s.heap.objs.size) s₂) noE s₁)
   { s with heap:=s.heap.push { cls:=.type "dict",data:=.dict #[] } }) :
  wpG (model prog w) A (eval (.Dict keys values pos) env) Q s:=by
 have hn:=pairTrees_length keys values env pos hall hl
 have hp0:pairTrees keys values env pos ≠ []:=fun he=>h0 (List.length_eq_zero_iff.mp (hn.symm.trans (congrArg List.length he)))
 rw [arm_eval_Dict,zip_pairTrees keys values env pos hall hl,dictDisplay_pairs _ hp0 (by rw [hn]; lia)]
 exact stand (bind (subDict (Q:=fun d s'=>wpG (model prog w) A (Pure.pure (Value.ref d)) Q s') (hn ▸ hlen)
  (mono h fun vs s₁ h₁=>wpAny_mono h₁ (fun _ s₂ h₂=>pure h₂) fun _ _ e=>e)))
end
end G
structure Ep (c:Cx) (d:Nat) (ks vs:List E) (L:LL) (H:MH) (l:List (V × V)) (H':MH):Prop where
 len:l.length=ks.length
 r:∀ (m:Fm c d) (zk:List (Option Expr)) (zv:List Expr) (p:P c H) (pos:Pos),oko m.sc m.N ks zk=true→oks m.sc m.N vs zv=true→FrR m L p →
  ∀ Q:List (Value × Value)→Shared→Prop,(∀ ws (q:P c H'),Ext noX p q→PVs q.w l ws→Q ws q.s)→wpG (model c.prog c.w) m.A (evalPairs (pairTrees (upo m.N ks zk) (ups m.N vs zv) m.env pos)) Q p.s
section
variable {c:Cx} {d:Nat} {m:Fm c d} {L L1 L':LL} {H H1 H2 H3 H':MH} {p:P c H} {q:P c H1} {e a b t:E} {x y z v:V} {ks vs:List E} {l:List (V × V)} {w:Vw}
theorem p_nil:Ep c d [] [] L H [] H:=⟨rfl,fun m zk zv p pos _ _ _ Q kk=>G.pure (kk [] p (.refl ..) rfl)⟩
theorem p_cons (e1:Ev c d a L H x H1) (e2:Ev c d b L H1 y H2) (r:Ep c d ks vs L H2 l H3):Ep c d (a::ks) (b::vs) L H ((x,y)::l) H3 :=
 ⟨congrArg Nat.succ r.len,fun m zk zv p pos ok ov F Q kk=>by
  show wpG _ _ (evalPairs ((eval (up m.N a (ho zk)) m.env,(do let v ← eval (up m.N b (hd zv)) m.env; standAt pos; Pure.pure v))::pairTrees (upo m.N ks zk.tail) (ups m.N vs zv.tail) m.env pos)) _ _
  rw [evalPairs]
  exact G.bind (e1.r m _ p (and_l ok) F _ fun x' q1 E1 hx=>G.bind (G.holding (G.bind (e2.r m _ q1 (and_l ov) (F.ext E1) _ fun y' q2 E2 hy=>G.stand (G.pure (G.bind (G.holding (r.r m _ _ q2 pos (and_r ok) (and_l (and_r ov)) ((F.ext E1).ext E2) _ fun ws q3 E3 hws =>
   G.pure (kk _ q3 ((E1.trans E2).trans E3) ⟨x',y',ws,rfl,hx.mono (E2.trans E3).m,hy.mono E3.m,hws⟩)))))))))⟩
theorem nodup_stored {dk:List (K2 × Value)} (hn:(dk.map (·.1)).Nodup) (k:K2) (y:Value):((stored dk k y).map (·.1)).Nodup:=by
 unfold stored
 split
 ·rw [keys_map_store]
  exact hn
 ·rename_i q
  rw [List.map_append,List.nodup_append]
  refine ⟨hn,List.pairwise_singleton ..,fun a ha b hb e=>q ?_⟩
  cases List.mem_singleton.1 hb
  obtain ⟨kv,hkv,q2⟩:=List.mem_map.mp ha
  exact List.any_eq_true.mpr ⟨kv,hkv,decide_eq_true (q2.trans e)⟩
theorem PVs.carries:∀ {l:List (V × V)} {ws:List (Value × Value)},PVs w l ws→(l.all fun p=>isKey p.1)=true→∃ kvs,Carries c.kv ws kvs∧kvs.length=l.length ∧
  ∀ (d:List (V × V)) (dk:List (K2 × Value)),PR w d dk→(dk.map (·.1)).Nodup→PR w (l.foldl (fun d p=>dput d p.1 p.2) d) (merged dk kvs)
 | [],ws,e,_=>(show ws=[] from e) ▸ ⟨[],trivial,rfl,fun d dk hp _=>hp⟩
 | (k,v)::l,ws,⟨x,y,r,e,h1,h2,h3⟩,hk=>by
  subst e
  rw [List.all_cons,Bool.and_eq_true] at hk
  obtain ⟨kk,hkk⟩:=isKey_toK hk.1
  obtain ⟨kvs,g1,g2,g3⟩:=PVs.carries h3 hk.2
  exact ⟨(kk,y)::kvs,⟨h1.key hkk,rfl,g1⟩,congrArg Nat.succ g2,fun d dk hp hn=>g3 (dput d k v) (stored dk kk y) (hp.put hkk h2 hn) (nodup_stored hn kk y)⟩
theorem upo_some {N:List Str}:∀ {ks:List E} {z:List (Option Expr)},(upo N ks z).all (·.isSome)=true∧(upo N ks z).length=ks.length
 | [],z=>⟨rfl,rfl⟩
 | e::ks,z=>⟨(upo_some (ks:=ks)).1,congrArg Nat.succ (upo_some (ks:=ks)).2⟩
theorem put_new0 {x y:MO}:(H.new x).put H.n y=H.new y:=by
 unfold MH.put MH.new
 refine congrArg (MH.mk _) (funext fun k=>?_)
 by_cases q:k=H.n
 ·exact (if_pos q).trans (if_pos q).symm
 ·exact (if_neg q).trans ((if_neg q).trans (if_neg q).symm)
theorem new_dict (p:P c H) {Q:Value→Shared→Prop} (k:∀ q:P c (H.new (.dic [])),Ext noX p q→q.ρ H.n=p.h.objs.size→Q (.ref p.h.objs.size) q.s):Q (.ref p.h.objs.size) { p.s with heap:=p.h.push { cls:=.type "dict",data:=.dict #[] } } :=
 k (p.alloc (D:=p.h.objs.size) p.s.toks (fun _ _ e=>Heap.get?_push_of_some _ e) (size_none _) ⟨[],Heap.DictOf.new _,rfl⟩) (.alloc p ..) (adv_new (p:=p))
theorem d_dic0:Ev c d (.dic [] []) L H (.obj H.n) (H.new (.dic [])) :=
 ⟨fun m z p o F Q kk=>by
  show wpG _ _ (eval (.Dict [] [] _) m.env) Q p.s
  rw [eval_Dict_empty]
  exact G.stand (G.of (wpAny_newObj_type (new_dict p (Q:=Q) fun q E e=>kk _ q E ⟨Nat.lt_succ_self _,congrArg Value.ref e.symm⟩)))⟩
theorem d_dic (e1:Ep c d (a::ks) vs L (H.new (.dic [])) l (H.new (.dic []))) (h:(l.all fun p=>isKey p.1)=true):Ev c d (.dic (a::ks) vs) L H (.obj H.n) (H.new (.dic (l.foldl (fun d p=>dput d p.1 p.2) []))) :=
 ⟨fun m z p o F Q kk=>by
  have o1:=upo_some (N:=m.N) (ks:=a::ks) (z:=xk z)
  have o2:(a::ks).length=vs.length:=beq_iff_eq.1 (and_l (and_r (and_r o)))
  have o3:(a::ks).length≤15:=Nat.le_of_ble_eq_true (and_r (and_r (and_r o)))
  refine G.Dict_ o1.1 (o1.2.trans (o2.trans ups_length.symm)) (List.ne_nil_of_length_eq_add_one (n:=ks.length) o1.2) (o1.2 ▸ o3) ?_
  refine new_dict p (Q:=fun v s=>wpG (model c.prog c.w) m.A (evalPairs (pairTrees (upo m.N (a::ks) (xk z)) (ups m.N vs (xl z)) m.env (ps z))) (fun vs s₁=>wpAny (model c.prog c.w) m.A (forIn vs PUnit.unit fun (x:Value × Value) (_:PUnit)=>(do dictSet p.h.objs.size x.1 x.2; Pure.pure (ForInStep.yield PUnit.unit):Sem (ForInStep PUnit))) (fun _ s₂=>Q v s₂) noE s₁) s) fun q1 E1 e1'=>?_
  refine e1.r m _ _ q1 _ (and_l o) (and_l (and_r o)) (F.ext E1) _ fun ws q2 E2 hws=>?_
  have hρ:q2.ρ H.n=p.h.objs.size:=(E2.eq _ (Nat.lt_succ_self _)).trans e1'
  obtain ⟨hj,kvs0,hm0,hp0⟩:=q2.dic (new_o H (.dic []))
  cases (show kvs0=[] from hp0)
  rw [hρ] at hm0
  obtain ⟨kvs',g1,g2,g3⟩:=PVs.carries (c:=c) hws h
  refine wpAny_storeAll ws kvs' [] q2.s _ g1 hm0 (by rw [sizeLine_eq,List.length_nil,g2,e1.len]; lia) fun h' hm' hs'=>?_
  rw [← hρ] at hm' hs'
  rw [← put_new0 (H:=H) (x:=.dic [])] at kk
  exact put_dict (Q:=fun s=>Q (.ref p.h.objs.size) s) hj hs' hm' (g3 [] [] rfl List.nodup_nil) fun q3 E3 e3=>kk _ q3 ((E1.trans E2).trans E3) ⟨hj,congrArg Value.ref ((congrFun e3 _).trans hρ).symm⟩⟩
end
end Mine
end
section
namespace Mine
open PySem PySem.W PySem.Calls PyProof.Rows
structure Kp {c:Cx} {H:MH} (Y:Addr→Prop) (p q:P c H):Prop where
 ρ:q.ρ=p.ρ
 keep:∀ b o,¬ Y b→p.h.get? b=some o→q.h.get? b=some o
 os:q.s.os=p.s.os
structure Priv {c:Cx} {H:MH} (loc:Addr) (p:P c H) (Y:Addr→Prop):Prop where
 away:∀ a,Y a→∀ k,k<H.n→p.ρ k ≠ a
 base:∀ a,Y a→c.h₀.get? a=none
 loc:¬ Y loc
 vol:∀ a,Y a→∃ o,p.h.get? a=some o∧Mine.vol o
inductive IterI {c:Cx} {H:MH} (i:Nat) (p:P c H) (it:Addr):Bool→V→(Addr→Prop)→Prop where
 | rng {a b:Int} (h:IsRangeIter p.h it (a+i) (((b - a).toNat:Int) - i) 1):IterI i p it false (.rng a b) (onlyX it)
 | tup {l:List V} {t:Addr} {vs:List Value} (h:p.h.IsTupleIter it t i) (ht:p.h.IsTuple t ⟨vs⟩) (hv:VRs p.w l vs):IterI i p it false (.tup l) (onlyX it)
 | lst {k:Nat} (hk:k<H.n) (h:p.h.IsListIter it (p.ρ k) i):IterI i p it false (.obj k) (onlyX it)
 | enm {k:Nat} {r:Addr} {old:Value} (hk:k<H.n) (hne:it ≠ r) (he:IsEnum p.h it r i old) (h:p.h.IsListIter r (p.ρ k) i):IterI i p it true (.obj k) (fun a=>a=it∨a=r)
abbrev IterR {c:Cx} {H:MH} (en:Bool) (v:V) (i:Nat) (p:P c H) (it:Addr) (Y:Addr→Prop):Prop:=IterI i p it en v Y
inductive IterJ {c:Cx} {H:MH} (i:Nat) (p:P c H) (it:Addr):Bool→V→(Addr→Prop)→Value→Prop where
 | enm {k:Nat} {r t:Addr} {old:Value} (hk:k<H.n) (hne:it ≠ r) (ho:IsEnumOut p.h it r i old t) (h:p.h.IsListIter r (p.ρ k) i):IterJ i p it true (.obj k) (fun a=>a=it∨a=r) (.ref t)
 | of {v:V} {Y:Addr→Prop} {x:Value} (I:IterR false v i p it Y):IterJ i p it false v Y x
abbrev IterO {c:Cx} {H:MH} (en:Bool) (v:V) (i:Nat) (p:P c H) (it:Addr) (Y:Addr→Prop) (x:Value):Prop:=IterJ i p it en v Y x
section
variable {c:Cx} {d:Nat} {A:Around} {m:Fm c d} {L L1 L':LL} {H H0 H1 H':MH} {p q:P c H} {p0:P c H0} {r:P c H1} {X Y:Addr→Prop} {loc it:Addr} {en:Bool} {v:V} {i:Nat}
theorem vol_it {o:Obj} {T:String} (hc:o.cls=.type T) (h1:T ≠ "tuple":=by decide) (h2:T ≠ "range":=by decide):vol o:=vol_of_cls hc h1 h2
theorem IterR.vol (I:IterR en v i p it Y):∀ a,Y a→∃ o,p.h.get? a=some o∧Mine.vol o:=by
 cases I with
 | rng h1=>exact fun a y=>y ▸ ⟨_,h1,vol_it rfl⟩
 | tup h _ _=>obtain ⟨o',h1,hc,_⟩:=h; exact fun a y=>y ▸ ⟨_,h1,vol_it hc⟩
 | lst _ h=>obtain ⟨o',h1,hc,_⟩:=h; exact fun a y=>y ▸ ⟨_,h1,vol_it hc⟩
 | enm _ _ he h=>obtain ⟨o',h1,hc,_⟩:=h; exact fun a y=>y.elim (fun y=>y ▸ ⟨_,he,vol_it rfl⟩) fun y=>y ▸ ⟨_,h1,vol_it hc⟩
theorem Priv.volX (h:Priv loc p Y):∀ a o,Y a→p.h.get? a=some o→Mine.vol o:=fun a o y ho=>let ⟨_,h1,h2⟩:=h.vol a y; Option.some.inj (h1.symm.trans ho) ▸ h2
theorem Kp.mono (k:Kp Y p q) (h:Priv loc p Y):Mono p.w q.w:=⟨Nat.le_refl _,fun _ _=>congrFun k.ρ _,fun a o e hm=>k.keep a o (fun y=>hm (h.volX a o y e)) e⟩
theorem Priv.kp (h:Priv loc p Y) (k:Kp Y p q) (I:IterR en v i q it Y):Priv loc q Y:=⟨fun a y j hj=>k.ρ ▸ h.away a y j hj,h.base,h.loc,I.vol⟩
theorem Priv.ext (h:Priv loc p Y) (E:Ext X p r) (hn:∀ a,Y a→¬ X a):Priv loc r Y :=
 ⟨fun a y=>let ⟨_,ho,_⟩:=h.vol a y; E.ne_fresh ho (h.away a y),h.base,h.loc,fun a y=>let ⟨o,ho,hv⟩:=h.vol a y; ⟨o,E.keep _ _ ho (h.away a y) (hn a y),hv⟩⟩
theorem FrR.kp (F:FrR m L p) (k:Kp Y p q) (h:Priv m.env.locals p Y):FrR m L q:=by
 obtain ⟨⟨f,⟨o,es,ep,ho,hd,r⟩,hm⟩,ha,hb⟩:=F
 refine ⟨⟨f,⟨o,es,ep,k.keep _ _ h.loc ho,hd,r⟩,fun x v h1 h2=>?_⟩,k.ρ ▸ ha,hb⟩
 obtain ⟨val,h3,h4⟩:=hm x v h1 h2
 exact ⟨val,h3,h4.mono (k.mono h)⟩
theorem Ext.tail (e:Ext X p0 p) (hY:∀ a,Y a→p0.h.get? a=none) (k:Kp Y p q):Ext X p0 q:=by
 have ny:∀ b o,p0.h.get? b=some o→¬ Y b:=fun b o hb q=>nomatch (hY b q).symm.trans hb
 exact ⟨e.le,fun j hj=>(congrFun k.ρ j).trans (e.eq j hj),fun b o hb ha hx=>k.keep b o (ny b o hb) (e.keep b o hb ha hx),fun b o hb=>(e.alive b o hb).elim fun o' h'=>⟨o',k.keep b o' (ny b o hb) h'⟩,
  fun j h1 h2=>(congrArg p0.h.get? (congrFun k.ρ j)).trans (e.fresh j h1 h2),k.os.trans e.os⟩
theorem stepY {h':Heap} {t:Nat} (h:Priv loc p Y) (hs:∀ b o,¬ Y b→p.h.get? b=some o→h'.get? b=some o) {Q:Shared→Prop} (k:∀ q:P c H,q.h=h'→Kp Y p q→Q q.s):Q { p.s with heap:=h',toks:=t } :=
 k ⟨p.ρ,_,Rep.others p t (fun a y=>⟨h.away a y,h.base a y,fun o ho=>h.volX a o y ho⟩) hs⟩ rfl ⟨rfl,hs,rfl⟩
theorem IterR.ext (I:IterR en v i p it Y) (h:Priv loc p Y) (E:Ext X p r) (hX:∀ a o,X a→p.h.get? a=some o→Mine.vol o) (hn:∀ a,Y a→¬ X a):IterR en v i r it Y:=by
 have keep:∀ {a:Addr} {o:Obj},Y a→p.h.get? a=some o→r.h.get? a=some o:=fun y ho=>E.keep _ _ ho (h.away _ y) (hn _ y)
 have mono:=E.mono hX
 cases I with
 | rng h1=>exact .rng (keep rfl h1)
 | tup g ht hvs=>obtain ⟨o',h1,r⟩:=g; exact .tup ⟨o',keep rfl h1,r⟩ (IsTuple_keep mono ht) (hvs.mono mono)
 | lst hk g=>obtain ⟨o',h1,r⟩:=g; exact .lst (Nat.lt_of_lt_of_le hk E.le) ⟨o',keep rfl h1,(E.eq _ hk).symm ▸ r⟩
 | enm hk hne he g=>obtain ⟨o',h1,q⟩:=g; exact .enm (Nat.lt_of_lt_of_le hk E.le) hne (keep (.inl rfl) he) ⟨o',keep (.inr rfl) h1,(E.eq _ hk).symm ▸ q⟩
theorem nx_rng {a b:Int} {r:Option V} (e:nextV H (.rng a b) i=some r):(if a+(i:Int)<b then some (V.int (a+i)) else .none)=r:=by
 have e:(if a.natAbs≤1000000∧b.natAbs≤1000000 then some (if a+(i:Int)<b then some (V.int (a+i)) else .none) else .none)=some r:=e
 split at e
 ·exact Option.some.inj e
 ·cases e
theorem nx_inv {j:Nat} {r:Option V} (e:nextV H (.obj j) i=some r):∃ l,H.o j=some (.lst l)∧l[i]?=r∧l.length≤100000:=by
 have e:(match H.o j with
  | some (.lst l)=>if l.length≤100000 then some l[i]? else .none
  | _=>.none)=some r:=e
 cases hl:H.o j with
 | none=>rw [hl] at e; cases e
 | some o =>
  rw [hl] at e
  induction o using MO.casesOn with
  | lst l =>
   by_cases h:l.length≤100000
   ·exact ⟨l,rfl,Option.some.inj ((if_pos h).symm.trans e),h⟩
   ·cases (if_neg h).symm.trans e
  | _=>cases e
theorem arr_get {vs:List Value} {x:Value} (h:vs[i]?=some x):(⟨vs⟩:Array Value)[i]?=some x:=(List.getElem?_toArray ..).trans h
theorem arr_end {w:Vw} {l:List V} {vs:List Value} (h:VRs w l vs) (e:l[i]?=none):(⟨vs⟩:Array Value)[i]?=none:=(List.getElem?_toArray ..).trans (List.getElem?_eq_none (h.length ▸ List.getElem?_eq_none_iff.1 e))
theorem w_next {o:Option V} {Q:Option Value→Shared→Prop} (hh:A.handled=none) (I:IterR en v i p it Y) (h:Priv loc p Y) (e:nextV H v i=some o)
  (ki:∀ a x (q:P c H),o=some a→Kp Y p q→VR q.w (itemV en i a) x→IterO en v (i+1) q it Y x→Q (some x) q.s)
  (ke:∀ q:P c H,o=none→Kp Y p q→Q none q.s):wpAny (model c.prog c.w) A (pyNext (.ref it)) Q noE p.s:=by
 cases I with
 | @rng a b h1 =>
  have e:=nx_rng e
  by_cases hlt:a+(i:Int)<b
  ·rw [if_pos hlt] at e
   refine wpAny_pyNext_range_item h1 (by lia) fun h' hit hs=>?_
   refine stepY (Q:=fun s=>Q (some (.int (a+i) p.s.toks)) s) h (fun b o n e=>(hs.2 b n).trans e) fun q eh k=>ki _ _ q e.symm k ⟨_,rfl⟩ (.of (.rng ?_))
   have e1:a+(i:Int)+1=a+((i+1:Nat):Int):=Int.add_assoc ..
   have e2:((b - a).toNat:Int) - (i:Int) - 1=((b - a).toNat:Int) - ((i+1:Nat):Int):=by lia
   exact eh ▸ e1 ▸ e2 ▸ hit
  ·rw [if_neg hlt] at e
   exact wpAny_pyNext_range_end hh h1 (by lia) fun h' hs=>stepY (t:=p.s.toks) (Q:=fun s=>Q none s) h (fun b o n e=>hs b o n e) fun q _ k=>ke q e.symm k
 | @tup l t vs h1 ht hvs =>
  have e:=Option.some.inj (show some l[i]?=some o from e)
  have hit:t ≠ it:=by
   rintro rfl
   obtain ⟨o,ho,hc,_⟩:=ht
   obtain ⟨o',ho',hc',_⟩:=h1
   cases ho.symm.trans ho'
   exact absurd (Value.type.inj (hc.symm.trans hc')) (by decide)
  induction o using Option.casesOn with
  | some a =>
   obtain ⟨x,hx,hv⟩:=hvs.get e
   exact wpAny_pyNext_tuple_item h1 ht (arr_get hx) fun h' hit' hs=>stepY (t:=p.s.toks) (Q:=fun s=>Q (some x) s) h (fun b o n e=>(hs.2 b n).trans e) fun q eh k =>
    ki a _ q rfl k (hv.mono (k.mono h)) (.of <| .tup (eh ▸ hit') (eh ▸ ht.extBut hs.extBut hit) (hvs.mono (k.mono h)))
  | none=>exact wpAny_pyNext_tuple_end hh h1 ht (arr_end hvs e) fun h' hs=>stepY (t:=p.s.toks) (Q:=fun s=>Q none s) h (fun b o n e=>hs b o n e) fun q _ k=>ke q rfl k
 | @lst j hj h1 =>
  obtain ⟨l,hl,e,_⟩:=nx_inv e
  obtain ⟨vs,hL,hvs⟩:=p.isl hl
  induction o using Option.casesOn with
  | some a =>
   obtain ⟨x,hx,hv⟩:=hvs.get e
   exact wpAny_pyNext_list_item h1 hL (arr_get hx) fun h' hit' hs=>stepY (t:=p.s.toks) (Q:=fun s=>Q (some x) s) h (fun b o n e=>(hs.2 b n).trans e) fun q eh k =>
    ki a _ q rfl k (hv.mono (k.mono h)) (.of <| .lst hj (eh ▸ k.ρ ▸ hit'))
  | none=>exact wpAny_pyNext_list_end hh h1 hL (arr_end hvs e) fun h' hs=>stepY (t:=p.s.toks) (Q:=fun s=>Q none s) h (fun b o n e=>hs b o n e) fun q _ k=>ke q rfl k
 | @enm j r' old hj hne he h1 =>
  obtain ⟨l,hl,e,_⟩:=nx_inv e
  obtain ⟨vs,hL,hvs⟩:=p.isl hl
  induction o using Option.casesOn with
  | some a =>
   obtain ⟨x,hx,hv⟩:=hvs.get e
   exact wpAny_pyNext_enum_item he h1 hL (arr_get hx) hne fun h' ho hit ht hsz hk=>stepY (Q:=fun s=>Q (some (.ref p.h.objs.size)) s) h (fun b o n e=>hk b o (fun z=>n (.inl z)) (fun z=>n (.inr z)) e) fun q eh k =>
    ki a _ q rfl k ⟨_,[.int i p.s.toks,x],rfl,⟨_,eh ▸ ht,rfl,0,rfl⟩,_,_,rfl,⟨_,rfl⟩,x,[],rfl,hv.mono (k.mono h),rfl⟩ (.enm hj hne (eh ▸ ho) (eh ▸ k.ρ ▸ hit))
  | none=>exact wpAny_pyNext_enum_end hh he h1 hL (arr_end hvs e) fun h' hs=>stepY (t:=p.s.toks) (Q:=fun s=>Q none s) h (fun b o n e=>hs b o (fun z=>n (.inr z)) e) fun q _ k=>ke q rfl k
end
end Mine
end
section
namespace Mine
open PySem PySem.W PySem.Calls PyProof.Rows
section
variable {c:Cx} {d:Nat} {A:Around} {m:Fm c d} {L L1 L':LL} {H H0 H1 H':MH} {p q:P c H} {p0:P c H0} {r:P c H1} {X Y:Addr→Prop} {loc it:Addr} {en:Bool} {v:V} {i:Nat}
theorem Kp.refl (Y:Addr→Prop) (p:P c H):Kp Y p p:=⟨rfl,fun _ _ _ e=>e,rfl⟩
theorem letGo_other {s:Shared} {target:Expr} {it:Addr} {x:Value} {QU:Unit→Shared→Prop} {o:Obj} {T:String} (ho:s.heap.get? it=some o) (hc:o.cls=.type T)
  (hT:(["enumerate","zip","dict_itemiterator","dict_reverseitemiterator","odict_iterator","itertools.zip_longest","itertools.pairwise"].contains T)=false) (k:QU () s):wpAny (model c.prog c.w) A (letOwnedTupleGo target (.ref it) x) QU noE s:=by
 have body:∀ elts n pos,wpAny (model c.prog c.w) A (letOwnedTupleGo (.Tuple elts n pos) (.ref it) x) QU noE s:=by
  intro elts n pos
  cases x with
  | ref a =>
   refine wpAny_bind (wpAny_load ho ?_)
   obtain ⟨cl,dd,dt,sl⟩:=o
   replace hc:cl=.type T:=hc
   subst hc
   induction dt using Data.casesOn with
   | fields vs =>
    show wpAny _ _ (if (_ && vs[0]? == some (rawInt a))=true then _ else Pure.pure ()) _ _ _
    rw [hT,Bool.false_and,if_neg Bool.false_ne_true]
    exact wpAny_pure k
   | _=>exact wpAny_pure k
  | _=>exact wpAny_pure k
 induction target using Expr.casesOn with
 | Tuple e n p=>exact body e n p
 | List e p=>exact body e 0 p
 | _=>exact wpAny_pure k
theorem w_letGo {xs:List Nat} {N:List Str} {z:Expr} {x:Value} {QU:Unit→Shared→Prop} (ht:(bif en then Nat.ble 2 xs.length else true)=true) (I:IterO en v i p it Y x) (h:∀ a,Y a→(∀ k,k<H.n→p.ρ k ≠ a)∧c.h₀.get? a=none)
  (k:∀ q:P c H,Kp Y p q→(∀ a o,Y a→p.h.get? a=some o→Mine.vol o)→IterR en v i q it Y→QU () q.s):wpAny (model c.prog c.w) A (letOwnedTupleGo (upT N xs z) (.ref it) x) QU noE p.s:=by
 cases I with
 | @enm j r t old hj hne ho hit =>
  have vols:∀ a o,(a=it∨a=r)→p.h.get? a=some o→vol o:=by
   rintro a o (rfl | rfl) q
   ·exact Option.some.inj ((show p.h.get? _=_ from ho).symm.trans q) ▸ vol_it rfl
   ·obtain ⟨o',h1,hc,_⟩:=hit
    exact Option.some.inj (h1.symm.trans q) ▸ vol_it hc
  match xs,ht with
  | _::_::_,_ =>
   refine wpAny_letOwnedTupleGo_enum ho fun h' he hs=>?_
   have hk:∀ b o,¬ (b=it∨b=r)→p.h.get? b=some o→h'.get? b=some o:=fun b o hb e=>(hs.2 b fun z=>hb (.inl z)).trans e
   exact k ⟨p.ρ,_,Rep.others p p.s.toks (fun a y=>⟨(h a y).1,(h a y).2,fun o ho=>vols a o y ho⟩) hk⟩ ⟨rfl,hk,rfl⟩ vols (.enm hj hne he (hit.extBut hs.extBut (Ne.symm hne)))
 | of I =>
  have vols:∀ a o,Y a→p.h.get? a=some o→vol o:=fun a o y ho=>let ⟨_,h1,h2⟩:=IterR.vol I a y; Option.some.inj (h1.symm.trans ho) ▸ h2
  have fin:=k p (Kp.refl ..) vols I
  cases I with
  | rng h1=>exact letGo_other h1 rfl (by decide) fin
  | tup g _ _=>obtain ⟨o',h1,hc,_⟩:=g; exact letGo_other h1 hc (by decide) fin
  | lst _ g=>obtain ⟨o',h1,hc,_⟩:=g; exact letGo_other h1 hc (by decide) fin
theorem w_iter {x:Value} {o:Option V} {Q:Value→Shared→Prop} (hl:∃ o,p.h.get? loc=some o) (e:nextV H v 0=some o) (hx:VR p.w v x)
  (k:∀ it Y (q:P c H),Ext noX p q→(∀ a,Y a→p.h.get? a=none)→Priv loc q Y→IterR false v 0 q it Y→Q (.ref it) q.s):wpAny (model c.prog c.w) A (pyIter x) Q noE p.s:=by
 have hloc:p.h.objs.size ≠ loc:=fun q=>hl.elim fun o ho=>nomatch (q ▸ size_none p.h).symm.trans ho
 have fin:∀ {ob:Obj},ob.isFreed=false→(∀ q:P c H,q.ρ=p.ρ→q.h=p.h.push ob→Ext noX p q→IterR false v 0 q p.h.objs.size (onlyX p.h.objs.size))→Q (.ref p.h.objs.size) { p.s with heap:=p.h.push ob }:=fun {ob} _ I=>by
  have I:=I (p.grown p.s.toks fun _ _ e=>Heap.get?_push_of_some _ e) rfl rfl (.grown ..)
  exact k _ (onlyX p.h.objs.size) _ (.grown p p.s.toks fun _ _ e=>Heap.get?_push_of_some _ e) (fun a q=>q ▸ size_none p.h) ⟨fun a q=>q ▸ p.awayNone (size_none p.h),fun a q=>q ▸ p.free (size_none p.h),fun q=>hloc q.symm,I.vol⟩ I
 induction v using V.casesOn with
 | rng a b =>
  have e:(if a.natAbs≤1000000∧b.natAbs≤1000000 then some (if a+((0:Nat):Int)<b then some (V.int (a+((0:Nat):Int))) else .none) else .none)=some o:=e
  by_cases hab:a.natAbs≤1000000∧b.natAbs≤1000000
  ·rw [if_pos hab] at e
   obtain ⟨rr,t,u,v,rfl,hr⟩:=hx
   refine wpAny_pyIter_range hr (range_small hab.1 hab.2) (fin rfl fun q _ eh _=>.rng ?_)
   rw [eh,range_size,show a+((0:Nat):Int)=a from Int.add_zero a,show ((b - a).toNat:Int) - ((0:Nat):Int)=((b - a).toNat:Int) from Int.sub_zero _]
   exact Heap.get?_push_size _ rfl
  ·cases (if_neg hab).symm.trans e
 | tup l =>
  obtain ⟨t,vs,rfl,ht,hvs⟩:=hx
  exact wpAny_pyIter_tuple ht (fin rfl fun q _ eh E=>.tup ⟨_,eh ▸ Heap.get?_push_size _ rfl,rfl,rfl⟩ (eh ▸ ht.push _) (hvs.mono E.m))
 | obj j =>
  obtain ⟨hj,rfl⟩:=hx
  obtain ⟨l,hl,_,_⟩:=nx_inv e
  obtain ⟨vs,hL,hvs⟩:=p.isl hl
  exact wpAny_pyIter_list hL (fin rfl fun q er eh _=>.lst hj ⟨_,eh ▸ Heap.get?_push_size _ rfl,rfl,er ▸ rfl⟩)
 | _=>cases e
theorem assignEach_len {env:Env} {N:List Str} {ln:Nat}:∀ {xs:List Nat} {zs:List Expr},(assignEach (upNs N ln xs zs) env).length=xs.length∧(assignEach (upNs N ln xs zs) env).findIdx? (·.1)=none
 | [],_=>⟨rfl,rfl⟩
 | x::xs,zs=>by
  have ih:=assignEach_len (env:=env) (N:=N) (ln:=ln) (xs:=xs) (zs:=zs.tail)
  refine ⟨congrArg Nat.succ ih.1,?_⟩
  show ((false,assign (.Name (nmAt N x) _) env)::assignEach (upNs N ln xs zs.tail) env).findIdx? (·.1)=none
  rw [List.findIdx?_cons,ih.2]
  rfl
theorem sim_names {ln:Nat} {QU:Unit→Shared→Prop} (xs:List Nat):∀ (zs:List Expr) (vs:List V) (ws:List Value) (L L':LL) (p:P c H),FrR m L p→okT m.sc m.N xs=true→bindAll L xs vs=some L'→VRs p.w vs ws →
  (∀ q:P c H,Ext (onlyX m.env.locals) p q→FrR m L' q→QU () q.s)→wpAny (model c.prog c.w) m.A (assignInOrder ((assignEach (upNs m.N ln xs zs) m.env).map (·.2)) ws) QU noE p.s:=by
 induction xs with
 | nil =>
  intro zs vs ws L L' p F o e hv k
  induction vs using List.casesOn with
  | nil=>exact wpAny_pure (k p (.refl ..) (Option.some.inj (show some L=some L' from e) ▸ F))
  | cons=>cases e
 | cons x xs ih =>
  intro zs vs ws L L' p F o e hv k
  induction vs using List.casesOn with
  | nil=>cases e
  | cons v vs =>
   obtain ⟨y,r,rfl,h1,h2⟩:=hv
   show wpAny _ _ (PySem.holding r (assign (.Name (nmAt m.N x) _) m.env y) >>= fun _=>assignInOrder ((assignEach (upNs m.N ln xs zs.tail) m.env).map (·.2)) r) _ _ _
   exact wpAny_bind (wpAny_holding (wpAny_assign_Name (sim_store F (and_l o) h1 fun q E1 F1 =>
    ih zs.tail vs r _ L' q F1 (and_r o) e (h2.mono (E1.mono F.volX)) fun q2 E2 F2=>k q2 (E1.trans E2) F2)))
theorem bindAll_length:∀ {xs:List Nat} {vs:List V} {L L':LL},bindAll L xs vs=some L'→xs.length=vs.length
 | [],[],_,_,_=>rfl
 | x::xs,v::vs,L,L',e=>congrArg Nat.succ (bindAll_length (show bindAll (L.put x v) xs vs=some L' from e))
 | [],_::_,_,_,e=>nomatch e
 | _::_,[],_,_,e=>nomatch e
theorem sim_tuple {n:Nat} {ln:Nat} {pos:Pos} {zs:List Expr} {xs:List Nat} {l:List V} {x:Value} {QU:Unit→Shared→Prop} (F:FrR m L p) (o:okT m.sc m.N xs=true) (e:bindAll L xs l=some L') (hx:VR p.w (.tup l) x)
  (k:∀ q:P c H,Ext (onlyX m.env.locals) p q→FrR m L' q→QU () q.s):wpAny (model c.prog c.w) m.A (assign (.Tuple (upNs m.N ln xs zs) n pos) m.env x) QU noE p.s:=by
 obtain ⟨t,vs,rfl,ht,hvs⟩:=hx
 have l1:=assignEach_len (env:=m.env) (N:=m.N) (ln:=ln) (xs:=xs) (zs:=zs)
 rw [arm_assign_Tuple]
 refine wpAny_bind (wpAny_standAt (wpAny_unpack_tuple m.ok.1 ht (l1.1.trans ((bindAll_length e).trans hvs.length.symm)) l1.2 fun h' he=>?_))
 have ke:∀ b o,p.h.get? b=some o→h'.get? b=some o:=fun b o q=>he b o (Nat.ne_of_lt (Heap.lt_size q)) q
 have E1:=Ext.grown p p.s.toks ke
 exact sim_names xs zs l vs L L' (p.grown p.s.toks ke) (F.ext E1) o e (hvs.mono E1.m) fun q E2 F2=>k q (E1.lift.trans E2) F2
theorem bindItem_inv {xs:List Nat} (e:bindItem L xs v=some L'):(∃ y,xs=[y]∧L.put y v=L')∨∃ l,v=.tup l∧bindAll L xs l=some L'∧∀ N z,upT N xs z=.Tuple (upNs N (ps z).line xs (xl z)) (xn z) (ps z):=by
 have tup:∀ {xs:List Nat},(match (generalizing:=false) v with | .tup l=>bindAll L xs l | _=>none)=some L'→∃ l,v=.tup l∧bindAll L xs l=some L':=by
  intro xs e
  cases v <;> first | exact ⟨_,rfl,e⟩ | cases e
 match xs,e with
 | [y],e=>exact .inl ⟨y,rfl,Option.some.inj e⟩
 | [],e=>exact .inr ((tup e).imp fun l h=>⟨h.1,h.2,fun _ _=>rfl⟩)
 | y::z::r,e=>exact .inr ((tup e).imp fun l h=>⟨h.1,h.2,fun _ _=>rfl⟩)
theorem sim_target {zt:Expr} {xs:List Nat} {x:Value} {QU:Unit→Shared→Prop} (F:FrR m L p) (o:okT m.sc m.N xs=true) (e:bindItem L xs v=some L') (hx:VR p.w v x)
  (k:∀ q:P c H,Ext (onlyX m.env.locals) p q→FrR m L' q→QU () q.s):wpAny (model c.prog c.w) m.A (assign (upT m.N xs zt) m.env x) QU noE p.s:=by
 rcases bindItem_inv e with ⟨y,rfl,rfl⟩ | ⟨l,rfl,e,h⟩
 ·exact wpAny_assign_Name (sim_store F (and_l o) hx k)
 ·rw [h]
  exact sim_tuple F o e hx k
end
end Mine
end
section
namespace Mine
open PySem PySem.W PySem.Calls PyProof.Rows
structure Co (c:Cx) (d:Nat) (e:E) (xs:List Nat) (en:Bool) (v:V) (k mm i:Nat) (L:LL) (H H':MH):Prop where
 r:∀ (m:Fm c d) (z zt iter:Expr) (scp:Scope) (pos:Pos) (p:P c H) (it:Addr) (Y:Addr→Prop) {H0:MH} (p0:P c H0),ok m.sc m.N e z=true→okT m.sc m.N xs=true→(bif en then Nat.ble 2 xs.length else true)=true→FrR m L p→IterR en v i p it Y→Priv m.env.locals p Y →
  Ext noX p0 p→(∀ a,Y a→p0.h.get? a=none)→p0.h.get? m.env.locals=none→k<H.n→∀ QF:Flow→Shared→Prop,
  (∀ q:P c H',Ext noX p0 q→(∃ f,q.h.Ns m.env.locals f)→(∀ j,j<H'.n→q.ρ j ≠ m.env.locals)→k<H'.n→q.ρ k=p.ρ k→QF .next q.s) →
  codeG (model c.prog c.w) m.A (.compLoop (.ListComp (up m.N e z) [⟨upT m.N xs zt,iter,[],0⟩] scp pos) 0 (.ref it) (.ref (p.ρ k)) m.env) QF p.s
section
variable {c:Cx} {d:Nat} {A:Around} {m:Fm c d} {L L1 L2 L':LL} {H H0 H1 H2 H':MH} {p q:P c H} {p0:P c H0} {r:P c H1} {X Y:Addr→Prop} {loc it:Addr} {en:Bool} {v x y:V} {i:Nat} {e t:E} {xs:List Nat}
theorem folded_of {env:Env} {z:Expr} (h:notSet z=true) (x:Value):foldedSetIterable z env x=pure x:=by
 cases z <;> first | rfl | cases h
theorem folded_it {N:List Str} {sc:Scope} {env:Env} {z:Expr} (h:okI sc N en t z=true) (x:Value):foldedSetIterable (upI N en t z) env x=pure x:=by
 cases en
 ·exact folded_of (and_r (show (ok sc N t z && notSet (up N t z))=true from h)) x
 ·rfl
theorem sim_start {o:Option V} {z:Expr} (e1:Ev c d t L H v H1) (hok:iterOk en v=true) (hr:nextV H1 v 0=some o) (h:okI m.sc m.N en t z=true) (F:FrR m L p) {Q:Value→Shared→Prop}
  (kk:∀ I Y (q:P c H1),Ext noX p q→(∀ a,Y a→p.h.get? a=none)→Priv m.env.locals q Y→IterR en v 0 q I Y→Q (.ref I) q.s) :
  wpG (model c.prog c.w) m.A (eval (upI m.N en t z) m.env) (fun x s₁=>wpG (model c.prog c.w) m.A (pyIter x) Q s₁) p.s:=by
 induction en using Bool.casesOn with
 | false =>
  have h:(ok m.sc m.N t z && notSet (up m.N t z))=true:=h
  exact e1.r m z p (and_l h) F _ fun x q1 E1 hx=>G.of (w_iter (loc:=m.env.locals) ((F.ext E1).vol.imp fun _ h=>h.1) hr hx fun I Y q2 E2 hY hP hI=>kk I Y q2 (E1.trans E2) (fun a q=>E1.none_of (hY a q)) hP hI)
 | true =>
  have h:(okG m.sc sEnum && (ok m.sc m.N t (hd (xl z)) && notStar (up m.N t (hd (xl z)))))=true:=h
  induction v using V.casesOn with
  | obj j =>
   refine G.Call rfl (G.of (glo_name m (and_l h) ?_ (val:=.type "enumerate") ?_))
   ·obtain ⟨mg,hg,hg2,hb⟩:=c.W.en
    exact ⟨mg,hg,.inr ⟨hg2,hb⟩⟩
   ·have hstar:backTo (ps z) (starEach [up m.N t (hd (xl z))] m.env)=[(false,eval (up m.N t (hd (xl z))) m.env)]:=congrArg (backTo _) (starEach_cons (r:=[]) (and_r (and_r h)))
    rw [hstar]
    refine G.callWith (k:=.machine) rfl (G.evalArgs rfl (G.spliced_cons (e1.r m _ p (and_l (and_r h)) F _ fun x q1 E1 hx=>G.spliced_nil ⟨rfl,wpAny_pure ⟨rfl,rfl⟩,?_⟩)))
    obtain ⟨hj,rfl⟩:=hx
    obtain ⟨l,hl,_,_⟩:=nx_inv hr
    obtain ⟨vs,hL,hvs⟩:=q1.isl hl
    obtain ⟨of,hof,_⟩:=(F.ext E1).vol
    have hn1:q1.h.get? (q1.h.objs.size+1)=none:=Heap.get?_none_of_le (Nat.le_succ _)
    refine G.of (call_enumerate_list hL fun h' hE hit hsz hk=>G.of (wpAny_pyIter_enum hE ?_))
    have hY:∀ a,(a=q1.h.objs.size+1∨a=q1.h.objs.size)→q1.h.get? a=none:=fun a q=>q.elim (fun q=>q ▸ hn1) fun q=>q ▸ size_none _
    have hI:IterR true (.obj j) 0 (q1.grown q1.s.toks hk) (q1.h.objs.size+1) (fun a=>a=q1.h.objs.size+1∨a=q1.h.objs.size):=.enm hj (Nat.succ_ne_self _) hE hit
    exact kk _ _ (q1.grown q1.s.toks hk) (E1.trans (.grown ..)) (fun a q=>E1.none_of (hY a q)) ⟨fun a q=>q1.awayNone (hY a q),fun a q=>q1.free (hY a q),fun q=>(nomatch (hY _ q).symm.trans hof),hI.vol⟩ hI
  | _=>cases hok
theorem co_end {k mm:Nat} (g:nextV H v i=some .none):Co c d e xs en v k (mm+1) i L H H :=
 ⟨fun m z zt iter scp pos p it Y H0 p0 o ot oe F I hP E0 hY hl hk QF kk=>G.code_compLoop (G.of (w_next m.ok.1 I hP g (fun a x q h=>nomatch h) fun q _ K=>by
  obtain ⟨f,hf,_⟩:=(F.kp K hP).ns
  exact kk q (E0.tail hY K) ⟨f,hf⟩ (F.kp K hP).away hk (congrFun K.ρ k)))⟩
theorem Kp.trans {q3:P c H} (k:Kp Y p q) (k':Kp Y q q3):Kp Y p q3:=⟨k'.ρ.trans k.ρ,fun b o hb e=>k'.keep b o hb (k.keep b o hb e),k'.os.trans k.os⟩
theorem w_item {zt:Expr} {a:V} {K:Unit→Shared→Prop} {Q:Option Value→Shared→Prop} (ot:okT m.sc m.N xs=true) (oe:(bif en then Nat.ble 2 xs.length else true)=true) (g:nextV H v i=some (some a)) (b:bindItem L xs (itemV en i a)=some L1) (F:FrR m L p) (I:IterR en v i p it Y) (hP:Priv m.env.locals p Y)
  (kk:∀ q3 q2:P c H,Kp Y p q2→Ext (onlyX m.env.locals) q2 q3→FrR m L1 q3→IterR en v (i+1) q3 it Y→Priv m.env.locals q3 Y→K () q3.s)
  (kq:∀ x s,wpG (model c.prog c.w) m.A (letOwnedTupleGo (upT m.N xs zt) (.ref it) x) (fun _ s₂=>wpG (model c.prog c.w) m.A (assign (upT m.N xs zt) m.env x) K s₂) s→Q (some x) s):wpG (model c.prog c.w) m.A (pyNext (.ref it)) Q p.s :=
 G.of (w_next m.ok.1 I hP g (fun a' x q h K1 hx hO=>kq x q.s (by
  cases h
  refine G.of (w_letGo oe hO (fun a y=>⟨K1.ρ ▸ hP.away a y,hP.base a y⟩) fun q2 K2 v2 I2=>?_)
  have K12:=K1.trans K2
  have F2:=F.kp K12 hP
  have P2:=hP.kp K12 I2
  have hx2:VR q2.w (itemV en i a) x:=hx.mono (w:=q.w) (w':=q2.w) ⟨Nat.le_refl _,fun _ _=>congrFun K2.ρ _,fun a o e hm=>K2.keep a o (fun y=>hm (v2 a o y e)) e⟩
  refine G.of (sim_target F2 ot b hx2 fun q3 E3 F3=>?_)
  have hn:∀ a,Y a→¬ onlyX m.env.locals a:=fun a y e=>hP.loc (e ▸ y)
  exact kk q3 q2 K12 E3 F3 (I2.ext P2 E3 F2.volX hn) (P2.ext E3 hn))) fun q h=>nomatch h)
theorem Ext.only (E:Ext noX p0 p) (E':Ext (onlyX loc) p r) (h:p0.h.get? loc=none):Ext noX p0 r:=((E.lift (X:=onlyX loc)).trans E').drop fun a q=>.inr (q ▸ h)
theorem co_nx {k mm:Nat} {l:List V} (g:nextV H v i=some (some x)) (b:bindItem L xs (itemV en i x)=some L1) (e1:Ev c d e L1 H y H1) (o1:H1.o k=some (.lst l)) (s:l.length≤100000) (r:Co c d e xs en v k mm (i+1) L1 (H1.put k (.lst (l++[y]))) H'):Co c d e xs en v k (mm+1) i L H H' :=
 ⟨fun m z zt iter scp pos p it Y H0 p0 o ot oe F I hP E0 hY hl hk QF kk=>G.code_compLoop (w_item (zt:=zt) ot oe g b F I hP (K:=fun _ s₃=>wpG (model c.prog c.w) m.A (eval (up m.N e z) m.env) (fun x s₄=>wpG (model c.prog c.w) m.A (PySem.call (.builtin "list.append") [.ref (p.ρ k),x]) (fun _ s₅=>codeG (model c.prog c.w) m.A (.compLoop (.ListComp (up m.N e z) [⟨upT m.N xs zt,iter,[],0⟩] scp pos) 0 (.ref it) (.ref (p.ρ k)) m.env) QF s₅) s₄) s₃)
  (fun q3 q2 K2 E3 F3 I3 P3=>e1.r m z q3 o F3 _ fun yv q4 E4 hy=>by
   have e4:q4.ρ k=p.ρ k:=(E4.eq k hk).trans ((E3.eq k hk).trans (congrFun K2.ρ k))
   have hk4:k<H1.n:=Nat.lt_of_lt_of_le hk E4.le
   rw [← e4]
   have I4:=I3.ext P3 E4 (fun _ _ q=>q.elim) fun a _ q=>q.elim
   have P4:=P3.ext E4 fun a _ q=>q.elim
   refine G.of (does_append o1 s hy _ fun _ q5 E5 _=>?_)
   have e5:q5.ρ k=q4.ρ k:=E5.eq k hk4
   rw [← e5]
   refine r.r m z zt iter scp pos q5 it Y p0 o ot oe ((F3.ext E4).ext E5) (I4.ext P4 E5 (fun _ _ q=>q.elim) fun a _ q=>q.elim) (P4.ext E5 fun a _ q=>q.elim) ((((E0.tail hY K2).only E3 hl).trans E4).trans E5) hY hl (Nat.lt_of_lt_of_le hk4 E5.le) QF fun q E n a hk6 e6=>kk q E n a hk6 (e6.trans (e5.trans e4)))
  fun x s h=>h)⟩
theorem w_reiter {Q:Value→Shared→Prop} (I:IterR en v i p it Y) (k:Q (.ref it) p.s):wpAny (model c.prog c.w) A (pyIter (.ref it)) Q noE p.s:=by
 cases I with
 | rng h=>exact wpAny_pyIter_rangeiter h k
 | tup h _ _=>exact wpAny_pyIter_tupleiter h k
 | lst _ h=>exact wpAny_pyIter_listiter h k
 | enm _ _ he _=>exact wpAny_pyIter_enum he k
theorem gone {f:Str→Option Value} {h':Heap} {H'':MH} {q:P c H''} (hn:q.h.Ns loc f) (ha:∀ k,k<H''.n→q.ρ k ≠ loc) (hb:p0.h.get? loc=none) (hs:Heap.SameBut loc q.h h') {Q:Shared→Prop} (E:Ext X p0 q) (k:∀ q':P c H'',Kp (onlyX loc) q q'→Ext X p0 q'→Mono q.w q'.w→Q q'.s):Q { q.s with heap:=h' }:=by
 obtain ⟨o,es,ep,ho,hd,_⟩:=hn
 have hv:∀ a o,onlyX loc a→q.h.get? a=some o→vol o:=fun a o' e h=>Option.some.inj (((congrArg q.h.get? (show a=loc from e)).trans ho).symm.trans h) ▸ vol_of_dict hd
 have hk:∀ b o,¬ onlyX loc b→q.h.get? b=some o→h'.get? b=some o:=fun b o n e=>(hs.2 b n).trans e
 have R:=Rep.others (X:=onlyX loc) q q.s.toks (fun a e=>⟨by cases e; exact ha,by cases e; exact p0.free hb,fun o ho=>hv a o e ho⟩) hk
 have K:Kp (onlyX loc) q ⟨q.ρ,_,R⟩:=⟨rfl,hk,rfl⟩
 exact k ⟨q.ρ,_,R⟩ K (E.tail (fun a e=>by cases e; exact hb) K) ⟨Nat.le_refl _,fun _ _=>rfl,fun a o e hm=>hk a o (fun y=>hm (hv a o y e)) e⟩
theorem sim_comp {o:Option V} {mm:Nat} {names:List Str} {z:Expr} {pos:Pos} (e1:Ev c d t L H v H1) (h:iterOk en v=true) (g:nextV H1 v 0=some o) (r:Co c d e (List.range names.length) en v H1.n mm 0 noL (H1.new (.lst [])) H2) (oc:ok m.sc m.N (.comp en e names t) z=true) (F:FrR m L p) {QQ:Value→Addr→Shared→Prop}
  (kk:∀ acc loc (q:P c H2),Ext noX p q→VR q.w (.obj H1.n) acc→(∃ f,q.h.Ns loc f)→p.h.get? loc=none→(∀ k,k<H2.n→q.ρ k ≠ loc)→QQ acc loc q.s) :
  wpG (model c.prog c.w) m.A (eval (upI m.N en t (x1 z)) m.env) (fun x s₁=>wpG (model c.prog c.w) m.A (pyIter x) (fun it s₂=>wpG (model c.prog c.w) m.A (newList []) (fun acc s₃=>wpG (model c.prog c.w) m.A (newFunctionEnv (Mine.xs z) m.env.globals [] [] m.env.qual none .none (some m.env)) (fun cenv s₄ =>
   codeG (model c.prog c.w) m.A (.compStart (.ListComp (up names e (x0 z)) [⟨upT names (List.range names.length) (x2 z),upI m.N en t (x1 z),[],0⟩] (Mine.xs z) pos) 0 it acc { cenv with scope:=Mine.xs z }) (fun _ s'=>QQ acc cenv.locals s') s₄) s₃) s₂) s₁) p.s:=by
 have oc:(ok (Mine.xs z) names e (x0 z) && (okT (Mine.xs z) names (List.range names.length) && (okC (Mine.xs z) names && (okI m.sc m.N en t (x1 z) && (bif en then Nat.ble 2 names.length else true)))))=true:=oc
 have okc:((Mine.xs z).kind == .function && (((Mine.xs z).names.all fun x=>x.2 != .free && x.2 != .cell) && (((Mine.xs z).names.all fun x=>x.2 != .local || (Mine.xs z).names.lookup x.1 == some .local) && decide names.Nodup)))=true:=and_l (and_r (and_r oc))
 have hkind:(Mine.xs z).kind=.function:=beq_iff_eq.1 (and_l okc)
 refine sim_start e1 h g (and_l (and_r (and_r (and_r oc)))) F fun I Y q1 E1 hY hP hI=>?_
 refine G.of (does_list (l:=[]) (vs:=[]) (p:=q1) rfl (fun Q k=>wpAny_newList (k q1.s.toks)) _ fun acc q2 E2 hacc=>?_)
 have nX:∀ a,Y a→¬ noX a:=fun _ _ q=>q
 have I2:=hI.ext hP E2 (fun _ _ q=>q.elim) nX
 have P2:=hP.ext E2 nX
 refine G.of (wpAny_newFunctionEnv (fun x hx=>(bne_iff_ne.1 (and_r (List.all_eq_true.1 (and_l (and_r okc)) x hx)))) (fun x q=>nomatch q) (fun h' hns hs=>?_) hkind)
 have ke:∀ b o,q2.h.get? b=some o→h'.get? b=some o:=fun b o e=>(hs.2 b (Nat.ne_of_lt (Heap.lt_size e))).trans (Heap.get?_push_of_some _ e)
 have E3:=Ext.grown q2 (q2.s.toks+([]:List (Str × Value)).length) ke
 have hne:¬ Y q2.h.objs.size:=fun y=>(P2.vol _ y).elim fun o h=>nomatch h.1.symm.trans (size_none q2.h)
 have P3:=P2.ext E3 nX
 have hs0:p.h.get? q2.h.objs.size=none:=(E1.trans E2).none_of (size_none _)
 obtain ⟨_,rfl⟩:=hacc
 let m':Fm c d:=⟨m.A,m.ok,{ newEnv (Mine.xs z) q2.h.objs.size m.env.globals [] m.env.qual none .none (some m.env) 0 with scope:=Mine.xs z },names,hkind,m.glo,m.blt,of_decide_eq_true (and_r (and_r (and_r okc)))⟩
 have loop:=r.r m' (x0 z) (x2 z) (upI m.N en t (x1 z)) (Mine.xs z) pos (q2.grown (q2.s.toks+([]:List (Str × Value)).length) ke) I Y p (and_l oc) (and_l (and_r oc)) (by rw [List.length_range]; exact and_r (and_r (and_r (and_r oc))))
  ⟨⟨_,hns,fun x v _ q=>nomatch q⟩,q2.awayNone (size_none _),q2.free (size_none _)⟩ (I2.ext P2 E3 (fun _ _ q=>q.elim) nX) ⟨P3.away,P3.base,hne,P3.vol⟩ ((E1.trans E2).trans E3) hY hs0 (Nat.lt_succ_self _) (fun _ s'=>QQ (.ref (q2.ρ H1.n)) q2.h.objs.size s') fun q E n a hk e=>kk _ _ q E ⟨hk,congrArg Value.ref e.symm⟩ n hs0 a
 exact G.code_compStart loop (w_reiter (I2.ext P2 E3 (fun _ _ q=>q.elim) nX) loop)
theorem comp_sc {names:List Str} {sc:Scope} (okc:okC sc names=true):(∀ x ∈ sc.names,x.2 ≠ .free)∧sc.kind=.function∧∀ x ∈ sc.names,x.2=.local→sc.names.lookup x.1=some .local:=by
 have okc:(sc.kind == .function && ((sc.names.all fun x=>x.2 != .free && x.2 != .cell) && ((sc.names.all fun x=>x.2 != .local || sc.names.lookup x.1 == some .local) && decide names.Nodup)))=true:=okc
 refine ⟨fun x hx=>bne_iff_ne.1 (and_l (List.all_eq_true.1 (and_l (and_r okc)) x hx)),beq_iff_eq.1 (and_l okc),fun x hx e=>?_⟩
 have:=List.all_eq_true.1 (and_l (and_r (and_r okc))) x hx
 rw [e] at this
 exact beq_iff_eq.1 this
theorem d_comp {o:Option V} {mm:Nat} {names:List Str} (e1:Ev c d t L H v H1) (h:iterOk en v=true) (g:nextV H1 v 0=some o) (k:mm=mm) (r:Co c d e (List.range names.length) en v H1.n mm 0 noL (H1.new (.lst [])) H2):Ev c d (.comp en e names t) L H (.obj H1.n) H2 :=
 ⟨fun m z p oc F Q kk=>by
  have oc':(ok (Mine.xs z) names e (x0 z) && (okT (Mine.xs z) names (List.range names.length) && (okC (Mine.xs z) names && (okI m.sc m.N en t (x1 z) && (bif en then Nat.ble 2 names.length else true)))))=true:=oc
  obtain ⟨c1,c2,c3⟩:=comp_sc (and_l (and_r (and_r oc')))
  exact G.ListComp (folded_it (and_l (and_r (and_r (and_r oc'))))) c1 c2 c3 (sim_comp e1 h g r oc F (QQ:=fun acc loc s'=>∃ f,s'.heap.Ns loc f∧∀ h',Heap.SameBut loc s'.heap h'→Q acc { s' with heap:=h' }) fun acc loc q E hv ⟨f,hn⟩ hb ha=>⟨f,hn,fun h' hs=>gone (Q:=fun s=>Q acc s) hn ha hb hs E fun q' K E' mo=>kk acc q' E' (hv.mono mo)⟩)⟩
end
end Mine
end
section
namespace Mine
open PySem PySem.W PySem.Calls PyProof.Rows
def FlR (w:Vw):Fl→Flow→Prop
 | .next,f=>f=.next
 | .brk,f=>f=.brk
 | .ret v,f=>∃ x,f=.ret x∧VR w v x
def DoesS (c:Cx) {d:Nat} (m:Fm c d) {H:MH} (t:Sem Flow) (p:P c H) (fl:Fl) (L':LL) (H':MH):Prop :=
 ∀ QF:Flow→Shared→Prop,(∀ f (q:P c H'),FlR q.w fl f→Ext (onlyX m.env.locals) p q→FrR m L' q→QF f q.s)→wpG (model c.prog c.w) m.A t QF p.s
structure Ex (c:Cx) (d:Nat) (s:S) (L:LL) (H:MH) (fl:Fl) (L':LL) (H':MH):Prop where
 r:∀ (m:Fm c d) (z:Stmt) (p:P c H),okS m.sc m.N s z=true→FrR m L p→DoesS c m (exec (sp m.N s z) m.env) p fl L' H'
structure Rn (c:Cx) (d:Nat) (l:List S) (L:LL) (H:MH) (fl:Fl) (L':LL) (H':MH):Prop where
 r:∀ (m:Fm c d) (z:List Stmt) (p:P c H),okSs m.sc m.N l z=true→FrR m L p→DoesS c m (execs (sps m.N l z) m.env) p fl L' H'
structure Wh (c:Cx) (d:Nat) (t:E) (l:List S) (mm:Nat) (L:LL) (H:MH) (fl:Fl) (L':LL) (H':MH):Prop where
 r:∀ (m:Fm c d) (zt:Expr) (zb:List Stmt) (p:P c H),ok m.sc m.N t zt=true→okSs m.sc m.N l zb=true→FrR m L p→∀ QF:Flow→Shared→Prop,(∀ f (q:P c H'),FlR q.w fl f→Ext (onlyX m.env.locals) p q→FrR m L' q→QF f q.s) →
  codeG (model c.prog c.w) m.A (.whileLoop (up m.N t zt) (sps m.N l zb) [] m.env) QF p.s
structure Fo (c:Cx) (d:Nat) (en:Bool) (xs:List Nat) (l:List S) (v:V) (mm i:Nat) (L:LL) (H:MH) (fl:Fl) (L':LL) (H':MH):Prop where
 r:∀ (m:Fm c d) (zt:Expr) (zb:List Stmt) (p:P c H) (it:Addr) (Y:Addr→Prop) {H0:MH} (p0:P c H0),okT m.sc m.N xs=true→okSs m.sc m.N l zb=true→(bif en then Nat.ble 2 xs.length else true)=true→FrR m L p→IterR en v i p it Y→Priv m.env.locals p Y →
  Ext (onlyX m.env.locals) p0 p→(∀ a,Y a→p0.h.get? a=none)→∀ QF:Flow→Shared→Prop,(∀ f (q:P c H'),FlR q.w fl f→Ext (onlyX m.env.locals) p0 q→FrR m L' q→QF f q.s) →
  codeG (model c.prog c.w) m.A (.forLoop (upT m.N xs zt) (.ref it) (sps m.N l zb) [] m.env) QF p.s
section
variable {c:Cx} {d:Nat} {m:Fm c d} {L L1 L2 L':LL} {H H1 H2 H3 H':MH} {p:P c H} {q:P c H1} {e a b t:E} {x y z v w:V} {i j:Int} {fl:Fl} {X:Addr→Prop} {l:List S}
theorem r_nil:Rn c d [] L H .next L H:=⟨fun m z p _ F QF kk=>G.execs_nil (kk _ p rfl (.refl ..) F)⟩
def Rk (c:Cx) (d:Nat) (l:List S):Fl→LL→MH→Fl→LL→MH→Prop
 | .next,L,H,fl,L',H'=>Rn c d l L H fl L' H'
 | x,L,H,fl,L',H'=>fl=x∧L'=L∧H'=H
theorem k_next (p:Rn c d l L1 H1 fl L' H2):Rk c d l .next L1 H1 fl L' H2:=p
theorem k_ret:Rk c d l (.ret v) L1 H1 (.ret v) L1 H1:=⟨rfl,rfl,rfl⟩
theorem k_brk:Rk c d l .brk L1 H1 .brk L1 H1:=⟨rfl,rfl,rfl⟩
theorem r_cons {s:S} {f:Fl} (e1:Ex c d s L H f L1 H1) (r:Rk c d l f L1 H1 fl L' H2):Rn c d (s::l) L H fl L' H2 :=
 ⟨fun m z p o F QF kk=>G.execs_cons (e1.r m _ p (and_l o) F _ fun fw q hf E F1=>by
  cases f with
  | next =>
   obtain rfl:=hf
   exact r.r m _ q (and_r o) F1 QF fun fw q2 hf E2 F2=>kk fw q2 hf (E.trans E2) F2
  | brk =>
   obtain rfl:=hf
   obtain ⟨rfl,rfl,rfl⟩:=r
   exact kk _ q rfl E F1
  | ret v =>
   obtain ⟨x,rfl,hx⟩:=hf
   obtain ⟨rfl,rfl,rfl⟩:=r
   exact kk _ q ⟨x,rfl,hx⟩ E F1)⟩
theorem r_one {s:S} {f:Fl} (e1:Ex c d s L H f L1 H1):Rn c d [s] L H f L1 H1:=r_cons e1 (by
 cases f with
 | next=>exact r_nil
 | brk=>exact k_brk
 | ret v=>exact k_ret)
theorem r_tt {l r:List S} (p:Rn c d l L H fl L' H'):Rn c d (cond true l r) L H fl L' H':=p
theorem r_ff {l r:List S} (p:Rn c d r L H fl L' H'):Rn c d (cond false l r) L H fl L' H':=p
theorem x_exp {n:Str} {as:List E} (e1:Ev c d (.met e n as) L H v H1):Ex c d (.exp (.met e n as)) L H .next L H1 :=
 ⟨fun m z p o F QF kk=>G.Expr_ (by unfold interactive; rw [m.kind]; rfl) (e1.r m _ p (and_l o) F _ fun x q E hx=>kk _ q rfl E.lift (F.ext E))⟩
theorem x_ret (e1:Ev c d e L H v H1) (h:opt e z0=some z0:=by rfl):Ex c d (.ret e) L H (.ret v) L H1 :=
 ⟨fun m z p o F QF kk=>by
  have he:opt e (up m.N e (qv z))=some (up m.N e (qv z)):=by cases e <;> first | rfl | cases h
  show wpG _ _ (exec (.Return (opt e (up m.N e (qv z))) _) _) _ _
  rw [he]
  exact G.Return_some (e1.r m _ p o F _ fun x q E hx=>kk _ q ⟨x,rfl,hx⟩ E.lift (F.ext E))⟩
theorem x_ret0:Ex c d (.ret .abs) L H (.ret .none) L H:=⟨fun m z p o F QF kk=>G.Return_none (kk _ p ⟨_,rfl,rfl⟩ (.refl ..) F)⟩
theorem x_brk:Ex c d .brk L H .brk L H:=⟨fun m z p o F QF kk=>G.Break (kk _ p rfl (.refl ..) F)⟩
theorem x_try (r:Rn c d l L H fl L1 H2):Ex c d (.tryS l) L H fl L1 H2:=⟨fun m z p o F QF kk=>G.Try (r.r m _ p o F QF kk)⟩
theorem x_ifs {l r:List S} {k:Bool} (e1:Et c d t L H k H1) (e2:Rn c d (cond k l r) L H1 fl L1 H2):Ex c d (.ifs t l r) L H fl L1 H2 :=
 ⟨fun m z p o F QF kk=>G.If (e1.r m _ p (and_l o) F _ fun q E=>by
  cases k
  ·exact e2.r m _ q (and_r (and_r o)) (F.ext E) QF fun f q2 hf E2 F2=>kk f q2 hf (E.lift.trans E2) F2
  ·exact e2.r m _ q (and_l (and_r o)) (F.ext E) QF fun f q2 hf E2 F2=>kk f q2 hf (E.lift.trans E2) F2)⟩
theorem x_asg {k:Nat} (e1:Ev c d e L H v H1):Ex c d (.asg k e) L H .next (L.put k v) H1 :=
 ⟨fun m z p o F QF kk=>G.Assign_Name (not_f (and_r (and_r o))) (e1.r m _ p (and_l (and_r o)) F _ fun x q E hx=>G.of (sim_store (F.ext E) (and_l o) hx fun q2 E2 F2=>kk _ q2 rfl (E.lift.trans E2) F2))⟩
theorem x_asc {k mm:Nat} {o:Option V} {en:Bool} {names:List Str} (e1:Ev c d t L H v H1) (h:iterOk en v=true) (g:nextV H1 v 0=some o) (km:mm=mm) (r:Co c d e (List.range names.length) en v H1.n mm 0 noL (H1.new (.lst [])) H2):Ex c d (.asc k en e names t) L H .next (L.put k (.obj H1.n)) H2 :=
 ⟨fun m z p oo F QF kk=>by
  have oc:ok m.sc m.N (.comp en e names t) (qv z)=true:=and_r oo
  have oc':(ok (Mine.xs (qv z)) names e (x0 (qv z)) && (okT (Mine.xs (qv z)) names (List.range names.length) && (okC (Mine.xs (qv z)) names && (okI m.sc m.N en t (x1 (qv z)) && (bif en then Nat.ble 2 names.length else true)))))=true:=oc
  obtain ⟨c1,c2,c3⟩:=comp_sc (and_l (and_r (and_r oc')))
  have fo:=folded_it (env:=m.env) (and_l (and_r (and_r (and_r oc'))))
  have cases:∀ {b:Bool},swapsWith (up m.N (.comp en e names t) (qv z)) (some (.Name (nmAt m.N k) (ps (qt z)))) (qp z).line m.env=pure b→wpG (model c.prog c.w) m.A (exec (sp m.N (.asc k en e names t) z) m.env) QF p.s:=by
   intro b hb
   induction b using Bool.casesOn with
   | false =>
    exact G.Assign_Name_not hb ((d_comp e1 h g km r).r m _ p oc F _ fun x q E hx=>G.of (sim_store (F.ext E) (and_l oo) hx fun q2 E2 F2=>kk _ q2 rfl (E.lift.trans E2) F2))
   | true =>
    refine G.Assign_ListComp_used hb fo c1 c2 c3 (sim_comp (pos:=ps (qv z)) e1 h g r oc F (QQ:=fun acc loc s'=>wpG (model c.prog c.w) m.A (storeName m.env (nmAt m.N k) acc) (fun _ s''=>∃ f,s''.heap.Ns loc f∧∀ h',Heap.SameBut loc s''.heap h'→QF .next { s'' with heap:=h' }) s') fun acc loc q E hv hn hb ha=>?_)
    obtain ⟨f,hn⟩:=hn
    have hne:loc ≠ m.env.locals:=fun e=>F.vol.elim fun o ho=>nomatch (e ▸ hb).symm.trans ho.1
    refine G.of (sim_store (F.ext E) (and_l oo) hv fun q2 E2 F2=>?_)
    have hn2:q2.h.Ns loc f:=by
     obtain ⟨o,es,ep,ho,hd,rest⟩:=hn
     exact ⟨o,es,ep,E2.keep _ _ ho ha hne,hd,rest⟩
    refine ⟨f,hn2,fun h' hs=>gone (p0:=p) (Q:=fun s=>QF .next s) hn2 (fun k hk=>(E2.eq k hk).symm ▸ ha k hk) hb hs (E.lift.trans E2) fun q' K E' mo=>kk _ q' rfl E' ?_⟩
    obtain ⟨⟨f2,⟨o,es,ep,ho,hd,rest⟩,hm⟩,ha2,hb2⟩:=F2
    exact ⟨⟨f2,⟨o,es,ep,K.keep _ _ (fun e=>hne e.symm) ho,hd,rest⟩,fun x v h1 h2=>(hm x v h1 h2).imp fun val h=>⟨h.1,h.2.mono mo⟩⟩,K.ρ ▸ ha2,hb2⟩
  exact cases (b:=_) rfl⟩
theorem x_ast {o:E} {n:Str} (e1:Ev c d e L H v H1) (e2:Ev c d o L H1 x H2) (r:SetAR c H2 x n v H3):Ex c d (.ast o n e) L H .next L H3 :=
 ⟨fun m z p k F QF kk=>G.Assign_Attribute (not_f (and_l (and_r (and_r k)))) (e1.r m _ p (and_l (and_r k)) F _ fun xv q1 E1 hv=>e2.r m _ q1 (and_l k) (F.ext E1) _ fun ov q2 E2 ho=>G.of (r.r _ q2 _ _ _ (and_r (and_r (and_r k))) ho (hv.mono E2.m) fun q3 E3 =>
  kk _ q3 rfl ((E1.trans E2).trans E3).lift (F.ext ((E1.trans E2).trans E3))))⟩
theorem x_sst {o k:E} {H4:MH} (e1:Ev c d e L H v H1) (e2:Ev c d o L H1 x H2) (e3:Ev c d k L H2 y H3) (r:SetR c H3 x y v H4):Ex c d (.sst o k e) L H .next L H4 :=
 ⟨fun m z p k F QF kk=>G.Assign_Subscript (not_f (and_r (and_r (and_r k)))) (e1.r m _ p (and_l (and_r (and_r k))) F _ fun xv q1 E1 hv=>e2.r m _ q1 (and_l k) (F.ext E1) _ fun ov q2 E2 ho=>e3.r m _ q2 (and_l (and_r k)) (F.ext (E1.trans E2)) _ fun iv q3 E3 hi =>
  G.of (r.r _ q3 _ _ _ _ (ho.mono E3.m) hi (hv.mono (E2.trans E3).m) fun q4 E4=>kk _ q4 rfl ((E1.trans E2).trans (E3.trans E4)).lift (F.ext ((E1.trans E2).trans (E3.trans E4)))))⟩
theorem x_sls {o lo hi:E} {H4 H5:MH} (e1:Ev c d e L H v H1) (e2:Ev c d o L H1 x H2) (e3:Eo c d lo L H2 y H3) (e4:Eo c d hi L H3 z H4) (r:SetSR c H4 x y z v H5):Ex c d (.sls o lo hi e) L H .next L H5 :=
 ⟨fun m zz p k F QF kk=>G.Assign_Subscript (not_f (and_r (and_r (and_r (and_r k))))) (e1.r m _ p (and_l (and_r (and_r (and_r k)))) F _ fun xv q1 E1 hv=>e2.r m _ q1 (and_l k) (F.ext E1) _ fun ov q2 E2 ho=>G.Slice_ (e3.r m _ q2 (and_l (and_r k)) (F.ext (E1.trans E2)) _ fun lv q3 E3 hl =>
  e4.r m _ q3 (and_l (and_r (and_r k))) (F.ext ((E1.trans E2).trans E3)) _ fun hv' q4 E4 hh=>G.opt_none (by
   have E5:=Ext.grown q4 (h':=q4.h.push { cls:=.type "slice",data:=.fields #[lv,hv',.none] }) q4.s.toks fun _ _ e=>Heap.get?_push_of_some _ e
   have E45:=E4.trans E5
   have E35:=E3.trans E45
   exact r.r _ _ _ _ _ _ _ _ m.ok.2.1 (ho.mono E35.m) (hl.mono E45.m) (hh.mono E5.m) (hv.mono (E2.trans E35).m) (Heap.IsSliceOf.new ..) fun q6 E6=>kk _ q6 rfl ((E1.trans (E2.trans E35)).trans E6).lift (F.ext ((E1.trans (E2.trans E35)).trans E6)))))⟩
theorem x_wh (r:Wh c d t l 12 L H fl L1 H1):Ex c d (.whl t l) L H fl L1 H1:=⟨fun m z p o F QF kk=>G.While (r.r m _ _ p (and_l o) (and_r o) F QF kk)⟩
theorem w_end {mm:Nat} (e1:Et c d t L H false H1):Wh c d t l (mm+1) L H .next L H1 :=
 ⟨fun m zt zb p o ob F QF kk=>G.code_while (e1.r m _ p o F _ fun q E=>kk _ q rfl E.lift (F.ext E))⟩
theorem w_nx {mm:Nat} (e1:Et c d t L H true H1) (e2:Rn c d l L H1 .next L1 H2) (r:Wh c d t l mm L1 H2 fl L' H'):Wh c d t l (mm+1) L H fl L' H' :=
 ⟨fun m zt zb p o ob F QF kk=>G.code_while (e1.r m _ p o F _ fun q E=>e2.r m _ q ob (F.ext E) _ fun f q2 hf E2 F2=>by
  obtain rfl:=hf
  exact r.r m zt zb q2 o ob F2 QF fun f q3 hf E3 F3=>kk f q3 hf ((E.lift.trans E2).trans E3) F3)⟩
theorem w_bk {mm:Nat} (e1:Et c d t L H true H1) (e2:Rn c d l L H1 .brk L1 H2):Wh c d t l (mm+1) L H .next L1 H2 :=
 ⟨fun m zt zb p o ob F QF kk=>G.code_while (e1.r m _ p o F _ fun q E=>e2.r m _ q ob (F.ext E) _ fun f q2 hf E2 F2=>by
  obtain rfl:=hf
  exact kk _ q2 rfl (E.lift.trans E2) F2)⟩
theorem x_fo {en:Bool} {xs:List Nat} {mm:Nat} {o:Option V} (e1:Ev c d e L H v H1) (h:iterOk en v=true) (g:nextV H1 v 0=some o) (k:mm=mm) (r:Fo c d en xs l v (mm+1) 0 L H1 fl L1 H2):Ex c d (.fori en xs e l) L H fl L1 H2 :=
 ⟨fun m z p oo F QF kk=>G.For (folded_it (and_l (and_r oo))) (sim_start e1 h g (and_l (and_r oo)) F fun I Y q E hY hP hI =>
  r.r m _ _ q I Y p (and_l oo) (and_l (and_r (and_r oo))) (and_r (and_r (and_r oo))) (F.ext E) hI hP E.lift hY QF kk)⟩
theorem f_end {en:Bool} {xs:List Nat} {mm i:Nat} (g:nextV H v i=some .none):Fo c d en xs l v (mm+1) i L H .next L H :=
 ⟨fun m zt zb p it Y H0 p0 ot ob oe F I hP E0 hY QF kk=>G.code_for (G.of (w_next m.ok.1 I hP g (fun a x q h=>nomatch h) fun q _ K=>kk _ q rfl (E0.tail hY K) (F.kp K hP)))⟩
theorem f_turn {en:Bool} {xs:List Nat} {mm i:Nat} {f:Fl} (g:nextV H v i=some (some x)) (b:bindItem L xs (itemV en i x)=some L1) (e1:Rn c d l L1 H f L2 H1)
  (k:∀ (m:Fm c d) (zt:Expr) (zb:List Stmt) (it:Addr) (Y:Addr→Prop) {H0:MH} (p0:P c H0) (q:P c H1) (fw:Flow) (QF:Flow→Shared→Prop),okT m.sc m.N xs=true→okSs m.sc m.N l zb=true→(bif en then Nat.ble 2 xs.length else true)=true→(∀ a,Y a→p0.h.get? a=none)→FlR q.w f fw→Ext (onlyX m.env.locals) p0 q→FrR m L2 q→IterR en v (i+1) q it Y→Priv m.env.locals q Y →
   (∀ f (q:P c H'),FlR q.w fl f→Ext (onlyX m.env.locals) p0 q→FrR m L' q→QF f q.s)→(match fw with
    | .next | .cont=>codeG (model c.prog c.w) m.A (.forLoop (upT m.N xs zt) (.ref it) (sps m.N l zb) [] m.env) QF q.s
    | .brk=>QF .next q.s
    | .ret v=>QF (.ret v) q.s)):Fo c d en xs l v (mm+1) i L H fl L' H' :=
 ⟨fun m zt zb p it Y H0 p0 ot ob oe F I hP E0 hY QF kk=>G.code_for (w_item (zt:=zt) ot oe g b F I hP (K:=fun _ s₃=>wpG (model c.prog c.w) m.A (execs (sps m.N l zb) m.env) (fun f s₄=>match f with
    | .next | .cont=>codeG (model c.prog c.w) m.A (.forLoop (upT m.N xs zt) (.ref it) (sps m.N l zb) [] m.env) QF s₄
    | .brk=>QF .next s₄
    | .ret v=>QF (.ret v) s₄) s₃)
  (fun q3 q2 K2 E3 F3 I3 P3=>e1.r m zb q3 ob F3 _ fun fw q4 hf E4 F4=>by
   have hn:∀ a,Y a→¬ onlyX m.env.locals a:=fun a y e=>hP.loc (e ▸ y)
   exact k m zt zb it Y p0 q4 fw QF ot ob oe hY hf (((E0.tail hY K2).trans E3).trans E4) F4 (I3.ext P3 E4 F3.volX hn) (P3.ext E4 hn) kk)
  fun x s h=>h)⟩
theorem f_nx {en:Bool} {xs:List Nat} {mm i:Nat} (g:nextV H v i=some (some x)) (b:bindItem L xs (itemV en i x)=some L1) (e1:Rn c d l L1 H .next L2 H1) (r:Fo c d en xs l v mm (i+1) L2 H1 fl L' H'):Fo c d en xs l v (mm+1) i L H fl L' H' :=
 f_turn g b e1 fun m zt zb it Y H0 p0 q fw QF ot ob oe hY hf E F I hP kk=>by
  obtain rfl:=hf
  exact r.r m zt zb q it Y p0 ot ob oe F I hP E hY QF kk
theorem f_rt {en:Bool} {xs:List Nat} {mm i:Nat} (g:nextV H v i=some (some x)) (b:bindItem L xs (itemV en i x)=some L1) (e1:Rn c d l L1 H (.ret y) L2 H1):Fo c d en xs l v (mm+1) i L H (.ret y) L2 H1 :=
 f_turn g b e1 fun m zt zb it Y H0 p0 q fw QF ot ob oe hY hf E F I hP kk=>by
  obtain ⟨x,rfl,hx⟩:=hf
  exact kk _ q ⟨x,rfl,hx⟩ E F
theorem f_bk {en:Bool} {xs:List Nat} {mm i:Nat} (g:nextV H v i=some (some x)) (b:bindItem L xs (itemV en i x)=some L1) (e1:Rn c d l L1 H .brk L2 H1):Fo c d en xs l v (mm+1) i L H .next L2 H1 :=
 f_turn g b e1 fun m zt zb it Y H0 p0 q fw QF ot ob oe hY hf E F I hP kk=>by
  obtain rfl:=hf
  exact kk _ q rfl E F
end
end Mine
end
section
namespace Mine
open PySem PySem.W PySem.Calls PyProof.Rows
noncomputable def isStar:Expr→Bool
 | .Starred ..=>true
 | _=>false
theorem isStar_of {e:Expr} (h:notStar e=true):isStar e=false:=by
 cases e <;> first | rfl | cases h
noncomputable def nameOf (env:Env) (ln:Nat):Expr→Option Str
 | .Name id pos=>if (env.kindOf id == some .local && pos.line == ln)=true then some id else none
 | _=>none
section
variable {c:Cx} {d:Nat} {m:Fm c d} {L L1 L2 L':LL} {H H1 H2 H3 H':MH} {p:P c H} {q:P c H1} {e a b t:E} {x y z v w:V} {i j:Int} {fl:Fl} {l:List S} {vs:List V} {es:List E} {env:Env}
theorem ups_star {sc:Scope} {N:List Str}:∀ {es:List E} {z:List Expr},oks sc N es z=true→(ups N es z).any isStar=false
 | [],_,_=>rfl
 | e::es,z,o=>by
  show (isStar (up N e (hd z)) || (ups N es z.tail).any isStar)=false
  rw [isStar_of (and_r (and_r o)),ups_star (and_l (and_r o))]
  rfl
theorem names_of {sc:Scope} {N:List Str} {ln:Nat} (h:env.scope=sc):∀ {xs:List Nat} {z:List Expr},okT sc N xs=true→(upNs N ln xs z).filterMap (nameOf env ln)=xs.map (nmAt N)
 | [],_,_=>rfl
 | x::xs,z,o=>by
  have k:nameOf env ln (.Name (nmAt N x) { ps (hd z) with line:=ln })=some (nmAt N x):=if_pos (by
   rw [show env.kindOf (nmAt N x)=some .local from by unfold Env.kindOf; rw [h]; exact okL_loc (and_l o),beq_self_eq_true,beq_self_eq_true]; rfl)
  show List.filterMap (nameOf env ln) (.Name (nmAt N x) { ps (hd z) with line:=ln }::upNs N ln xs z.tail)=_
  rw [List.filterMap_cons,k,names_of h (and_r o)]
  rfl
theorem upNs_length {N:List Str} {ln:Nat}:∀ {xs:List Nat} {z:List Expr},(upNs N ln xs z).length=xs.length
 | [],_=>rfl
 | x::xs,z=>congrArg Nat.succ upNs_length
theorem dups_of {a:List Str} (h:a.length=2∨a.length=3) (n:a.Nodup):a.eraseDups=a:=by
 match a,h,n with
 | [a,b],_,n =>
  have h1:a ≠ b:=fun e=>(List.nodup_cons.1 n).1 (e ▸ List.mem_singleton.2 rfl)
  simp [List.eraseDups_cons,Ne.symm h1]
 | [a,b,c],_,n =>
  have h1:a ≠ b:=fun e=>(List.nodup_cons.1 n).1 (e ▸ List.mem_cons_self)
  have h2:a ≠ c:=fun e=>(List.nodup_cons.1 n).1 (e ▸ List.mem_cons_of_mem _ (List.mem_singleton.2 rfl))
  have h3:b ≠ c:=fun e=>(List.nodup_cons.1 (List.nodup_cons.1 n).2).1 (e ▸ List.mem_singleton.2 rfl)
  simp [List.eraseDups_cons,Ne.symm h1,Ne.symm h2,Ne.symm h3]
theorem swapped_of {ts vs:List Expr} {names:List Str} {q q2:Pos} {k k2:Nat} (hb:env.blockKind=.function) (h0:ts.length=2∨ts.length=3) (h1:vs.length=ts.length) (h2:vs.any isStar=false) (h3:ts.filterMap (nameOf env ((ts.head?.map (·.pos.line)).getD 0))=names) (h4:names.length=ts.length) (h5:names.eraseDups=names) (hk:notConst vs=true) :
  swappedStores [.Tuple ts k q] (.Tuple vs k2 q2) env=pure (some names):=by
 have k1:=not_f (and_l hk)
 have k2:=not_f (and_r hk)
 unfold swappedStores
 dsimp only
 refine (if_neg fun hh=>?_).trans ?_
 ·rw [h1,hb] at hh
  rcases h0 with h0 | h0 <;> rw [h0] at hh <;> cases hh
 refine (if_neg fun hh=>Bool.noConfusion (h2.symm.trans hh)).trans ?_
 have h3':=h3
 refine (if_neg fun hh=>?_).trans ?_
 ·have hh:((ts.filterMap (nameOf env ((ts.head?.map (·.pos.line)).getD 0))).length != ts.length || (ts.filterMap (nameOf env ((ts.head?.map (·.pos.line)).getD 0))).eraseDups.length != (ts.filterMap (nameOf env ((ts.head?.map (·.pos.line)).getD 0))).length)=true:=hh
  rw [h3,h5,h4,bne_self_eq_false] at hh
  cases hh
 refine (if_neg fun hh=>Bool.noConfusion (k1.symm.trans hh)).trans ?_
 refine (if_neg fun hh=>Bool.noConfusion (k2.symm.trans hh)).trans ?_
 exact congrArg (fun x=>(pure (some x):Sem (Option (List Str)))) h3
theorem put_swap {x y:Nat} {u v:V} (h:x ≠ y):(LL.put (LL.put L y v) x u)=LL.put (LL.put L x u) y v:=by
 funext z
 unfold LL.put
 by_cases q:z=x
 ·rw [if_pos q,if_neg (fun r=>h (q.symm.trans r)),if_pos q]
 ·rw [if_neg q,if_neg q]
theorem sim_bind {x:Nat} {w1:Value} {v1:V} {ws:List Value} {fs:List (Value→Sem Unit)} {QU:Unit→Shared→Prop} (o:okL m.sc m.N x=true) (F:FrR m L p) (hv:VR p.w v1 w1) (k:∀ q:P c H,Ext (onlyX m.env.locals) p q→FrR m (L.put x v1) q→wpAny (model c.prog c.w) m.A (assignInOrder fs ws) QU noE q.s) :
  wpAny (model c.prog c.w) m.A (assignInOrder (bindName m.env (nmAt m.N x)::fs) (w1::ws)) QU noE p.s:=by
 exact show wpAny _ _ (PySem.holding ws _ >>= fun _=>assignInOrder fs ws) _ _ _ from wpAny_bind (wpAny_holding (wpAny_bindName (sim_store F o hv k)))
theorem nodupN_ne {x y:Nat} {r:List Nat} (h:nodupN (x::r)=true) (hy:y ∈ r):x ≠ y:=fun e=>by
 have:=not_f (and_l (show (!r.contains x && nodupN r)=true from h))
 rw [List.contains_iff_mem.2 (e ▸ hy)] at this
 cases this
theorem nd_names {N:List Str} (hN:N.Nodup) {sc:Scope}:∀ {xs:List Nat},okT sc N xs=true→nodupN xs=true→(xs.map (nmAt N)).Nodup
 | [],_,_=>List.nodup_nil
 | x::xs,o,h=>List.nodup_cons.2 ⟨fun q=>by
  obtain ⟨y,hy,e⟩:=List.mem_map.1 q
  have oy:∀ {xs:List Nat},okT sc N xs=true→y ∈ xs→okL sc N y=true:=by
   intro xs
   induction xs with
   | nil=>exact fun _ h=>nomatch h
   | cons z zs ih=>exact fun o h=>(List.mem_cons.1 h).elim (fun e=>e ▸ and_l o) fun h=>ih (and_r o) h
  exact nodupN_ne h hy (get_inj hN (okL_lt (and_l o)) (okL_lt (oy (and_r o) hy)) e.symm),nd_names hN (and_r o) (and_r (show (!xs.contains x && nodupN xs)=true from h))⟩
theorem len_2 {α:Type} {l:List α} (h:l.length=2):∃ a b,l=[a,b]:=match l,h with
 | [a,b],_=>⟨a,b,rfl⟩
theorem len_3 {α:Type} {l:List α} (h:l.length=3):∃ a b d,l=[a,b,d]:=match l,h with
 | [a,b,d],_=>⟨a,b,d,rfl⟩
theorem swp_any {q2:P c H1} {xs:List Nat} {vs:List V} {ws:List Value} {QF:Flow→Shared→Prop} (o6:xs.length=2∨xs.length=3) (o1:okT m.sc m.N xs=true) (o3:nodupN xs=true) (h:bindAll L xs vs=some L1) (F2:FrR m L q2) (hws:VRs q2.w vs ws)
  (kk:∀ q:P c H1,Ext (onlyX m.env.locals) q2 q→FrR m L1 q→QF .next q.s):wpAny (model c.prog c.w) m.A (assignInOrder ((xs.map (nmAt m.N)).reverse.map fun n=>bindName m.env n) ws.reverse) (fun _ s=>QF .next s) noE q2.s:=by
 have hl:=bindAll_length h
 rcases o6 with o6 | o6
 ·obtain ⟨x1,x2,rfl⟩:=len_2 o6
  obtain ⟨v1,v2,rfl⟩:=len_2 hl.symm
  obtain ⟨w1,r,rfl,h1,w2,r2,rfl,h2,rfl⟩:=hws
  cases h
  refine sim_bind (and_l (and_r o1)) F2 h2 fun q3 E3 F3=>sim_bind (and_l o1) F3 (h1.mono (E3.mono F2.volX)) fun q4 E4 F4=>wpAny_pure (kk q4 (E3.trans E4) ?_)
  rw [← put_swap (nodupN_ne o3 (List.mem_singleton.2 rfl))]
  exact F4
 ·obtain ⟨x1,x2,x3,rfl⟩:=len_3 o6
  obtain ⟨v1,v2,v3,rfl⟩:=len_3 hl.symm
  obtain ⟨w1,r,rfl,h1,w2,r2,rfl,h2,w3,r3,rfl,h3,rfl⟩:=hws
  cases h
  refine sim_bind (and_l (and_r (and_r o1))) F2 h3 fun q3 E3 F3=>sim_bind (and_l (and_r o1)) F3 (h2.mono (E3.mono F2.volX)) fun q4 E4 F4=>sim_bind (and_l o1) F4 ((h1.mono (E3.mono F2.volX)).mono (E4.mono F3.volX)) fun q5 E5 F5=>wpAny_pure (kk q5 ((E3.trans E4).trans E5) ?_)
  have n12:=nodupN_ne o3 (y:=x2) List.mem_cons_self
  have n13:=nodupN_ne o3 (y:=x3) (List.mem_cons_of_mem _ (List.mem_singleton.2 rfl))
  have n23:=nodupN_ne (and_r (show (!([x2,x3].contains x1) && nodupN [x2,x3])=true from o3)) (y:=x3) (List.mem_singleton.2 rfl)
  rw [put_swap n23,put_swap n13,put_swap n12] at F5
  exact F5
theorem x_swp {xs:List Nat} (e1:Ea c d es L H vs H1) (h:bindAll L xs vs=some L1):Ex c d (.swp xs es) L H .next L1 H1 :=
 ⟨fun m z p o F QF kk=>by
  have o1:=and_l o
  have o2:=and_l (and_r o)
  have o3:=and_l (and_r (and_r o))
  have o4:xs.length=es.length:=beq_iff_eq.1 (and_l (and_r (and_r (and_r o))))
  have o5:=and_l (and_r (and_r (and_r (and_r o))))
  have o6:xs.length=2∨xs.length=3:=((Bool.or_eq_true_iff ..).1 (and_r (and_r (and_r (and_r (and_r o)))))).imp Nat.eq_of_beq_eq_true Nat.eq_of_beq_eq_true
  have hln:((upNs m.N (ps (hd (xl (qt z)))).line xs (xl (qt z))).head?.map (·.pos.line)).getD 0=(ps (hd (xl (qt z)))).line:=by
   induction xs using List.casesOn with
   | nil=>exact (o6.elim (fun h=>nomatch h) fun h=>nomatch h)
   | cons=>rfl
  have hsw:swappedStores [.Tuple (upNs m.N (ps (hd (xl (qt z)))).line xs (xl (qt z))) (xn (qt z)) (ps (qt z))] (.Tuple (ups m.N es (xl (qv z))) (xn (qv z)) (ps (qv z))) m.env=pure (some (xs.map (nmAt m.N))) :=
   swapped_of (by unfold Env.blockKind; rw [m.kind]; first | rfl | simp) (upNs_length.symm ▸ o6) (ups_length.trans (o4.symm.trans upNs_length.symm)) (ups_star o2) (by rw [hln]; exact names_of rfl o1) ((List.length_map ..).trans upNs_length.symm) (dups_of ((List.length_map (nmAt m.N)).symm ▸ o6) (nd_names m.nd o1 o3)) o5
  have et:Ev c d (.tup es) L H (.tup vs) H1:=d_tup e1
  refine G.Assign_swap rfl hsw (et.r m _ p ((Bool.and_eq_true_iff).2 ⟨o2,Nat.ble_eq_true_of_le (by lia)⟩) F _ fun x q E hx=>?_)
  obtain ⟨t,ws,rfl,ht,hws⟩:=hx
  have hl:=bindAll_length h
  have e1':(xs.map (nmAt m.N)).length=(Array.mk ws).size:=(List.length_map ..).trans (hl.trans hws.length.symm)
  rw [e1']
  refine wpAny_unpackItems_tuple m.ok.1 ht fun h' hx=>G.of ?_
  have ke:∀ b o,q.h.get? b=some o→h'.get? b=some o:=fun b o q=>hx b o (Nat.ne_of_lt (Heap.lt_size q)) q
  have E2:=Ext.grown q q.s.toks ke
  have F2:=F.ext (E.trans E2)
  have kk:=fun q3 E3 F3=>kk .next q3 rfl ((E.trans E2).lift.trans E3) F3
  replace hws:=hws.mono E2.m
  change wpAny _ _ _ _ _ (q.grown q.s.toks ke).s
  revert F2 kk hws
  generalize q.grown q.s.toks ke=q2
  intro F2 kk hws
  exact swp_any o6 o1 o3 h F2 hws kk⟩
end
end Mine
end
section
namespace Mine
open PySem PySem.W PySem.Calls PyProof.Rows
structure Tg (c:Cx) (d:Nat) (ts:List T) (vs:List V) (L:LL) (H:MH) (L':LL) (H':MH):Prop where
 len:vs.length=ts.length
 r:∀ (m:Fm c d) (z:List Expr) (p:P c H) (ws:List Value),okTs m.sc m.N ts z=true→FrR m L p→VRs p.w vs ws→∀ QU:Unit→Shared→Prop,(∀ q:P c H',Ext (onlyX m.env.locals) p q→FrR m L' q→QU () q.s) →
  wpG (model c.prog c.w) m.A (assignInOrder ((assignEach (upTs m.N ts z) m.env).map (·.2)) ws) QU p.s
section
variable {c:Cx} {d:Nat} {m:Fm c d} {L L1 L2 L':LL} {H H1 H2 H3 H':MH} {p:P c H} {q:P c H1} {e a b t:E} {x y z v w:V} {i j:Int} {fl:Fl} {l:List S} {vs:List V} {es:List E} {env:Env} {ts:List T} {A:Around} {EE:Value→Shared→Prop}
theorem g_nil:Tg c d [] [] L H L H:=⟨rfl,fun m z p ws _ F e QU kk=>G.assignInOrder_nil (kk p (.refl ..) F)⟩
theorem g_nam {x:Nat} (r:Tg c d ts vs (L.put x v) H L' H'):Tg c d (.nam x::ts) (v::vs) L H L' H' :=
 ⟨congrArg Nat.succ r.len,fun m z p ws o F ⟨y,ws',e,h1,h2⟩ QU kk=>by
  subst e
  show wpG _ _ (assignInOrder ((assign (.Name (nmAt m.N x) _) m.env)::(assignEach (upTs m.N ts z.tail) m.env).map (·.2)) (y::ws')) _ _
  exact G.assignInOrder_cons (G.assign_Name (G.of (sim_store F (and_l o) h1 fun q E1 F1=>r.r m z.tail q ws' (and_r o) F1 (h2.mono (E1.mono F.volX)) QU fun q2 E2 F2=>kk q2 (E1.trans E2) F2)))⟩
theorem g_att {n:Str} (e1:Ev c d e L H x H1) (s:SetAR c H1 x n v H2) (r:Tg c d ts vs L H2 L' H'):Tg c d (.att e n::ts) (v::vs) L H L' H' :=
 ⟨congrArg Nat.succ r.len,fun m z p ws o F ⟨y,ws',e,h1,h2⟩ QU kk=>by
  subst e
  show wpG _ _ (assignInOrder ((assign (.Attribute (up m.N _ (x0 (hd z))) n _) m.env)::(assignEach (upTs m.N ts z.tail) m.env).map (·.2)) (y::ws')) _ _
  exact G.assignInOrder_cons (G.assign_Attribute (e1.r m _ p (and_l o) F _ fun ov q1 E1 ho=>G.of (s.r _ q1 _ _ _ (and_r (and_r o)) ho (h1.mono E1.m) fun q2 E2 =>
   r.r m z.tail q2 ws' (and_l (and_r o)) (F.ext (E1.trans E2)) (h2.mono (E1.trans E2).m) QU fun q3 E3 F3=>kk q3 ((E1.trans E2).lift.trans E3) F3)))⟩
theorem draw_list {it t:Addr} {items:Array Value} (hne:t ≠ it) (n:Nat):∀ (i:Nat) (s:Shared) (Q:List Value→Shared→Prop),s.heap.IsListIter it t i→s.heap.IsList t items→i+n≤items.size →
  (∀ h',h'.IsListIter it t (i+n)→Heap.SameBut it s.heap h'→Q ((items.toList.drop i).take n) { s with heap:=h' })→wpAny (model c.prog c.w) A (draw (.ref it) n) Q EE s:=by
 induction n with
 | zero =>
  intro i s Q hit _ _ hQ
  show wpAny _ _ (pure []) Q EE s
  exact wpAny_pure (hQ s.heap hit (Heap.SameBut.refl ..))
 | succ n ih =>
  intro i s Q hit ht hle hQ
  have hlt:i<items.size:=by lia
  show wpAny _ _ (pyNext (.ref it) >>= _) Q EE s
  refine wpAny_bind (wpAny_pyNext_list_item hit ht (x:=items[i]) (Array.getElem?_eq_getElem hlt) fun h₁ hit₁ hs₁=>?_)
  refine wpAny_bind (wpAny_holding (ih (i+1) _ _ hit₁ (ht.extBut hs₁.extBut hne) (by lia) fun h₂ hit₂ hs₂=>wpAny_pure ?_))
  have:=hQ h₂ (by rw [show i+(n+1)=i+1+n by lia]; exact hit₂) (hs₁.trans hs₂)
  rw [List.drop_eq_getElem_cons (show i<items.toList.length from hlt),List.take_succ_cons] at this
  exact this
theorem unpack_list {s:Shared} {t:Addr} {items:Array Value} {Q:List Value→Shared→Prop} (hh:A.handled=none) (ht:s.heap.IsList t items)
  (hQ:∀ h',Heap.ExtBut s.heap.objs.size s.heap h'→Q items.toList { s with heap:=h' }):wpAny (model c.prog c.w) A (unpackItems (.ref t) items.size none) Q EE s:=by
 have hlt:t ≠ s.heap.objs.size:=by obtain ⟨o,ho,_⟩:=ht; exact Nat.ne_of_lt (Heap.lt_size ho)
 unfold unpackItems
 refine wpAny_bind ?_
 ·unfold notIterableAtAll
  refine wpAny_bind (wpAny_specialOf ht.typeIs slot_list_iter.lookup ?_)
  refine wpAny_pure ?_
  dsimp only
  rw [if_neg Bool.false_ne_true]
  refine wpAny_bind (wpAny_holding (wpAny_pyIter_list ht ?_))
  refine wpAny_bind (wpAny_holding (draw_list hlt items.size 0 _ _ ⟨_,Heap.get?_push_size _ rfl,rfl,rfl⟩ (ht.push _) (Nat.le_of_eq (Nat.zero_add _)) fun h₁ hit₁ hs₁=>?_))
  rw [show List.take items.size (List.drop 0 items.toList)=items.toList from List.take_of_length_le (Nat.le_refl _),if_neg (show ¬ items.toList.length<items.size from Nat.lt_irrefl _)]
  have ht₁:h₁.IsList t items:=(ht.push _).extBut hs₁.extBut hlt
  refine wpAny_bind (wpAny_holding (wpAny_pyNext_list_end hh hit₁ ht₁ (Array.getElem?_eq_none (Nat.le_of_eq (Nat.zero_add _).symm)) fun h₂ he₂=>?_))
  dsimp only [Option.isSome_none]
  rw [if_neg Bool.false_ne_true]
  exact wpAny_pure (hQ h₂ fun b o hb e=>he₂ b o hb (hs₁.extBut b o hb (Heap.get?_push_of_some _ e)))
theorem w_unp {x:Value} {n:Nat} {Q:List Value→Shared→Prop} (hh:A.handled=none) (e:unpV H v=some vs) (hx:VR p.w v x) (hm:vs.length=n)
  (k:∀ ws (q:P c H),Ext noX p q→VRs q.w vs ws→Q ws q.s):wpAny (model c.prog c.w) A (unpackItems x n none) Q noE p.s:=by
 have fin:∀ {ws:List Value} {h':Heap},VRs p.w vs ws→Heap.ExtBut p.h.objs.size p.h h'→Q ws { p.s with heap:=h' }:=fun {ws h'} hws he=>by
  have ke:∀ b o,p.h.get? b=some o→h'.get? b=some o:=fun b o q=>he b o (Nat.ne_of_lt (Heap.lt_size q)) q
  have E1:=Ext.grown p p.s.toks ke
  exact k ws _ E1 (hws.mono E1.m)
 induction v using V.casesOn with
 | tup l =>
  cases e
  obtain ⟨t,ws,rfl,ht,hws⟩:=hx
  rw [show n=(Array.mk ws).size from hm.symm.trans hws.length.symm]
  exact wpAny_unpackItems_tuple hh ht fun h' he=>fin hws he
 | obj u =>
  have e:(match H.o u with | some (.lst l)=>some l | _=>none)=some vs:=e
  cases hl:H.o u with
  | none=>rw [hl] at e; exact no_ns e
  | some o =>
  rw [hl] at e
  induction o using MO.casesOn with
  | lst l =>
   cases e
   obtain ⟨_,rfl⟩:=hx
   obtain ⟨ws,hL,hws⟩:=p.isl hl
   rw [show n=(Array.mk ws).size from hm.symm.trans hws.length.symm]
   exact unpack_list hh hL fun h' he=>fin hws he
  | _=>exact no_ns e
 | _=>exact no_ns e
theorem upTs_len {N:List Str}:∀ {ts:List T} {z:List Expr},(assignEach (upTs N ts z) env).length=ts.length∧(assignEach (upTs N ts z) env).findIdx? (·.1)=none
 | [],_=>⟨rfl,rfl⟩
 | .nam x::ts,z=>by
  have ih:=upTs_len (N:=N) (ts:=ts) (z:=z.tail)
  refine ⟨congrArg Nat.succ ih.1,?_⟩
  show ((false,assign (.Name (nmAt N x) _) env)::assignEach (upTs N ts z.tail) env).findIdx? (·.1)=none
  rw [List.findIdx?_cons,ih.2]
  rfl
 | .att e n::ts,z=>by
  have ih:=upTs_len (N:=N) (ts:=ts) (z:=z.tail)
  refine ⟨congrArg Nat.succ ih.1,?_⟩
  show ((false,assign (.Attribute (up N e (x0 (hd z))) n _) env)::assignEach (upTs N ts z.tail) env).findIdx? (·.1)=none
  rw [List.findIdx?_cons,ih.2]
  rfl
theorem name_lt {env:Env} {n:Nat}:∀ (l:List Expr),l.any isAttr=true→(l.filterMap (nameOf env n)).length<l.length
 | e::l,h=>by
  have hle:(l.filterMap (nameOf env n)).length≤l.length:=List.length_filterMap_le ..
  rw [List.filterMap_cons]
  rcases Bool.or_eq_true_iff.1 ((List.any_cons ..).symm.trans h) with h | h
  ·cases e <;> first | exact Nat.lt_succ_of_le hle | cases h
  ·have:=name_lt (n:=n) (env:=env) l h
   cases nameOf env n e
   ·exact Nat.lt_succ_of_lt this
   ·exact Nat.succ_lt_succ this
theorem swapped_none {v:Expr} {ts:List Expr} {q:Pos} {k:Nat} (h:tupAtt v ts=true):swappedStores [.Tuple ts k q] v env=pure none:=by
 induction v using Expr.casesOn with
 | Tuple vs k2 q2 =>
  have h:ts.any isAttr=true:=h
  unfold swappedStores
  dsimp only
  split
  ·rfl
  ·split
   ·rfl
   ·refine if_pos ?_
    have hlt:=name_lt (env:=env) (n:=(ts.head?.map (·.pos.line)).getD 0) ts h
    have hne:((ts.filterMap (nameOf env ((ts.head?.map (·.pos.line)).getD 0))).length != ts.length)=true:=bne_iff_ne.2 (Nat.ne_of_lt hlt)
    show (((ts.filterMap (nameOf env ((ts.head?.map (·.pos.line)).getD 0))).length != ts.length) || _)=true
    rw [hne]
    rfl
 | _=>rfl
theorem x_upk (e1:Ev c d e L H v H1) (h:unpV H1 v=some vs) (r:Tg c d ts vs L H1 L1 H2):Ex c d (.upk ts e) L H .next L1 H2 :=
 ⟨fun m z p o F QF kk=>G.Assign_Tuple (not_f (and_l (and_r (and_r o)))) (swapped_none (and_r (and_r (and_r o)))) (e1.r m _ p (and_l (and_r o)) F _ fun x q E hx=>by
  have l:=upTs_len (env:=m.env) (N:=m.N) (ts:=ts) (z:=xl (qt z))
  rw [l.2]
  exact w_unp m.ok.1 h hx (r.len.trans l.1.symm) fun ws q2 E2 hws=>r.r m _ q2 ws (and_l o) (F.ext (E.trans E2)) hws _ fun q3 E3 F3=>kk _ q3 rfl ((E.trans E2).lift.trans E3) F3)⟩
theorem lookup_mem {α β:Type} [BEq α] [LawfulBEq α] {k:α} {v:β}:∀ {l:List (α × β)},(l.map (·.1)).Nodup→(k,v) ∈ l→l.lookup k=some v
 | (a,b)::l,hn,hm=>by
  rw [List.map_cons,List.nodup_cons] at hn
  rw [List.lookup_cons]
  rcases List.mem_cons.mp hm with h | h
  ·cases h
   rw [beq_self_eq_true]
  ·have hne:¬ (k == a)=true:=fun q=>hn.1 (beq_iff_eq.1 q ▸ List.mem_map.mpr ⟨(k,v),h,rfl⟩)
   rw [Bool.eq_false_iff.2 hne]
   exact lookup_mem hn.2 h
theorem zip_sub {α β:Type}:∀ (l:List α) (r:List β),((l.zip r).map (·.1)).Sublist l
 | [],r=>List.nil_sublist _
 | a::l,[]=>List.nil_sublist _
 | a::l,b::r=>(zip_sub l r).cons_cons a
theorem nodup_rev {α:Type} {l:List α} (h:l.Nodup):l.reverse.Nodup:=List.pairwise_reverse.2 (h.imp fun q=>Ne.symm q)
theorem argsL_at:∀ (as:List V) (n x:Nat) (v:V),argsL n as x=some v→n≤x∧as[x - n]?=some v
 | a::as,n,x,v,h=>by
  have h:(if x=n then some a else argsL (n+1) as x)=some v:=h
  split at h
  ·rename_i q
   cases h
   subst q
   exact ⟨Nat.le_refl _,by rw [Nat.sub_self]; rfl⟩
  ·obtain ⟨h1,h2⟩:=argsL_at as (n+1) x v h
   refine ⟨Nat.le_of_succ_le h1,?_⟩
   rw [show x - n=(x - (n+1))+1 by lia]
   exact h2
theorem AOkC.deeper {A:Around} (hA:AOkC (d+1) A) (env:Env):AOk d (A.deeper env):=by
 refine ⟨hA.1,hA.2.1,?_,?_⟩
 ·show A.depth+1+4 * d+2≤900
  have:=hA.2.2.1
  lia
 ·rw [Around.deeper_units]
  have:=hA.2.2.2
  lia
theorem c_core {f:Nat} {D:Fn} {as:List V} {r:V} (h:fnTab f=some D) (g:as.length=D.arity) (fl0:Fl) (hf:∀ w fw,FlR w fl0 fw→VR w r (match fw with | .ret v=>v | _=>.none)) (e1:Rn c d D.body (argsL 0 as) H fl0 L' H'):Cl c (d+1) f as H r H' :=
 ⟨(c.FB f D h).keep,fun A p vs hA hv Q kk=>by
  refine hide fun Gl kG=>?_
  obtain ⟨dc,fd,sl,body,ho,hco,hgen,hk,hbody,hok,hcl,hcd,hbind,hcell,hloc,hnd,hg,hb⟩:=(c.FB f D h).ok
  have hlv:vs.length=D.arity:=hv.length.trans g
  have hzl:(((D.names.take D.arity).zip vs).map (·.1)).Nodup:=((zip_sub ..).trans (List.take_sublist ..)).nodup hnd
  refine kG ?_
  refine G.call_fn (by unfold recursionLimit; have:=hA.2.2.1; lia) (p.R.base _ _ ho) rfl hco hgen hk hbody hcl (hcd.keeps p.R.base) (c.W.lim.keeps p.R.base) (hbind vs hlv) hcell (fun x hx=>hloc x.1 (List.mem_of_mem_take (List.of_mem_zip hx).1)) fun h₁ hns hs=>?_
  have ke:∀ b o,p.h.get? b=some o→h₁.get? b=some o:=fun b o e=>(hs.2 b (Nat.ne_of_lt (Heap.lt_size e))).trans (Heap.get?_push_of_some _ e)
  have E1:=Ext.grown p (p.s.toks+((D.names.take D.arity).zip vs).length) ke
  let m:Fm c d:=⟨_,hA.deeper (newEnv fd.scope p.h.objs.size fd.globals [] (fd.qualname++".<locals>.") (some f) fd.code none fd.builtins),newEnv fd.scope p.h.objs.size fd.globals [] (fd.qualname++".<locals>.") (some f) fd.code none fd.builtins,D.names,hk,hg,hb,hnd⟩
  have F1:FrR m (argsL 0 as) (p.grown (p.s.toks+((D.names.take D.arity).zip vs).length) ke):=by
   refine ⟨⟨_,hns,fun x u h1 h2=>?_⟩,p.awayNone (size_none _),p.free (size_none _)⟩
   obtain ⟨_,h3⟩:=argsL_at as 0 x u h2
   obtain ⟨val,h4,h5⟩:=hv.get h3
   have hx:x<as.length:=(List.getElem?_eq_some_iff.mp h3).1
   refine ⟨val,lookup_mem (by rw [List.map_reverse]; exact nodup_rev hzl) (List.mem_reverse.mpr (List.mem_iff_getElem?.mpr ⟨x,?_⟩)),h5.mono E1.m⟩
   rw [List.getElem?_zip_eq_some]
   refine ⟨?_,h4⟩
   rw [List.getElem?_take,if_pos (g ▸ hx)]
   exact nm_get h1
  exact e1.r m body _ hok F1 _ fun fw q hf' E2 F2=>kk _ q ((E1.lift.trans E2).drop fun a e=>.inr (by cases e; exact size_none _)) (hf _ _ hf')⟩
theorem c_ret {f:Nat} {D:Fn} {as:List V} (h:fnTab f=some D) (g:as.length=D.arity) (e1:Rn c d D.body (argsL 0 as) H (.ret v) L' H'):Cl c (d+1) f as H v H':=c_core h g (.ret v) (fun w fw ⟨x,e,hx⟩=>by subst e; exact hx) e1
theorem c_end {f:Nat} {D:Fn} {as:List V} (h:fnTab f=some D) (g:as.length=D.arity) (e1:Rn c d D.body (argsL 0 as) H .next L' H'):Cl c (d+1) f as H .none H':=c_core h g .next (fun w fw e=>by cases e; rfl) e1
end
end Mine
end
section
namespace Mine
open PySem.W.Fast renaming tw14364793385576792824→uA,tw10295753902157049106→uB,tw10110043849684766642→uC,tw12563942051412417395→uD
noncomputable section
open PySem PySem.W
noncomputable abbrev W0:Program:=PySem.Challenge.pw_nm0047_01
noncomputable def stAt:List Stmt→Nat→Stmt
 | [],_=>.Pass ⟨0,0,0,0⟩
 | s::_,0=>s
 | _::r,n+1=>stAt r n
noncomputable def fPar:Stmt→Arguments
 | .FunctionDef _ a _ _ _ _ _ _ _ _=>a
 | _=>⟨[],[],none,[],[],none,[]⟩
noncomputable def fBod:Stmt→List Stmt
 | .FunctionDef _ _ b _ _ _ _ _ _ _=>b
 | _=>[]
noncomputable def fSco:Stmt→Scope
 | .FunctionDef _ _ _ _ _ _ s _ _ _=>s
 | _=>⟨.function,[],false,false,[]⟩
noncomputable def cBod:Stmt→List Stmt
 | .ClassDef _ _ _ b _ _ _ _ _ _ _=>b
 | _=>[]
noncomputable def sA (i:Nat):Stmt:=stAt W0.main.body i
noncomputable def sM (i j:Nat):Stmt:=stAt (cBod (sA i)) j
noncomputable abbrev vN:Value:=.none
noncomputable abbrev vb (b:Bool):Value:=.bool b
noncomputable abbrev vI (i:Int) (t:Tok):Value:=.int i t
noncomputable abbrev vS (s:Str) (t:Tok):Value:=.str s t
noncomputable abbrev vT (n:String):Value:=.type n
noncomputable abbrev vB (n:String):Value:=.builtin n
noncomputable abbrev vR (a:Addr):Value:=.ref a
noncomputable def sE (P:Params) (x:Str) (t:Tok) (v:Value):DictEntry:=⟨PyData.keyHash P x,.str x t,v⟩
noncomputable def iE (i:Int) (t:Tok) (v:Value):DictEntry:=⟨i,.int i t,v⟩
noncomputable def oQ (c:Value) (l:List Value):Obj:=⟨c,none,.seq ⟨l⟩ 0,⟨[]⟩⟩
noncomputable def oL (c:Value) (l:List Value):Obj:=⟨c,none,.fields ⟨l⟩,⟨[]⟩⟩
noncomputable def oD (c:Value) (l:List DictEntry) (n:Nat):Obj:=⟨c,none,.dict ⟨l⟩ n,⟨[]⟩⟩
noncomputable def oP (c:Value) (d:Option Addr) (l:List (Option Value)):Obj:=⟨c,d,.plain,⟨l⟩⟩
noncomputable def oK (c:Value) (k:ClassData) (l:List (Option Value)):Obj:=⟨c,none,.cls k,⟨l⟩⟩
noncomputable def fdata (n q:Str) (s:Stmt) (g:Addr) (m cd:Value):FuncData:=⟨n,q,fPar s,.stmts (fBod s),fSco s,g,[],.none,.none,.none,m,none,cd,.none,0⟩
noncomputable def oC (n q:Str) (s:Stmt):Obj:=⟨.none,none,.func (fdata n q s 0 .none .none),⟨[]⟩⟩

noncomputable def s0:Str:=⟨⟨[60,109,111,100,117,108,101,62]⟩⟩ -- <module>
noncomputable def s1:Str:=⟨⟨[47,99,108,97,105,109,47,99,117,116,46,112,121]⟩⟩ -- /claim/cut.py
noncomputable def s2:Str:=⟨⟨[95,95,109,97,105,110,95,95]⟩⟩ -- __main__
noncomputable def s3:Str:=⟨⟨[107]⟩⟩ -- k
noncomputable def s4:Str:=⟨⟨[95,119,97,108,108]⟩⟩ -- _wall
noncomputable def s5:Str:=⟨⟨[95,95,109,111,100,117,108,101,95,95]⟩⟩ -- __module__
noncomputable def s6:Str:=⟨⟨[99,111,114,101,99,99,46,101,114,114,111,114,115]⟩⟩ -- corecc.errors
noncomputable def s7:Str:=⟨⟨[95,95,113,117,97,108,110,97,109,101,95,95]⟩⟩ -- __qualname__
noncomputable def s8:Str:=⟨⟨[84,114,97,112]⟩⟩ -- Trap
noncomputable def s9:Str:=⟨⟨[95,95,102,105,114,115,116,108,105,110,101,110,111,95,95]⟩⟩ -- __firstlineno__
noncomputable def s10:Str:=⟨⟨[95,95,105,110,105,116,95,95]⟩⟩ -- __init__
noncomputable def s11:Str:=⟨⟨[95,95,115,116,97,116,105,99,95,97,116,116,114,105,98,117,116,101,115,95,95]⟩⟩ -- __static_attributes__
noncomputable def s12:Str:=⟨⟨[115,101,108,102]⟩⟩ -- self
noncomputable def s13:Str:=⟨⟨[119,111,114,100]⟩⟩ -- word
noncomputable def s14:Str:=⟨⟨[97,116]⟩⟩ -- at
noncomputable def s15:Str:=⟨⟨[84,114,97,112,46,95,95,105,110,105,116,95,95]⟩⟩ -- Trap.__init__
noncomputable def s16:Str:=⟨⟨[95,95,119,101,97,107,114,101,102,95,95]⟩⟩ -- __weakref__
noncomputable def s17:Str:=⟨⟨[95,95,100,111,99,95,95]⟩⟩ -- __doc__
noncomputable def s18:Str:=⟨⟨[108,117,105]⟩⟩ -- lui
noncomputable def s19:Str:=⟨⟨[97,117,105,112,99]⟩⟩ -- auipc
noncomputable def s20:Str:=⟨⟨[106,97,108]⟩⟩ -- jal
noncomputable def s21:Str:=⟨⟨[106,97,108,114]⟩⟩ -- jalr
noncomputable def s22:Str:=⟨⟨[98,101,113]⟩⟩ -- beq
noncomputable def s23:Str:=⟨⟨[98,110,101]⟩⟩ -- bne
noncomputable def s24:Str:=⟨⟨[98,108,116]⟩⟩ -- blt
noncomputable def s25:Str:=⟨⟨[98,103,101]⟩⟩ -- bge
noncomputable def s26:Str:=⟨⟨[98,108,116,117]⟩⟩ -- bltu
noncomputable def s27:Str:=⟨⟨[98,103,101,117]⟩⟩ -- bgeu
noncomputable def s28:Str:=⟨⟨[108,98]⟩⟩ -- lb
noncomputable def s29:Str:=⟨⟨[108,104]⟩⟩ -- lh
noncomputable def s30:Str:=⟨⟨[108,119]⟩⟩ -- lw
noncomputable def s31:Str:=⟨⟨[108,98,117]⟩⟩ -- lbu
noncomputable def s32:Str:=⟨⟨[108,104,117]⟩⟩ -- lhu
noncomputable def s33:Str:=⟨⟨[115,98]⟩⟩ -- sb
noncomputable def s34:Str:=⟨⟨[115,104]⟩⟩ -- sh
noncomputable def s35:Str:=⟨⟨[115,119]⟩⟩ -- sw
noncomputable def s36:Str:=⟨⟨[97,100,100,105]⟩⟩ -- addi
noncomputable def s37:Str:=⟨⟨[115,108,116,105]⟩⟩ -- slti
noncomputable def s38:Str:=⟨⟨[115,108,116,105,117]⟩⟩ -- sltiu
noncomputable def s39:Str:=⟨⟨[120,111,114,105]⟩⟩ -- xori
noncomputable def s40:Str:=⟨⟨[111,114,105]⟩⟩ -- ori
noncomputable def s41:Str:=⟨⟨[97,110,100,105]⟩⟩ -- andi
noncomputable def s42:Str:=⟨⟨[115,108,108,105]⟩⟩ -- slli
noncomputable def s43:Str:=⟨⟨[115,114,108,105]⟩⟩ -- srli
noncomputable def s44:Str:=⟨⟨[115,114,97,105]⟩⟩ -- srai
noncomputable def s45:Str:=⟨⟨[97,100,100]⟩⟩ -- add
noncomputable def s46:Str:=⟨⟨[115,117,98]⟩⟩ -- sub
noncomputable def s47:Str:=⟨⟨[115,108,108]⟩⟩ -- sll
noncomputable def s48:Str:=⟨⟨[115,108,116]⟩⟩ -- slt
noncomputable def s49:Str:=⟨⟨[115,108,116,117]⟩⟩ -- sltu
noncomputable def s50:Str:=⟨⟨[120,111,114]⟩⟩ -- xor
noncomputable def s51:Str:=⟨⟨[115,114,108]⟩⟩ -- srl
noncomputable def s52:Str:=⟨⟨[115,114,97]⟩⟩ -- sra
noncomputable def s53:Str:=⟨⟨[111,114]⟩⟩ -- or
noncomputable def s54:Str:=⟨⟨[97,110,100]⟩⟩ -- and
noncomputable def s55:Str:=⟨⟨[109,117,108]⟩⟩ -- mul
noncomputable def s56:Str:=⟨⟨[109,117,108,104]⟩⟩ -- mulh
noncomputable def s57:Str:=⟨⟨[109,117,108,104,115,117]⟩⟩ -- mulhsu
noncomputable def s58:Str:=⟨⟨[109,117,108,104,117]⟩⟩ -- mulhu
noncomputable def s59:Str:=⟨⟨[100,105,118]⟩⟩ -- div
noncomputable def s60:Str:=⟨⟨[100,105,118,117]⟩⟩ -- divu
noncomputable def s61:Str:=⟨⟨[114,101,109]⟩⟩ -- rem
noncomputable def s62:Str:=⟨⟨[114,101,109,117]⟩⟩ -- remu
noncomputable def s63:Str:=⟨⟨[102,101,110,99,101]⟩⟩ -- fence
noncomputable def s64:Str:=⟨⟨[101,99,97,108,108]⟩⟩ -- ecall
noncomputable def s65:Str:=⟨⟨[101,98,114,101,97,107]⟩⟩ -- ebreak
noncomputable def s66:Str:=⟨⟨[85]⟩⟩ -- U
noncomputable def s67:Str:=⟨⟨[74]⟩⟩ -- J
noncomputable def s68:Str:=⟨⟨[73]⟩⟩ -- I
noncomputable def s69:Str:=⟨⟨[66]⟩⟩ -- B
noncomputable def s70:Str:=⟨⟨[83]⟩⟩ -- S
noncomputable def s71:Str:=⟨⟨[72]⟩⟩ -- H
noncomputable def s72:Str:=⟨⟨[82]⟩⟩ -- R
noncomputable def s73:Str:=⟨⟨[70]⟩⟩ -- F
noncomputable def s74:Str:=⟨⟨[69]⟩⟩ -- E
noncomputable def s75:Str:=⟨⟨[114,100]⟩⟩ -- rd
noncomputable def s76:Str:=⟨⟨[114,115,49]⟩⟩ -- rs1
noncomputable def s77:Str:=⟨⟨[114,115,50]⟩⟩ -- rs2
noncomputable def s78:Str:=⟨⟨[118,97,108,117,101]⟩⟩ -- value
noncomputable def s79:Str:=⟨⟨[119,105,100,116,104]⟩⟩ -- width
noncomputable def s80:Str:=⟨⟨[108,111,119]⟩⟩ -- low
noncomputable def s81:Str:=⟨⟨[115,105,103,110,101,100]⟩⟩ -- signed
noncomputable def s82:Str:=⟨⟨[99,111,114,101,99,99,46,114,118,51,50]⟩⟩ -- corecc.rv32
noncomputable def s83:Str:=⟨⟨[102,111,114,109]⟩⟩ -- form
noncomputable def s84:Str:=⟨⟨[104,105,103,104]⟩⟩ -- high
noncomputable def s85:Str:=⟨⟨[105,109,109,95,111,102]⟩⟩ -- imm_of
noncomputable def s86:Str:=⟨⟨[110,97,109,101,115,95,98,121,95,98,97,115,101]⟩⟩ -- names_by_base
noncomputable def s87:Str:=⟨⟨[111,112,99,111,100,101]⟩⟩ -- opcode
noncomputable def s88:Str:=⟨⟨[110,97,109,101,95,111,102]⟩⟩ -- name_of
noncomputable def s89:Str:=⟨⟨[110,97,109,101]⟩⟩ -- name
noncomputable def s90:Str:=⟨⟨[102,105,101,108,100,115]⟩⟩ -- fields
noncomputable def s91:Str:=⟨⟨[107,101,121]⟩⟩ -- key
noncomputable def s92:Str:=⟨⟨[115,104,105,102,116]⟩⟩ -- shift
noncomputable def s93:Str:=⟨⟨[100,101,99,111,100,101]⟩⟩ -- decode
noncomputable def s94:Str:=⟨⟨[105,109,97,103,101]⟩⟩ -- image
noncomputable def s95:Str:=⟨⟨[97,100,100,114,101,115,115]⟩⟩ -- address
noncomputable def s96:Str:=⟨⟨[112,105,101,99,101]⟩⟩ -- piece
noncomputable def s97:Str:=⟨⟨[116,101,120,116,95,112,105,101,99,101]⟩⟩ -- text_piece
noncomputable def s98:Str:=⟨⟨[99,111,114,101,99,99,46,100,101,98,117,103]⟩⟩ -- corecc.debug
noncomputable def s99:Str:=⟨⟨[114,111,119,115]⟩⟩ -- rows
noncomputable def s100:Str:=⟨⟨[109,105,100,100,108,101]⟩⟩ -- middle
noncomputable def s101:Str:=⟨⟨[108,97,115,116,95,97,116]⟩⟩ -- last_at
noncomputable def s102:Str:=⟨⟨[102,117,110,99,116,105,111,110,95,114,111,119]⟩⟩ -- function_row
noncomputable def s103:Str:=⟨⟨[114,111,119]⟩⟩ -- row
noncomputable def s104:Str:=⟨⟨[102,117,110,99,116,105,111,110,95,97,116]⟩⟩ -- function_at
noncomputable def s105:Str:=⟨⟨[69,110,116,114,121]⟩⟩ -- Entry
noncomputable def s106:Str:=⟨⟨[69,110,116,114,121,46,95,95,105,110,105,116,95,95]⟩⟩ -- Entry.__init__
noncomputable def s107:Str:=⟨⟨[107,101,112,116]⟩⟩ -- kept
noncomputable def s108:Str:=⟨⟨[107,101,112,116,95,100,111,110,101]⟩⟩ -- kept_done
noncomputable def s109:Str:=⟨⟨[115,105,122,101]⟩⟩ -- size
noncomputable def s110:Str:=⟨⟨[115,105,122,101,95,100,111,110,101]⟩⟩ -- size_done
noncomputable def s111:Str:=⟨⟨[95,95,100,105,99,116,95,95]⟩⟩ -- __dict__
noncomputable def s112:Str:=⟨⟨[109,97,99,104,105,110,101]⟩⟩ -- machine
noncomputable def s113:Str:=⟨⟨[105,110,115,116,114,117,99,116,105,111,110,95,111,102]⟩⟩ -- instruction_of
noncomputable def s114:Str:=⟨⟨[116,111,108,100]⟩⟩ -- told
noncomputable def s115:Str:=⟨⟨[110,117,109,98,101,114,115]⟩⟩ -- numbers
noncomputable def s116:Str:=⟨⟨[108,111,119,101,114,101,100]⟩⟩ -- lowered
noncomputable def s117:Str:=⟨⟨[115,116,97,114,116]⟩⟩ -- start
noncomputable def s118:Str:=⟨⟨[110,111,116,101,95,110,117,109,98,101,114]⟩⟩ -- note_number
noncomputable def s119:Str:=⟨⟨[102,111,117,110,100]⟩⟩ -- found
noncomputable def s120:Str:=⟨⟨[116,117,114,110]⟩⟩ -- turn
noncomputable def s121:Str:=⟨⟨[101,110,116,114,121,95,111,102]⟩⟩ -- entry_of
noncomputable def s122:Str:=⟨⟨[105,115,95,108,101,97,118,105,110,103]⟩⟩ -- is_leaving
noncomputable def s123:Str:=⟨⟨[101,110,116,114,121]⟩⟩ -- entry
noncomputable def s124:Str:=⟨⟨[115,112]⟩⟩ -- sp
noncomputable def s125:Str:=⟨⟨[105,115,95,105,110,110,101,114]⟩⟩ -- is_inner
noncomputable def s126:Str:=⟨⟨[115,116,101,112,95,111,117,116]⟩⟩ -- step_out
noncomputable def s127:Str:=⟨⟨[111,117,116]⟩⟩ -- out
noncomputable def s128:Str:=⟨⟨[99,97,108,108,115,95,111,102]⟩⟩ -- calls_of
noncomputable def s129:Str:=⟨⟨[99,111,114,101,99,99,46,108,105,110,107,105,110,103]⟩⟩ -- corecc.linking
noncomputable def s130:Str:=⟨⟨[73,109,97,103,101]⟩⟩ -- Image
noncomputable def s131:Str:=⟨⟨[98,97,115,101]⟩⟩ -- base
noncomputable def s132:Str:=⟨⟨[111,99,116,101,116,115]⟩⟩ -- octets
noncomputable def s133:Str:=⟨⟨[98,115,115,95,115,105,122,101]⟩⟩ -- bss_size
noncomputable def s134:Str:=⟨⟨[115,121,109,98,111,108,115]⟩⟩ -- symbols
noncomputable def s135:Str:=⟨⟨[73,109,97,103,101,46,95,95,105,110,105,116,95,95]⟩⟩ -- Image.__init__
noncomputable def s136:Str:=⟨⟨[108,105,110,101,115]⟩⟩ -- lines
noncomputable def s137:Str:=⟨⟨[110,97,109,101,115]⟩⟩ -- names
noncomputable def s138:Str:=⟨⟨[112,105,101,99,101,115]⟩⟩ -- pieces
noncomputable def s139:Str:=⟨⟨[115,105,103,110,101,100,95,119,111,114,100]⟩⟩ -- signed_word
noncomputable def s140:Str:=⟨⟨[99,111,114,101,99,99,46,109,97,99,104,105,110,101]⟩⟩ -- corecc.machine
noncomputable def s141:Str:=⟨⟨[97]⟩⟩ -- a
noncomputable def s142:Str:=⟨⟨[98]⟩⟩ -- b
noncomputable def s143:Str:=⟨⟨[97,100,100,101,100]⟩⟩ -- added
noncomputable def s144:Str:=⟨⟨[115,117,98,116,114,97,99,116,101,100]⟩⟩ -- subtracted
noncomputable def s145:Str:=⟨⟨[115,104,105,102,116,101,100,95,108,101,102,116]⟩⟩ -- shifted_left
noncomputable def s146:Str:=⟨⟨[115,104,105,102,116,101,100,95,114,105,103,104,116]⟩⟩ -- shifted_right
noncomputable def s147:Str:=⟨⟨[115,104,105,102,116,101,100,95,115,105,103,110,101,100]⟩⟩ -- shifted_signed
noncomputable def s148:Str:=⟨⟨[108,101,115,115]⟩⟩ -- less
noncomputable def s149:Str:=⟨⟨[108,101,115,115,95,117,110,115,105,103,110,101,100]⟩⟩ -- less_unsigned
noncomputable def s150:Str:=⟨⟨[110,111,116,95,108,101,115,115]⟩⟩ -- not_less
noncomputable def s151:Str:=⟨⟨[110,111,116,95,108,101,115,115,95,117,110,115,105,103,110,101,100]⟩⟩ -- not_less_unsigned
noncomputable def s152:Str:=⟨⟨[115,97,109,101]⟩⟩ -- same
noncomputable def s153:Str:=⟨⟨[117,110,108,105,107,101]⟩⟩ -- unlike
noncomputable def s154:Str:=⟨⟨[120,111,114,101,100]⟩⟩ -- xored
noncomputable def s155:Str:=⟨⟨[111,114,101,100]⟩⟩ -- ored
noncomputable def s156:Str:=⟨⟨[97,110,100,101,100]⟩⟩ -- anded
noncomputable def s157:Str:=⟨⟨[109,117,108,116,105,112,108,105,101,100]⟩⟩ -- multiplied
noncomputable def s158:Str:=⟨⟨[104,105,103,104,95,115,105,103,110,101,100]⟩⟩ -- high_signed
noncomputable def s159:Str:=⟨⟨[104,105,103,104,95,109,105,120,101,100]⟩⟩ -- high_mixed
noncomputable def s160:Str:=⟨⟨[104,105,103,104,95,117,110,115,105,103,110,101,100]⟩⟩ -- high_unsigned
noncomputable def s161:Str:=⟨⟨[111,110,101]⟩⟩ -- one
noncomputable def s162:Str:=⟨⟨[111,116,104,101,114]⟩⟩ -- other
noncomputable def s163:Str:=⟨⟨[100,105,118,105,100,101,100]⟩⟩ -- divided
noncomputable def s164:Str:=⟨⟨[100,105,118,105,100,101,100,95,117,110,115,105,103,110,101,100]⟩⟩ -- divided_unsigned
noncomputable def s165:Str:=⟨⟨[108,101,102,116,95,111,118,101,114]⟩⟩ -- left_over
noncomputable def s166:Str:=⟨⟨[108,101,102,116,95,111,118,101,114,95,117,110,115,105,103,110,101,100]⟩⟩ -- left_over_unsigned
noncomputable def s167:Str:=⟨⟨[77,97,99,104,105,110,101]⟩⟩ -- Machine
noncomputable def s168:Str:=⟨⟨[112,108,97,99,101,95,111,102]⟩⟩ -- place_of
noncomputable def s169:Str:=⟨⟨[112,108,97,99,101,95,102,111,114]⟩⟩ -- place_for
noncomputable def s170:Str:=⟨⟨[108,111,97,100]⟩⟩ -- load
noncomputable def s171:Str:=⟨⟨[115,116,111,114,101]⟩⟩ -- store
noncomputable def s172:Str:=⟨⟨[111,99,116,101,116,115,95,97,116]⟩⟩ -- octets_at
noncomputable def s173:Str:=⟨⟨[112,117,116]⟩⟩ -- put
noncomputable def s174:Str:=⟨⟨[105,110,115,116,114,117,99,116,105,111,110,95,97,116]⟩⟩ -- instruction_at
noncomputable def s175:Str:=⟨⟨[106,117,109,112]⟩⟩ -- jump
noncomputable def s176:Str:=⟨⟨[115,116,101,112]⟩⟩ -- step
noncomputable def s177:Str:=⟨⟨[109,111,118,101]⟩⟩ -- move
noncomputable def s178:Str:=⟨⟨[108,101,97,100]⟩⟩ -- lead
noncomputable def s179:Str:=⟨⟨[99,97,108,108,95,111,117,116]⟩⟩ -- call_out
noncomputable def s180:Str:=⟨⟨[114,117,110]⟩⟩ -- run
noncomputable def s181:Str:=⟨⟨[109,101,109,111,114,121,95,115,105,122,101]⟩⟩ -- memory_size
noncomputable def s182:Str:=⟨⟨[101,110,100]⟩⟩ -- end
noncomputable def s183:Str:=⟨⟨[77,97,99,104,105,110,101,46,95,95,105,110,105,116,95,95]⟩⟩ -- Machine.__init__
noncomputable def s184:Str:=⟨⟨[112,108,97,99,101]⟩⟩ -- place
noncomputable def s185:Str:=⟨⟨[77,97,99,104,105,110,101,46,112,108,97,99,101,95,111,102]⟩⟩ -- Machine.place_of
noncomputable def s186:Str:=⟨⟨[77,97,99,104,105,110,101,46,112,108,97,99,101,95,102,111,114]⟩⟩ -- Machine.place_for
noncomputable def s187:Str:=⟨⟨[77,97,99,104,105,110,101,46,108,111,97,100]⟩⟩ -- Machine.load
noncomputable def s188:Str:=⟨⟨[77,97,99,104,105,110,101,46,115,116,111,114,101]⟩⟩ -- Machine.store
noncomputable def s189:Str:=⟨⟨[77,97,99,104,105,110,101,46,111,99,116,101,116,115,95,97,116]⟩⟩ -- Machine.octets_at
noncomputable def s190:Str:=⟨⟨[110,117,109,98,101,114]⟩⟩ -- number
noncomputable def s191:Str:=⟨⟨[77,97,99,104,105,110,101,46,112,117,116]⟩⟩ -- Machine.put
noncomputable def s192:Str:=⟨⟨[77,97,99,104,105,110,101,46,105,110,115,116,114,117,99,116,105,111,110,95,97,116]⟩⟩ -- Machine.instruction_at
noncomputable def s193:Str:=⟨⟨[116,97,114,103,101,116]⟩⟩ -- target
noncomputable def s194:Str:=⟨⟨[77,97,99,104,105,110,101,46,106,117,109,112]⟩⟩ -- Machine.jump
noncomputable def s195:Str:=⟨⟨[77,97,99,104,105,110,101,46,115,116,101,112]⟩⟩ -- Machine.step
noncomputable def s196:Str:=⟨⟨[105,115,95,115,105,103,110,101,100]⟩⟩ -- is_signed
noncomputable def s197:Str:=⟨⟨[77,97,99,104,105,110,101,46,109,111,118,101]⟩⟩ -- Machine.move
noncomputable def s198:Str:=⟨⟨[104,101,114,101]⟩⟩ -- here
noncomputable def s199:Str:=⟨⟨[77,97,99,104,105,110,101,46,108,101,97,100]⟩⟩ -- Machine.lead
noncomputable def s200:Str:=⟨⟨[97,115,107,101,100]⟩⟩ -- asked
noncomputable def s201:Str:=⟨⟨[77,97,99,104,105,110,101,46,99,97,108,108,95,111,117,116]⟩⟩ -- Machine.call_out
noncomputable def s202:Str:=⟨⟨[115,116,101,112,115,95,109,111,115,116]⟩⟩ -- steps_most
noncomputable def s203:Str:=⟨⟨[77,97,99,104,105,110,101,46,114,117,110]⟩⟩ -- Machine.run
noncomputable def s204:Str:=⟨⟨[105,110,112,117,116]⟩⟩ -- input
noncomputable def s205:Str:=⟨⟨[105,115,95,100,111,110,101]⟩⟩ -- is_done
noncomputable def s206:Str:=⟨⟨[107,110,111,119,110]⟩⟩ -- known
noncomputable def s207:Str:=⟨⟨[109,101,109,111,114,121]⟩⟩ -- memory
noncomputable def s208:Str:=⟨⟨[111,117,116,112,117,116]⟩⟩ -- output
noncomputable def s209:Str:=⟨⟨[112,99]⟩⟩ -- pc
noncomputable def s210:Str:=⟨⟨[114,101,103,105,115,116,101,114,115]⟩⟩ -- registers
noncomputable def s211:Str:=⟨⟨[115,116,97,116,117,115]⟩⟩ -- status
noncomputable def s212:Str:=⟨⟨[115,116,101,112,115]⟩⟩ -- steps
noncomputable def s213:Str:=⟨⟨[116,97,107,101,110]⟩⟩ -- taken
noncomputable def s214:Str:=⟨⟨[102]⟩⟩ -- f
noncomputable def s215:Str:=⟨⟨[103]⟩⟩ -- g
noncomputable def s216:Str:=⟨⟨[104]⟩⟩ -- h
noncomputable def s217:Str:=⟨⟨[119,101,108,108]⟩⟩ -- well
noncomputable def s218:Str:=⟨⟨[95,108,97,119,95,100,114,97,119]⟩⟩ -- _law_draw
noncomputable def s219:Str:=⟨⟨[108,97,119,95,110,109,48,48,52,55,95,48,49]⟩⟩ -- law_nm0047_01
noncomputable def s220:Str:=⟨⟨[103,111,97,108]⟩⟩ -- goal
noncomputable def s221:Str:=⟨⟨[95,108,97,119,95,99,97,108,108]⟩⟩ -- _law_call
noncomputable def s222:Str:=⟨⟨[95,108,97,119,95,102,114,97,109,101]⟩⟩ -- _law_frame
noncomputable def s223:Str:=⟨⟨[104,97,115,95,102,114,97,109,101]⟩⟩ -- has_frame
noncomputable def s224:Str:=⟨⟨[112,105,99,107]⟩⟩ -- pick
noncomputable def s225:Str:=⟨⟨[95,108,97,119,95,102,105,108,108,101,114]⟩⟩ -- _law_filler
noncomputable def s226:Str:=⟨⟨[109,97,110,121]⟩⟩ -- many
noncomputable def s227:Str:=⟨⟨[98,101,103,105,110]⟩⟩ -- begin
noncomputable def s228:Str:=⟨⟨[102,105,110,105,115,104]⟩⟩ -- finish
noncomputable def s229:Str:=⟨⟨[105,110,115,105,100,101]⟩⟩ -- inside
noncomputable def s230:Str:=⟨⟨[107,105,110,100]⟩⟩ -- kind
noncomputable def s231:Str:=⟨⟨[95,108,97,119,95,102,117,110,99,116,105,111,110]⟩⟩ -- _law_function
noncomputable def s232:Str:=⟨⟨[115,116,97,114,116,115]⟩⟩ -- starts
noncomputable def s233:Str:=⟨⟨[111,112]⟩⟩ -- op
noncomputable def s234:Str:=⟨⟨[102,97,114]⟩⟩ -- far
noncomputable def s235:Str:=⟨⟨[95,108,97,119,95,119,111,114,100]⟩⟩ -- _law_word
noncomputable def s236:Str:=⟨⟨[112,97,114,116,115]⟩⟩ -- parts
noncomputable def s237:Str:=⟨⟨[105,115,95,116,117,114,110,101,100]⟩⟩ -- is_turned
noncomputable def s238:Str:=⟨⟨[99,117,116]⟩⟩ -- cut
noncomputable def s239:Str:=⟨⟨[114,111,119,95,111,102,95,112,97,114,116,115]⟩⟩ -- row_of_parts
noncomputable def s240:Str:=⟨⟨[109,97,114,107,115]⟩⟩ -- marks
noncomputable def s241:Str:=⟨⟨[98,101,104,105,110,100]⟩⟩ -- behind
noncomputable def s242:Str:=⟨⟨[95,108,97,119,95,108,97,105,100]⟩⟩ -- _law_laid
noncomputable def s243:Str:=⟨⟨[108,97,119]⟩⟩ -- law
noncomputable def s244:Str:=⟨⟨[95,95,110,97,109,101,95,95]⟩⟩ -- __name__
noncomputable def s245:Str:=⟨⟨[95,95,112,97,99,107,97,103,101,95,95]⟩⟩ -- __package__
noncomputable def s246:Str:=⟨⟨[95,95,108,111,97,100,101,114,95,95]⟩⟩ -- __loader__
noncomputable def s247:Str:=⟨⟨[95,95,115,112,101,99,95,95]⟩⟩ -- __spec__
noncomputable def s248:Str:=⟨⟨[95,95,97,110,110,111,116,97,116,105,111,110,115,95,95]⟩⟩ -- __annotations__
noncomputable def s249:Str:=⟨⟨[95,95,98,117,105,108,116,105,110,115,95,95]⟩⟩ -- __builtins__
noncomputable def s250:Str:=⟨⟨[95,95,102,105,108,101,95,95]⟩⟩ -- __file__
noncomputable def s251:Str:=⟨⟨[95,95,99,97,99,104,101,100,95,95]⟩⟩ -- __cached__
noncomputable def s252:Str:=⟨⟨[87,79,82,68,95,77,65,83,75]⟩⟩ -- WORD_MASK
noncomputable def s253:Str:=⟨⟨[76,85,73]⟩⟩ -- LUI
noncomputable def s254:Str:=⟨⟨[65,85,73,80,67]⟩⟩ -- AUIPC
noncomputable def s255:Str:=⟨⟨[74,65,76]⟩⟩ -- JAL
noncomputable def s256:Str:=⟨⟨[87,73,84,72,95,73,77,77]⟩⟩ -- WITH_IMM
noncomputable def s257:Str:=⟨⟨[87,73,84,72,95,82,69,71]⟩⟩ -- WITH_REG
noncomputable def s258:Str:=⟨⟨[70,69,78,67,69]⟩⟩ -- FENCE
noncomputable def s259:Str:=⟨⟨[83,89,83,84,69,77]⟩⟩ -- SYSTEM
noncomputable def s260:Str:=⟨⟨[73,78,83,84,82,85,67,84,73,79,78,83]⟩⟩ -- INSTRUCTIONS
noncomputable def s261:Str:=⟨⟨[80,76,65,67,69,83]⟩⟩ -- PLACES
noncomputable def s262:Str:=⟨⟨[66,79,85,78,68,83]⟩⟩ -- BOUNDS
noncomputable def s263:Str:=⟨⟨[78,65,77,69,83,95,66,89,95,66,65,83,69]⟩⟩ -- NAMES_BY_BASE
noncomputable def s264:Str:=⟨⟨[84,69,88,84]⟩⟩ -- TEXT
noncomputable def s265:Str:=⟨⟨[46,116,101,120,116]⟩⟩ -- .text
noncomputable def s266:Str:=⟨⟨[82,65]⟩⟩ -- RA
noncomputable def s267:Str:=⟨⟨[83,80,95,100,101,98,117,103]⟩⟩ -- SP_debug
noncomputable def s268:Str:=⟨⟨[77,79,83,84,95,70,82,65,77,69,83]⟩⟩ -- MOST_FRAMES
noncomputable def s269:Str:=⟨⟨[77,79,83,84,95,82,79,87,83]⟩⟩ -- MOST_ROWS
noncomputable def s270:Str:=⟨⟨[83,80,95,109,97,99,104,105,110,101]⟩⟩ -- SP_machine
noncomputable def s271:Str:=⟨⟨[65,48]⟩⟩ -- A0
noncomputable def s272:Str:=⟨⟨[65,55]⟩⟩ -- A7
noncomputable def s273:Str:=⟨⟨[83,73,71,78]⟩⟩ -- SIGN
noncomputable def s274:Str:=⟨⟨[69,88,73,84]⟩⟩ -- EXIT
noncomputable def s275:Str:=⟨⟨[80,85,84]⟩⟩ -- PUT
noncomputable def s276:Str:=⟨⟨[71,69,84]⟩⟩ -- GET
noncomputable def s277:Str:=⟨⟨[87,73,84,72,95,82,69,71,73,83,84,69,82,83]⟩⟩ -- WITH_REGISTERS
noncomputable def s278:Str:=⟨⟨[87,73,84,72,95,78,85,77,66,69,82,83]⟩⟩ -- WITH_NUMBERS
noncomputable def s279:Str:=⟨⟨[66,82,65,78,67,72,69,83]⟩⟩ -- BRANCHES
noncomputable def s280:Str:=⟨⟨[76,79,65,68,83]⟩⟩ -- LOADS
noncomputable def s281:Str:=⟨⟨[83,84,79,82,69,83]⟩⟩ -- STORES
noncomputable def s282:Str:=⟨⟨[95,108,97,119,95,78,65,77,69,83]⟩⟩ -- _law_NAMES
noncomputable def s283:Str:=⟨⟨[116,121,112,101,46,95,95,115,117,98,99,108,97,115,115,101,115,95,95,46,69,120,99,101,112,116,105,111,110,46,48]⟩⟩ -- type.__subclasses__.Exception.0
noncomputable def s284:Str:=⟨⟨[116,121,112,101,46,95,95,115,117,98,99,108,97,115,115,101,115,95,95,46,69,120,99,101,112,116,105,111,110,46,110]⟩⟩ -- type.__subclasses__.Exception.n
noncomputable abbrev q0:String:=PySem.W.SL.s2766695959194262286x5 -- tuple
noncomputable abbrev q1:String:=PySem.W.SL.s5856160107412720595x4 -- code
noncomputable abbrev q2:String:=PySem.W.SL.s658472552662922059x5 -- frame
noncomputable abbrev q3:String:=PySem.W.SL.s7174869446012820540x8 -- function
noncomputable abbrev q4:String:=PySem.W.SL.s5946037652744460706x9 -- Exception
noncomputable abbrev q5:String:=PySem.W.SL.s11030030927630378310x26 -- builtin_function_or_method
noncomputable abbrev q6:String:=PySem.W.SL.s10062305145149207511x16 -- type.__prepare__
noncomputable abbrev q7:String:=PySem.W.SL.s17162191345867700912x4 -- type
noncomputable abbrev q8:String:=PySem.W.SL.s14018661285674007319x4 -- dict
noncomputable abbrev q9:String:=PySem.W.SL.s5160863994218179198x17 -- Exception.__new__
noncomputable abbrev q10:String:=PySem.W.SL.s4278001404047624695x13 -- BaseException
noncomputable abbrev q11:String:=PySem.W.SL.s2742458400755230247x6 -- object
noncomputable abbrev q12:String:=PySem.W.SL.s14755015743595814543x17 -- getset_descriptor
noncomputable abbrev q13:String:=PySem.W.SL.s10220274742760427390x26 -- ExceptionGroup.__weakref__
noncomputable abbrev q14:String:=PySem.W.SL.s4290257624100764138x5 -- super
noncomputable abbrev q15:String:=PySem.W.SL.s4860613602091757760x24 -- object.__init_subclass__
noncomputable abbrev q16:String:=PySem.W.SL.s5752873746120287726x10 -- dict_items
noncomputable abbrev q17:String:=PySem.W.SL.s2783514499706994809x17 -- dict_itemiterator
noncomputable abbrev q18:String:=PySem.W.SL.s4096838299382398694x14 -- tuple_iterator
noncomputable abbrev q19:String:=PySem.W.SL.s5991306692159431302x13 -- StopIteration
noncomputable abbrev q20:String:=PySem.W.SL.s11443829558043349243x14 -- object.__new__
noncomputable abbrev q21:String:=PySem.W.SL.s6511155373996960695x17 -- function.__dict__
noncomputable abbrev q22:String:=PySem.W.SL.s12411053484034534018x21 -- function.__dict__#set
noncomputable abbrev q23:String:=PySem.W.SL.s9222952809800978799x4 -- list
noncomputable abbrev q24:String:=PySem.W.SL.s7097527257260152453x26 -- __main__.__loader__#opaque
noncomputable def oF (f:String) (n q:Str) (s:Stmt) (m cd:Value):Obj:=⟨.type f,none,.func (fdata n q s 3 m cd),⟨[]⟩⟩
noncomputable def half (l:List Obj):List Obj × List Obj:=l.foldr (fun a r=>(a::r.2,r.1)) ([],[])
noncomputable def mkT:Nat→List Obj→BT
 | 0,_=>.nil
 | _+1,[]=>.nil
 | n+1,a::r=>.node a (mkT n (half r).1) (mkT n (half r).2)

noncomputable def N0 (P:Params) (T:List Value):List Obj:=[oQ (vT q0) [],oL vN T,oL (vT q1) [(vS s0 182),(vS s0 183),(vS s1 184),(vI 1 0),(vI 0 0),(vI 0 0),(vI 0 0),(vI 0 0),(vR 11),(vb false),(vI 181 0),(vR 12),vN,vN,vN,vN,(vI 185 0),(vI 1 0),(vS s1 186)],oP (vT q2) none [(some (vR 13)),(some (vR 3)),(some (vR 3)),none,(some (vS s2 164)),none,(some (vR 0))]]
noncomputable def N1 (P:Params):List Obj:=[
 oQ (vT q0) [],
 oL vN [],
 oQ (vT q0) [(vS s3 190)],
 oQ (vT q0) [],
 oC s4 s4 (sA 0),
 oL (vT q1) [(vS s4 187),(vS s4 188),(vS s1 189),(vI 1 0),(vI 1 0),(vI 0 0),(vI 0 0),(vI 3 0),(vR 15),(vb true),(vI 181 0),(vR 16),vN,(vR 17),(vR 18),(vR 19),(vI 191 0),(vI 1 0),(vS s1 192)],
 oF q3 s4 s4 (sA 0) (vS s2 164) (vR 20)]
noncomputable def N3 (P:Params):List Obj:=[
 oQ (vT q0) [(vT q4)],
 oL (vT q5) [(vB q6),(vT q7)],
 oD (vT q8) [sE P s5 203 (vS s6 194),sE P s7 205 (vS s8 204),sE P s9 207 (vI 5 206),sE P s10 216 (vR 35),sE P s11 219 (vR 36)] 5,
 oQ (vT q0) [],
 oL vN [(vI 7 0),(vI 4 0),(vR 34)],
 oL (vT q1) [(vS s8 198),(vS s8 199),(vS s1 200),(vI 5 0),(vI 0 0),(vI 0 0),(vI 0 0),(vI 0 0),(vR 25),(vb false),(vI 181 0),(vR 26),vN,vN,vN,vN,(vI 201 0),(vI 5 0),(vS s1 202)],
 oP (vT q2) none [(some (vR 27)),(some (vR 3)),(some (vR 24)),none,(some (vS s6 194)),none,(some (vR 0))],
 oQ (vT q0) [],
 oL vN [],
 oQ (vT q0) [(vS s12 211),(vS s13 212),(vS s14 213)],
 oQ (vT q0) [],
 oC s10 s15 (sM 2 0),
 oL (vT q1) [(vS s10 208),(vS s15 209),(vS s1 210),(vI 7 0),(vI 3 0),(vI 0 0),(vI 0 0),(vI 3 0),(vR 29),(vb true),(vI 181 0),(vR 30),vN,(vR 31),(vR 32),(vR 33),(vI 214 0),(vI 7 0),(vS s1 215)],
 oF q3 s10 s15 (sM 2 0) (vS s6 194) (vR 34),
 oQ (vT q0) [(vS s14 217),(vS s13 218)],
 oD (vT q8) [sE P s5 203 (vS s6 194),sE P s9 207 (vI 5 206),sE P s10 216 (vR 35),sE P s11 219 (vR 36),sE P s16 221 (vR 39),sE P s17 222 vN] 3,
 oK (vT q7) { name:=s8,bases:=[(vT q4)],mro:=[(vR 38),(vT q4),(vT q10),(vT q11)],ns:=37,qualname:=s8,hasDict:=true,slotNames:=[],subclasses:=[],abstract:=false,collection:=none,hasDel:=false } [(some (vR 22)),none,(some (vS s8 196)),(some (vS s8 204)),(some (vB q9)),(some (vb true))],
 oL (vT q12) [(vS s16 220),(vR 38),(vB q13),vN],
 oL (vT q14) [(vR 38),(vR 38),(vR 38)],
 oL (vT q5) [(vB q15),(vR 38)]]
noncomputable def N13 (P:Params):List Obj:=[
 oD (vT q8) [sE P s18 245 (vR 43),sE P s19 249 (vR 44),sE P s20 253 (vR 45),sE P s21 257 (vR 46),sE P s22 261 (vR 47),sE P s23 265 (vR 48),sE P s24 269 (vR 49),sE P s25 273 (vR 50),sE P s26 277 (vR 51),sE P s27 281 (vR 52),sE P s28 285 (vR 53),sE P s29 289 (vR 54),sE P s30 293 (vR 55),sE P s31 297 (vR 56),sE P s32 301 (vR 57),sE P s33 305 (vR 58),sE P s34 309 (vR 59),sE P s35 313 (vR 61),sE P s36 317 (vR 62),sE P s37 321 (vR 63),sE P s38 325 (vR 64),sE P s39 329 (vR 65),sE P s40 333 (vR 66),sE P s41 337 (vR 67),sE P s42 341 (vR 68),sE P s43 345 (vR 69),sE P s44 349 (vR 70),sE P s45 353 (vR 71),sE P s46 357 (vR 72),sE P s47 361 (vR 73),sE P s48 365 (vR 74),sE P s49 369 (vR 75),sE P s50 373 (vR 76),sE P s51 377 (vR 77),sE P s52 381 (vR 79),sE P s53 384 (vR 80),sE P s54 387 (vR 81),sE P s55 390 (vR 82),sE P s56 393 (vR 83),sE P s57 396 (vR 84),sE P s58 399 (vR 85),sE P s59 402 (vR 86),sE P s60 405 (vR 87),sE P s61 408 (vR 88),sE P s62 411 (vR 89),sE P s63 414 (vR 90),sE P s64 417 (vR 91),sE P s65 420 (vR 92)] 48,
 oQ (vT q0) [(vS s66 246),(vI 55 247)],
 oQ (vT q0) [(vS s66 250),(vI 23 251)],
 oQ (vT q0) [(vS s67 254),(vI 111 255)],
 oQ (vT q0) [(vS s68 258),(vI 103 259)],
 oQ (vT q0) [(vS s69 262),(vI 99 263)],
 oQ (vT q0) [(vS s69 266),(vI 4195 267)],
 oQ (vT q0) [(vS s69 270),(vI 16483 271)],
 oQ (vT q0) [(vS s69 274),(vI 20579 275)],
 oQ (vT q0) [(vS s69 278),(vI 24675 279)],
 oQ (vT q0) [(vS s69 282),(vI 28771 283)],
 oQ (vT q0) [(vS s68 286),(vI 3 287)],
 oQ (vT q0) [(vS s68 290),(vI 4099 291)],
 oQ (vT q0) [(vS s68 294),(vI 8195 295)],
 oQ (vT q0) [(vS s68 298),(vI 16387 299)],
 oQ (vT q0) [(vS s68 302),(vI 20483 303)],
 oQ (vT q0) [(vS s70 306),(vI 35 307)],
 oQ (vT q0) [(vS s70 310),(vI 4131 311)],
 oD (vT q8) [sE P s35 313 (vR 61),sE P s36 317 (vR 62),sE P s37 321 (vR 63),sE P s38 325 (vR 64),sE P s39 329 (vR 65),sE P s40 333 (vR 66),sE P s41 337 (vR 67),sE P s42 341 (vR 68),sE P s43 345 (vR 69),sE P s44 349 (vR 70),sE P s45 353 (vR 71),sE P s46 357 (vR 72),sE P s47 361 (vR 73),sE P s48 365 (vR 74),sE P s49 369 (vR 75),sE P s50 373 (vR 76),sE P s51 377 (vR 77)] 17,
 oQ (vT q0) [(vS s70 314),(vI 8227 315)],
 oQ (vT q0) [(vS s68 318),(vI 19 319)],
 oQ (vT q0) [(vS s68 322),(vI 8211 323)],
 oQ (vT q0) [(vS s68 326),(vI 12307 327)],
 oQ (vT q0) [(vS s68 330),(vI 16403 331)],
 oQ (vT q0) [(vS s68 334),(vI 24595 335)],
 oQ (vT q0) [(vS s68 338),(vI 28691 339)],
 oQ (vT q0) [(vS s71 342),(vI 4115 343)],
 oQ (vT q0) [(vS s71 346),(vI 20499 347)],
 oQ (vT q0) [(vS s71 350),(vI 1073762323 351)],
 oQ (vT q0) [(vS s72 354),(vI 51 355)],
 oQ (vT q0) [(vS s72 358),(vI 1073741875 359)],
 oQ (vT q0) [(vS s72 362),(vI 4147 363)],
 oQ (vT q0) [(vS s72 366),(vI 8243 367)],
 oQ (vT q0) [(vS s72 370),(vI 12339 371)],
 oQ (vT q0) [(vS s72 374),(vI 16435 375)],
 oQ (vT q0) [(vS s72 378),(vI 20531 379)],
 oD (vT q8) [sE P s52 381 (vR 79),sE P s53 384 (vR 80),sE P s54 387 (vR 81),sE P s55 390 (vR 82),sE P s56 393 (vR 83),sE P s57 396 (vR 84),sE P s58 399 (vR 85),sE P s59 402 (vR 86),sE P s60 405 (vR 87),sE P s61 408 (vR 88),sE P s62 411 (vR 89),sE P s63 414 (vR 90),sE P s64 417 (vR 91),sE P s65 420 (vR 92)] 14,
 oQ (vT q0) [(vS s72 382),(vI 1073762355 383)],
 oQ (vT q0) [(vS s72 385),(vI 24627 386)],
 oQ (vT q0) [(vS s72 388),(vI 28723 389)],
 oQ (vT q0) [(vS s72 391),(vI 33554483 392)],
 oQ (vT q0) [(vS s72 394),(vI 33558579 395)],
 oQ (vT q0) [(vS s72 397),(vI 33562675 398)],
 oQ (vT q0) [(vS s72 400),(vI 33566771 401)],
 oQ (vT q0) [(vS s72 403),(vI 33570867 404)],
 oQ (vT q0) [(vS s72 406),(vI 33574963 407)],
 oQ (vT q0) [(vS s72 409),(vI 33579059 410)],
 oQ (vT q0) [(vS s72 412),(vI 33583155 413)],
 oQ (vT q0) [(vS s73 415),(vI 15 416)],
 oQ (vT q0) [(vS s74 418),(vI 115 419)],
 oQ (vT q0) [(vS s74 421),(vI 1048691 422)]]
noncomputable def N14 (P:Params):List Obj:=[
 oD (vT q8) [sE P s72 438 (vR 97),sE P s68 445 (vR 100),sE P s71 450 (vR 103),sE P s70 455 (vR 106),sE P s69 460 (vR 109),sE P s66 465 (vR 111),sE P s67 468 (vR 113),sE P s73 471 (vR 114),sE P s74 472 (vR 115)] 9,
 oQ (vT q0) [(vS s75 439),(vI 7 440)],
 oQ (vT q0) [(vS s76 441),(vI 15 442)],
 oQ (vT q0) [(vS s77 443),(vI 20 444)],
 oQ (vT q0) [(vR 94),(vR 95),(vR 96)],
 oQ (vT q0) [(vS s75 446),(vI 7 447)],
 oQ (vT q0) [(vS s76 448),(vI 15 449)],
 oQ (vT q0) [(vR 98),(vR 99)],
 oQ (vT q0) [(vS s75 451),(vI 7 452)],
 oQ (vT q0) [(vS s76 453),(vI 15 454)],
 oQ (vT q0) [(vR 101),(vR 102)],
 oQ (vT q0) [(vS s76 456),(vI 15 457)],
 oQ (vT q0) [(vS s77 458),(vI 20 459)],
 oQ (vT q0) [(vR 104),(vR 105)],
 oQ (vT q0) [(vS s76 461),(vI 15 462)],
 oQ (vT q0) [(vS s77 463),(vI 20 464)],
 oQ (vT q0) [(vR 107),(vR 108)],
 oQ (vT q0) [(vS s75 466),(vI 7 467)],
 oQ (vT q0) [(vR 110)],
 oQ (vT q0) [(vS s75 469),(vI 7 470)],
 oQ (vT q0) [(vR 112)],
 oQ (vT q0) [],
 oQ (vT q0) []]
noncomputable def N15 (P:Params):List Obj:=[
 oD (vT q8) [sE P s68 483 (vR 117),sE P s71 488 (vR 118),sE P s70 492 (vR 119),sE P s69 497 (vR 120),sE P s66 502 (vR 121),sE P s67 506 (vR 122),sE P s73 511 (vR 123)] 7,
 oQ (vT q0) [(vI (-2048) 485),(vI 2047 486),(vI 1 487)],
 oQ (vT q0) [(vI 0 489),(vI 31 490),(vI 1 491)],
 oQ (vT q0) [(vI (-2048) 494),(vI 2047 495),(vI 1 496)],
 oQ (vT q0) [(vI (-4096) 499),(vI 4094 500),(vI 2 501)],
 oQ (vT q0) [(vI 0 503),(vI 1048575 504),(vI 1 505)],
 oQ (vT q0) [(vI (-1048576) 508),(vI 1048574 509),(vI 2 510)],
 oQ (vT q0) [(vI 0 512),(vI 255 513),(vI 1 514)]]
noncomputable def N16 (P:Params):List Obj:=[
 oQ (vT q0) [],
 oL vN [],
 oQ (vT q0) [(vS s78 526),(vS s79 527),(vS s80 528)],
 oQ (vT q0) [],
 oC s81 s81 (sA 15),
 oL (vT q1) [(vS s81 523),(vS s81 524),(vS s1 525),(vI 23 0),(vI 2 0),(vI 0 0),(vI 0 0),(vI 3 0),(vR 124),(vb true),(vI 181 0),(vR 125),vN,(vR 126),(vR 127),(vR 128),(vI 529 0),(vI 23 0),(vS s1 530)],
 oF q3 s81 s81 (sA 15) (vS s82 229) (vR 129)]
noncomputable def N17 (P:Params):List Obj:=[
 oQ (vT q0) [],
 oL vN [],
 oQ (vT q0) [(vS s83 535),(vS s13 536),(vS s84 537)],
 oQ (vT q0) [],
 oC s85 s85 (sA 16),
 oL (vT q1) [(vS s85 532),(vS s85 533),(vS s1 534),(vI 26 0),(vI 2 0),(vI 0 0),(vI 0 0),(vI 3 0),(vR 131),(vb true),(vI 181 0),(vR 132),vN,(vR 133),(vR 134),(vR 135),(vI 538 0),(vI 26 0),(vS s1 539)],
 oF q3 s85 s85 (sA 16) (vS s82 229) (vR 136)]
noncomputable def N18 (P:Params):List Obj:=[
 oQ (vT q0) [],
 oL vN [],
 oC s86 s86 (sA 17),
 oL (vT q1) [(vS s86 541),(vS s86 542),(vS s1 543),(vI 42 0),(vI 0 0),(vI 0 0),(vI 0 0),(vI 3 0),(vR 138),(vb true),(vI 181 0),(vR 139),vN,vN,vN,(vR 140),(vI 544 0),(vI 42 0),(vS s1 545)],
 oF q3 s86 s86 (sA 17) (vS s82 229) (vR 141)]
noncomputable def N19 (P:Params):List Obj:=[
 oD (vT q2) [] 0,
 oL (vT q16) [(vR 42)],
 oL (vT q17) [vN,(vb false),vN,(vI 48 0),(vI 48 0),(vI 48 0),(vS s65 420),(vR 92)],
 oD (vT q8) [iE 55 247 (vS s18 245),iE 23 251 (vS s19 249),iE 111 255 (vS s20 253),iE 103 259 (vS s21 257),iE 99 263 (vS s22 261),iE 4195 267 (vS s23 265),iE 16483 271 (vS s24 269),iE 20579 275 (vS s25 273),iE 24675 279 (vS s26 277),iE 28771 283 (vS s27 281),iE 3 287 (vS s28 285),iE 4099 291 (vS s29 289),iE 8195 295 (vS s30 293),iE 16387 299 (vS s31 297),iE 20483 303 (vS s32 301),iE 35 307 (vS s33 305),iE 4131 311 (vS s34 309),iE 8227 315 (vS s35 313),iE 19 319 (vS s36 317),iE 8211 323 (vS s37 321),iE 12307 327 (vS s38 325),iE 16403 331 (vS s39 329),iE 24595 335 (vS s40 333),iE 28691 339 (vS s41 337),iE 4115 343 (vS s42 341),iE 20499 347 (vS s43 345),iE 1073762323 351 (vS s44 349),iE 51 355 (vS s45 353),iE 1073741875 359 (vS s46 357),iE 4147 363 (vS s47 361),iE 8243 367 (vS s48 365),iE 12339 371 (vS s49 369),iE 16435 375 (vS s50 373),iE 20531 379 (vS s51 377),iE 1073762355 383 (vS s52 381),iE 24627 386 (vS s53 384),iE 28723 389 (vS s54 387),iE 33554483 392 (vS s55 390),iE 33558579 395 (vS s56 393),iE 33562675 398 (vS s57 396),iE 33566771 401 (vS s58 399),iE 33570867 404 (vS s59 402),iE 33574963 407 (vS s60 405),iE 33579059 410 (vS s61 408),iE 33583155 413 (vS s62 411),iE 15 416 (vS s63 414),iE 115 419 (vS s64 417),iE 1048691 422 (vS s65 420)] 48,
 oD (vT q8) [] 4,
 oQ (vT q0) [(vS s18 245),(vR 43)],
 oL (vT q18) [vN,(vI 2 0)],
 oQ (vT q0) [],
 oL (vT q19) [(vR 150),vN,vN,vN,(vb false),vN],
 oQ (vT q0) [(vS s19 249),(vR 44)],
 oL (vT q18) [vN,(vI 2 0)],
 oQ (vT q0) [],
 oL (vT q19) [(vR 154),vN,vN,vN,(vb false),vN],
 oQ (vT q0) [(vS s20 253),(vR 45)],
 oL (vT q18) [vN,(vI 2 0)],
 oQ (vT q0) [],
 oL (vT q19) [(vR 158),vN,vN,vN,(vb false),vN],
 oQ (vT q0) [(vS s21 257),(vR 46)],
 oL (vT q18) [vN,(vI 2 0)],
 oQ (vT q0) [],
 oL (vT q19) [(vR 162),vN,vN,vN,(vb false),vN],
 oQ (vT q0) [(vS s22 261),(vR 47)],
 oL (vT q18) [vN,(vI 2 0)],
 oQ (vT q0) [],
 oL (vT q19) [(vR 166),vN,vN,vN,(vb false),vN],
 oQ (vT q0) [(vS s23 265),(vR 48)],
 oL (vT q18) [vN,(vI 2 0)],
 oQ (vT q0) [],
 oL (vT q19) [(vR 170),vN,vN,vN,(vb false),vN],
 oQ (vT q0) [(vS s24 269),(vR 49)],
 oL (vT q18) [vN,(vI 2 0)],
 oQ (vT q0) [],
 oL (vT q19) [(vR 174),vN,vN,vN,(vb false),vN],
 oQ (vT q0) [(vS s25 273),(vR 50)],
 oL (vT q18) [vN,(vI 2 0)],
 oQ (vT q0) [],
 oL (vT q19) [(vR 178),vN,vN,vN,(vb false),vN],
 oQ (vT q0) [(vS s26 277),(vR 51)],
 oL (vT q18) [vN,(vI 2 0)],
 oQ (vT q0) [],
 oL (vT q19) [(vR 182),vN,vN,vN,(vb false),vN],
 oQ (vT q0) [(vS s27 281),(vR 52)],
 oL (vT q18) [vN,(vI 2 0)],
 oQ (vT q0) [],
 oL (vT q19) [(vR 186),vN,vN,vN,(vb false),vN],
 oQ (vT q0) [(vS s28 285),(vR 53)],
 oL (vT q18) [vN,(vI 2 0)],
 oQ (vT q0) [],
 oL (vT q19) [(vR 190),vN,vN,vN,(vb false),vN],
 oQ (vT q0) [(vS s29 289),(vR 54)],
 oL (vT q18) [vN,(vI 2 0)],
 oQ (vT q0) [],
 oL (vT q19) [(vR 194),vN,vN,vN,(vb false),vN],
 oQ (vT q0) [(vS s30 293),(vR 55)],
 oL (vT q18) [vN,(vI 2 0)],
 oQ (vT q0) [],
 oL (vT q19) [(vR 198),vN,vN,vN,(vb false),vN],
 oQ (vT q0) [(vS s31 297),(vR 56)],
 oL (vT q18) [vN,(vI 2 0)],
 oQ (vT q0) [],
 oL (vT q19) [(vR 202),vN,vN,vN,(vb false),vN],
 oQ (vT q0) [(vS s32 301),(vR 57)],
 oL (vT q18) [vN,(vI 2 0)],
 oQ (vT q0) [],
 oL (vT q19) [(vR 206),vN,vN,vN,(vb false),vN],
 oQ (vT q0) [(vS s33 305),(vR 58)],
 oL (vT q18) [vN,(vI 2 0)],
 oQ (vT q0) [],
 oL (vT q19) [(vR 210),vN,vN,vN,(vb false),vN],
 oQ (vT q0) [(vS s34 309),(vR 59)],
 oL (vT q18) [vN,(vI 2 0)],
 oQ (vT q0) [],
 oL (vT q19) [(vR 214),vN,vN,vN,(vb false),vN],
 oQ (vT q0) [(vS s35 313),(vR 61)],
 oL (vT q18) [vN,(vI 2 0)],
 oQ (vT q0) [],
 oL (vT q19) [(vR 218),vN,vN,vN,(vb false),vN],
 oQ (vT q0) [(vS s36 317),(vR 62)],
 oL (vT q18) [vN,(vI 2 0)],
 oQ (vT q0) [],
 oL (vT q19) [(vR 222),vN,vN,vN,(vb false),vN],
 oQ (vT q0) [(vS s37 321),(vR 63)],
 oL (vT q18) [vN,(vI 2 0)],
 oQ (vT q0) [],
 oL (vT q19) [(vR 226),vN,vN,vN,(vb false),vN],
 oQ (vT q0) [(vS s38 325),(vR 64)],
 oL (vT q18) [vN,(vI 2 0)],
 oQ (vT q0) [],
 oL (vT q19) [(vR 230),vN,vN,vN,(vb false),vN],
 oQ (vT q0) [(vS s39 329),(vR 65)],
 oL (vT q18) [vN,(vI 2 0)],
 oQ (vT q0) [],
 oL (vT q19) [(vR 234),vN,vN,vN,(vb false),vN],
 oQ (vT q0) [(vS s40 333),(vR 66)],
 oL (vT q18) [vN,(vI 2 0)],
 oQ (vT q0) [],
 oL (vT q19) [(vR 238),vN,vN,vN,(vb false),vN],
 oQ (vT q0) [(vS s41 337),(vR 67)],
 oL (vT q18) [vN,(vI 2 0)],
 oQ (vT q0) [],
 oL (vT q19) [(vR 242),vN,vN,vN,(vb false),vN],
 oQ (vT q0) [(vS s42 341),(vR 68)],
 oL (vT q18) [vN,(vI 2 0)],
 oQ (vT q0) [],
 oL (vT q19) [(vR 246),vN,vN,vN,(vb false),vN],
 oQ (vT q0) [(vS s43 345),(vR 69)],
 oL (vT q18) [vN,(vI 2 0)],
 oQ (vT q0) [],
 oL (vT q19) [(vR 250),vN,vN,vN,(vb false),vN],
 oQ (vT q0) [(vS s44 349),(vR 70)],
 oL (vT q18) [vN,(vI 2 0)],
 oQ (vT q0) [],
 oL (vT q19) [(vR 254),vN,vN,vN,(vb false),vN],
 oQ (vT q0) [(vS s45 353),(vR 71)],
 oL (vT q18) [vN,(vI 2 0)],
 oQ (vT q0) [],
 oL (vT q19) [(vR 258),vN,vN,vN,(vb false),vN],
 oQ (vT q0) [(vS s46 357),(vR 72)],
 oL (vT q18) [vN,(vI 2 0)],
 oQ (vT q0) [],
 oL (vT q19) [(vR 262),vN,vN,vN,(vb false),vN],
 oQ (vT q0) [(vS s47 361),(vR 73)],
 oL (vT q18) [vN,(vI 2 0)],
 oQ (vT q0) [],
 oL (vT q19) [(vR 266),vN,vN,vN,(vb false),vN],
 oQ (vT q0) [(vS s48 365),(vR 74)],
 oL (vT q18) [vN,(vI 2 0)],
 oQ (vT q0) [],
 oL (vT q19) [(vR 270),vN,vN,vN,(vb false),vN],
 oQ (vT q0) [(vS s49 369),(vR 75)],
 oL (vT q18) [vN,(vI 2 0)],
 oQ (vT q0) [],
 oL (vT q19) [(vR 274),vN,vN,vN,(vb false),vN],
 oQ (vT q0) [(vS s50 373),(vR 76)],
 oL (vT q18) [vN,(vI 2 0)],
 oQ (vT q0) [],
 oL (vT q19) [(vR 278),vN,vN,vN,(vb false),vN],
 oQ (vT q0) [(vS s51 377),(vR 77)],
 oL (vT q18) [vN,(vI 2 0)],
 oQ (vT q0) [],
 oL (vT q19) [(vR 282),vN,vN,vN,(vb false),vN],
 oQ (vT q0) [(vS s52 381),(vR 79)],
 oL (vT q18) [vN,(vI 2 0)],
 oQ (vT q0) [],
 oL (vT q19) [(vR 286),vN,vN,vN,(vb false),vN],
 oQ (vT q0) [(vS s53 384),(vR 80)],
 oL (vT q18) [vN,(vI 2 0)],
 oQ (vT q0) [],
 oL (vT q19) [(vR 290),vN,vN,vN,(vb false),vN],
 oQ (vT q0) [(vS s54 387),(vR 81)],
 oL (vT q18) [vN,(vI 2 0)],
 oQ (vT q0) [],
 oL (vT q19) [(vR 294),vN,vN,vN,(vb false),vN],
 oQ (vT q0) [(vS s55 390),(vR 82)],
 oL (vT q18) [vN,(vI 2 0)],
 oQ (vT q0) [],
 oL (vT q19) [(vR 298),vN,vN,vN,(vb false),vN],
 oQ (vT q0) [(vS s56 393),(vR 83)],
 oL (vT q18) [vN,(vI 2 0)],
 oQ (vT q0) [],
 oL (vT q19) [(vR 302),vN,vN,vN,(vb false),vN],
 oQ (vT q0) [(vS s57 396),(vR 84)],
 oL (vT q18) [vN,(vI 2 0)],
 oQ (vT q0) [],
 oL (vT q19) [(vR 306),vN,vN,vN,(vb false),vN],
 oQ (vT q0) [(vS s58 399),(vR 85)],
 oL (vT q18) [vN,(vI 2 0)],
 oQ (vT q0) [],
 oL (vT q19) [(vR 310),vN,vN,vN,(vb false),vN],
 oQ (vT q0) [(vS s59 402),(vR 86)],
 oL (vT q18) [vN,(vI 2 0)],
 oQ (vT q0) [],
 oL (vT q19) [(vR 314),vN,vN,vN,(vb false),vN],
 oQ (vT q0) [(vS s60 405),(vR 87)],
 oL (vT q18) [vN,(vI 2 0)],
 oQ (vT q0) [],
 oL (vT q19) [(vR 318),vN,vN,vN,(vb false),vN],
 oQ (vT q0) [(vS s61 408),(vR 88)],
 oL (vT q18) [vN,(vI 2 0)],
 oQ (vT q0) [],
 oL (vT q19) [(vR 322),vN,vN,vN,(vb false),vN],
 oQ (vT q0) [(vS s62 411),(vR 89)],
 oL (vT q18) [vN,(vI 2 0)],
 oQ (vT q0) [],
 oL (vT q19) [(vR 326),vN,vN,vN,(vb false),vN],
 oQ (vT q0) [(vS s63 414),(vR 90)],
 oL (vT q18) [vN,(vI 2 0)],
 oQ (vT q0) [],
 oL (vT q19) [(vR 330),vN,vN,vN,(vb false),vN],
 oQ (vT q0) [(vS s64 417),(vR 91)],
 oL (vT q18) [vN,(vI 2 0)],
 oQ (vT q0) [],
 oL (vT q19) [(vR 334),vN,vN,vN,(vb false),vN],
 oQ (vT q0) [(vS s65 420),(vR 92)],
 oL (vT q18) [vN,(vI 2 0)],
 oQ (vT q0) [],
 oL (vT q19) [(vR 338),vN,vN,vN,(vb false),vN],
 oQ (vT q0) [],
 oL (vT q19) [(vR 340),vN,vN,vN,(vb false),vN]]
noncomputable def N20 (P:Params):List Obj:=[
 oQ (vT q0) [],
 oL vN [],
 oQ (vT q0) [(vS s13 743),(vS s87 744),(vS s80 745)],
 oQ (vT q0) [],
 oC s88 s88 (sA 19),
 oL (vT q1) [(vS s88 740),(vS s88 741),(vS s1 742),(vI 45 0),(vI 1 0),(vI 0 0),(vI 0 0),(vI 3 0),(vR 342),(vb true),(vI 181 0),(vR 343),vN,(vR 344),(vR 345),(vR 346),(vI 746 0),(vI 45 0),(vS s1 747)],
 oF q3 s88 s88 (sA 19) (vS s82 229) (vR 347)]
noncomputable def N21 (P:Params):List Obj:=[
 oQ (vT q0) [],
 oL vN [],
 oQ (vT q0) [(vS s13 752),(vS s89 753),(vS s83 754),(vS s90 755),(vS s91 756),(vS s92 757)],
 oQ (vT q0) [],
 oC s93 s93 (sA 20),
 oL (vT q1) [(vS s93 749),(vS s93 750),(vS s1 751),(vI 56 0),(vI 1 0),(vI 0 0),(vI 0 0),(vI 3 0),(vR 349),(vb true),(vI 181 0),(vR 350),vN,(vR 351),(vR 352),(vR 353),(vI 758 0),(vI 56 0),(vS s1 759)],
 oF q3 s93 s93 (sA 20) (vS s82 229) (vR 354)]
noncomputable def N28 (P:Params):List Obj:=[
 oQ (vT q0) [],
 oL vN [],
 oQ (vT q0) [(vS s94 776),(vS s95 777),(vS s96 778)],
 oQ (vT q0) [],
 oC s97 s97 (sA 27),
 oL (vT q1) [(vS s97 773),(vS s97 774),(vS s1 775),(vI 73 0),(vI 2 0),(vI 0 0),(vI 0 0),(vI 3 0),(vR 356),(vb true),(vI 181 0),(vR 357),vN,(vR 358),(vR 359),(vR 360),(vI 779 0),(vI 73 0),(vS s1 780)],
 oF q3 s97 s97 (sA 27) (vS s98 761) (vR 361)]
noncomputable def N29 (P:Params):List Obj:=[
 oQ (vT q0) [],
 oL vN [],
 oQ (vT q0) [(vS s99 785),(vS s95 786),(vS s80 787),(vS s84 788),(vS s100 789)],
 oQ (vT q0) [],
 oC s101 s101 (sA 28),
 oL (vT q1) [(vS s101 782),(vS s101 783),(vS s1 784),(vI 79 0),(vI 2 0),(vI 0 0),(vI 0 0),(vI 3 0),(vR 363),(vb true),(vI 181 0),(vR 364),vN,(vR 365),(vR 366),(vR 367),(vI 790 0),(vI 79 0),(vS s1 791)],
 oF q3 s101 s101 (sA 28) (vS s98 761) (vR 368)]
noncomputable def N30 (P:Params):List Obj:=[
 oQ (vT q0) [],
 oL vN [],
 oQ (vT q0) [(vS s94 796),(vS s95 797),(vS s96 798),(vS s14 799)],
 oQ (vT q0) [],
 oC s102 s102 (sA 29),
 oL (vT q1) [(vS s102 793),(vS s102 794),(vS s1 795),(vI 88 0),(vI 2 0),(vI 0 0),(vI 0 0),(vI 3 0),(vR 370),(vb true),(vI 181 0),(vR 371),vN,(vR 372),(vR 373),(vR 374),(vI 800 0),(vI 88 0),(vS s1 801)],
 oF q3 s102 s102 (sA 29) (vS s98 761) (vR 375)]
noncomputable def N31 (P:Params):List Obj:=[
 oQ (vT q0) [],
 oL vN [],
 oQ (vT q0) [(vS s94 806),(vS s95 807),(vS s103 808)],
 oQ (vT q0) [],
 oC s104 s104 (sA 30),
 oL (vT q1) [(vS s104 803),(vS s104 804),(vS s1 805),(vI 94 0),(vI 2 0),(vI 0 0),(vI 0 0),(vI 3 0),(vR 377),(vb true),(vI 181 0),(vR 378),vN,(vR 379),(vR 380),(vR 381),(vI 809 0),(vI 94 0),(vS s1 810)],
 oF q3 s104 s104 (sA 30) (vS s98 761) (vR 382)]
noncomputable def N32 (P:Params):List Obj:=[
 oQ (vT q0) [],
 oL (vT q5) [(vB q6),(vT q7)],
 oD (vT q8) [sE P s5 819 (vS s98 761),sE P s7 821 (vS s105 820),sE P s9 823 (vI 97 822),sE P s10 830 (vR 397),sE P s11 835 (vR 398)] 5,
 oQ (vT q0) [],
 oL vN [(vI 99 0),(vI 4 0),(vR 396)],
 oL (vT q1) [(vS s105 814),(vS s105 815),(vS s1 816),(vI 97 0),(vI 0 0),(vI 0 0),(vI 0 0),(vI 0 0),(vR 387),(vb false),(vI 181 0),(vR 388),vN,vN,vN,vN,(vI 817 0),(vI 97 0),(vS s1 818)],
 oP (vT q2) none [(some (vR 389)),(some (vR 3)),(some (vR 386)),none,(some (vS s98 761)),none,(some (vR 0))],
 oQ (vT q0) [],
 oL vN [],
 oQ (vT q0) [(vS s12 827)],
 oQ (vT q0) [],
 oC s10 s106 (sM 31 0),
 oL (vT q1) [(vS s10 824),(vS s106 825),(vS s1 826),(vI 99 0),(vI 1 0),(vI 0 0),(vI 0 0),(vI 3 0),(vR 391),(vb true),(vI 181 0),(vR 392),vN,(vR 393),(vR 394),(vR 395),(vI 828 0),(vI 99 0),(vS s1 829)],
 oF q3 s10 s106 (sM 31 0) (vS s98 761) (vR 396),
 oQ (vT q0) [(vS s107 831),(vS s108 832),(vS s109 833),(vS s110 834)],
 oD (vT q8) [sE P s5 819 (vS s98 761),sE P s9 823 (vI 97 822),sE P s10 830 (vR 397),sE P s11 835 (vR 398),sE P s111 837 (vR 401),sE P s16 839 (vR 402),sE P s17 840 vN] 4,
 oK (vT q7) { name:=s105,bases:=[(vT q11)],mro:=[(vR 400),(vT q11)],ns:=399,qualname:=s105,hasDict:=true,slotNames:=[],subclasses:=[],abstract:=false,collection:=none,hasDel:=false } [none,none,(some (vS s105 812)),(some (vS s105 820)),(some (vB q20)),(some (vb true))],
 oL (vT q12) [(vS s111 836),(vR 400),(vB q21),(vB q22)],
 oL (vT q12) [(vS s16 838),(vR 400),(vB q13),vN],
 oL (vT q14) [(vR 400),(vR 400),(vR 400)],
 oL (vT q5) [(vB q15),(vR 400)]]
noncomputable def N33 (P:Params):List Obj:=[
 oQ (vT q0) [],
 oL vN [],
 oQ (vT q0) [(vS s112 846),(vS s95 847)],
 oQ (vT q0) [],
 oC s113 s113 (sA 32),
 oL (vT q1) [(vS s113 843),(vS s113 844),(vS s1 845),(vI 104 0),(vI 2 0),(vI 0 0),(vI 0 0),(vI 3 0),(vR 405),(vb true),(vI 181 0),(vR 406),vN,(vR 407),(vR 408),(vR 409),(vI 848 0),(vI 104 0),(vS s1 849)],
 oF q3 s113 s113 (sA 32) (vS s98 761) (vR 410)]
noncomputable def N34 (P:Params):List Obj:=[
 oQ (vT q0) [],
 oL vN [],
 oQ (vT q0) [(vS s114 854),(vS s115 855),(vS s89 856),(vS s90 857)],
 oQ (vT q0) [],
 oC s116 s116 (sA 33),
 oL (vT q1) [(vS s116 851),(vS s116 852),(vS s1 853),(vI 109 0),(vI 2 0),(vI 0 0),(vI 0 0),(vI 3 0),(vR 412),(vb true),(vI 181 0),(vR 413),vN,(vR 414),(vR 415),(vR 416),(vI 858 0),(vI 109 0),(vS s1 859)],
 oF q3 s116 s116 (sA 33) (vS s98 761) (vR 417)]
noncomputable def N35 (P:Params):List Obj:=[
 oQ (vT q0) [],
 oL vN [],
 oQ (vT q0) [(vS s114 864),(vS s115 865),(vS s89 866),(vS s90 867),(vS s117 868)],
 oQ (vT q0) [],
 oC s118 s118 (sA 34),
 oL (vT q1) [(vS s118 861),(vS s118 862),(vS s1 863),(vI 116 0),(vI 2 0),(vI 0 0),(vI 0 0),(vI 3 0),(vR 419),(vb true),(vI 181 0),(vR 420),vN,(vR 421),(vR 422),(vR 423),(vI 869 0),(vI 116 0),(vS s1 870)],
 oF q3 s118 s118 (sA 34) (vS s98 761) (vR 424)]
noncomputable def N36 (P:Params):List Obj:=[
 oQ (vT q0) [],
 oL vN [],
 oQ (vT q0) [(vS s112 875),(vS s117 876),(vS s119 877),(vS s115 878),(vS s14 879),(vS s120 880),(vS s114 881),(vS s109 882),(vS s89 883),(vS s90 884)],
 oQ (vT q0) [],
 oC s121 s121 (sA 35),
 oL (vT q1) [(vS s121 872),(vS s121 873),(vS s1 874),(vI 126 0),(vI 2 0),(vI 0 0),(vI 0 0),(vI 3 0),(vR 426),(vb true),(vI 181 0),(vR 427),vN,(vR 428),(vR 429),(vR 430),(vI 885 0),(vI 126 0),(vS s1 886)],
 oF q3 s121 s121 (sA 35) (vS s98 761) (vR 431)]
noncomputable def N37 (P:Params):List Obj:=[
 oQ (vT q0) [],
 oL vN [],
 oQ (vT q0) [(vS s112 891),(vS s95 892),(vS s114 893)],
 oQ (vT q0) [],
 oC s122 s122 (sA 36),
 oL (vT q1) [(vS s122 888),(vS s122 889),(vS s1 890),(vI 145 0),(vI 2 0),(vI 0 0),(vI 0 0),(vI 3 0),(vR 433),(vb true),(vI 181 0),(vR 434),vN,(vR 435),(vR 436),(vR 437),(vI 894 0),(vI 145 0),(vS s1 895)],
 oF q3 s122 s122 (sA 36) (vS s98 761) (vR 438)]
noncomputable def N38 (P:Params):List Obj:=[
 oQ (vT q0) [],
 oL vN [],
 oQ (vT q0) [(vS s112 900),(vS s123 901),(vS s14 902),(vS s124 903),(vS s125 904)],
 oQ (vT q0) [],
 oC s126 s126 (sA 37),
 oL (vT q1) [(vS s126 897),(vS s126 898),(vS s1 899),(vI 148 0),(vI 5 0),(vI 0 0),(vI 0 0),(vI 3 0),(vR 440),(vb true),(vI 181 0),(vR 441),vN,(vR 442),(vR 443),(vR 444),(vI 905 0),(vI 148 0),(vS s1 906)],
 oF q3 s126 s126 (sA 37) (vS s98 761) (vR 445)]
noncomputable def N39 (P:Params):List Obj:=[
 oQ (vT q0) [],
 oL vN [],
 oQ (vT q0) [(vS s112 911),(vS s94 912),(vS s119 913),(vS s14 914),(vS s124 915),(vS s120 916),(vS s103 917),(vS s123 918),(vS s127 919)],
 oQ (vT q0) [],
 oC s128 s128 (sA 38),
 oL (vT q1) [(vS s128 908),(vS s128 909),(vS s1 910),(vI 157 0),(vI 2 0),(vI 0 0),(vI 0 0),(vI 3 0),(vR 447),(vb true),(vI 181 0),(vR 448),vN,(vR 449),(vR 450),(vR 451),(vI 920 0),(vI 157 0),(vS s1 921)],
 oF q3 s128 s128 (sA 38) (vS s98 761) (vR 452)]
noncomputable def N41 (P:Params):List Obj:=[
 oQ (vT q0) [],
 oL (vT q5) [(vB q6),(vT q7)],
 oD (vT q8) [sE P s5 932 (vS s129 923),sE P s7 934 (vS s130 933),sE P s9 936 (vI 172 935),sE P s10 948 (vR 467),sE P s11 957 (vR 468)] 5,
 oQ (vT q0) [],
 oL vN [(vI 174 0),(vI 4 0),(vR 466)],
 oL (vT q1) [(vS s130 927),(vS s130 928),(vS s1 929),(vI 172 0),(vI 0 0),(vI 0 0),(vI 0 0),(vI 0 0),(vR 457),(vb false),(vI 181 0),(vR 458),vN,vN,vN,vN,(vI 930 0),(vI 172 0),(vS s1 931)],
 oP (vT q2) none [(some (vR 459)),(some (vR 3)),(some (vR 456)),none,(some (vS s129 923)),none,(some (vR 0))],
 oQ (vT q0) [],
 oL vN [],
 oQ (vT q0) [(vS s12 940),(vS s123 941),(vS s131 942),(vS s132 943),(vS s133 944),(vS s134 945)],
 oQ (vT q0) [],
 oC s10 s135 (sM 40 0),
 oL (vT q1) [(vS s10 937),(vS s135 938),(vS s1 939),(vI 174 0),(vI 6 0),(vI 0 0),(vI 0 0),(vI 3 0),(vR 461),(vb true),(vI 181 0),(vR 462),vN,(vR 463),(vR 464),(vR 465),(vI 946 0),(vI 174 0),(vS s1 947)],
 oF q3 s10 s135 (sM 40 0) (vS s129 923) (vR 466),
 oQ (vT q0) [(vS s131 949),(vS s133 950),(vS s123 951),(vS s136 952),(vS s137 953),(vS s132 954),(vS s138 955),(vS s134 956)],
 oD (vT q8) [sE P s5 932 (vS s129 923),sE P s9 936 (vI 172 935),sE P s10 948 (vR 467),sE P s11 957 (vR 468),sE P s111 959 (vR 471),sE P s16 961 (vR 472),sE P s17 962 vN] 4,
 oK (vT q7) { name:=s130,bases:=[(vT q11)],mro:=[(vR 470),(vT q11)],ns:=469,qualname:=s130,hasDict:=true,slotNames:=[],subclasses:=[],abstract:=false,collection:=none,hasDel:=false } [none,none,(some (vS s130 925)),(some (vS s130 933)),(some (vB q20)),(some (vb true))],
 oL (vT q12) [(vS s111 958),(vR 470),(vB q21),(vB q22)],
 oL (vT q12) [(vS s16 960),(vR 470),(vB q13),vN],
 oL (vT q14) [(vR 470),(vR 470),(vR 470)],
 oL (vT q5) [(vB q15),(vR 470)]]
noncomputable def N50 (P:Params):List Obj:=[
 oQ (vT q0) [],
 oL vN [],
 oQ (vT q0) [(vS s78 984)],
 oQ (vT q0) [],
 oC s139 s139 (sA 49),
 oL (vT q1) [(vS s139 981),(vS s139 982),(vS s1 983),(vI 191 0),(vI 1 0),(vI 0 0),(vI 0 0),(vI 3 0),(vR 475),(vb true),(vI 181 0),(vR 476),vN,(vR 477),(vR 478),(vR 479),(vI 985 0),(vI 191 0),(vS s1 986)],
 oF q3 s139 s139 (sA 49) (vS s140 965) (vR 480)]
noncomputable def N51 (P:Params):List Obj:=[
 oQ (vT q0) [],
 oL vN [],
 oQ (vT q0) [(vS s141 991),(vS s142 992)],
 oQ (vT q0) [],
 oC s143 s143 (sA 50),
 oL (vT q1) [(vS s143 988),(vS s143 989),(vS s1 990),(vI 193 0),(vI 2 0),(vI 0 0),(vI 0 0),(vI 3 0),(vR 482),(vb true),(vI 181 0),(vR 483),vN,(vR 484),(vR 485),(vR 486),(vI 993 0),(vI 193 0),(vS s1 994)],
 oF q3 s143 s143 (sA 50) (vS s140 965) (vR 487)]
noncomputable def N52 (P:Params):List Obj:=[
 oQ (vT q0) [],
 oL vN [],
 oQ (vT q0) [(vS s141 999),(vS s142 1000)],
 oQ (vT q0) [],
 oC s144 s144 (sA 51),
 oL (vT q1) [(vS s144 996),(vS s144 997),(vS s1 998),(vI 195 0),(vI 2 0),(vI 0 0),(vI 0 0),(vI 3 0),(vR 489),(vb true),(vI 181 0),(vR 490),vN,(vR 491),(vR 492),(vR 493),(vI 1001 0),(vI 195 0),(vS s1 1002)],
 oF q3 s144 s144 (sA 51) (vS s140 965) (vR 494)]
noncomputable def N53 (P:Params):List Obj:=[
 oQ (vT q0) [],
 oL vN [],
 oQ (vT q0) [(vS s141 1007),(vS s142 1008)],
 oQ (vT q0) [],
 oC s145 s145 (sA 52),
 oL (vT q1) [(vS s145 1004),(vS s145 1005),(vS s1 1006),(vI 197 0),(vI 2 0),(vI 0 0),(vI 0 0),(vI 3 0),(vR 496),(vb true),(vI 181 0),(vR 497),vN,(vR 498),(vR 499),(vR 500),(vI 1009 0),(vI 197 0),(vS s1 1010)],
 oF q3 s145 s145 (sA 52) (vS s140 965) (vR 501)]
noncomputable def N54 (P:Params):List Obj:=[
 oQ (vT q0) [],
 oL vN [],
 oQ (vT q0) [(vS s141 1015),(vS s142 1016)],
 oQ (vT q0) [],
 oC s146 s146 (sA 53),
 oL (vT q1) [(vS s146 1012),(vS s146 1013),(vS s1 1014),(vI 199 0),(vI 2 0),(vI 0 0),(vI 0 0),(vI 3 0),(vR 503),(vb true),(vI 181 0),(vR 504),vN,(vR 505),(vR 506),(vR 507),(vI 1017 0),(vI 199 0),(vS s1 1018)],
 oF q3 s146 s146 (sA 53) (vS s140 965) (vR 508)]
noncomputable def N55 (P:Params):List Obj:=[
 oQ (vT q0) [],
 oL vN [],
 oQ (vT q0) [(vS s141 1023),(vS s142 1024)],
 oQ (vT q0) [],
 oC s147 s147 (sA 54),
 oL (vT q1) [(vS s147 1020),(vS s147 1021),(vS s1 1022),(vI 201 0),(vI 2 0),(vI 0 0),(vI 0 0),(vI 3 0),(vR 510),(vb true),(vI 181 0),(vR 511),vN,(vR 512),(vR 513),(vR 514),(vI 1025 0),(vI 201 0),(vS s1 1026)],
 oF q3 s147 s147 (sA 54) (vS s140 965) (vR 515)]
noncomputable def N56 (P:Params):List Obj:=[
 oQ (vT q0) [],
 oL vN [],
 oQ (vT q0) [(vS s141 1031),(vS s142 1032)],
 oQ (vT q0) [],
 oC s148 s148 (sA 55),
 oL (vT q1) [(vS s148 1028),(vS s148 1029),(vS s1 1030),(vI 203 0),(vI 2 0),(vI 0 0),(vI 0 0),(vI 3 0),(vR 517),(vb true),(vI 181 0),(vR 518),vN,(vR 519),(vR 520),(vR 521),(vI 1033 0),(vI 203 0),(vS s1 1034)],
 oF q3 s148 s148 (sA 55) (vS s140 965) (vR 522)]
noncomputable def N57 (P:Params):List Obj:=[
 oQ (vT q0) [],
 oL vN [],
 oQ (vT q0) [(vS s141 1039),(vS s142 1040)],
 oQ (vT q0) [],
 oC s149 s149 (sA 56),
 oL (vT q1) [(vS s149 1036),(vS s149 1037),(vS s1 1038),(vI 205 0),(vI 2 0),(vI 0 0),(vI 0 0),(vI 3 0),(vR 524),(vb true),(vI 181 0),(vR 525),vN,(vR 526),(vR 527),(vR 528),(vI 1041 0),(vI 205 0),(vS s1 1042)],
 oF q3 s149 s149 (sA 56) (vS s140 965) (vR 529)]
noncomputable def N58 (P:Params):List Obj:=[
 oQ (vT q0) [],
 oL vN [],
 oQ (vT q0) [(vS s141 1047),(vS s142 1048)],
 oQ (vT q0) [],
 oC s150 s150 (sA 57),
 oL (vT q1) [(vS s150 1044),(vS s150 1045),(vS s1 1046),(vI 207 0),(vI 2 0),(vI 0 0),(vI 0 0),(vI 3 0),(vR 531),(vb true),(vI 181 0),(vR 532),vN,(vR 533),(vR 534),(vR 535),(vI 1049 0),(vI 207 0),(vS s1 1050)],
 oF q3 s150 s150 (sA 57) (vS s140 965) (vR 536)]
noncomputable def N59 (P:Params):List Obj:=[
 oQ (vT q0) [],
 oL vN [],
 oQ (vT q0) [(vS s141 1055),(vS s142 1056)],
 oQ (vT q0) [],
 oC s151 s151 (sA 58),
 oL (vT q1) [(vS s151 1052),(vS s151 1053),(vS s1 1054),(vI 209 0),(vI 2 0),(vI 0 0),(vI 0 0),(vI 3 0),(vR 538),(vb true),(vI 181 0),(vR 539),vN,(vR 540),(vR 541),(vR 542),(vI 1057 0),(vI 209 0),(vS s1 1058)],
 oF q3 s151 s151 (sA 58) (vS s140 965) (vR 543)]
noncomputable def N60 (P:Params):List Obj:=[
 oQ (vT q0) [],
 oL vN [],
 oQ (vT q0) [(vS s141 1063),(vS s142 1064)],
 oQ (vT q0) [],
 oC s152 s152 (sA 59),
 oL (vT q1) [(vS s152 1060),(vS s152 1061),(vS s1 1062),(vI 211 0),(vI 2 0),(vI 0 0),(vI 0 0),(vI 3 0),(vR 545),(vb true),(vI 181 0),(vR 546),vN,(vR 547),(vR 548),(vR 549),(vI 1065 0),(vI 211 0),(vS s1 1066)],
 oF q3 s152 s152 (sA 59) (vS s140 965) (vR 550)]
noncomputable def N61 (P:Params):List Obj:=[
 oQ (vT q0) [],
 oL vN [],
 oQ (vT q0) [(vS s141 1071),(vS s142 1072)],
 oQ (vT q0) [],
 oC s153 s153 (sA 60),
 oL (vT q1) [(vS s153 1068),(vS s153 1069),(vS s1 1070),(vI 213 0),(vI 2 0),(vI 0 0),(vI 0 0),(vI 3 0),(vR 552),(vb true),(vI 181 0),(vR 553),vN,(vR 554),(vR 555),(vR 556),(vI 1073 0),(vI 213 0),(vS s1 1074)],
 oF q3 s153 s153 (sA 60) (vS s140 965) (vR 557)]
noncomputable def N62 (P:Params):List Obj:=[
 oQ (vT q0) [],
 oL vN [],
 oQ (vT q0) [(vS s141 1079),(vS s142 1080)],
 oQ (vT q0) [],
 oC s154 s154 (sA 61),
 oL (vT q1) [(vS s154 1076),(vS s154 1077),(vS s1 1078),(vI 215 0),(vI 2 0),(vI 0 0),(vI 0 0),(vI 3 0),(vR 559),(vb true),(vI 181 0),(vR 560),vN,(vR 561),(vR 562),(vR 563),(vI 1081 0),(vI 215 0),(vS s1 1082)],
 oF q3 s154 s154 (sA 61) (vS s140 965) (vR 564)]
noncomputable def N63 (P:Params):List Obj:=[
 oQ (vT q0) [],
 oL vN [],
 oQ (vT q0) [(vS s141 1087),(vS s142 1088)],
 oQ (vT q0) [],
 oC s155 s155 (sA 62),
 oL (vT q1) [(vS s155 1084),(vS s155 1085),(vS s1 1086),(vI 217 0),(vI 2 0),(vI 0 0),(vI 0 0),(vI 3 0),(vR 566),(vb true),(vI 181 0),(vR 567),vN,(vR 568),(vR 569),(vR 570),(vI 1089 0),(vI 217 0),(vS s1 1090)],
 oF q3 s155 s155 (sA 62) (vS s140 965) (vR 571)]
noncomputable def N64 (P:Params):List Obj:=[
 oQ (vT q0) [],
 oL vN [],
 oQ (vT q0) [(vS s141 1095),(vS s142 1096)],
 oQ (vT q0) [],
 oC s156 s156 (sA 63),
 oL (vT q1) [(vS s156 1092),(vS s156 1093),(vS s1 1094),(vI 219 0),(vI 2 0),(vI 0 0),(vI 0 0),(vI 3 0),(vR 573),(vb true),(vI 181 0),(vR 574),vN,(vR 575),(vR 576),(vR 577),(vI 1097 0),(vI 219 0),(vS s1 1098)],
 oF q3 s156 s156 (sA 63) (vS s140 965) (vR 578)]
noncomputable def N65 (P:Params):List Obj:=[
 oQ (vT q0) [],
 oL vN [],
 oQ (vT q0) [(vS s141 1103),(vS s142 1104)],
 oQ (vT q0) [],
 oC s157 s157 (sA 64),
 oL (vT q1) [(vS s157 1100),(vS s157 1101),(vS s1 1102),(vI 221 0),(vI 2 0),(vI 0 0),(vI 0 0),(vI 3 0),(vR 580),(vb true),(vI 181 0),(vR 581),vN,(vR 582),(vR 583),(vR 584),(vI 1105 0),(vI 221 0),(vS s1 1106)],
 oF q3 s157 s157 (sA 64) (vS s140 965) (vR 585)]
noncomputable def N66 (P:Params):List Obj:=[
 oQ (vT q0) [],
 oL vN [],
 oQ (vT q0) [(vS s141 1111),(vS s142 1112)],
 oQ (vT q0) [],
 oC s158 s158 (sA 65),
 oL (vT q1) [(vS s158 1108),(vS s158 1109),(vS s1 1110),(vI 223 0),(vI 2 0),(vI 0 0),(vI 0 0),(vI 3 0),(vR 587),(vb true),(vI 181 0),(vR 588),vN,(vR 589),(vR 590),(vR 591),(vI 1113 0),(vI 223 0),(vS s1 1114)],
 oF q3 s158 s158 (sA 65) (vS s140 965) (vR 592)]
noncomputable def N67 (P:Params):List Obj:=[
 oQ (vT q0) [],
 oL vN [],
 oQ (vT q0) [(vS s141 1119),(vS s142 1120)],
 oQ (vT q0) [],
 oC s159 s159 (sA 66),
 oL (vT q1) [(vS s159 1116),(vS s159 1117),(vS s1 1118),(vI 225 0),(vI 2 0),(vI 0 0),(vI 0 0),(vI 3 0),(vR 594),(vb true),(vI 181 0),(vR 595),vN,(vR 596),(vR 597),(vR 598),(vI 1121 0),(vI 225 0),(vS s1 1122)],
 oF q3 s159 s159 (sA 66) (vS s140 965) (vR 599)]
noncomputable def N68 (P:Params):List Obj:=[
 oQ (vT q0) [],
 oL vN [],
 oQ (vT q0) [(vS s141 1127),(vS s142 1128)],
 oQ (vT q0) [],
 oC s160 s160 (sA 67),
 oL (vT q1) [(vS s160 1124),(vS s160 1125),(vS s1 1126),(vI 227 0),(vI 2 0),(vI 0 0),(vI 0 0),(vI 3 0),(vR 601),(vb true),(vI 181 0),(vR 602),vN,(vR 603),(vR 604),(vR 605),(vI 1129 0),(vI 227 0),(vS s1 1130)],
 oF q3 s160 s160 (sA 67) (vS s140 965) (vR 606)]
noncomputable def N69 (P:Params):List Obj:=[
 oQ (vT q0) [],
 oL vN [],
 oQ (vT q0) [(vS s141 1135),(vS s142 1136),(vS s161 1137),(vS s162 1138),(vS s119 1139)],
 oQ (vT q0) [],
 oC s163 s163 (sA 68),
 oL (vT q1) [(vS s163 1132),(vS s163 1133),(vS s1 1134),(vI 229 0),(vI 2 0),(vI 0 0),(vI 0 0),(vI 3 0),(vR 608),(vb true),(vI 181 0),(vR 609),vN,(vR 610),(vR 611),(vR 612),(vI 1140 0),(vI 229 0),(vS s1 1141)],
 oF q3 s163 s163 (sA 68) (vS s140 965) (vR 613)]
noncomputable def N70 (P:Params):List Obj:=[
 oQ (vT q0) [],
 oL vN [],
 oQ (vT q0) [(vS s141 1146),(vS s142 1147)],
 oQ (vT q0) [],
 oC s164 s164 (sA 69),
 oL (vT q1) [(vS s164 1143),(vS s164 1144),(vS s1 1145),(vI 235 0),(vI 2 0),(vI 0 0),(vI 0 0),(vI 3 0),(vR 615),(vb true),(vI 181 0),(vR 616),vN,(vR 617),(vR 618),(vR 619),(vI 1148 0),(vI 235 0),(vS s1 1149)],
 oF q3 s164 s164 (sA 69) (vS s140 965) (vR 620)]
noncomputable def N71 (P:Params):List Obj:=[
 oQ (vT q0) [],
 oL vN [],
 oQ (vT q0) [(vS s141 1154),(vS s142 1155),(vS s161 1156),(vS s119 1157)],
 oQ (vT q0) [],
 oC s165 s165 (sA 70),
 oL (vT q1) [(vS s165 1151),(vS s165 1152),(vS s1 1153),(vI 237 0),(vI 2 0),(vI 0 0),(vI 0 0),(vI 3 0),(vR 622),(vb true),(vI 181 0),(vR 623),vN,(vR 624),(vR 625),(vR 626),(vI 1158 0),(vI 237 0),(vS s1 1159)],
 oF q3 s165 s165 (sA 70) (vS s140 965) (vR 627)]
noncomputable def N72 (P:Params):List Obj:=[
 oQ (vT q0) [],
 oL vN [],
 oQ (vT q0) [(vS s141 1164),(vS s142 1165)],
 oQ (vT q0) [],
 oC s166 s166 (sA 71),
 oL (vT q1) [(vS s166 1161),(vS s166 1162),(vS s1 1163),(vI 243 0),(vI 2 0),(vI 0 0),(vI 0 0),(vI 3 0),(vR 629),(vb true),(vI 181 0),(vR 630),vN,(vR 631),(vR 632),(vR 633),(vI 1166 0),(vI 243 0),(vS s1 1167)],
 oF q3 s166 s166 (sA 71) (vS s140 965) (vR 634)]
noncomputable def N73 (P:Params):List Obj:=[
 oD (vT q8) [sE P s45 1169 (vR 488),sE P s46 1171 (vR 495),sE P s47 1173 (vR 502),sE P s48 1175 (vR 523),sE P s49 1177 (vR 530),sE P s50 1179 (vR 565),sE P s51 1181 (vR 509),sE P s52 1183 (vR 516),sE P s53 1185 (vR 572),sE P s54 1187 (vR 579),sE P s55 1189 (vR 586),sE P s56 1191 (vR 593),sE P s57 1193 (vR 600),sE P s58 1195 (vR 607),sE P s59 1197 (vR 614),sE P s60 1199 (vR 621),sE P s61 1201 (vR 628),sE P s62 1203 (vR 635)] 18,
 oD (vT q8) [sE P s62 1203 (vR 635)] 1]
noncomputable def N74 (P:Params):List Obj:=[
 oD (vT q8) [sE P s36 1206 (vR 488),sE P s37 1207 (vR 523),sE P s38 1208 (vR 530),sE P s39 1209 (vR 565),sE P s40 1210 (vR 572),sE P s41 1211 (vR 579),sE P s42 1212 (vR 502),sE P s43 1213 (vR 509),sE P s44 1214 (vR 516)] 9]
noncomputable def N75 (P:Params):List Obj:=[
 oD (vT q8) [sE P s22 1225 (vR 551),sE P s23 1226 (vR 558),sE P s24 1227 (vR 523),sE P s25 1228 (vR 537),sE P s26 1229 (vR 530),sE P s27 1230 (vR 544)] 6]
noncomputable def N76 (P:Params):List Obj:=[
 oD (vT q8) [sE P s28 1238 (vR 641),sE P s29 1240 (vR 642),sE P s30 1242 (vR 643),sE P s31 1244 (vR 644),sE P s32 1246 (vR 645)] 5,
 oQ (vT q0) [(vI 1 1239),(vb true)],
 oQ (vT q0) [(vI 2 1241),(vb true)],
 oQ (vT q0) [(vI 4 1243),(vb false)],
 oQ (vT q0) [(vI 1 1245),(vb false)],
 oQ (vT q0) [(vI 2 1247),(vb false)]]
noncomputable def N77 (P:Params):List Obj:=[
 oD (vT q8) [sE P s33 1254 (vI 1 1255),sE P s34 1256 (vI 2 1257),sE P s35 1258 (vI 4 1259)] 3]
noncomputable def N78 (P:Params):List Obj:=[
 oQ (vT q0) [],
 oL (vT q5) [(vB q6),(vT q7)],
 oD (vT q8) [sE P s5 1271 (vS s140 965),sE P s7 1273 (vS s167 1272),sE P s9 1275 (vI 250 1274),sE P s10 1286 (vR 660),sE P s168 1296 (vR 667),sE P s169 1305 (vR 674),sE P s170 1315 (vR 681),sE P s171 1327 (vR 688),sE P s172 1336 (vR 695),sE P s173 1345 (vR 702),sE P s174 1355 (vR 709),sE P s175 1363 (vR 716),sE P s176 1374 (vR 723),sE P s177 1387 (vR 730),sE P s178 1397 (vR 737),sE P s179 1405 (vR 744),sE P s180 1413 (vR 751),sE P s11 1426 (vR 752)] 18,
 oQ (vT q0) [],
 oL vN [(vI 252 0),(vI 4 0),(vR 659),(vI 272 0),(vI 4 0),(vR 666),(vI 278 0),(vI 4 0),(vR 673),(vI 283 0),(vI 4 0),(vR 680),(vI 287 0),(vI 4 0),(vR 687),(vI 292 0),(vI 4 0),(vR 694),(vI 295 0),(vI 4 0),(vR 701),(vI 299 0),(vI 4 0),(vR 708),(vI 308 0),(vI 4 0),(vR 715),(vI 313 0),(vI 4 0),(vR 722),(vI 334 0),(vI 4 0),(vR 729),(vI 345 0),(vI 4 0),(vR 736),(vI 365 0),(vI 4 0),(vR 743),(vI 378 0),(vI 4 0),(vR 750)],
 oL (vT q1) [(vS s167 1266),(vS s167 1267),(vS s1 1268),(vI 250 0),(vI 0 0),(vI 0 0),(vI 0 0),(vI 0 0),(vR 650),(vb false),(vI 181 0),(vR 651),vN,vN,vN,vN,(vI 1269 0),(vI 250 0),(vS s1 1270)],
 oP (vT q2) none [(some (vR 652)),(some (vR 3)),(some (vR 649)),none,(some (vS s140 965)),none,(some (vR 0))],
 oQ (vT q0) [],
 oL vN [],
 oQ (vT q0) [(vS s12 1279),(vS s94 1280),(vS s181 1281),(vS s109 1282),(vS s182 1283)],
 oQ (vT q0) [],
 oC s10 s183 (sM 77 0),
 oL (vT q1) [(vS s10 1276),(vS s183 1277),(vS s1 1278),(vI 252 0),(vI 3 0),(vI 0 0),(vI 0 0),(vI 3 0),(vR 654),(vb true),(vI 181 0),(vR 655),vN,(vR 656),(vR 657),(vR 658),(vI 1284 0),(vI 252 0),(vS s1 1285)],
 oF q3 s10 s183 (sM 77 0) (vS s140 965) (vR 659),
 oQ (vT q0) [],
 oL vN [],
 oQ (vT q0) [(vS s12 1290),(vS s95 1291),(vS s109 1292),(vS s184 1293)],
 oQ (vT q0) [],
 oC s168 s185 (sM 77 1),
 oL (vT q1) [(vS s168 1287),(vS s185 1288),(vS s1 1289),(vI 272 0),(vI 3 0),(vI 0 0),(vI 0 0),(vI 3 0),(vR 661),(vb true),(vI 181 0),(vR 662),vN,(vR 663),(vR 664),(vR 665),(vI 1294 0),(vI 272 0),(vS s1 1295)],
 oF q3 s168 s185 (sM 77 1) (vS s140 965) (vR 666),
 oQ (vT q0) [],
 oL vN [],
 oQ (vT q0) [(vS s12 1300),(vS s95 1301),(vS s79 1302)],
 oQ (vT q0) [],
 oC s169 s186 (sM 77 2),
 oL (vT q1) [(vS s169 1297),(vS s186 1298),(vS s1 1299),(vI 278 0),(vI 3 0),(vI 0 0),(vI 0 0),(vI 3 0),(vR 668),(vb true),(vI 181 0),(vR 669),vN,(vR 670),(vR 671),(vR 672),(vI 1303 0),(vI 278 0),(vS s1 1304)],
 oF q3 s169 s186 (sM 77 2) (vS s140 965) (vR 673),
 oQ (vT q0) [],
 oL vN [],
 oQ (vT q0) [(vS s12 1309),(vS s95 1310),(vS s79 1311),(vS s184 1312)],
 oQ (vT q0) [],
 oC s170 s187 (sM 77 3),
 oL (vT q1) [(vS s170 1306),(vS s187 1307),(vS s1 1308),(vI 283 0),(vI 3 0),(vI 0 0),(vI 0 0),(vI 3 0),(vR 675),(vb true),(vI 181 0),(vR 676),vN,(vR 677),(vR 678),(vR 679),(vI 1313 0),(vI 283 0),(vS s1 1314)],
 oF q3 s170 s187 (sM 77 3) (vS s140 965) (vR 680),
 oQ (vT q0) [],
 oL vN [],
 oQ (vT q0) [(vS s12 1319),(vS s95 1320),(vS s79 1321),(vS s78 1322),(vS s184 1323),(vS s80 1324)],
 oQ (vT q0) [],
 oC s171 s188 (sM 77 4),
 oL (vT q1) [(vS s171 1316),(vS s188 1317),(vS s1 1318),(vI 287 0),(vI 4 0),(vI 0 0),(vI 0 0),(vI 3 0),(vR 682),(vb true),(vI 181 0),(vR 683),vN,(vR 684),(vR 685),(vR 686),(vI 1325 0),(vI 287 0),(vS s1 1326)],
 oF q3 s171 s188 (sM 77 4) (vS s140 965) (vR 687),
 oQ (vT q0) [],
 oL vN [],
 oQ (vT q0) [(vS s12 1331),(vS s95 1332),(vS s109 1333)],
 oQ (vT q0) [],
 oC s172 s189 (sM 77 5),
 oL (vT q1) [(vS s172 1328),(vS s189 1329),(vS s1 1330),(vI 292 0),(vI 3 0),(vI 0 0),(vI 0 0),(vI 3 0),(vR 689),(vb true),(vI 181 0),(vR 690),vN,(vR 691),(vR 692),(vR 693),(vI 1334 0),(vI 292 0),(vS s1 1335)],
 oF q3 s172 s189 (sM 77 5) (vS s140 965) (vR 694),
 oQ (vT q0) [],
 oL vN [],
 oQ (vT q0) [(vS s12 1340),(vS s190 1341),(vS s78 1342)],
 oQ (vT q0) [],
 oC s173 s191 (sM 77 6),
 oL (vT q1) [(vS s173 1337),(vS s191 1338),(vS s1 1339),(vI 295 0),(vI 3 0),(vI 0 0),(vI 0 0),(vI 3 0),(vR 696),(vb true),(vI 181 0),(vR 697),vN,(vR 698),(vR 699),(vR 700),(vI 1343 0),(vI 295 0),(vS s1 1344)],
 oF q3 s173 s191 (sM 77 6) (vS s140 965) (vR 701),
 oQ (vT q0) [],
 oL vN [],
 oQ (vT q0) [(vS s12 1349),(vS s95 1350),(vS s13 1351),(vS s119 1352)],
 oQ (vT q0) [],
 oC s174 s192 (sM 77 7),
 oL (vT q1) [(vS s174 1346),(vS s192 1347),(vS s1 1348),(vI 299 0),(vI 2 0),(vI 0 0),(vI 0 0),(vI 3 0),(vR 703),(vb true),(vI 181 0),(vR 704),vN,(vR 705),(vR 706),(vR 707),(vI 1353 0),(vI 299 0),(vS s1 1354)],
 oF q3 s174 s192 (sM 77 7) (vS s140 965) (vR 708),
 oQ (vT q0) [],
 oL vN [],
 oQ (vT q0) [(vS s12 1359),(vS s193 1360)],
 oQ (vT q0) [],
 oC s175 s194 (sM 77 8),
 oL (vT q1) [(vS s175 1356),(vS s194 1357),(vS s1 1358),(vI 308 0),(vI 2 0),(vI 0 0),(vI 0 0),(vI 3 0),(vR 710),(vb true),(vI 181 0),(vR 711),vN,(vR 712),(vR 713),(vR 714),(vI 1361 0),(vI 308 0),(vS s1 1362)],
 oF q3 s175 s194 (sM 77 8) (vS s140 965) (vR 715),
 oQ (vT q0) [],
 oL vN [],
 oQ (vT q0) [(vS s12 1367),(vS s89 1368),(vS s90 1369),(vS s161 1370),(vS s162 1371)],
 oQ (vT q0) [],
 oC s176 s195 (sM 77 9),
 oL (vT q1) [(vS s176 1364),(vS s195 1365),(vS s1 1366),(vI 313 0),(vI 1 0),(vI 0 0),(vI 0 0),(vI 3 0),(vR 717),(vb true),(vI 181 0),(vR 718),vN,(vR 719),(vR 720),(vR 721),(vI 1372 0),(vI 313 0),(vS s1 1373)],
 oF q3 s176 s195 (sM 77 9) (vS s140 965) (vR 722),
 oQ (vT q0) [],
 oL vN [],
 oQ (vT q0) [(vS s12 1378),(vS s89 1379),(vS s90 1380),(vS s95 1381),(vS s79 1382),(vS s196 1383),(vS s78 1384)],
 oQ (vT q0) [],
 oC s177 s197 (sM 77 10),
 oL (vT q1) [(vS s177 1375),(vS s197 1376),(vS s1 1377),(vI 334 0),(vI 3 0),(vI 0 0),(vI 0 0),(vI 3 0),(vR 724),(vb true),(vI 181 0),(vR 725),vN,(vR 726),(vR 727),(vR 728),(vI 1385 0),(vI 334 0),(vS s1 1386)],
 oF q3 s177 s197 (sM 77 10) (vS s140 965) (vR 729),
 oQ (vT q0) [],
 oL vN [],
 oQ (vT q0) [(vS s12 1391),(vS s89 1392),(vS s90 1393),(vS s198 1394)],
 oQ (vT q0) [],
 oC s178 s199 (sM 77 11),
 oL (vT q1) [(vS s178 1388),(vS s199 1389),(vS s1 1390),(vI 345 0),(vI 3 0),(vI 0 0),(vI 0 0),(vI 3 0),(vR 731),(vb true),(vI 181 0),(vR 732),vN,(vR 733),(vR 734),(vR 735),(vI 1395 0),(vI 345 0),(vS s1 1396)],
 oF q3 s178 s199 (sM 77 11) (vS s140 965) (vR 736),
 oQ (vT q0) [],
 oL vN [],
 oQ (vT q0) [(vS s12 1401),(vS s200 1402)],
 oQ (vT q0) [],
 oC s179 s201 (sM 77 12),
 oL (vT q1) [(vS s179 1398),(vS s201 1399),(vS s1 1400),(vI 365 0),(vI 1 0),(vI 0 0),(vI 0 0),(vI 3 0),(vR 738),(vb true),(vI 181 0),(vR 739),vN,(vR 740),(vR 741),(vR 742),(vI 1403 0),(vI 365 0),(vS s1 1404)],
 oF q3 s179 s201 (sM 77 12) (vS s140 965) (vR 743),
 oQ (vT q0) [],
 oL vN [],
 oQ (vT q0) [(vS s12 1409),(vS s202 1410)],
 oQ (vT q0) [],
 oC s180 s203 (sM 77 13),
 oL (vT q1) [(vS s180 1406),(vS s203 1407),(vS s1 1408),(vI 378 0),(vI 2 0),(vI 0 0),(vI 0 0),(vI 3 0),(vR 745),(vb true),(vI 181 0),(vR 746),vN,(vR 747),(vR 748),(vR 749),(vI 1411 0),(vI 378 0),(vS s1 1412)],
 oF q3 s180 s203 (sM 77 13) (vS s140 965) (vR 750),
 oQ (vT q0) [(vS s131 1414),(vS s204 1415),(vS s205 1416),(vS s206 1417),(vS s207 1418),(vS s208 1419),(vS s209 1420),(vS s210 1421),(vS s109 1422),(vS s211 1423),(vS s212 1424),(vS s213 1425)],
 oD (vT q8) [sE P s5 1271 (vS s140 965),sE P s9 1275 (vI 250 1274),sE P s10 1286 (vR 660),sE P s168 1296 (vR 667),sE P s169 1305 (vR 674),sE P s170 1315 (vR 681),sE P s171 1327 (vR 688),sE P s172 1336 (vR 695),sE P s173 1345 (vR 702),sE P s174 1355 (vR 709),sE P s175 1363 (vR 716),sE P s176 1374 (vR 723),sE P s177 1387 (vR 730),sE P s178 1397 (vR 737),sE P s179 1405 (vR 744),sE P s180 1413 (vR 751),sE P s11 1426 (vR 752),sE P s111 1428 (vR 755),sE P s16 1430 (vR 756),sE P s17 1431 vN] 4,
 oK (vT q7) { name:=s167,bases:=[(vT q11)],mro:=[(vR 754),(vT q11)],ns:=753,qualname:=s167,hasDict:=true,slotNames:=[],subclasses:=[],abstract:=false,collection:=none,hasDel:=false } [none,none,(some (vS s167 1264)),(some (vS s167 1272)),(some (vB q20)),(some (vb true))],
 oL (vT q12) [(vS s111 1427),(vR 754),(vB q21),(vB q22)],
 oL (vT q12) [(vS s16 1429),(vR 754),(vB q13),vN],
 oL (vT q14) [(vR 754),(vR 754),(vR 754)],
 oL (vT q5) [(vB q15),(vR 754)]]
noncomputable def N80 (P:Params):List Obj:=[
 oQ (vT q23) [(vS s117 1436),(vS s214 1437),(vS s215 1438),(vS s216 1439),(vS s3 1440)]]
noncomputable def N81 (P:Params):List Obj:=[
 oQ (vT q0) [],
 oL vN [],
 oQ (vT q0) [(vS s217 1445),(vS s109 1446),(vS s115 1447),(vS s184 1448)],
 oQ (vT q0) [],
 oC s218 s218 (sA 80),
 oL (vT q1) [(vS s218 1442),(vS s218 1443),(vS s1 1444),(vI 382 0),(vI 2 0),(vI 0 0),(vI 0 0),(vI 3 0),(vR 760),(vb true),(vI 181 0),(vR 761),vN,(vR 762),(vR 763),(vR 764),(vI 1449 0),(vI 382 0),(vS s1 1450)],
 oF q3 s218 s218 (sA 80) (vS s219 1434) (vR 765)]
noncomputable def N82 (P:Params):List Obj:=[
 oQ (vT q0) [],
 oL vN [],
 oQ (vT q0) [(vS s217 1455),(vS s220 1456)],
 oQ (vT q0) [],
 oC s221 s221 (sA 81),
 oL (vT q1) [(vS s221 1452),(vS s221 1453),(vS s1 1454),(vI 388 0),(vI 2 0),(vI 0 0),(vI 0 0),(vI 3 0),(vR 767),(vb true),(vI 181 0),(vR 768),vN,(vR 769),(vR 770),(vR 771),(vI 1457 0),(vI 388 0),(vS s1 1458)],
 oF q3 s221 s221 (sA 81) (vS s219 1434) (vR 772)]
noncomputable def N83 (P:Params):List Obj:=[
 oQ (vT q0) [],
 oL vN [],
 oC s222 s222 (sA 82),
 oL (vT q1) [(vS s222 1460),(vS s222 1461),(vS s1 1462),(vI 392 0),(vI 2 0),(vI 0 0),(vI 0 0),(vI 3 0),(vR 774),(vb true),(vI 181 0),(vR 775),vN,vN,vN,(vR 776),(vI 1463 0),(vI 392 0),(vS s1 1464)],
 oF q3 s222 s222 (sA 82) (vS s219 1434) (vR 777)]
noncomputable def N84 (P:Params):List Obj:=[
 oQ (vT q0) [],
 oL vN [],
 oQ (vT q0) [(vS s217 1469),(vS s223 1470),(vS s224 1471)],
 oQ (vT q0) [],
 oC s225 s225 (sA 83),
 oL (vT q1) [(vS s225 1466),(vS s225 1467),(vS s1 1468),(vI 405 0),(vI 2 0),(vI 0 0),(vI 0 0),(vI 3 0),(vR 779),(vb true),(vI 181 0),(vR 780),vN,(vR 781),(vR 782),(vR 783),(vI 1472 0),(vI 405 0),(vS s1 1473)],
 oF q3 s225 s225 (sA 83) (vS s219 1434) (vR 784)]
noncomputable def N85 (P:Params):List Obj:=[
 oQ (vT q0) [],
 oL vN [],
 oQ (vT q0) [(vS s217 1478),(vS s190 1479),(vS s226 1480),(vS s227 1481),(vS s228 1482),(vS s229 1483),(vS s230 1484)],
 oQ (vT q0) [],
 oC s231 s231 (sA 84),
 oL (vT q1) [(vS s231 1475),(vS s231 1476),(vS s1 1477),(vI 410 0),(vI 3 0),(vI 0 0),(vI 0 0),(vI 3 0),(vR 786),(vb true),(vI 181 0),(vR 787),vN,(vR 788),(vR 789),(vR 790),(vI 1485 0),(vI 410 0),(vS s1 1486)],
 oF q3 s231 s231 (sA 84) (vS s219 1434) (vR 791)]
noncomputable def N86 (P:Params):List Obj:=[
 oQ (vT q0) [],
 oL vN [],
 oQ (vT q0) [(vS s103 1491),(vS s14 1492),(vS s232 1493),(vS s131 1494),(vS s233 1495),(vS s234 1496),(vS s84 1497),(vS s80 1498)],
 oQ (vT q0) [],
 oC s235 s235 (sA 85),
 oL (vT q1) [(vS s235 1488),(vS s235 1489),(vS s1 1490),(vI 428 0),(vI 4 0),(vI 0 0),(vI 0 0),(vI 3 0),(vR 793),(vb true),(vI 181 0),(vR 794),vN,(vR 795),(vR 796),(vR 797),(vI 1499 0),(vI 428 0),(vS s1 1500)],
 oF q3 s235 s235 (sA 85) (vS s219 1434) (vR 798)]
noncomputable def N87 (P:Params):List Obj:=[
 oQ (vT q0) [],
 oL vN [],
 oQ (vT q0) [(vS s236 1505),(vS s131 1506),(vS s237 1507),(vS s238 1508),(vS s239 1509),(vS s232 1510),(vS s99 1511),(vS s240 1512),(vS s190 1513),(vS s132 1514),(vS s184 1515),(vS s103 1516),(vS s94 1517),(vS s241 1518)],
 oQ (vT q0) [],
 oC s242 s242 (sA 86),
 oL (vT q1) [(vS s242 1502),(vS s242 1503),(vS s1 1504),(vI 452 0),(vI 4 0),(vI 0 0),(vI 0 0),(vI 3 0),(vR 800),(vb true),(vI 181 0),(vR 801),vN,(vR 802),(vR 803),(vR 804),(vI 1519 0),(vI 452 0),(vS s1 1520)],
 oF q3 s242 s242 (sA 86) (vS s219 1434) (vR 805)]
noncomputable def N88 (P:Params):List Obj:=[
 oQ (vT q0) [],
 oL vN [],
 oC s243 s243 (sA 87),
 oL (vT q1) [(vS s243 1522),(vS s243 1523),(vS s1 1524),(vI 469 0),(vI 1 0),(vI 0 0),(vI 0 0),(vI 3 0),(vR 807),(vb true),(vI 181 0),(vR 808),vN,vN,vN,(vR 809),(vI 1525 0),(vI 469 0),(vS s1 1526)],
 oF q3 s243 s243 (sA 87) (vS s219 1434) (vR 810)]
noncomputable def GE (P:Params) (nm:Value):List DictEntry:=[
 sE P s244 165 nm,
 sE P s17 166 vN,
 sE P s245 167 vN,
 sE P s246 168 (vB q24),
 sE P s247 169 vN,
 sE P s248 170 (vR 6),
 sE P s249 171 (vR 4),
 sE P s250 173 (vS s1 172),
 sE P s251 174 vN,
 sE P s4 193 (vR 21),
 sE P s8 226 (vR 38),
 sE P s252 228 (vI 4294967295 227),
 sE P s253 232 (vI 55 231),
 sE P s254 234 (vI 23 233),
 sE P s255 236 (vI 111 235),
 sE P s256 238 (vI 19 237),
 sE P s257 240 (vI 51 239),
 sE P s258 242 (vI 15 241),
 sE P s259 244 (vI 115 243),
 sE P s260 437 (vR 42),
 sE P s261 482 (vR 93),
 sE P s262 522 (vR 116),
 sE P s81 531 (vR 130),
 sE P s85 540 (vR 137),
 sE P s86 546 (vR 142),
 sE P s263 739 (vR 146),
 sE P s88 748 (vR 348),
 sE P s93 760 (vR 355),
 sE P s264 764 (vS s265 763),
 sE P s266 766 (vI 1 765),
 sE P s267 768 (vI 2 767),
 sE P s268 770 (vI 64 769),
 sE P s269 772 (vI 40 771),
 sE P s97 781 (vR 362),
 sE P s101 792 (vR 369),
 sE P s102 802 (vR 376),
 sE P s104 811 (vR 383),
 sE P s105 842 (vR 400),
 sE P s113 850 (vR 411),
 sE P s116 860 (vR 418),
 sE P s118 871 (vR 425),
 sE P s121 887 (vR 432),
 sE P s122 896 (vR 439),
 sE P s126 907 (vR 446),
 sE P s128 922 (vR 453),
 sE P s130 964 (vR 470),
 sE P s270 968 (vI 2 967),
 sE P s271 970 (vI 10 969),
 sE P s272 972 (vI 17 971),
 sE P s273 974 (vI 2147483648 973),
 sE P s274 976 (vI 93 975),
 sE P s275 978 (vI 1 977),
 sE P s276 980 (vI 2 979),
 sE P s139 987 (vR 481),
 sE P s143 995 (vR 488),
 sE P s144 1003 (vR 495),
 sE P s145 1011 (vR 502),
 sE P s146 1019 (vR 509),
 sE P s147 1027 (vR 516),
 sE P s148 1035 (vR 523),
 sE P s149 1043 (vR 530),
 sE P s150 1051 (vR 537),
 sE P s151 1059 (vR 544),
 sE P s152 1067 (vR 551),
 sE P s153 1075 (vR 558),
 sE P s154 1083 (vR 565),
 sE P s155 1091 (vR 572),
 sE P s156 1099 (vR 579),
 sE P s157 1107 (vR 586),
 sE P s158 1115 (vR 593),
 sE P s159 1123 (vR 600),
 sE P s160 1131 (vR 607),
 sE P s163 1142 (vR 614),
 sE P s164 1150 (vR 621),
 sE P s165 1160 (vR 628),
 sE P s166 1168 (vR 635),
 sE P s277 1205 (vR 636),
 sE P s278 1224 (vR 638),
 sE P s279 1237 (vR 639),
 sE P s280 1253 (vR 640),
 sE P s281 1263 (vR 646),
 sE P s167 1433 (vR 754),
 sE P s282 1441 (vR 759),
 sE P s218 1451 (vR 766),
 sE P s221 1459 (vR 773),
 sE P s222 1465 (vR 778),
 sE P s225 1474 (vR 785),
 sE P s231 1487 (vR 792),
 sE P s235 1501 (vR 799),
 sE P s242 1521 (vR 806),
 sE P s243 1527 (vR 811)]
noncomputable def TE:List Value:=[(vI 1 0),(vI 0 0),(vR 20),(vI 5 0),(vI 0 0),(vR 27),(vI 23 0),(vI 0 0),(vR 129),(vI 26 0),(vI 0 0),(vR 136),(vI 42 0),(vI 0 0),(vR 141),(vI 45 0),(vI 0 0),(vR 347),(vI 56 0),(vI 0 0),(vR 354),(vI 73 0),(vI 0 0),(vR 361),(vI 79 0),(vI 0 0),(vR 368),(vI 88 0),(vI 0 0),(vR 375),(vI 94 0),(vI 0 0),(vR 382),(vI 97 0),(vI 0 0),(vR 389),(vI 104 0),(vI 0 0),(vR 410),(vI 109 0),(vI 0 0),(vR 417),(vI 116 0),(vI 0 0),(vR 424),(vI 126 0),(vI 0 0),(vR 431),(vI 145 0),(vI 0 0),(vR 438),(vI 148 0),(vI 0 0),(vR 445),(vI 157 0),(vI 0 0),(vR 452),(vI 172 0),(vI 0 0),(vR 459),(vI 191 0),(vI 0 0),(vR 480),(vI 193 0),(vI 0 0),(vR 487),(vI 195 0),(vI 0 0),(vR 494),(vI 197 0),(vI 0 0),(vR 501),(vI 199 0),(vI 0 0),(vR 508),(vI 201 0),(vI 0 0),(vR 515),(vI 203 0),(vI 0 0),(vR 522),(vI 205 0),(vI 0 0),(vR 529),(vI 207 0),(vI 0 0),(vR 536),(vI 209 0),(vI 0 0),(vR 543),(vI 211 0),(vI 0 0),(vR 550),(vI 213 0),(vI 0 0),(vR 557),(vI 215 0),(vI 0 0),(vR 564),(vI 217 0),(vI 0 0),(vR 571),(vI 219 0),(vI 0 0),(vR 578),(vI 221 0),(vI 0 0),(vR 585),(vI 223 0),(vI 0 0),(vR 592),(vI 225 0),(vI 0 0),(vR 599),(vI 227 0),(vI 0 0),(vR 606),(vI 229 0),(vI 0 0),(vR 613),(vI 235 0),(vI 0 0),(vR 620),(vI 237 0),(vI 0 0),(vR 627),(vI 243 0),(vI 0 0),(vR 634),(vI 250 0),(vI 0 0),(vR 652),(vI 382 0),(vI 0 0),(vR 765),(vI 388 0),(vI 0 0),(vR 772),(vI 392 0),(vI 0 0),(vR 777),(vI 405 0),(vI 0 0),(vR 784),(vI 410 0),(vI 0 0),(vR 791),(vI 428 0),(vI 0 0),(vR 798),(vI 452 0),(vI 0 0),(vR 805),(vI 469 0),(vI 0 0),(vR 810)]

noncomputable def R0 (P:Params):List Obj:=[]
noncomputable def R1 (P:Params):List Obj:=R0 P++N1 P
noncomputable def R3 (P:Params):List Obj:=R1 P++N3 P
noncomputable def R13 (P:Params):List Obj:=R3 P++N13 P
noncomputable def R14 (P:Params):List Obj:=R13 P++N14 P
noncomputable def R15 (P:Params):List Obj:=R14 P++N15 P
noncomputable def R16 (P:Params):List Obj:=R15 P++N16 P
noncomputable def R17 (P:Params):List Obj:=R16 P++N17 P
noncomputable def R18 (P:Params):List Obj:=R17 P++N18 P
noncomputable def R19 (P:Params):List Obj:=R18 P++N19 P
noncomputable def R20 (P:Params):List Obj:=R19 P++N20 P
noncomputable def R21 (P:Params):List Obj:=R20 P++N21 P
noncomputable def R28 (P:Params):List Obj:=R21 P++N28 P
noncomputable def R29 (P:Params):List Obj:=R28 P++N29 P
noncomputable def R30 (P:Params):List Obj:=R29 P++N30 P
noncomputable def R31 (P:Params):List Obj:=R30 P++N31 P
noncomputable def R32 (P:Params):List Obj:=R31 P++N32 P
noncomputable def R33 (P:Params):List Obj:=R32 P++N33 P
noncomputable def R34 (P:Params):List Obj:=R33 P++N34 P
noncomputable def R35 (P:Params):List Obj:=R34 P++N35 P
noncomputable def R36 (P:Params):List Obj:=R35 P++N36 P
noncomputable def R37 (P:Params):List Obj:=R36 P++N37 P
noncomputable def R38 (P:Params):List Obj:=R37 P++N38 P
noncomputable def R39 (P:Params):List Obj:=R38 P++N39 P
noncomputable def R41 (P:Params):List Obj:=R39 P++N41 P
noncomputable def R50 (P:Params):List Obj:=R41 P++N50 P
noncomputable def R51 (P:Params):List Obj:=R50 P++N51 P
noncomputable def R52 (P:Params):List Obj:=R51 P++N52 P
noncomputable def R53 (P:Params):List Obj:=R52 P++N53 P
noncomputable def R54 (P:Params):List Obj:=R53 P++N54 P
noncomputable def R55 (P:Params):List Obj:=R54 P++N55 P
noncomputable def R56 (P:Params):List Obj:=R55 P++N56 P
noncomputable def R57 (P:Params):List Obj:=R56 P++N57 P
noncomputable def R58 (P:Params):List Obj:=R57 P++N58 P
noncomputable def R59 (P:Params):List Obj:=R58 P++N59 P
noncomputable def R60 (P:Params):List Obj:=R59 P++N60 P
noncomputable def R61 (P:Params):List Obj:=R60 P++N61 P
noncomputable def R62 (P:Params):List Obj:=R61 P++N62 P
noncomputable def R63 (P:Params):List Obj:=R62 P++N63 P
noncomputable def R64 (P:Params):List Obj:=R63 P++N64 P
noncomputable def R65 (P:Params):List Obj:=R64 P++N65 P
noncomputable def R66 (P:Params):List Obj:=R65 P++N66 P
noncomputable def R67 (P:Params):List Obj:=R66 P++N67 P
noncomputable def R68 (P:Params):List Obj:=R67 P++N68 P
noncomputable def R69 (P:Params):List Obj:=R68 P++N69 P
noncomputable def R70 (P:Params):List Obj:=R69 P++N70 P
noncomputable def R71 (P:Params):List Obj:=R70 P++N71 P
noncomputable def R72 (P:Params):List Obj:=R71 P++N72 P
noncomputable def R73 (P:Params):List Obj:=R72 P++N73 P
noncomputable def R74 (P:Params):List Obj:=R73 P++N74 P
noncomputable def R75 (P:Params):List Obj:=R74 P++N75 P
noncomputable def R76 (P:Params):List Obj:=R75 P++N76 P
noncomputable def R77 (P:Params):List Obj:=R76 P++N77 P
noncomputable def R78 (P:Params):List Obj:=R77 P++N78 P
noncomputable def R80 (P:Params):List Obj:=R78 P++N80 P
noncomputable def R81 (P:Params):List Obj:=R80 P++N81 P
noncomputable def R82 (P:Params):List Obj:=R81 P++N82 P
noncomputable def R83 (P:Params):List Obj:=R82 P++N83 P
noncomputable def R84 (P:Params):List Obj:=R83 P++N84 P
noncomputable def R85 (P:Params):List Obj:=R84 P++N85 P
noncomputable def R86 (P:Params):List Obj:=R85 P++N86 P
noncomputable def R87 (P:Params):List Obj:=R86 P++N87 P
noncomputable def R88 (P:Params):List Obj:=R87 P++N88 P
noncomputable def C2 (P:Params):Obj:=oD vN [sE P s283 223 (vI 38 0),sE P s284 224 (vI 1 0)] 2
noncomputable def LS (P:Params) (c2:Obj) (nm:Value) (g ge tb:Nat) (rest:List Obj):List Obj :=
 boot_o_0 P::boot_o_1 P::c2::oD (vT q8) ((GE P nm).take g) ge::boot_o_4 P::boot_o_5 P::boot_o_6 P::boot_o_7 P::boot_o_8 P::boot_o_9 P::boot_o_10 P::(N0 P (TE.take tb)++rest)
noncomputable def SS (P:Params) (c2:Obj) (nm:Value) (g ge tb n k:Nat) (rest:List Obj) (os:OsState):SharedT:=⟨mkT 12 (LS P c2 nm g ge tb rest),n,({}:Life),#[],boot_drawn,k,os⟩
noncomputable def env0:Env:={ scope:=W0.main.scope,locals:=mainNs,globals:=mainNs,cells:=[],code:=.ref 13,frame:=some 14 }
noncomputable abbrev cd0:Code:=.body (behindTheImports W0) env0
noncomputable abbrev fr0:List Frame:=[topFrame ⟨0,0,0,0⟩]
noncomputable def seg (i n:Nat):List Stmt:=((behindTheImports W0).drop i).take n

noncomputable def S0 (P:Params) (os:OsState):SharedT:=SS P (boot_o_2 P) (vS s2 164) 9 9 0 15 187 (R0 P) os
noncomputable def S1 (P:Params) (os:OsState):SharedT:=SS P (boot_o_2 P) (vS s2 164) 9 9 0 15 187 (R0 P) os
noncomputable def S2 (P:Params) (os:OsState):SharedT:=SS P (boot_o_2 P) (vS s2 164) 10 10 3 22 194 (R1 P) os
noncomputable def S3 (P:Params) (os:OsState):SharedT:=SS P (boot_o_2 P) (vS s6 194) 10 10 3 22 196 (R1 P) os
noncomputable def S4 (P:Params) (os:OsState):SharedT:=SS P (C2 P) (vS s6 194) 11 11 6 42 227 (R3 P) os
noncomputable def S5 (P:Params) (os:OsState):SharedT:=SS P (C2 P) (vS s6 194) 12 12 6 42 229 (R3 P) os
noncomputable def S6 (P:Params) (os:OsState):SharedT:=SS P (C2 P) (vS s82 229) 12 12 6 42 231 (R3 P) os
noncomputable def S7 (P:Params) (os:OsState):SharedT:=SS P (C2 P) (vS s82 229) 13 13 6 42 233 (R3 P) os
noncomputable def S8 (P:Params) (os:OsState):SharedT:=SS P (C2 P) (vS s82 229) 14 14 6 42 235 (R3 P) os
noncomputable def S9 (P:Params) (os:OsState):SharedT:=SS P (C2 P) (vS s82 229) 15 15 6 42 237 (R3 P) os
noncomputable def S10 (P:Params) (os:OsState):SharedT:=SS P (C2 P) (vS s82 229) 16 16 6 42 239 (R3 P) os
noncomputable def S11 (P:Params) (os:OsState):SharedT:=SS P (C2 P) (vS s82 229) 17 17 6 42 241 (R3 P) os
noncomputable def S12 (P:Params) (os:OsState):SharedT:=SS P (C2 P) (vS s82 229) 18 18 6 42 243 (R3 P) os
noncomputable def S13 (P:Params) (os:OsState):SharedT:=SS P (C2 P) (vS s82 229) 19 19 6 42 245 (R3 P) os
noncomputable def S14 (P:Params) (os:OsState):SharedT:=SS P (C2 P) (vS s82 229) 20 20 6 93 438 (R13 P) os
noncomputable def S15 (P:Params) (os:OsState):SharedT:=SS P (C2 P) (vS s82 229) 21 21 6 116 483 (R14 P) os
noncomputable def S16 (P:Params) (os:OsState):SharedT:=SS P (C2 P) (vS s82 229) 22 22 6 124 523 (R15 P) os
noncomputable def S17 (P:Params) (os:OsState):SharedT:=SS P (C2 P) (vS s82 229) 23 23 9 131 532 (R16 P) os
noncomputable def S18 (P:Params) (os:OsState):SharedT:=SS P (C2 P) (vS s82 229) 24 24 12 138 541 (R17 P) os
noncomputable def S19 (P:Params) (os:OsState):SharedT:=SS P (C2 P) (vS s82 229) 25 25 15 143 547 (R18 P) os
noncomputable def S20 (P:Params) (os:OsState):SharedT:=SS P (C2 P) (vS s82 229) 26 26 15 342 740 (R19 P) os
noncomputable def S21 (P:Params) (os:OsState):SharedT:=SS P (C2 P) (vS s82 229) 27 27 18 349 749 (R20 P) os
noncomputable def S22 (P:Params) (os:OsState):SharedT:=SS P (C2 P) (vS s82 229) 28 28 21 356 761 (R21 P) os
noncomputable def S23 (P:Params) (os:OsState):SharedT:=SS P (C2 P) (vS s98 761) 28 28 21 356 763 (R21 P) os
noncomputable def S24 (P:Params) (os:OsState):SharedT:=SS P (C2 P) (vS s98 761) 29 29 21 356 765 (R21 P) os
noncomputable def S25 (P:Params) (os:OsState):SharedT:=SS P (C2 P) (vS s98 761) 30 30 21 356 767 (R21 P) os
noncomputable def S26 (P:Params) (os:OsState):SharedT:=SS P (C2 P) (vS s98 761) 31 31 21 356 769 (R21 P) os
noncomputable def S27 (P:Params) (os:OsState):SharedT:=SS P (C2 P) (vS s98 761) 32 32 21 356 771 (R21 P) os
noncomputable def S28 (P:Params) (os:OsState):SharedT:=SS P (C2 P) (vS s98 761) 33 33 21 356 773 (R21 P) os
noncomputable def S29 (P:Params) (os:OsState):SharedT:=SS P (C2 P) (vS s98 761) 34 34 24 363 782 (R28 P) os
noncomputable def S30 (P:Params) (os:OsState):SharedT:=SS P (C2 P) (vS s98 761) 35 35 27 370 793 (R29 P) os
noncomputable def S31 (P:Params) (os:OsState):SharedT:=SS P (C2 P) (vS s98 761) 36 36 30 377 803 (R30 P) os
noncomputable def S32 (P:Params) (os:OsState):SharedT:=SS P (C2 P) (vS s98 761) 37 37 33 384 812 (R31 P) os
noncomputable def S33 (P:Params) (os:OsState):SharedT:=SS P (C2 P) (vS s98 761) 38 38 36 405 843 (R32 P) os
noncomputable def S34 (P:Params) (os:OsState):SharedT:=SS P (C2 P) (vS s98 761) 39 39 39 412 851 (R33 P) os
noncomputable def S35 (P:Params) (os:OsState):SharedT:=SS P (C2 P) (vS s98 761) 40 40 42 419 861 (R34 P) os
noncomputable def S36 (P:Params) (os:OsState):SharedT:=SS P (C2 P) (vS s98 761) 41 41 45 426 872 (R35 P) os
noncomputable def S37 (P:Params) (os:OsState):SharedT:=SS P (C2 P) (vS s98 761) 42 42 48 433 888 (R36 P) os
noncomputable def S38 (P:Params) (os:OsState):SharedT:=SS P (C2 P) (vS s98 761) 43 43 51 440 897 (R37 P) os
noncomputable def S39 (P:Params) (os:OsState):SharedT:=SS P (C2 P) (vS s98 761) 44 44 54 447 908 (R38 P) os
noncomputable def S40 (P:Params) (os:OsState):SharedT:=SS P (C2 P) (vS s98 761) 45 45 57 454 923 (R39 P) os
noncomputable def S41 (P:Params) (os:OsState):SharedT:=SS P (C2 P) (vS s129 923) 45 45 57 454 925 (R39 P) os
noncomputable def S42 (P:Params) (os:OsState):SharedT:=SS P (C2 P) (vS s129 923) 46 46 60 475 965 (R41 P) os
noncomputable def S43 (P:Params) (os:OsState):SharedT:=SS P (C2 P) (vS s140 965) 46 46 60 475 967 (R41 P) os
noncomputable def S44 (P:Params) (os:OsState):SharedT:=SS P (C2 P) (vS s140 965) 47 47 60 475 969 (R41 P) os
noncomputable def S45 (P:Params) (os:OsState):SharedT:=SS P (C2 P) (vS s140 965) 48 48 60 475 971 (R41 P) os
noncomputable def S46 (P:Params) (os:OsState):SharedT:=SS P (C2 P) (vS s140 965) 49 49 60 475 973 (R41 P) os
noncomputable def S47 (P:Params) (os:OsState):SharedT:=SS P (C2 P) (vS s140 965) 50 50 60 475 975 (R41 P) os
noncomputable def S48 (P:Params) (os:OsState):SharedT:=SS P (C2 P) (vS s140 965) 51 51 60 475 977 (R41 P) os
noncomputable def S49 (P:Params) (os:OsState):SharedT:=SS P (C2 P) (vS s140 965) 52 52 60 475 979 (R41 P) os
noncomputable def S50 (P:Params) (os:OsState):SharedT:=SS P (C2 P) (vS s140 965) 53 53 60 475 981 (R41 P) os
noncomputable def S51 (P:Params) (os:OsState):SharedT:=SS P (C2 P) (vS s140 965) 54 54 63 482 988 (R50 P) os
noncomputable def S52 (P:Params) (os:OsState):SharedT:=SS P (C2 P) (vS s140 965) 55 55 66 489 996 (R51 P) os
noncomputable def S53 (P:Params) (os:OsState):SharedT:=SS P (C2 P) (vS s140 965) 56 56 69 496 1004 (R52 P) os
noncomputable def S54 (P:Params) (os:OsState):SharedT:=SS P (C2 P) (vS s140 965) 57 57 72 503 1012 (R53 P) os
noncomputable def S55 (P:Params) (os:OsState):SharedT:=SS P (C2 P) (vS s140 965) 58 58 75 510 1020 (R54 P) os
noncomputable def S56 (P:Params) (os:OsState):SharedT:=SS P (C2 P) (vS s140 965) 59 59 78 517 1028 (R55 P) os
noncomputable def S57 (P:Params) (os:OsState):SharedT:=SS P (C2 P) (vS s140 965) 60 60 81 524 1036 (R56 P) os
noncomputable def S58 (P:Params) (os:OsState):SharedT:=SS P (C2 P) (vS s140 965) 61 61 84 531 1044 (R57 P) os
noncomputable def S59 (P:Params) (os:OsState):SharedT:=SS P (C2 P) (vS s140 965) 62 62 87 538 1052 (R58 P) os
noncomputable def S60 (P:Params) (os:OsState):SharedT:=SS P (C2 P) (vS s140 965) 63 63 90 545 1060 (R59 P) os
noncomputable def S61 (P:Params) (os:OsState):SharedT:=SS P (C2 P) (vS s140 965) 64 64 93 552 1068 (R60 P) os
noncomputable def S62 (P:Params) (os:OsState):SharedT:=SS P (C2 P) (vS s140 965) 65 65 96 559 1076 (R61 P) os
noncomputable def S63 (P:Params) (os:OsState):SharedT:=SS P (C2 P) (vS s140 965) 66 66 99 566 1084 (R62 P) os
noncomputable def S64 (P:Params) (os:OsState):SharedT:=SS P (C2 P) (vS s140 965) 67 67 102 573 1092 (R63 P) os
noncomputable def S65 (P:Params) (os:OsState):SharedT:=SS P (C2 P) (vS s140 965) 68 68 105 580 1100 (R64 P) os
noncomputable def S66 (P:Params) (os:OsState):SharedT:=SS P (C2 P) (vS s140 965) 69 69 108 587 1108 (R65 P) os
noncomputable def S67 (P:Params) (os:OsState):SharedT:=SS P (C2 P) (vS s140 965) 70 70 111 594 1116 (R66 P) os
noncomputable def S68 (P:Params) (os:OsState):SharedT:=SS P (C2 P) (vS s140 965) 71 71 114 601 1124 (R67 P) os
noncomputable def S69 (P:Params) (os:OsState):SharedT:=SS P (C2 P) (vS s140 965) 72 72 117 608 1132 (R68 P) os
noncomputable def S70 (P:Params) (os:OsState):SharedT:=SS P (C2 P) (vS s140 965) 73 73 120 615 1143 (R69 P) os
noncomputable def S71 (P:Params) (os:OsState):SharedT:=SS P (C2 P) (vS s140 965) 74 74 123 622 1151 (R70 P) os
noncomputable def S72 (P:Params) (os:OsState):SharedT:=SS P (C2 P) (vS s140 965) 75 75 126 629 1161 (R71 P) os
noncomputable def S73 (P:Params) (os:OsState):SharedT:=SS P (C2 P) (vS s140 965) 76 76 129 636 1169 (R72 P) os
noncomputable def S74 (P:Params) (os:OsState):SharedT:=SS P (C2 P) (vS s140 965) 77 77 129 638 1206 (R73 P) os
noncomputable def S75 (P:Params) (os:OsState):SharedT:=SS P (C2 P) (vS s140 965) 78 78 129 639 1225 (R74 P) os
noncomputable def S76 (P:Params) (os:OsState):SharedT:=SS P (C2 P) (vS s140 965) 79 79 129 640 1238 (R75 P) os
noncomputable def S77 (P:Params) (os:OsState):SharedT:=SS P (C2 P) (vS s140 965) 80 80 129 646 1254 (R76 P) os
noncomputable def S78 (P:Params) (os:OsState):SharedT:=SS P (C2 P) (vS s140 965) 81 81 129 647 1264 (R77 P) os
noncomputable def S79 (P:Params) (os:OsState):SharedT:=SS P (C2 P) (vS s140 965) 82 82 132 759 1434 (R78 P) os
noncomputable def S80 (P:Params) (os:OsState):SharedT:=SS P (C2 P) (vS s219 1434) 82 82 132 759 1436 (R78 P) os
noncomputable def S81 (P:Params) (os:OsState):SharedT:=SS P (C2 P) (vS s219 1434) 83 83 132 760 1442 (R80 P) os
noncomputable def S82 (P:Params) (os:OsState):SharedT:=SS P (C2 P) (vS s219 1434) 84 84 135 767 1452 (R81 P) os
noncomputable def S83 (P:Params) (os:OsState):SharedT:=SS P (C2 P) (vS s219 1434) 85 85 138 774 1460 (R82 P) os
noncomputable def S84 (P:Params) (os:OsState):SharedT:=SS P (C2 P) (vS s219 1434) 86 86 141 779 1466 (R83 P) os
noncomputable def S85 (P:Params) (os:OsState):SharedT:=SS P (C2 P) (vS s219 1434) 87 87 144 786 1475 (R84 P) os
noncomputable def S86 (P:Params) (os:OsState):SharedT:=SS P (C2 P) (vS s219 1434) 88 88 147 793 1488 (R85 P) os
noncomputable def S87 (P:Params) (os:OsState):SharedT:=SS P (C2 P) (vS s219 1434) 89 89 150 800 1502 (R86 P) os
noncomputable def S88 (P:Params) (os:OsState):SharedT:=SS P (C2 P) (vS s219 1434) 90 90 153 807 1522 (R87 P) os
noncomputable def S89 (P:Params) (os:OsState):SharedT:=SS P (C2 P) (vS s219 1434) 91 91 156 812 1528 (R88 P) os
noncomputable def NBE:List DictEntry:=[iE 55 247 (vS s18 245),iE 23 251 (vS s19 249),iE 111 255 (vS s20 253),iE 103 259 (vS s21 257),iE 99 263 (vS s22 261),iE 4195 267 (vS s23 265),iE 16483 271 (vS s24 269),iE 20579 275 (vS s25 273),iE 24675 279 (vS s26 277),iE 28771 283 (vS s27 281),iE 3 287 (vS s28 285),iE 4099 291 (vS s29 289),iE 8195 295 (vS s30 293),iE 16387 299 (vS s31 297),iE 20483 303 (vS s32 301),iE 35 307 (vS s33 305),iE 4131 311 (vS s34 309),iE 8227 315 (vS s35 313),iE 19 319 (vS s36 317),iE 8211 323 (vS s37 321),iE 12307 327 (vS s38 325),iE 16403 331 (vS s39 329),iE 24595 335 (vS s40 333),iE 28691 339 (vS s41 337),iE 4115 343 (vS s42 341),iE 20499 347 (vS s43 345),iE 1073762323 351 (vS s44 349),iE 51 355 (vS s45 353),iE 1073741875 359 (vS s46 357),iE 4147 363 (vS s47 361),iE 8243 367 (vS s48 365),iE 12339 371 (vS s49 369),iE 16435 375 (vS s50 373),iE 20531 379 (vS s51 377),iE 1073762355 383 (vS s52 381),iE 24627 386 (vS s53 384),iE 28723 389 (vS s54 387),iE 33554483 392 (vS s55 390),iE 33558579 395 (vS s56 393),iE 33562675 398 (vS s57 396),iE 33566771 401 (vS s58 399),iE 33570867 404 (vS s59 402),iE 33574963 407 (vS s60 405),iE 33579059 410 (vS s61 408),iE 33583155 413 (vS s62 411),iE 15 416 (vS s63 414),iE 115 419 (vS s64 417),iE 1048691 422 (vS s65 420)]
noncomputable def INE (P:Params):List DictEntry:=[sE P s18 245 (vR 43),sE P s19 249 (vR 44),sE P s20 253 (vR 45),sE P s21 257 (vR 46),sE P s22 261 (vR 47),sE P s23 265 (vR 48),sE P s24 269 (vR 49),sE P s25 273 (vR 50),sE P s26 277 (vR 51),sE P s27 281 (vR 52),sE P s28 285 (vR 53),sE P s29 289 (vR 54),sE P s30 293 (vR 55),sE P s31 297 (vR 56),sE P s32 301 (vR 57),sE P s33 305 (vR 58),sE P s34 309 (vR 59),sE P s35 313 (vR 61),sE P s36 317 (vR 62),sE P s37 321 (vR 63),sE P s38 325 (vR 64),sE P s39 329 (vR 65),sE P s40 333 (vR 66),sE P s41 337 (vR 67),sE P s42 341 (vR 68),sE P s43 345 (vR 69),sE P s44 349 (vR 70),sE P s45 353 (vR 71),sE P s46 357 (vR 72),sE P s47 361 (vR 73),sE P s48 365 (vR 74),sE P s49 369 (vR 75),sE P s50 373 (vR 76),sE P s51 377 (vR 77),sE P s52 381 (vR 79),sE P s53 384 (vR 80),sE P s54 387 (vR 81),sE P s55 390 (vR 82),sE P s56 393 (vR 83),sE P s57 396 (vR 84),sE P s58 399 (vR 85),sE P s59 402 (vR 86),sE P s60 405 (vR 87),sE P s61 408 (vR 88),sE P s62 411 (vR 89),sE P s63 414 (vR 90),sE P s64 417 (vR 91),sE P s65 420 (vR 92)]
noncomputable def nthV:List DictEntry→Nat→Value
 | [],_=>.none
 | e::_,0=>e.val
 | _::r,n+1=>nthV r n
noncomputable def keyV:List DictEntry→Nat→Value
 | [],_=>.none
 | e::_,0=>e.key
 | _::r,n+1=>keyV r n
noncomputable def fB:Stmt:=sA 17
noncomputable def cmpE:Expr:=match fBod fB with
 | [.Return (some e) _]=>e
 | _=>.Constant .none 0 ⟨0,0,0,0⟩
noncomputable def cmpSc:Scope:=match cmpE with
 | .DictComp _ _ _ s _=>s
 | _=>⟨.function,[],false,false,[]⟩
noncomputable def sQ:Str:=⟨⟨[110,97,109,101,115,95,98,121,95,98,97,115,101,46,60,108,111,99,97,108,115,62,46]⟩⟩
noncomputable def env1:Env:={ scope:=fSco fB,locals:=143,globals:=3,cells:=[],qual:=sQ,func:=some 142,code:=.ref 141,frame:=some 143,builtins:=0 }
noncomputable def env2:Env:={ scope:=cmpSc,locals:=147,globals:=3,cells:=[],qual:=sQ,func:=none,code:=.ref 141,frame:=some 143,builtins:=0 }
noncomputable abbrev lc:Code:=.compLoop cmpE 0 (.ref 145) (.ref 146) env2
noncomputable def th18 (p:Pos) (k1 k2:Result→Sem Fin):Thread:=⟨Fast.tw11892475500146522536 uA lc,lc,p,[.ret k1 none true [.ref 147,.ref 146] (.func (fBod fB) env1) ⟨43,42,43,62⟩ [],.ret k2 none false [.builtin "lifetime.plain-call#mark"] cd0 ⟨44,16,44,31⟩ [],topFrame ⟨0,0,0,0⟩]⟩
noncomputable def IL (P:Params) (k:Nat) (loc:List DictEntry) (it:List Value):List Obj:=R18 P++([oD (vT q2) [] 0,oL (vT q16) [vR 42],oL (vT q17) (vN::vb false::vR 42::vI k 0::vI 48 0::vI 48 0::it),oD (vT q8) (NBE.take k) k,oD (vT q8) loc loc.length]++((N19 P).drop 5).take (4 * k))
noncomputable def IT (P:Params) (k:Nat) (os:OsState) (loc:List DictEntry) (it:List Value):SharedT:=SS P (C2 P) (vS s82 229) 25 25 15 (148+4 * k) (547+4 * k) (IL P k loc it) os
noncomputable def I0 (P:Params) (os:OsState):SharedT:=IT P 0 os [] [vN,vN]
noncomputable def IK (P:Params) (k:Nat) (os:OsState):SharedT:=IT P (k+1) os [sE P s89 547 (keyV (INE P) k),sE P s103 548 (nthV (INE P) k)] [keyV (INE P) k,nthV (INE P) k]
noncomputable def th19:Thread:=⟨(uD (seg 18 1) env0).wrap doneF deadEnd id id,cd0,⟨42,0,43,63⟩,fr0⟩
noncomputable def go18 (n:Nat) (w:World) (os:OsState):Option (SharedT × Thread):=uB uA W0 w 11 (some (.ref 6)) 1 n (S19 w.params os) th19
noncomputable def stk:Option (SharedT × Thread)→List Frame
 | some (_,t)=>t.stack
 | none=>[]
noncomputable def kOf:List Frame→Nat→Result→Sem Fin
 | .ret k _ _ _ _ _ _::_,0=>k
 | _::r,n+1=>kOf r n
 | _,_=>fun _=>.unsupported ""
theorem pc0:∀ w:World,∀ os:OsState,uC uA W0 w 11 (some (.ref 6)) 1 39 (S1 w.params os) ⟨(uD (seg 0 2) env0).wrap doneF deadEnd id id,cd0,⟨0,0,0,0⟩,fr0⟩=some (.next,S3 w.params os,cd0,⟨4,0,4,8⟩):=fun w os=>by kernel_rfl
theorem pc2:∀ w:World,∀ os:OsState,uC uA W0 w 11 (some (.ref 6)) 1 231 (S3 w.params os) ⟨(uD (seg 2 1) env0).wrap doneF deadEnd id id,cd0,⟨4,0,4,8⟩,fr0⟩=some (.next,S4 w.params os,cd0,⟨5,0,10,20⟩):=fun w os=>by kernel_rfl
theorem pc3:∀ w:World,∀ os:OsState,uC uA W0 w 11 (some (.ref 6)) 1 82 (S4 w.params os) ⟨(uD (seg 3 9) env0).wrap doneF deadEnd id id,cd0,⟨5,0,10,20⟩,fr0⟩=some (.next,S13 w.params os,cd0,⟨19,0,19,6⟩):=fun w os=>by kernel_rfl
theorem pc12f:∀ w:World,∀ os:OsState,uC uA W0 (w.withFollow "special-get-raises" false) 11 (some (.ref 6)) 1 1075 (S13 (w.withFollow "special-get-raises" false).params os) ⟨(uD (seg 12 1) env0).wrap doneF deadEnd id id,cd0,⟨19,0,19,6⟩,fr0⟩=some (.next,S14 (w.withFollow "special-get-raises" false).params os,cd0,⟨20,0,20,12⟩):=fun w os=>by kernel_rfl
theorem pc12t:∀ w:World,∀ os:OsState,uC uA W0 (w.withFollow "special-get-raises" true) 11 (some (.ref 6)) 1 1075 (S13 (w.withFollow "special-get-raises" true).params os) ⟨(uD (seg 12 1) env0).wrap doneF deadEnd id id,cd0,⟨19,0,19,6⟩,fr0⟩=some (.next,S14 (w.withFollow "special-get-raises" true).params os,cd0,⟨20,0,20,12⟩):=fun w os=>by kernel_rfl
theorem pc12:∀ w:World,∀ os:OsState,uC uA W0 w 11 (some (.ref 6)) 1 1075 (S13 w.params os) ⟨(uD (seg 12 1) env0).wrap doneF deadEnd id id,cd0,⟨19,0,19,6⟩,fr0⟩=some (.next,S14 w.params os,cd0,⟨20,0,20,12⟩):=fun w=>byRow2 "special-get-raises" (P:=fun w=>∀ os:OsState,uC uA W0 w 11 (some (.ref 6)) 1 1075 (S13 w.params os) ⟨(uD (seg 12 1) env0).wrap doneF deadEnd id id,cd0,⟨19,0,19,6⟩,fr0⟩=some (.next,S14 w.params os,cd0,⟨20,0,20,12⟩)) pc12f pc12t w
theorem pc13f:∀ w:World,∀ os:OsState,uC uA W0 (w.withFollow "special-get-raises" false) 11 (some (.ref 6)) 1 207 (S14 (w.withFollow "special-get-raises" false).params os) ⟨(uD (seg 13 1) env0).wrap doneF deadEnd id id,cd0,⟨20,0,20,12⟩,fr0⟩=some (.next,S15 (w.withFollow "special-get-raises" false).params os,cd0,⟨21,0,21,6⟩):=fun w os=>by kernel_rfl
theorem pc13t:∀ w:World,∀ os:OsState,uC uA W0 (w.withFollow "special-get-raises" true) 11 (some (.ref 6)) 1 207 (S14 (w.withFollow "special-get-raises" true).params os) ⟨(uD (seg 13 1) env0).wrap doneF deadEnd id id,cd0,⟨20,0,20,12⟩,fr0⟩=some (.next,S15 (w.withFollow "special-get-raises" true).params os,cd0,⟨21,0,21,6⟩):=fun w os=>by kernel_rfl
theorem pc13:∀ w:World,∀ os:OsState,uC uA W0 w 11 (some (.ref 6)) 1 207 (S14 w.params os) ⟨(uD (seg 13 1) env0).wrap doneF deadEnd id id,cd0,⟨20,0,20,12⟩,fr0⟩=some (.next,S15 w.params os,cd0,⟨21,0,21,6⟩):=fun w=>byRow2 "special-get-raises" (P:=fun w=>∀ os:OsState,uC uA W0 w 11 (some (.ref 6)) 1 207 (S14 w.params os) ⟨(uD (seg 13 1) env0).wrap doneF deadEnd id id,cd0,⟨20,0,20,12⟩,fr0⟩=some (.next,S15 w.params os,cd0,⟨21,0,21,6⟩)) pc13f pc13t w
theorem pc14f:∀ w:World,∀ os:OsState,uC uA W0 (w.withFollow "special-get-raises" false) 11 (some (.ref 6)) 1 164 (S15 (w.withFollow "special-get-raises" false).params os) ⟨(uD (seg 14 1) env0).wrap doneF deadEnd id id,cd0,⟨21,0,21,6⟩,fr0⟩=some (.next,S16 (w.withFollow "special-get-raises" false).params os,cd0,⟨22,0,22,6⟩):=fun w os=>by kernel_rfl
theorem pc14t:∀ w:World,∀ os:OsState,uC uA W0 (w.withFollow "special-get-raises" true) 11 (some (.ref 6)) 1 164 (S15 (w.withFollow "special-get-raises" true).params os) ⟨(uD (seg 14 1) env0).wrap doneF deadEnd id id,cd0,⟨21,0,21,6⟩,fr0⟩=some (.next,S16 (w.withFollow "special-get-raises" true).params os,cd0,⟨22,0,22,6⟩):=fun w os=>by kernel_rfl
theorem pc14:∀ w:World,∀ os:OsState,uC uA W0 w 11 (some (.ref 6)) 1 164 (S15 w.params os) ⟨(uD (seg 14 1) env0).wrap doneF deadEnd id id,cd0,⟨21,0,21,6⟩,fr0⟩=some (.next,S16 w.params os,cd0,⟨22,0,22,6⟩):=fun w=>byRow2 "special-get-raises" (P:=fun w=>∀ os:OsState,uC uA W0 w 11 (some (.ref 6)) 1 164 (S15 w.params os) ⟨(uD (seg 14 1) env0).wrap doneF deadEnd id id,cd0,⟨21,0,21,6⟩,fr0⟩=some (.next,S16 w.params os,cd0,⟨22,0,22,6⟩)) pc14f pc14t w
theorem pc15:∀ w:World,∀ os:OsState,uC uA W0 w 11 (some (.ref 6)) 1 89 (S16 w.params os) ⟨(uD (seg 15 3) env0).wrap doneF deadEnd id id,cd0,⟨22,0,22,6⟩,fr0⟩=some (.next,S19 w.params os,cd0,⟨42,0,43,63⟩):=fun w os=>by kernel_rfl
theorem pc19:∀ w:World,∀ os:OsState,uC uA W0 w 11 (some (.ref 6)) 1 247 (S20 w.params os) ⟨(uD (seg 19 12) env0).wrap doneF deadEnd id id,cd0,⟨44,0,44,13⟩,fr0⟩=some (.next,S32 w.params os,cd0,⟨94,0,96,44⟩):=fun w os=>by kernel_rfl
theorem pc31:∀ w:World,∀ os:OsState,uC uA W0 w 11 (some (.ref 6)) 1 225 (S32 w.params os) ⟨(uD (seg 31 1) env0).wrap doneF deadEnd id id,cd0,⟨94,0,96,44⟩,fr0⟩=some (.next,S33 w.params os,cd0,⟨97,0,103,26⟩):=fun w os=>by kernel_rfl
theorem pc32:∀ w:World,∀ os:OsState,uC uA W0 w 11 (some (.ref 6)) 1 244 (S33 w.params os) ⟨(uD (seg 32 8) env0).wrap doneF deadEnd id id,cd0,⟨97,0,103,26⟩,fr0⟩=some (.next,S41 w.params os,cd0,⟨171,0,171,8⟩):=fun w os=>by kernel_rfl
theorem pc40:∀ w:World,∀ os:OsState,uC uA W0 w 11 (some (.ref 6)) 1 234 (S41 w.params os) ⟨(uD (seg 40 1) env0).wrap doneF deadEnd id id,cd0,⟨171,0,171,8⟩,fr0⟩=some (.next,S42 w.params os,cd0,⟨172,0,182,23⟩):=fun w os=>by kernel_rfl
theorem pc41:∀ w:World,∀ os:OsState,uC uA W0 w 11 (some (.ref 6)) 1 192 (S42 w.params os) ⟨(uD (seg 41 12) env0).wrap doneF deadEnd id id,cd0,⟨172,0,182,23⟩,fr0⟩=some (.next,S54 w.params os,cd0,⟨197,0,198,24⟩):=fun w os=>by kernel_rfl
theorem pc53:∀ w:World,∀ os:OsState,uC uA W0 w 11 (some (.ref 6)) 1 361 (S54 w.params os) ⟨(uD (seg 53 12) env0).wrap doneF deadEnd id id,cd0,⟨197,0,198,24⟩,fr0⟩=some (.next,S66 w.params os,cd0,⟨221,0,222,16⟩):=fun w os=>by kernel_rfl
theorem pc65:∀ w:World,∀ os:OsState,uC uA W0 w 11 (some (.ref 6)) 1 216 (S66 w.params os) ⟨(uD (seg 65 7) env0).wrap doneF deadEnd id id,cd0,⟨221,0,222,16⟩,fr0⟩=some (.next,S73 w.params os,cd0,⟨243,0,244,33⟩):=fun w os=>by kernel_rfl
theorem pc72f:∀ w:World,∀ os:OsState,uC uA W0 (w.withFollow "special-get-raises" false) 11 (some (.ref 6)) 1 312 (S73 (w.withFollow "special-get-raises" false).params os) ⟨(uD (seg 72 1) env0).wrap doneF deadEnd id id,cd0,⟨243,0,244,33⟩,fr0⟩=some (.next,S74 (w.withFollow "special-get-raises" false).params os,cd0,⟨245,0,245,14⟩):=fun w os=>by kernel_rfl
theorem pc72t:∀ w:World,∀ os:OsState,uC uA W0 (w.withFollow "special-get-raises" true) 11 (some (.ref 6)) 1 312 (S73 (w.withFollow "special-get-raises" true).params os) ⟨(uD (seg 72 1) env0).wrap doneF deadEnd id id,cd0,⟨243,0,244,33⟩,fr0⟩=some (.next,S74 (w.withFollow "special-get-raises" true).params os,cd0,⟨245,0,245,14⟩):=fun w os=>by kernel_rfl
theorem pc72:∀ w:World,∀ os:OsState,uC uA W0 w 11 (some (.ref 6)) 1 312 (S73 w.params os) ⟨(uD (seg 72 1) env0).wrap doneF deadEnd id id,cd0,⟨243,0,244,33⟩,fr0⟩=some (.next,S74 w.params os,cd0,⟨245,0,245,14⟩):=fun w=>byRow2 "special-get-raises" (P:=fun w=>∀ os:OsState,uC uA W0 w 11 (some (.ref 6)) 1 312 (S73 w.params os) ⟨(uD (seg 72 1) env0).wrap doneF deadEnd id id,cd0,⟨243,0,244,33⟩,fr0⟩=some (.next,S74 w.params os,cd0,⟨245,0,245,14⟩)) pc72f pc72t w
theorem pc73f:∀ w:World,∀ os:OsState,uC uA W0 (w.withFollow "special-get-raises" false) 11 (some (.ref 6)) 1 155 (S74 (w.withFollow "special-get-raises" false).params os) ⟨(uD (seg 73 1) env0).wrap doneF deadEnd id id,cd0,⟨245,0,245,14⟩,fr0⟩=some (.next,S75 (w.withFollow "special-get-raises" false).params os,cd0,⟨246,0,246,12⟩):=fun w os=>by kernel_rfl
theorem pc73t:∀ w:World,∀ os:OsState,uC uA W0 (w.withFollow "special-get-raises" true) 11 (some (.ref 6)) 1 155 (S74 (w.withFollow "special-get-raises" true).params os) ⟨(uD (seg 73 1) env0).wrap doneF deadEnd id id,cd0,⟨245,0,245,14⟩,fr0⟩=some (.next,S75 (w.withFollow "special-get-raises" true).params os,cd0,⟨246,0,246,12⟩):=fun w os=>by kernel_rfl
theorem pc73:∀ w:World,∀ os:OsState,uC uA W0 w 11 (some (.ref 6)) 1 155 (S74 w.params os) ⟨(uD (seg 73 1) env0).wrap doneF deadEnd id id,cd0,⟨245,0,245,14⟩,fr0⟩=some (.next,S75 w.params os,cd0,⟨246,0,246,12⟩):=fun w=>byRow2 "special-get-raises" (P:=fun w=>∀ os:OsState,uC uA W0 w 11 (some (.ref 6)) 1 155 (S74 w.params os) ⟨(uD (seg 73 1) env0).wrap doneF deadEnd id id,cd0,⟨245,0,245,14⟩,fr0⟩=some (.next,S75 w.params os,cd0,⟨246,0,246,12⟩)) pc73f pc73t w
theorem pc74f:∀ w:World,∀ os:OsState,uC uA W0 (w.withFollow "special-get-raises" false) 11 (some (.ref 6)) 1 107 (S75 (w.withFollow "special-get-raises" false).params os) ⟨(uD (seg 74 1) env0).wrap doneF deadEnd id id,cd0,⟨246,0,246,12⟩,fr0⟩=some (.next,S76 (w.withFollow "special-get-raises" false).params os,cd0,⟨247,0,247,8⟩):=fun w os=>by kernel_rfl
theorem pc74t:∀ w:World,∀ os:OsState,uC uA W0 (w.withFollow "special-get-raises" true) 11 (some (.ref 6)) 1 107 (S75 (w.withFollow "special-get-raises" true).params os) ⟨(uD (seg 74 1) env0).wrap doneF deadEnd id id,cd0,⟨246,0,246,12⟩,fr0⟩=some (.next,S76 (w.withFollow "special-get-raises" true).params os,cd0,⟨247,0,247,8⟩):=fun w os=>by kernel_rfl
theorem pc74:∀ w:World,∀ os:OsState,uC uA W0 w 11 (some (.ref 6)) 1 107 (S75 w.params os) ⟨(uD (seg 74 1) env0).wrap doneF deadEnd id id,cd0,⟨246,0,246,12⟩,fr0⟩=some (.next,S76 w.params os,cd0,⟨247,0,247,8⟩):=fun w=>byRow2 "special-get-raises" (P:=fun w=>∀ os:OsState,uC uA W0 w 11 (some (.ref 6)) 1 107 (S75 w.params os) ⟨(uD (seg 74 1) env0).wrap doneF deadEnd id id,cd0,⟨246,0,246,12⟩,fr0⟩=some (.next,S76 w.params os,cd0,⟨247,0,247,8⟩)) pc74f pc74t w
theorem pc75f:∀ w:World,∀ os:OsState,uC uA W0 (w.withFollow "special-get-raises" false) 11 (some (.ref 6)) 1 96 (S76 (w.withFollow "special-get-raises" false).params os) ⟨(uD (seg 75 1) env0).wrap doneF deadEnd id id,cd0,⟨247,0,247,8⟩,fr0⟩=some (.next,S77 (w.withFollow "special-get-raises" false).params os,cd0,⟨248,0,248,5⟩):=fun w os=>by kernel_rfl
theorem pc75t:∀ w:World,∀ os:OsState,uC uA W0 (w.withFollow "special-get-raises" true) 11 (some (.ref 6)) 1 96 (S76 (w.withFollow "special-get-raises" true).params os) ⟨(uD (seg 75 1) env0).wrap doneF deadEnd id id,cd0,⟨247,0,247,8⟩,fr0⟩=some (.next,S77 (w.withFollow "special-get-raises" true).params os,cd0,⟨248,0,248,5⟩):=fun w os=>by kernel_rfl
theorem pc75:∀ w:World,∀ os:OsState,uC uA W0 w 11 (some (.ref 6)) 1 96 (S76 w.params os) ⟨(uD (seg 75 1) env0).wrap doneF deadEnd id id,cd0,⟨247,0,247,8⟩,fr0⟩=some (.next,S77 w.params os,cd0,⟨248,0,248,5⟩):=fun w=>byRow2 "special-get-raises" (P:=fun w=>∀ os:OsState,uC uA W0 w 11 (some (.ref 6)) 1 96 (S76 w.params os) ⟨(uD (seg 75 1) env0).wrap doneF deadEnd id id,cd0,⟨247,0,247,8⟩,fr0⟩=some (.next,S77 w.params os,cd0,⟨248,0,248,5⟩)) pc75f pc75t w
theorem pc76f:∀ w:World,∀ os:OsState,uC uA W0 (w.withFollow "special-get-raises" false) 11 (some (.ref 6)) 1 56 (S77 (w.withFollow "special-get-raises" false).params os) ⟨(uD (seg 76 1) env0).wrap doneF deadEnd id id,cd0,⟨248,0,248,5⟩,fr0⟩=some (.next,S78 (w.withFollow "special-get-raises" false).params os,cd0,⟨249,0,249,6⟩):=fun w os=>by kernel_rfl
theorem pc76t:∀ w:World,∀ os:OsState,uC uA W0 (w.withFollow "special-get-raises" true) 11 (some (.ref 6)) 1 56 (S77 (w.withFollow "special-get-raises" true).params os) ⟨(uD (seg 76 1) env0).wrap doneF deadEnd id id,cd0,⟨248,0,248,5⟩,fr0⟩=some (.next,S78 (w.withFollow "special-get-raises" true).params os,cd0,⟨249,0,249,6⟩):=fun w os=>by kernel_rfl
theorem pc76:∀ w:World,∀ os:OsState,uC uA W0 w 11 (some (.ref 6)) 1 56 (S77 w.params os) ⟨(uD (seg 76 1) env0).wrap doneF deadEnd id id,cd0,⟨248,0,248,5⟩,fr0⟩=some (.next,S78 w.params os,cd0,⟨249,0,249,6⟩):=fun w=>byRow2 "special-get-raises" (P:=fun w=>∀ os:OsState,uC uA W0 w 11 (some (.ref 6)) 1 56 (S77 w.params os) ⟨(uD (seg 76 1) env0).wrap doneF deadEnd id id,cd0,⟨248,0,248,5⟩,fr0⟩=some (.next,S78 w.params os,cd0,⟨249,0,249,6⟩)) pc76f pc76t w
theorem pc77:∀ w:World,∀ os:OsState,uC uA W0 w 11 (some (.ref 6)) 1 676 (S78 w.params os) ⟨(uD (seg 77 1) env0).wrap doneF deadEnd id id,cd0,⟨249,0,249,6⟩,fr0⟩=some (.next,S79 w.params os,cd0,⟨250,0,379,16⟩):=fun w os=>by kernel_rfl
theorem pc78:∀ w:World,∀ os:OsState,uC uA W0 w 11 (some (.ref 6)) 1 283 (S79 w.params os) ⟨(uD (seg 78 10) env0).wrap doneF deadEnd id id,cd0,⟨250,0,379,16⟩,fr0⟩=some (.next,S89 w.params os,cd0,⟨469,0,500,15⟩):=fun w os=>by kernel_rfl
theorem it0f:∀ w:World,∀ (os:OsState) (k1 k2:Result→Sem Fin),uB uA W0 (w.withFollow "special-get-raises" false) 11 (some (.ref 6)) 1 480 (I0 (w.withFollow "special-get-raises" false).params os) (th18 ⟨43,42,43,62⟩ k1 k2)=some ((IK (w.withFollow "special-get-raises" false).params 3 os),th18 ⟨43,12,43,24⟩ k1 k2):=fun w os k1 k2=>by kernel_rfl
theorem it0t:∀ w:World,∀ (os:OsState) (k1 k2:Result→Sem Fin),uB uA W0 (w.withFollow "special-get-raises" true) 11 (some (.ref 6)) 1 480 (I0 (w.withFollow "special-get-raises" true).params os) (th18 ⟨43,42,43,62⟩ k1 k2)=some ((IK (w.withFollow "special-get-raises" true).params 3 os),th18 ⟨43,12,43,24⟩ k1 k2):=fun w os k1 k2=>by kernel_rfl
theorem it0:∀ w:World,∀ (os:OsState) (k1 k2:Result→Sem Fin),uB uA W0 w 11 (some (.ref 6)) 1 480 (I0 w.params os) (th18 ⟨43,42,43,62⟩ k1 k2)=some ((IK w.params 3 os),th18 ⟨43,12,43,24⟩ k1 k2):=fun w=>byRow2 "special-get-raises" (P:=fun w=>∀ (os:OsState) (k1 k2:Result→Sem Fin),uB uA W0 w 11 (some (.ref 6)) 1 480 (I0 w.params os) (th18 ⟨43,42,43,62⟩ k1 k2)=some ((IK w.params 3 os),th18 ⟨43,12,43,24⟩ k1 k2)) it0f it0t w
theorem it4f:∀ w:World,∀ (os:OsState) (k1 k2:Result→Sem Fin),uB uA W0 (w.withFollow "special-get-raises" false) 11 (some (.ref 6)) 1 480 (IK (w.withFollow "special-get-raises" false).params 3 os) (th18 ⟨43,12,43,24⟩ k1 k2)=some ((IK (w.withFollow "special-get-raises" false).params 7 os),th18 ⟨43,12,43,24⟩ k1 k2):=fun w os k1 k2=>by kernel_rfl
theorem it4t:∀ w:World,∀ (os:OsState) (k1 k2:Result→Sem Fin),uB uA W0 (w.withFollow "special-get-raises" true) 11 (some (.ref 6)) 1 480 (IK (w.withFollow "special-get-raises" true).params 3 os) (th18 ⟨43,12,43,24⟩ k1 k2)=some ((IK (w.withFollow "special-get-raises" true).params 7 os),th18 ⟨43,12,43,24⟩ k1 k2):=fun w os k1 k2=>by kernel_rfl
theorem it4:∀ w:World,∀ (os:OsState) (k1 k2:Result→Sem Fin),uB uA W0 w 11 (some (.ref 6)) 1 480 (IK w.params 3 os) (th18 ⟨43,12,43,24⟩ k1 k2)=some ((IK w.params 7 os),th18 ⟨43,12,43,24⟩ k1 k2):=fun w=>byRow2 "special-get-raises" (P:=fun w=>∀ (os:OsState) (k1 k2:Result→Sem Fin),uB uA W0 w 11 (some (.ref 6)) 1 480 (IK w.params 3 os) (th18 ⟨43,12,43,24⟩ k1 k2)=some ((IK w.params 7 os),th18 ⟨43,12,43,24⟩ k1 k2)) it4f it4t w
theorem it8f:∀ w:World,∀ (os:OsState) (k1 k2:Result→Sem Fin),uB uA W0 (w.withFollow "special-get-raises" false) 11 (some (.ref 6)) 1 480 (IK (w.withFollow "special-get-raises" false).params 7 os) (th18 ⟨43,12,43,24⟩ k1 k2)=some ((IK (w.withFollow "special-get-raises" false).params 11 os),th18 ⟨43,12,43,24⟩ k1 k2):=fun w os k1 k2=>by kernel_rfl
theorem it8t:∀ w:World,∀ (os:OsState) (k1 k2:Result→Sem Fin),uB uA W0 (w.withFollow "special-get-raises" true) 11 (some (.ref 6)) 1 480 (IK (w.withFollow "special-get-raises" true).params 7 os) (th18 ⟨43,12,43,24⟩ k1 k2)=some ((IK (w.withFollow "special-get-raises" true).params 11 os),th18 ⟨43,12,43,24⟩ k1 k2):=fun w os k1 k2=>by kernel_rfl
theorem it8:∀ w:World,∀ (os:OsState) (k1 k2:Result→Sem Fin),uB uA W0 w 11 (some (.ref 6)) 1 480 (IK w.params 7 os) (th18 ⟨43,12,43,24⟩ k1 k2)=some ((IK w.params 11 os),th18 ⟨43,12,43,24⟩ k1 k2):=fun w=>byRow2 "special-get-raises" (P:=fun w=>∀ (os:OsState) (k1 k2:Result→Sem Fin),uB uA W0 w 11 (some (.ref 6)) 1 480 (IK w.params 7 os) (th18 ⟨43,12,43,24⟩ k1 k2)=some ((IK w.params 11 os),th18 ⟨43,12,43,24⟩ k1 k2)) it8f it8t w
theorem it12f:∀ w:World,∀ (os:OsState) (k1 k2:Result→Sem Fin),uB uA W0 (w.withFollow "special-get-raises" false) 11 (some (.ref 6)) 1 480 (IK (w.withFollow "special-get-raises" false).params 11 os) (th18 ⟨43,12,43,24⟩ k1 k2)=some ((IK (w.withFollow "special-get-raises" false).params 15 os),th18 ⟨43,12,43,24⟩ k1 k2):=fun w os k1 k2=>by kernel_rfl
theorem it12t:∀ w:World,∀ (os:OsState) (k1 k2:Result→Sem Fin),uB uA W0 (w.withFollow "special-get-raises" true) 11 (some (.ref 6)) 1 480 (IK (w.withFollow "special-get-raises" true).params 11 os) (th18 ⟨43,12,43,24⟩ k1 k2)=some ((IK (w.withFollow "special-get-raises" true).params 15 os),th18 ⟨43,12,43,24⟩ k1 k2):=fun w os k1 k2=>by kernel_rfl
theorem it12:∀ w:World,∀ (os:OsState) (k1 k2:Result→Sem Fin),uB uA W0 w 11 (some (.ref 6)) 1 480 (IK w.params 11 os) (th18 ⟨43,12,43,24⟩ k1 k2)=some ((IK w.params 15 os),th18 ⟨43,12,43,24⟩ k1 k2):=fun w=>byRow2 "special-get-raises" (P:=fun w=>∀ (os:OsState) (k1 k2:Result→Sem Fin),uB uA W0 w 11 (some (.ref 6)) 1 480 (IK w.params 11 os) (th18 ⟨43,12,43,24⟩ k1 k2)=some ((IK w.params 15 os),th18 ⟨43,12,43,24⟩ k1 k2)) it12f it12t w
theorem it16f:∀ w:World,∀ (os:OsState) (k1 k2:Result→Sem Fin),uB uA W0 (w.withFollow "special-get-raises" false) 11 (some (.ref 6)) 1 480 (IK (w.withFollow "special-get-raises" false).params 15 os) (th18 ⟨43,12,43,24⟩ k1 k2)=some ((IK (w.withFollow "special-get-raises" false).params 19 os),th18 ⟨43,12,43,24⟩ k1 k2):=fun w os k1 k2=>by kernel_rfl
theorem it16t:∀ w:World,∀ (os:OsState) (k1 k2:Result→Sem Fin),uB uA W0 (w.withFollow "special-get-raises" true) 11 (some (.ref 6)) 1 480 (IK (w.withFollow "special-get-raises" true).params 15 os) (th18 ⟨43,12,43,24⟩ k1 k2)=some ((IK (w.withFollow "special-get-raises" true).params 19 os),th18 ⟨43,12,43,24⟩ k1 k2):=fun w os k1 k2=>by kernel_rfl
theorem it16:∀ w:World,∀ (os:OsState) (k1 k2:Result→Sem Fin),uB uA W0 w 11 (some (.ref 6)) 1 480 (IK w.params 15 os) (th18 ⟨43,12,43,24⟩ k1 k2)=some ((IK w.params 19 os),th18 ⟨43,12,43,24⟩ k1 k2):=fun w=>byRow2 "special-get-raises" (P:=fun w=>∀ (os:OsState) (k1 k2:Result→Sem Fin),uB uA W0 w 11 (some (.ref 6)) 1 480 (IK w.params 15 os) (th18 ⟨43,12,43,24⟩ k1 k2)=some ((IK w.params 19 os),th18 ⟨43,12,43,24⟩ k1 k2)) it16f it16t w
theorem it20f:∀ w:World,∀ (os:OsState) (k1 k2:Result→Sem Fin),uB uA W0 (w.withFollow "special-get-raises" false) 11 (some (.ref 6)) 1 480 (IK (w.withFollow "special-get-raises" false).params 19 os) (th18 ⟨43,12,43,24⟩ k1 k2)=some ((IK (w.withFollow "special-get-raises" false).params 23 os),th18 ⟨43,12,43,24⟩ k1 k2):=fun w os k1 k2=>by kernel_rfl
theorem it20t:∀ w:World,∀ (os:OsState) (k1 k2:Result→Sem Fin),uB uA W0 (w.withFollow "special-get-raises" true) 11 (some (.ref 6)) 1 480 (IK (w.withFollow "special-get-raises" true).params 19 os) (th18 ⟨43,12,43,24⟩ k1 k2)=some ((IK (w.withFollow "special-get-raises" true).params 23 os),th18 ⟨43,12,43,24⟩ k1 k2):=fun w os k1 k2=>by kernel_rfl
theorem it20:∀ w:World,∀ (os:OsState) (k1 k2:Result→Sem Fin),uB uA W0 w 11 (some (.ref 6)) 1 480 (IK w.params 19 os) (th18 ⟨43,12,43,24⟩ k1 k2)=some ((IK w.params 23 os),th18 ⟨43,12,43,24⟩ k1 k2):=fun w=>byRow2 "special-get-raises" (P:=fun w=>∀ (os:OsState) (k1 k2:Result→Sem Fin),uB uA W0 w 11 (some (.ref 6)) 1 480 (IK w.params 19 os) (th18 ⟨43,12,43,24⟩ k1 k2)=some ((IK w.params 23 os),th18 ⟨43,12,43,24⟩ k1 k2)) it20f it20t w
theorem it24f:∀ w:World,∀ (os:OsState) (k1 k2:Result→Sem Fin),uB uA W0 (w.withFollow "special-get-raises" false) 11 (some (.ref 6)) 1 480 (IK (w.withFollow "special-get-raises" false).params 23 os) (th18 ⟨43,12,43,24⟩ k1 k2)=some ((IK (w.withFollow "special-get-raises" false).params 27 os),th18 ⟨43,12,43,24⟩ k1 k2):=fun w os k1 k2=>by kernel_rfl
theorem it24t:∀ w:World,∀ (os:OsState) (k1 k2:Result→Sem Fin),uB uA W0 (w.withFollow "special-get-raises" true) 11 (some (.ref 6)) 1 480 (IK (w.withFollow "special-get-raises" true).params 23 os) (th18 ⟨43,12,43,24⟩ k1 k2)=some ((IK (w.withFollow "special-get-raises" true).params 27 os),th18 ⟨43,12,43,24⟩ k1 k2):=fun w os k1 k2=>by kernel_rfl
theorem it24:∀ w:World,∀ (os:OsState) (k1 k2:Result→Sem Fin),uB uA W0 w 11 (some (.ref 6)) 1 480 (IK w.params 23 os) (th18 ⟨43,12,43,24⟩ k1 k2)=some ((IK w.params 27 os),th18 ⟨43,12,43,24⟩ k1 k2):=fun w=>byRow2 "special-get-raises" (P:=fun w=>∀ (os:OsState) (k1 k2:Result→Sem Fin),uB uA W0 w 11 (some (.ref 6)) 1 480 (IK w.params 23 os) (th18 ⟨43,12,43,24⟩ k1 k2)=some ((IK w.params 27 os),th18 ⟨43,12,43,24⟩ k1 k2)) it24f it24t w
theorem it28f:∀ w:World,∀ (os:OsState) (k1 k2:Result→Sem Fin),uB uA W0 (w.withFollow "special-get-raises" false) 11 (some (.ref 6)) 1 480 (IK (w.withFollow "special-get-raises" false).params 27 os) (th18 ⟨43,12,43,24⟩ k1 k2)=some ((IK (w.withFollow "special-get-raises" false).params 31 os),th18 ⟨43,12,43,24⟩ k1 k2):=fun w os k1 k2=>by kernel_rfl
theorem it28t:∀ w:World,∀ (os:OsState) (k1 k2:Result→Sem Fin),uB uA W0 (w.withFollow "special-get-raises" true) 11 (some (.ref 6)) 1 480 (IK (w.withFollow "special-get-raises" true).params 27 os) (th18 ⟨43,12,43,24⟩ k1 k2)=some ((IK (w.withFollow "special-get-raises" true).params 31 os),th18 ⟨43,12,43,24⟩ k1 k2):=fun w os k1 k2=>by kernel_rfl
theorem it28:∀ w:World,∀ (os:OsState) (k1 k2:Result→Sem Fin),uB uA W0 w 11 (some (.ref 6)) 1 480 (IK w.params 27 os) (th18 ⟨43,12,43,24⟩ k1 k2)=some ((IK w.params 31 os),th18 ⟨43,12,43,24⟩ k1 k2):=fun w=>byRow2 "special-get-raises" (P:=fun w=>∀ (os:OsState) (k1 k2:Result→Sem Fin),uB uA W0 w 11 (some (.ref 6)) 1 480 (IK w.params 27 os) (th18 ⟨43,12,43,24⟩ k1 k2)=some ((IK w.params 31 os),th18 ⟨43,12,43,24⟩ k1 k2)) it28f it28t w
theorem it32f:∀ w:World,∀ (os:OsState) (k1 k2:Result→Sem Fin),uB uA W0 (w.withFollow "special-get-raises" false) 11 (some (.ref 6)) 1 480 (IK (w.withFollow "special-get-raises" false).params 31 os) (th18 ⟨43,12,43,24⟩ k1 k2)=some ((IK (w.withFollow "special-get-raises" false).params 35 os),th18 ⟨43,12,43,24⟩ k1 k2):=fun w os k1 k2=>by kernel_rfl
theorem it32t:∀ w:World,∀ (os:OsState) (k1 k2:Result→Sem Fin),uB uA W0 (w.withFollow "special-get-raises" true) 11 (some (.ref 6)) 1 480 (IK (w.withFollow "special-get-raises" true).params 31 os) (th18 ⟨43,12,43,24⟩ k1 k2)=some ((IK (w.withFollow "special-get-raises" true).params 35 os),th18 ⟨43,12,43,24⟩ k1 k2):=fun w os k1 k2=>by kernel_rfl
theorem it32:∀ w:World,∀ (os:OsState) (k1 k2:Result→Sem Fin),uB uA W0 w 11 (some (.ref 6)) 1 480 (IK w.params 31 os) (th18 ⟨43,12,43,24⟩ k1 k2)=some ((IK w.params 35 os),th18 ⟨43,12,43,24⟩ k1 k2):=fun w=>byRow2 "special-get-raises" (P:=fun w=>∀ (os:OsState) (k1 k2:Result→Sem Fin),uB uA W0 w 11 (some (.ref 6)) 1 480 (IK w.params 31 os) (th18 ⟨43,12,43,24⟩ k1 k2)=some ((IK w.params 35 os),th18 ⟨43,12,43,24⟩ k1 k2)) it32f it32t w
theorem it36f:∀ w:World,∀ (os:OsState) (k1 k2:Result→Sem Fin),uB uA W0 (w.withFollow "special-get-raises" false) 11 (some (.ref 6)) 1 480 (IK (w.withFollow "special-get-raises" false).params 35 os) (th18 ⟨43,12,43,24⟩ k1 k2)=some ((IK (w.withFollow "special-get-raises" false).params 39 os),th18 ⟨43,12,43,24⟩ k1 k2):=fun w os k1 k2=>by kernel_rfl
theorem it36t:∀ w:World,∀ (os:OsState) (k1 k2:Result→Sem Fin),uB uA W0 (w.withFollow "special-get-raises" true) 11 (some (.ref 6)) 1 480 (IK (w.withFollow "special-get-raises" true).params 35 os) (th18 ⟨43,12,43,24⟩ k1 k2)=some ((IK (w.withFollow "special-get-raises" true).params 39 os),th18 ⟨43,12,43,24⟩ k1 k2):=fun w os k1 k2=>by kernel_rfl
theorem it36:∀ w:World,∀ (os:OsState) (k1 k2:Result→Sem Fin),uB uA W0 w 11 (some (.ref 6)) 1 480 (IK w.params 35 os) (th18 ⟨43,12,43,24⟩ k1 k2)=some ((IK w.params 39 os),th18 ⟨43,12,43,24⟩ k1 k2):=fun w=>byRow2 "special-get-raises" (P:=fun w=>∀ (os:OsState) (k1 k2:Result→Sem Fin),uB uA W0 w 11 (some (.ref 6)) 1 480 (IK w.params 35 os) (th18 ⟨43,12,43,24⟩ k1 k2)=some ((IK w.params 39 os),th18 ⟨43,12,43,24⟩ k1 k2)) it36f it36t w
theorem it40f:∀ w:World,∀ (os:OsState) (k1 k2:Result→Sem Fin),uB uA W0 (w.withFollow "special-get-raises" false) 11 (some (.ref 6)) 1 480 (IK (w.withFollow "special-get-raises" false).params 39 os) (th18 ⟨43,12,43,24⟩ k1 k2)=some ((IK (w.withFollow "special-get-raises" false).params 43 os),th18 ⟨43,12,43,24⟩ k1 k2):=fun w os k1 k2=>by kernel_rfl
theorem it40t:∀ w:World,∀ (os:OsState) (k1 k2:Result→Sem Fin),uB uA W0 (w.withFollow "special-get-raises" true) 11 (some (.ref 6)) 1 480 (IK (w.withFollow "special-get-raises" true).params 39 os) (th18 ⟨43,12,43,24⟩ k1 k2)=some ((IK (w.withFollow "special-get-raises" true).params 43 os),th18 ⟨43,12,43,24⟩ k1 k2):=fun w os k1 k2=>by kernel_rfl
theorem it40:∀ w:World,∀ (os:OsState) (k1 k2:Result→Sem Fin),uB uA W0 w 11 (some (.ref 6)) 1 480 (IK w.params 39 os) (th18 ⟨43,12,43,24⟩ k1 k2)=some ((IK w.params 43 os),th18 ⟨43,12,43,24⟩ k1 k2):=fun w=>byRow2 "special-get-raises" (P:=fun w=>∀ (os:OsState) (k1 k2:Result→Sem Fin),uB uA W0 w 11 (some (.ref 6)) 1 480 (IK w.params 39 os) (th18 ⟨43,12,43,24⟩ k1 k2)=some ((IK w.params 43 os),th18 ⟨43,12,43,24⟩ k1 k2)) it40f it40t w
theorem it44f:∀ w:World,∀ (os:OsState) (k1 k2:Result→Sem Fin),uB uA W0 (w.withFollow "special-get-raises" false) 11 (some (.ref 6)) 1 480 (IK (w.withFollow "special-get-raises" false).params 43 os) (th18 ⟨43,12,43,24⟩ k1 k2)=some ((IK (w.withFollow "special-get-raises" false).params 47 os),th18 ⟨43,12,43,24⟩ k1 k2):=fun w os k1 k2=>by kernel_rfl
theorem it44t:∀ w:World,∀ (os:OsState) (k1 k2:Result→Sem Fin),uB uA W0 (w.withFollow "special-get-raises" true) 11 (some (.ref 6)) 1 480 (IK (w.withFollow "special-get-raises" true).params 43 os) (th18 ⟨43,12,43,24⟩ k1 k2)=some ((IK (w.withFollow "special-get-raises" true).params 47 os),th18 ⟨43,12,43,24⟩ k1 k2):=fun w os k1 k2=>by kernel_rfl
theorem it44:∀ w:World,∀ (os:OsState) (k1 k2:Result→Sem Fin),uB uA W0 w 11 (some (.ref 6)) 1 480 (IK w.params 43 os) (th18 ⟨43,12,43,24⟩ k1 k2)=some ((IK w.params 47 os),th18 ⟨43,12,43,24⟩ k1 k2):=fun w=>byRow2 "special-get-raises" (P:=fun w=>∀ (os:OsState) (k1 k2:Result→Sem Fin),uB uA W0 w 11 (some (.ref 6)) 1 480 (IK w.params 43 os) (th18 ⟨43,12,43,24⟩ k1 k2)=some ((IK w.params 47 os),th18 ⟨43,12,43,24⟩ k1 k2)) it44f it44t w
theorem a18ff:∀ (w:World) (os:OsState),uB uA W0 ((w.withFollow "comprehension-iter-twice" false).withFollow "special-get-raises" false) 11 (some (.ref 6)) 1 58 (S19 ((w.withFollow "comprehension-iter-twice" false).withFollow "special-get-raises" false).params os) th19=some (I0 ((w.withFollow "comprehension-iter-twice" false).withFollow "special-get-raises" false).params os,th18 ⟨43,42,43,62⟩ (kOf (stk (go18 58 ((w.withFollow "comprehension-iter-twice" false).withFollow "special-get-raises" false) os)) 0) (kOf (stk (go18 58 ((w.withFollow "comprehension-iter-twice" false).withFollow "special-get-raises" false) os)) 1)):=fun w os=>by kernel_rfl
theorem z18ff:∀ (w:World) (os:OsState),uC uA W0 ((w.withFollow "comprehension-iter-twice" false).withFollow "special-get-raises" false) 11 (some (.ref 6)) 1 38 (IK ((w.withFollow "comprehension-iter-twice" false).withFollow "special-get-raises" false).params 47 os) (th18 ⟨43,12,43,24⟩ (kOf (stk (go18 58 ((w.withFollow "comprehension-iter-twice" false).withFollow "special-get-raises" false) os)) 0) (kOf (stk (go18 58 ((w.withFollow "comprehension-iter-twice" false).withFollow "special-get-raises" false) os)) 1))=some (.next,S20 ((w.withFollow "comprehension-iter-twice" false).withFollow "special-get-raises" false).params os,cd0,⟨44,0,44,13⟩):=fun w os=>by kernel_rfl
theorem a18ft:∀ (w:World) (os:OsState),uB uA W0 ((w.withFollow "comprehension-iter-twice" false).withFollow "special-get-raises" true) 11 (some (.ref 6)) 1 58 (S19 ((w.withFollow "comprehension-iter-twice" false).withFollow "special-get-raises" true).params os) th19=some (I0 ((w.withFollow "comprehension-iter-twice" false).withFollow "special-get-raises" true).params os,th18 ⟨43,42,43,62⟩ (kOf (stk (go18 58 ((w.withFollow "comprehension-iter-twice" false).withFollow "special-get-raises" true) os)) 0) (kOf (stk (go18 58 ((w.withFollow "comprehension-iter-twice" false).withFollow "special-get-raises" true) os)) 1)):=fun w os=>by kernel_rfl
theorem z18ft:∀ (w:World) (os:OsState),uC uA W0 ((w.withFollow "comprehension-iter-twice" false).withFollow "special-get-raises" true) 11 (some (.ref 6)) 1 38 (IK ((w.withFollow "comprehension-iter-twice" false).withFollow "special-get-raises" true).params 47 os) (th18 ⟨43,12,43,24⟩ (kOf (stk (go18 58 ((w.withFollow "comprehension-iter-twice" false).withFollow "special-get-raises" true) os)) 0) (kOf (stk (go18 58 ((w.withFollow "comprehension-iter-twice" false).withFollow "special-get-raises" true) os)) 1))=some (.next,S20 ((w.withFollow "comprehension-iter-twice" false).withFollow "special-get-raises" true).params os,cd0,⟨44,0,44,13⟩):=fun w os=>by kernel_rfl
theorem a18tf:∀ (w:World) (os:OsState),uB uA W0 ((w.withFollow "comprehension-iter-twice" true).withFollow "special-get-raises" false) 11 (some (.ref 6)) 1 48 (S19 ((w.withFollow "comprehension-iter-twice" true).withFollow "special-get-raises" false).params os) th19=some (I0 ((w.withFollow "comprehension-iter-twice" true).withFollow "special-get-raises" false).params os,th18 ⟨43,42,43,62⟩ (kOf (stk (go18 48 ((w.withFollow "comprehension-iter-twice" true).withFollow "special-get-raises" false) os)) 0) (kOf (stk (go18 48 ((w.withFollow "comprehension-iter-twice" true).withFollow "special-get-raises" false) os)) 1)):=fun w os=>by kernel_rfl
theorem z18tf:∀ (w:World) (os:OsState),uC uA W0 ((w.withFollow "comprehension-iter-twice" true).withFollow "special-get-raises" false) 11 (some (.ref 6)) 1 38 (IK ((w.withFollow "comprehension-iter-twice" true).withFollow "special-get-raises" false).params 47 os) (th18 ⟨43,12,43,24⟩ (kOf (stk (go18 48 ((w.withFollow "comprehension-iter-twice" true).withFollow "special-get-raises" false) os)) 0) (kOf (stk (go18 48 ((w.withFollow "comprehension-iter-twice" true).withFollow "special-get-raises" false) os)) 1))=some (.next,S20 ((w.withFollow "comprehension-iter-twice" true).withFollow "special-get-raises" false).params os,cd0,⟨44,0,44,13⟩):=fun w os=>by kernel_rfl
theorem a18tt:∀ (w:World) (os:OsState),uB uA W0 ((w.withFollow "comprehension-iter-twice" true).withFollow "special-get-raises" true) 11 (some (.ref 6)) 1 48 (S19 ((w.withFollow "comprehension-iter-twice" true).withFollow "special-get-raises" true).params os) th19=some (I0 ((w.withFollow "comprehension-iter-twice" true).withFollow "special-get-raises" true).params os,th18 ⟨43,42,43,62⟩ (kOf (stk (go18 48 ((w.withFollow "comprehension-iter-twice" true).withFollow "special-get-raises" true) os)) 0) (kOf (stk (go18 48 ((w.withFollow "comprehension-iter-twice" true).withFollow "special-get-raises" true) os)) 1)):=fun w os=>by kernel_rfl
theorem z18tt:∀ (w:World) (os:OsState),uC uA W0 ((w.withFollow "comprehension-iter-twice" true).withFollow "special-get-raises" true) 11 (some (.ref 6)) 1 38 (IK ((w.withFollow "comprehension-iter-twice" true).withFollow "special-get-raises" true).params 47 os) (th18 ⟨43,12,43,24⟩ (kOf (stk (go18 48 ((w.withFollow "comprehension-iter-twice" true).withFollow "special-get-raises" true) os)) 0) (kOf (stk (go18 48 ((w.withFollow "comprehension-iter-twice" true).withFollow "special-get-raises" true) os)) 1))=some (.next,S20 ((w.withFollow "comprehension-iter-twice" true).withFollow "special-get-raises" true).params os,cd0,⟨44,0,44,13⟩):=fun w os=>by kernel_rfl
end
end Mine
end
section
namespace Mine
open PySem.W.Fast renaming tw14364793385576792824→uA,tw10295753902157049106→uB,tw10110043849684766642→uC,tw12563942051412417395→uD
open PySem PySem.W
noncomputable section
theorem ofRun {w:World} {n:Nat} {s s':SharedT} {l:List Stmt} {p p':Pos} (h:uC uA W0 w 11 (some (.ref 6)) 1 n s ⟨(uD l env0).wrap doneF deadEnd id id,cd0,p,fr0⟩=some (.next,s',cd0,p')) :
  segRun treeTable W0 w 11 (some (.ref 6)) 1 n s.abs (piecesOf l env0 cd0 p fr0)=some (.next,s'.abs,cd0,p'):=by
 rw [← PySem.W.Fast.te10110043849684766642,← PySem.W.Fast.te14364793385576792824,← PySem.W.Fast.te12563942051412417395] at h
 exact segRun_of h
theorem ofGo {w:World} {n:Nat} {s s':SharedT} {t t':Thread} (h:uB uA W0 w 11 (some (.ref 6)) 1 n s t=some (s',t')) :
  segGo treeTable W0 w 11 (some (.ref 6)) 1 n s.abs t=some (s'.abs,t'):=by
 rw [← PySem.W.Fast.te10295753902157049106,← PySem.W.Fast.te14364793385576792824] at h
 exact segGo_of h
theorem ofEnd {w:World} {n:Nat} {s s':SharedT} {t:Thread} {p':Pos} (h:uC uA W0 w 11 (some (.ref 6)) 1 n s t=some (.next,s',cd0,p')) :
  segRun treeTable W0 w 11 (some (.ref 6)) 1 n s.abs t=some (.next,s'.abs,cd0,p'):=by
 rw [← PySem.W.Fast.te10110043849684766642,← PySem.W.Fast.te14364793385576792824] at h
 exact segRun_of h
theorem r18ff (w:World) (os:OsState):segRun treeTable W0 ((w.withFollow "comprehension-iter-twice" false).withFollow "special-get-raises" false) 11 (some (.ref 6)) 1 (58+(480+(480+(480+(480+(480+(480+(480+(480+(480+(480+(480+(480+38))))))))))))) (S19 ((w.withFollow "comprehension-iter-twice" false).withFollow "special-get-raises" false).params os).abs (piecesOf (seg 18 1) env0 cd0 ⟨42,0,43,63⟩ fr0)=some (.next,(S20 ((w.withFollow "comprehension-iter-twice" false).withFollow "special-get-raises" false).params os).abs,cd0,⟨44,0,44,13⟩):=by
 have k:=ofEnd (z18ff w os)
 have k:=seg_go (ofGo (it44 ((w.withFollow "comprehension-iter-twice" false).withFollow "special-get-raises" false) os _ _)) k
 have k:=seg_go (ofGo (it40 ((w.withFollow "comprehension-iter-twice" false).withFollow "special-get-raises" false) os _ _)) k
 have k:=seg_go (ofGo (it36 ((w.withFollow "comprehension-iter-twice" false).withFollow "special-get-raises" false) os _ _)) k
 have k:=seg_go (ofGo (it32 ((w.withFollow "comprehension-iter-twice" false).withFollow "special-get-raises" false) os _ _)) k
 have k:=seg_go (ofGo (it28 ((w.withFollow "comprehension-iter-twice" false).withFollow "special-get-raises" false) os _ _)) k
 have k:=seg_go (ofGo (it24 ((w.withFollow "comprehension-iter-twice" false).withFollow "special-get-raises" false) os _ _)) k
 have k:=seg_go (ofGo (it20 ((w.withFollow "comprehension-iter-twice" false).withFollow "special-get-raises" false) os _ _)) k
 have k:=seg_go (ofGo (it16 ((w.withFollow "comprehension-iter-twice" false).withFollow "special-get-raises" false) os _ _)) k
 have k:=seg_go (ofGo (it12 ((w.withFollow "comprehension-iter-twice" false).withFollow "special-get-raises" false) os _ _)) k
 have k:=seg_go (ofGo (it8 ((w.withFollow "comprehension-iter-twice" false).withFollow "special-get-raises" false) os _ _)) k
 have k:=seg_go (ofGo (it4 ((w.withFollow "comprehension-iter-twice" false).withFollow "special-get-raises" false) os _ _)) k
 have k:=seg_go (ofGo (it0 ((w.withFollow "comprehension-iter-twice" false).withFollow "special-get-raises" false) os _ _)) k
 have k:=seg_go (ofGo (a18ff w os)) k
 unfold th19 at k
 rw [← PySem.W.Fast.te12563942051412417395] at k
 exact k
theorem r18ft (w:World) (os:OsState):segRun treeTable W0 ((w.withFollow "comprehension-iter-twice" false).withFollow "special-get-raises" true) 11 (some (.ref 6)) 1 (58+(480+(480+(480+(480+(480+(480+(480+(480+(480+(480+(480+(480+38))))))))))))) (S19 ((w.withFollow "comprehension-iter-twice" false).withFollow "special-get-raises" true).params os).abs (piecesOf (seg 18 1) env0 cd0 ⟨42,0,43,63⟩ fr0)=some (.next,(S20 ((w.withFollow "comprehension-iter-twice" false).withFollow "special-get-raises" true).params os).abs,cd0,⟨44,0,44,13⟩):=by
 have k:=ofEnd (z18ft w os)
 have k:=seg_go (ofGo (it44 ((w.withFollow "comprehension-iter-twice" false).withFollow "special-get-raises" true) os _ _)) k
 have k:=seg_go (ofGo (it40 ((w.withFollow "comprehension-iter-twice" false).withFollow "special-get-raises" true) os _ _)) k
 have k:=seg_go (ofGo (it36 ((w.withFollow "comprehension-iter-twice" false).withFollow "special-get-raises" true) os _ _)) k
 have k:=seg_go (ofGo (it32 ((w.withFollow "comprehension-iter-twice" false).withFollow "special-get-raises" true) os _ _)) k
 have k:=seg_go (ofGo (it28 ((w.withFollow "comprehension-iter-twice" false).withFollow "special-get-raises" true) os _ _)) k
 have k:=seg_go (ofGo (it24 ((w.withFollow "comprehension-iter-twice" false).withFollow "special-get-raises" true) os _ _)) k
 have k:=seg_go (ofGo (it20 ((w.withFollow "comprehension-iter-twice" false).withFollow "special-get-raises" true) os _ _)) k
 have k:=seg_go (ofGo (it16 ((w.withFollow "comprehension-iter-twice" false).withFollow "special-get-raises" true) os _ _)) k
 have k:=seg_go (ofGo (it12 ((w.withFollow "comprehension-iter-twice" false).withFollow "special-get-raises" true) os _ _)) k
 have k:=seg_go (ofGo (it8 ((w.withFollow "comprehension-iter-twice" false).withFollow "special-get-raises" true) os _ _)) k
 have k:=seg_go (ofGo (it4 ((w.withFollow "comprehension-iter-twice" false).withFollow "special-get-raises" true) os _ _)) k
 have k:=seg_go (ofGo (it0 ((w.withFollow "comprehension-iter-twice" false).withFollow "special-get-raises" true) os _ _)) k
 have k:=seg_go (ofGo (a18ft w os)) k
 unfold th19 at k
 rw [← PySem.W.Fast.te12563942051412417395] at k
 exact k
theorem r18tf (w:World) (os:OsState):segRun treeTable W0 ((w.withFollow "comprehension-iter-twice" true).withFollow "special-get-raises" false) 11 (some (.ref 6)) 1 (48+(480+(480+(480+(480+(480+(480+(480+(480+(480+(480+(480+(480+38))))))))))))) (S19 ((w.withFollow "comprehension-iter-twice" true).withFollow "special-get-raises" false).params os).abs (piecesOf (seg 18 1) env0 cd0 ⟨42,0,43,63⟩ fr0)=some (.next,(S20 ((w.withFollow "comprehension-iter-twice" true).withFollow "special-get-raises" false).params os).abs,cd0,⟨44,0,44,13⟩):=by
 have k:=ofEnd (z18tf w os)
 have k:=seg_go (ofGo (it44 ((w.withFollow "comprehension-iter-twice" true).withFollow "special-get-raises" false) os _ _)) k
 have k:=seg_go (ofGo (it40 ((w.withFollow "comprehension-iter-twice" true).withFollow "special-get-raises" false) os _ _)) k
 have k:=seg_go (ofGo (it36 ((w.withFollow "comprehension-iter-twice" true).withFollow "special-get-raises" false) os _ _)) k
 have k:=seg_go (ofGo (it32 ((w.withFollow "comprehension-iter-twice" true).withFollow "special-get-raises" false) os _ _)) k
 have k:=seg_go (ofGo (it28 ((w.withFollow "comprehension-iter-twice" true).withFollow "special-get-raises" false) os _ _)) k
 have k:=seg_go (ofGo (it24 ((w.withFollow "comprehension-iter-twice" true).withFollow "special-get-raises" false) os _ _)) k
 have k:=seg_go (ofGo (it20 ((w.withFollow "comprehension-iter-twice" true).withFollow "special-get-raises" false) os _ _)) k
 have k:=seg_go (ofGo (it16 ((w.withFollow "comprehension-iter-twice" true).withFollow "special-get-raises" false) os _ _)) k
 have k:=seg_go (ofGo (it12 ((w.withFollow "comprehension-iter-twice" true).withFollow "special-get-raises" false) os _ _)) k
 have k:=seg_go (ofGo (it8 ((w.withFollow "comprehension-iter-twice" true).withFollow "special-get-raises" false) os _ _)) k
 have k:=seg_go (ofGo (it4 ((w.withFollow "comprehension-iter-twice" true).withFollow "special-get-raises" false) os _ _)) k
 have k:=seg_go (ofGo (it0 ((w.withFollow "comprehension-iter-twice" true).withFollow "special-get-raises" false) os _ _)) k
 have k:=seg_go (ofGo (a18tf w os)) k
 unfold th19 at k
 rw [← PySem.W.Fast.te12563942051412417395] at k
 exact k
theorem r18tt (w:World) (os:OsState):segRun treeTable W0 ((w.withFollow "comprehension-iter-twice" true).withFollow "special-get-raises" true) 11 (some (.ref 6)) 1 (48+(480+(480+(480+(480+(480+(480+(480+(480+(480+(480+(480+(480+38))))))))))))) (S19 ((w.withFollow "comprehension-iter-twice" true).withFollow "special-get-raises" true).params os).abs (piecesOf (seg 18 1) env0 cd0 ⟨42,0,43,63⟩ fr0)=some (.next,(S20 ((w.withFollow "comprehension-iter-twice" true).withFollow "special-get-raises" true).params os).abs,cd0,⟨44,0,44,13⟩):=by
 have k:=ofEnd (z18tt w os)
 have k:=seg_go (ofGo (it44 ((w.withFollow "comprehension-iter-twice" true).withFollow "special-get-raises" true) os _ _)) k
 have k:=seg_go (ofGo (it40 ((w.withFollow "comprehension-iter-twice" true).withFollow "special-get-raises" true) os _ _)) k
 have k:=seg_go (ofGo (it36 ((w.withFollow "comprehension-iter-twice" true).withFollow "special-get-raises" true) os _ _)) k
 have k:=seg_go (ofGo (it32 ((w.withFollow "comprehension-iter-twice" true).withFollow "special-get-raises" true) os _ _)) k
 have k:=seg_go (ofGo (it28 ((w.withFollow "comprehension-iter-twice" true).withFollow "special-get-raises" true) os _ _)) k
 have k:=seg_go (ofGo (it24 ((w.withFollow "comprehension-iter-twice" true).withFollow "special-get-raises" true) os _ _)) k
 have k:=seg_go (ofGo (it20 ((w.withFollow "comprehension-iter-twice" true).withFollow "special-get-raises" true) os _ _)) k
 have k:=seg_go (ofGo (it16 ((w.withFollow "comprehension-iter-twice" true).withFollow "special-get-raises" true) os _ _)) k
 have k:=seg_go (ofGo (it12 ((w.withFollow "comprehension-iter-twice" true).withFollow "special-get-raises" true) os _ _)) k
 have k:=seg_go (ofGo (it8 ((w.withFollow "comprehension-iter-twice" true).withFollow "special-get-raises" true) os _ _)) k
 have k:=seg_go (ofGo (it4 ((w.withFollow "comprehension-iter-twice" true).withFollow "special-get-raises" true) os _ _)) k
 have k:=seg_go (ofGo (it0 ((w.withFollow "comprehension-iter-twice" true).withFollow "special-get-raises" true) os _ _)) k
 have k:=seg_go (ofGo (a18tt w os)) k
 unfold th19 at k
 rw [← PySem.W.Fast.te12563942051412417395] at k
 exact k
theorem m18 {w:World} {n:Nat} (hn:n≤5856) {os:OsState} (h:segRun treeTable W0 w 11 (some (.ref 6)) 1 n (S19 w.params os).abs (piecesOf (seg 18 1) env0 cd0 ⟨42,0,43,63⟩ fr0)=some (.next,(S20 w.params os).abs,cd0,⟨44,0,44,13⟩)) (rest:List Stmt) (N:Nat) (r:Shared)
  (k:topRun treeTable W0 w 11 (some (.ref 6)) N (S20 w.params os).abs (restOf rest env0 cd0 ⟨44,0,44,13⟩ fr0)=some r):topRun treeTable W0 w 11 (some (.ref 6)) (5856+N) (S19 w.params os).abs (restOf (seg 18 1++rest) env0 cd0 ⟨42,0,43,63⟩ fr0)=some r:=by
 have q:=topRun_mono (5856 - n) _ _ _ _ (piece_app h k)
 rwa [show n+N+(5856 - n)=5856+N by omega] at q
theorem p18:∀ w:World,∀ (os:OsState) (rest:List Stmt) (N:Nat) (r:Shared),topRun treeTable W0 w 11 (some (.ref 6)) N (S20 w.params os).abs (restOf rest env0 cd0 ⟨44,0,44,13⟩ fr0)=some r→topRun treeTable W0 w 11 (some (.ref 6)) (5856+N) (S19 w.params os).abs (restOf (seg 18 1++rest) env0 cd0 ⟨42,0,43,63⟩ fr0)=some r:=fun w =>
 byRow2 "special-get-raises" (P:=fun w=>∀ (os:OsState) (rest:List Stmt) (N:Nat) (r:Shared),topRun treeTable W0 w 11 (some (.ref 6)) N (S20 w.params os).abs (restOf rest env0 cd0 ⟨44,0,44,13⟩ fr0)=some r→topRun treeTable W0 w 11 (some (.ref 6)) (5856+N) (S19 w.params os).abs (restOf (seg 18 1++rest) env0 cd0 ⟨42,0,43,63⟩ fr0)=some r)
  (fun w=>byRow2 "comprehension-iter-twice" (P:=fun w=>∀ (os:OsState) (rest:List Stmt) (N:Nat) (r:Shared),topRun treeTable W0 (w.withFollow "special-get-raises" false) 11 (some (.ref 6)) N (S20 (w.withFollow "special-get-raises" false).params os).abs (restOf rest env0 cd0 ⟨44,0,44,13⟩ fr0)=some r→topRun treeTable W0 (w.withFollow "special-get-raises" false) 11 (some (.ref 6)) (5856+N) (S19 (w.withFollow "special-get-raises" false).params os).abs (restOf (seg 18 1++rest) env0 cd0 ⟨42,0,43,63⟩ fr0)=some r)
   (fun w os=>m18 (by decide) (r18ff w os)) (fun w os=>m18 (by decide) (r18tf w os)) w)
  (fun w=>byRow2 "comprehension-iter-twice" (P:=fun w=>∀ (os:OsState) (rest:List Stmt) (N:Nat) (r:Shared),topRun treeTable W0 (w.withFollow "special-get-raises" true) 11 (some (.ref 6)) N (S20 (w.withFollow "special-get-raises" true).params os).abs (restOf rest env0 cd0 ⟨44,0,44,13⟩ fr0)=some r→topRun treeTable W0 (w.withFollow "special-get-raises" true) 11 (some (.ref 6)) (5856+N) (S19 (w.withFollow "special-get-raises" true).params os).abs (restOf (seg 18 1++rest) env0 cd0 ⟨42,0,43,63⟩ fr0)=some r)
   (fun w os=>m18 (by decide) (r18ft w os)) (fun w os=>m18 (by decide) (r18tt w os)) w) w
theorem prePc:∀ (w:World) (os:OsState),Fast.tw15667345088766844465 uA W0 w 11 (some (.ref 6)) 12 ⟨boot_heap w.params,⟨[]⟩,boot_drawn,boot_toks,os⟩ (topStub W0)=some ((S1 w.params os).abs,⟨Fast.tw11892475500146522536 uA cd0,cd0,⟨0,0,0,0⟩,fr0⟩):=fun w os=>by kernel_rfl
theorem blkPc:∀ (w:World) (os:OsState),segRun treeTable W0 w 11 (some (.ref 6)) 1 1 (S1 w.params os).abs (blockOf (behindTheImports W0) env0 cd0 ⟨0,0,0,0⟩ fr0)=some (.next,(S1 w.params os).abs,cd0,⟨0,0,0,0⟩):=fun w os=>by kernel_rfl
theorem finPc:∀ (w:World) (os:OsState),topRun treeTable W0 w 11 (some (.ref 6)) 2 (S89 w.params os).abs ⟨doneF .next,cd0,⟨469,0,500,15⟩,fr0⟩=some (S89 w.params os).abs:=fun w os=>by kernel_rfl
theorem bodyIs:behindTheImports W0=seg 0 2++(seg 2 1++(seg 3 9++(seg 12 1++(seg 13 1++(seg 14 1++(seg 15 3++(seg 18 1++(seg 19 12++(seg 31 1++(seg 32 8++(seg 40 1++(seg 41 12++(seg 53 12++(seg 65 7++(seg 72 1++(seg 73 1++(seg 74 1++(seg 75 1++(seg 76 1++(seg 77 1++(seg 78 10++[]))))))))))))))))))))):=by kernel_rfl
theorem headRun (w:World) (os:OsState):topRun treeTable W0 w 11 (some (.ref 6)) 11162 ⟨boot_heap w.params,⟨[]⟩,boot_drawn,boot_toks,os⟩ (topStub W0)=some (S89 w.params os).abs:=by
 have k:=piece_nil (env:=env0) (finPc w os)
 have k:=piece_app (ofRun (pc78 w os)) k
 have k:=piece_app (ofRun (pc77 w os)) k
 have k:=piece_app (ofRun (pc76 w os)) k
 have k:=piece_app (ofRun (pc75 w os)) k
 have k:=piece_app (ofRun (pc74 w os)) k
 have k:=piece_app (ofRun (pc73 w os)) k
 have k:=piece_app (ofRun (pc72 w os)) k
 have k:=piece_app (ofRun (pc65 w os)) k
 have k:=piece_app (ofRun (pc53 w os)) k
 have k:=piece_app (ofRun (pc41 w os)) k
 have k:=piece_app (ofRun (pc40 w os)) k
 have k:=piece_app (ofRun (pc32 w os)) k
 have k:=piece_app (ofRun (pc31 w os)) k
 have k:=piece_app (ofRun (pc19 w os)) k
 have k:=p18 w os _ _ _ k
 have k:=piece_app (ofRun (pc15 w os)) k
 have k:=piece_app (ofRun (pc14 w os)) k
 have k:=piece_app (ofRun (pc13 w os)) k
 have k:=piece_app (ofRun (pc12 w os)) k
 have k:=piece_app (ofRun (pc3 w os)) k
 have k:=piece_app (ofRun (pc2 w os)) k
 have k:=piece_app (ofRun (pc0 w os)) k
 have k:=piece_block (blkPc w os) (bodyIs ▸ k)
 have q:=prePc w os
 rw [← PySem.W.Fast.te15667345088766844465,← PySem.W.Fast.te11892475500146522536,← PySem.W.Fast.te14364793385576792824] at q
 exact go_top q k
end
end Mine
end
section
namespace Mine
open PySem PySem.W PySem.Calls PyProof.Rows
noncomputable section
noncomputable def H1 (P:Params):Heap:=absHeap (mkT 12 (LS P (C2 P) (vS s219 1434) 91 91 156 (R88 P))) 812 {}
theorem h1Is (P:Params) (os:OsState):(S89 P os).abs=⟨H1 P,#[],boot_drawn,1528,os⟩:=by rfl
noncomputable def qV:Program:={ W0 with main:={ W0.main with body:=[sA 87] } }
noncomputable def looseL:List Str:=[s4,s8,s252,s253,s254,s255,s256,s257,s258,s259,s260,s261,s262,s81,s85,s86,s263,s88,s93,s264,s266,s267,s268,s269,s97,s101,s102,s104,s105,s113,s116,s118,s121,s122,s126,s128,s130,s270,s271,s272,s273,s274,s275,s276,s139,s143,s144,s145,s146,s147,s148,s149,s150,s151,s152,s153,s154,s155,s156,s157,s158,s159,s160,s163,s164,s165,s166,s277,s278,s279,s280,s281,s167,s282,s218,s221,s222,s225,s231,s235,s242]
theorem l1:∀ w:World,staticsOk (importedModules W0.main.body) (boot_heap w.params) (H1 w.params)=true:=fun w=>by kernel_rfl
theorem l2:∀ w:World,namesBound W0 (H1 w.params)=true:=fun w=>by kernel_rfl
theorem l3:∀ w:World,laidKept (boot_heap w.params) (H1 w.params)=true:=fun w=>by kernel_rfl
noncomputable abbrev sF (w:World) (os:OsState):Shared:=⟨H1 w.params,#[],boot_drawn,1528,os⟩
noncomputable abbrev sG (w:World) (os:OsState):Shared:={ sF w os with gens:=#[] }
theorem k1:∀ (w:World) (os:OsState),seen ((recsOf qV).map (·.name)) (ownsOf qV) [] (sG w os)=expectedOf qV:=fun w os=>by kernel_rfl
theorem k2:∀ (w:World) (os:OsState),(sF w os).heap.bltView=bltViewBooted:=fun w os=>by kernel_rfl
theorem k3:∀ (w:World) (os:OsState),(H1 w.params).keysOk (looseW qV looseL) ((recsOf qV).map (·.name)) ((litsOf qV).map (·.1)) ((clssOf qV (looseW qV looseL)).map (·.name))=true:=fun w os=>by kernel_rfl
theorem k4:∀ (w:World) (os:OsState),(H1 w.params).accountedOkI (importedModules W0.main.body)=true:=fun w os=>by kernel_rfl
theorem k5:∀ (w:World) (os:OsState),((H1 w.params).isNs mainGlobals && (H1 w.params).isNs builtinsNs)=true:=fun w os=>by kernel_rfl
theorem k6:∀ (w:World) (os:OsState),tablesOk qV (H1 w.params)=true:=fun w os=>by kernel_rfl
theorem k7:∀ (w:World) (os:OsState),tabsOk qV (sF w os)=true:=fun w os=>by kernel_rfl
theorem k8:∀ (w:World) (os:OsState),pinSeenD qV (drecsOf qV) (sF w os)=pinGoodD (drecsOf qV):=fun w os=>by kernel_rfl
theorem k9:∀ (w:World) (os:OsState),plainSeenE qV (looseW qV looseL) (sF w os)=plainGoodE qV (looseW qV looseL):=fun w os=>by kernel_rfl
theorem k10:∀ (w:World) (os:OsState),plainSeenD qV looseL (sF w os)=plainGoodD qV looseL:=fun w os=>by kernel_rfl
theorem k11:∀ (w:World) (os:OsState),wideSeen qV (sF w os)=wideGood qV:=fun w os=>by kernel_rfl
theorem k12:∀ (w:World) (os:OsState),clsSeenW qV looseL (sF w os)=clsGoodW qV looseL:=fun w os=>by kernel_rfl
open PySem.W.X in
theorem leftW:LeftO W0 qV looseL (fun _=>true) (fun s=>s.heap) (fun w=>H1 w.params) 40000 :=
 LeftO.of_pieces (H₀:=boot_heap) (H₁:=H1) (gs₀:=#[]) (gs₁:=#[]) (d₀:=boot_drawn) (d₁:=boot_drawn) (k₀:=boot_toks) (k₁:=1528)
  (boot_open (p:=W0) (N:=40000) (by kernel_rfl) (by decide) (fun s=>by kernel_rfl))
  (fun w=>by kernel_rfl)
  (fun w os=>(h1Is w.params os) ▸ headRun w os) (by decide)
  (fun w=>funext fun os=>by
   have e3:((H1 w.params).isNs mainGlobals && (H1 w.params).isNs builtinsNs)=true:=k5 w os
   obtain ⟨e4,e5⟩:=Bool.and_eq_true_iff.mp e3
   unfold openSeen openGood
   dsimp only
   rw [l1 w,l2 w,l3 w,k2 w os,k3 w os,k4 w os,e4,e5,k6 w os,k7 w os,k8 w os,k9 w os,k10 w os,k11 w os,k12 w os,k1 w os]
   rfl)
end
theorem lawAt (P:Params):nsIn [(3,((H1 P).get? 3).getD ⟨.none,none,.plain,#[]⟩)] mainGlobals s243=some (some (.ref 811)):=by kernel_rfl
theorem topThree (P:Params):(H1 P).get? 3=some (((H1 P).get? 3).getD ⟨.none,none,.plain,#[]⟩):=by kernel_rfl
end Mine
end
section
namespace Mine
open PySem PySem.W PySem.Calls PyProof.Rows
structure Row where
 a:Nat
 d:Fn
 n:Str
 q:Str
 st:Stmt
 m:Value
 c:Addr
noncomputable abbrev Row.fd (r:Row):FuncData:=fdata r.n r.q r.st 3 r.m (.ref r.c)
noncomputable def Row.o (r:Row):Obj:=oF q3 r.n r.q r.st r.m (.ref r.c)
structure Ini where
 a:Nat
 i:Nat
 n:Str
 q:Str
 ns:Addr
 b:List Value
 k0:Option Value
 k1:Option Value
 k2:Option Value
 k3:Option Value
 k5:Option Value
structure DRow where
 a:Nat
 d:List (V × V)
 l:List (K2 × Tok × Value)
 n:Nat
noncomputable def rows:List Row:=[
 ⟨130,f_signed,s81,s81,(sA 15),(vS s82 229),129⟩,
 ⟨137,f_imm_of,s85,s85,(sA 16),(vS s82 229),136⟩,
 ⟨348,f_name_of,s88,s88,(sA 19),(vS s82 229),347⟩,
 ⟨355,f_decode,s93,s93,(sA 20),(vS s82 229),354⟩,
 ⟨362,f_text_piece,s97,s97,(sA 27),(vS s98 761),361⟩,
 ⟨369,f_last_at,s101,s101,(sA 28),(vS s98 761),368⟩,
 ⟨376,f_function_row,s102,s102,(sA 29),(vS s98 761),375⟩,
 ⟨383,f_function_at,s104,s104,(sA 30),(vS s98 761),382⟩,
 ⟨397,f_Entry_init,s10,s106,(sM 31 0),(vS s98 761),396⟩,
 ⟨411,f_instruction_of,s113,s113,(sA 32),(vS s98 761),410⟩,
 ⟨418,f_lowered,s116,s116,(sA 33),(vS s98 761),417⟩,
 ⟨425,f_note_number,s118,s118,(sA 34),(vS s98 761),424⟩,
 ⟨432,f_entry_of,s121,s121,(sA 35),(vS s98 761),431⟩,
 ⟨439,f_is_leaving,s122,s122,(sA 36),(vS s98 761),438⟩,
 ⟨446,f_step_out,s126,s126,(sA 37),(vS s98 761),445⟩,
 ⟨453,f_calls_of,s128,s128,(sA 38),(vS s98 761),452⟩,
 ⟨467,f_Image_init,s10,s135,(sM 40 0),(vS s129 923),466⟩,
 ⟨488,f_added,s143,s143,(sA 50),(vS s140 965),487⟩,
 ⟨495,f_subtracted,s144,s144,(sA 51),(vS s140 965),494⟩,
 ⟨551,f_same,s152,s152,(sA 59),(vS s140 965),550⟩,
 ⟨660,f_Machine_init,s10,s183,(sM 77 0),(vS s140 965),659⟩,
 ⟨667,f_Machine_place_of,s168,s185,(sM 77 1),(vS s140 965),666⟩,
 ⟨674,f_Machine_place_for,s169,s186,(sM 77 2),(vS s140 965),673⟩,
 ⟨681,f_Machine_load,s170,s187,(sM 77 3),(vS s140 965),680⟩,
 ⟨688,f_Machine_store,s171,s188,(sM 77 4),(vS s140 965),687⟩,
 ⟨702,f_Machine_put,s173,s191,(sM 77 6),(vS s140 965),701⟩,
 ⟨709,f_Machine_instruction_at,s174,s192,(sM 77 7),(vS s140 965),708⟩,
 ⟨716,f_Machine_jump,s175,s194,(sM 77 8),(vS s140 965),715⟩,
 ⟨723,f_Machine_step,s176,s195,(sM 77 9),(vS s140 965),722⟩,
 ⟨730,f_Machine_move,s177,s197,(sM 77 10),(vS s140 965),729⟩,
 ⟨737,f_Machine_lead,s178,s199,(sM 77 11),(vS s140 965),736⟩,
 ⟨744,f_Machine_call_out,s179,s201,(sM 77 12),(vS s140 965),743⟩,
 ⟨481,f_signed_word,s139,s139,(sA 49),(vS s140 965),480⟩,
 ⟨766,f_law_draw,s218,s218,(sA 80),(vS s219 1434),765⟩,
 ⟨773,f_law_call,s221,s221,(sA 81),(vS s219 1434),772⟩,
 ⟨778,f_law_frame,s222,s222,(sA 82),(vS s219 1434),777⟩,
 ⟨785,f_law_filler,s225,s225,(sA 83),(vS s219 1434),784⟩,
 ⟨792,f_law_function,s231,s231,(sA 84),(vS s219 1434),791⟩,
 ⟨799,f_law_word,s235,s235,(sA 85),(vS s219 1434),798⟩,
 ⟨806,f_law_laid,s242,s242,(sA 86),(vS s219 1434),805⟩,
 ⟨811,f_law,s243,s243,(sA 87),(vS s219 1434),810⟩]
noncomputable def KP (P:Params):Frag:=rows.map (fun r=>(r.a,r.o))++[
 (399,oD (vT q8) [sE P s5 819 (vS s98 761),sE P s9 823 (vI 97 822),sE P s10 830 (vR 397),sE P s11 835 (vR 398),sE P s111 837 (vR 401),sE P s16 839 (vR 402),sE P s17 840 vN] 4),
 (400,oK (vT q7) { name:=s105,bases:=[(vT q11)],mro:=[(vR 400),(vT q11)],ns:=399,qualname:=s105,hasDict:=true,slotNames:=[],subclasses:=[],abstract:=false,collection:=none,hasDel:=false } [none,none,(some (vS s105 812)),(some (vS s105 820)),(some (vB q20)),(some (vb true))]),
 (469,oD (vT q8) [sE P s5 932 (vS s129 923),sE P s9 936 (vI 172 935),sE P s10 948 (vR 467),sE P s11 957 (vR 468),sE P s111 959 (vR 471),sE P s16 961 (vR 472),sE P s17 962 vN] 4),
 (470,oK (vT q7) { name:=s130,bases:=[(vT q11)],mro:=[(vR 470),(vT q11)],ns:=469,qualname:=s130,hasDict:=true,slotNames:=[],subclasses:=[],abstract:=false,collection:=none,hasDel:=false } [none,none,(some (vS s130 925)),(some (vS s130 933)),(some (vB q20)),(some (vb true))]),
 (753,oD (vT q8) [sE P s5 1271 (vS s140 965),sE P s9 1275 (vI 250 1274),sE P s10 1286 (vR 660),sE P s168 1296 (vR 667),sE P s169 1305 (vR 674),sE P s170 1315 (vR 681),sE P s171 1327 (vR 688),sE P s172 1336 (vR 695),sE P s173 1345 (vR 702),sE P s174 1355 (vR 709),sE P s175 1363 (vR 716),sE P s176 1374 (vR 723),sE P s177 1387 (vR 730),sE P s178 1397 (vR 737),sE P s179 1405 (vR 744),sE P s180 1413 (vR 751),sE P s11 1426 (vR 752),sE P s111 1428 (vR 755),sE P s16 1430 (vR 756),sE P s17 1431 vN] 4),
 (754,oK (vT q7) { name:=s167,bases:=[(vT q11)],mro:=[(vR 754),(vT q11)],ns:=753,qualname:=s167,hasDict:=true,slotNames:=[],subclasses:=[],abstract:=false,collection:=none,hasDel:=false } [none,none,(some (vS s167 1264)),(some (vS s167 1272)),(some (vB q20)),(some (vb true))])]
noncomputable def kAddrs:List Addr:=rows.map Row.a++[399,400,469,470,753,754]
noncomputable def clL:List Nat:=[400,470,754]
noncomputable def its:List Ini:=[
 ⟨400,397,s105,s105,399,[(vT q11)],none,none,(some (vS s105 812)),(some (vS s105 820)),(some (vb true))⟩,
 ⟨470,467,s130,s130,469,[(vT q11)],none,none,(some (vS s130 925)),(some (vS s130 933)),(some (vb true))⟩,
 ⟨754,660,s167,s167,753,[(vT q11)],none,none,(some (vS s167 1264)),(some (vS s167 1272)),(some (vb true))⟩]
noncomputable def dRows:List DRow:=[
 ⟨42,d_INSTRUCTIONS,[(.inr s18,245,(vR 43)),(.inr s19,249,(vR 44)),(.inr s20,253,(vR 45)),(.inr s21,257,(vR 46)),(.inr s22,261,(vR 47)),(.inr s23,265,(vR 48)),(.inr s24,269,(vR 49)),(.inr s25,273,(vR 50)),(.inr s26,277,(vR 51)),(.inr s27,281,(vR 52)),(.inr s28,285,(vR 53)),(.inr s29,289,(vR 54)),(.inr s30,293,(vR 55)),(.inr s31,297,(vR 56)),(.inr s32,301,(vR 57)),(.inr s33,305,(vR 58)),(.inr s34,309,(vR 59)),(.inr s35,313,(vR 61)),(.inr s36,317,(vR 62)),(.inr s37,321,(vR 63)),(.inr s38,325,(vR 64)),(.inr s39,329,(vR 65)),(.inr s40,333,(vR 66)),(.inr s41,337,(vR 67)),(.inr s42,341,(vR 68)),(.inr s43,345,(vR 69)),(.inr s44,349,(vR 70)),(.inr s45,353,(vR 71)),(.inr s46,357,(vR 72)),(.inr s47,361,(vR 73)),(.inr s48,365,(vR 74)),(.inr s49,369,(vR 75)),(.inr s50,373,(vR 76)),(.inr s51,377,(vR 77)),(.inr s52,381,(vR 79)),(.inr s53,384,(vR 80)),(.inr s54,387,(vR 81)),(.inr s55,390,(vR 82)),(.inr s56,393,(vR 83)),(.inr s57,396,(vR 84)),(.inr s58,399,(vR 85)),(.inr s59,402,(vR 86)),(.inr s60,405,(vR 87)),(.inr s61,408,(vR 88)),(.inr s62,411,(vR 89)),(.inr s63,414,(vR 90)),(.inr s64,417,(vR 91)),(.inr s65,420,(vR 92))],48⟩,
 ⟨93,d_PLACES,[(.inr s72,438,(vR 97)),(.inr s68,445,(vR 100)),(.inr s71,450,(vR 103)),(.inr s70,455,(vR 106)),(.inr s69,460,(vR 109)),(.inr s66,465,(vR 111)),(.inr s67,468,(vR 113)),(.inr s73,471,(vR 114)),(.inr s74,472,(vR 115))],9⟩,
 ⟨116,d_BOUNDS,[(.inr s68,483,(vR 117)),(.inr s71,488,(vR 118)),(.inr s70,492,(vR 119)),(.inr s69,497,(vR 120)),(.inr s66,502,(vR 121)),(.inr s67,506,(vR 122)),(.inr s73,511,(vR 123))],7⟩,
 ⟨146,d_NAMES_BY_BASE,[(.inl 55,247,(vS s18 245)),(.inl 23,251,(vS s19 249)),(.inl 111,255,(vS s20 253)),(.inl 103,259,(vS s21 257)),(.inl 99,263,(vS s22 261)),(.inl 4195,267,(vS s23 265)),(.inl 16483,271,(vS s24 269)),(.inl 20579,275,(vS s25 273)),(.inl 24675,279,(vS s26 277)),(.inl 28771,283,(vS s27 281)),(.inl 3,287,(vS s28 285)),(.inl 4099,291,(vS s29 289)),(.inl 8195,295,(vS s30 293)),(.inl 16387,299,(vS s31 297)),(.inl 20483,303,(vS s32 301)),(.inl 35,307,(vS s33 305)),(.inl 4131,311,(vS s34 309)),(.inl 8227,315,(vS s35 313)),(.inl 19,319,(vS s36 317)),(.inl 8211,323,(vS s37 321)),(.inl 12307,327,(vS s38 325)),(.inl 16403,331,(vS s39 329)),(.inl 24595,335,(vS s40 333)),(.inl 28691,339,(vS s41 337)),(.inl 4115,343,(vS s42 341)),(.inl 20499,347,(vS s43 345)),(.inl 1073762323,351,(vS s44 349)),(.inl 51,355,(vS s45 353)),(.inl 1073741875,359,(vS s46 357)),(.inl 4147,363,(vS s47 361)),(.inl 8243,367,(vS s48 365)),(.inl 12339,371,(vS s49 369)),(.inl 16435,375,(vS s50 373)),(.inl 20531,379,(vS s51 377)),(.inl 1073762355,383,(vS s52 381)),(.inl 24627,386,(vS s53 384)),(.inl 28723,389,(vS s54 387)),(.inl 33554483,392,(vS s55 390)),(.inl 33558579,395,(vS s56 393)),(.inl 33562675,398,(vS s57 396)),(.inl 33566771,401,(vS s58 399)),(.inl 33570867,404,(vS s59 402)),(.inl 33574963,407,(vS s60 405)),(.inl 33579059,410,(vS s61 408)),(.inl 33583155,413,(vS s62 411)),(.inl 15,416,(vS s63 414)),(.inl 115,419,(vS s64 417)),(.inl 1048691,422,(vS s65 420))],48⟩,
 ⟨636,d_WITH_REGISTERS,[(.inr s45,1169,(vR 488)),(.inr s46,1171,(vR 495)),(.inr s47,1173,(vR 502)),(.inr s48,1175,(vR 523)),(.inr s49,1177,(vR 530)),(.inr s50,1179,(vR 565)),(.inr s51,1181,(vR 509)),(.inr s52,1183,(vR 516)),(.inr s53,1185,(vR 572)),(.inr s54,1187,(vR 579)),(.inr s55,1189,(vR 586)),(.inr s56,1191,(vR 593)),(.inr s57,1193,(vR 600)),(.inr s58,1195,(vR 607)),(.inr s59,1197,(vR 614)),(.inr s60,1199,(vR 621)),(.inr s61,1201,(vR 628)),(.inr s62,1203,(vR 635))],18⟩,
 ⟨638,d_WITH_NUMBERS,[(.inr s36,1206,(vR 488)),(.inr s37,1207,(vR 523)),(.inr s38,1208,(vR 530)),(.inr s39,1209,(vR 565)),(.inr s40,1210,(vR 572)),(.inr s41,1211,(vR 579)),(.inr s42,1212,(vR 502)),(.inr s43,1213,(vR 509)),(.inr s44,1214,(vR 516))],9⟩,
 ⟨639,d_BRANCHES,[(.inr s22,1225,(vR 551)),(.inr s23,1226,(vR 558)),(.inr s24,1227,(vR 523)),(.inr s25,1228,(vR 537)),(.inr s26,1229,(vR 530)),(.inr s27,1230,(vR 544))],6⟩,
 ⟨640,d_LOADS,[(.inr s28,1238,(vR 641)),(.inr s29,1240,(vR 642)),(.inr s30,1242,(vR 643)),(.inr s31,1244,(vR 644)),(.inr s32,1246,(vR 645))],5⟩,
 ⟨646,d_STORES,[(.inr s33,1254,(vI 1 1255)),(.inr s34,1256,(vI 2 1257)),(.inr s35,1258,(vI 4 1259))],3⟩]
theorem ascN_mem {α β:Type} {f:α→Nat} {g:α→β} {n:Nat} {v:β}:∀ {l:List α},ascN (l.map fun r=>(f r,g r)) n=some v→∃ r ∈ l,f r=n∧g r=v
 | r::l,h=>by
  have h:(bif f r == n then some (g r) else ascN (l.map fun r=>(f r,g r)) n)=some v:=h
  cases e:f r == n with
  | true =>
   rw [e] at h
   exact ⟨r,List.mem_cons_self,beq_iff_eq.1 e,Option.some.inj h⟩
  | false =>
   rw [e] at h
   obtain ⟨r',h1,h2⟩:=ascN_mem h
   exact ⟨r',List.mem_cons_of_mem _ h1,h2⟩
theorem ascS_mem {β:Type} {n:Str} {v:β}:∀ {l:List (Str × β)},ascS l n=some v→(n,v) ∈ l
 | (a,b)::l,h=>by
  have h:(bif a == n then some b else ascS l n)=some v:=h
  cases e:a == n with
  | true =>
   rw [e] at h
   obtain rfl:=Option.some.inj (show some b=some v from h)
   obtain rfl:=beq_iff_eq.1 e
   exact List.mem_cons_self
  | false =>
   rw [e] at h
   exact List.mem_cons_of_mem _ (ascS_mem h)
theorem fnL_rows:fnL=rows.map fun r=>(r.a,r.d):=rfl
theorem KP_in (P:Params):(KP P).In (H1 P):=Frag.in_of (as:=kAddrs) (by rfl) (by kernel_rfl)
noncomputable def strIs (q:Str):Option Value→Bool
 | some (.str q' _)=>q' == q
 | _=>false
noncomputable def fldIs (q:Str):Data→Bool
 | .fields vs=>strIs q vs[1]?
 | _=>false
noncomputable def codeOk (h:Heap) (c:Addr) (q:Str):Bool:=match h.get? c with
 | some o=>fldIs q o.data
 | none=>false
theorem codeRec_of {h:Heap} {c:Addr} {q:Str} (e:codeOk h c q=true):h.CodeRec (.ref c) q:=by
 have e:(match h.get? c with
  | some o=>fldIs q o.data
  | none=>false)=true:=e
 cases ho:h.get? c with
 | none=>rw [ho] at e; exact no_ft e
 | some o =>
  rw [ho] at e
  have e:fldIs q o.data=true:=e
  cases hd:o.data with
  | fields vs =>
   rw [hd] at e
   have e:strIs q vs[1]?=true:=e
   cases hv:(vs[1]?:Option Value) with
   | none=>rw [hv] at e; exact no_ft e
   | some x =>
    rw [hv] at e
    cases x with
    | str q' t =>
     cases eq_of_beq (show (q' == q)=true from e)
     exact ⟨c,o,vs,t,rfl,ho,hd,hv⟩
    | _=>exact no_ft e
  | _=>rw [hd] at e; exact no_ft e
noncomputable def ckB (r:Row):Bool:=!(fSco r.st).isCoroutine && (!(fSco r.st).isGenerator && ((fSco r.st).kind == .function && (okSs (fSco r.st) r.d.names r.d.body (fBod r.st) && (((fSco r.st).names.all fun n=>n.2 != .cell) && ((r.d.names.all fun n=>(fSco r.st).names.lookup n == some .local) && decide r.d.names.Nodup)))))
theorem r_at (P:Params):rows.map (fun r=>(H1 P).get? r.a)=mpR (fun r=>some r.o) rows:=by kernel_rfl
theorem r_keep (P:Params):rows.map (fun r=>keepIn (KP P) (.ref r.a))=mpR (fun r=>true) rows:=by kernel_rfl
theorem r_ok:rows.map ckB=mpR (fun r=>true) rows:=by kernel_rfl
theorem r_sp:rows.map (fun r=>sps r.d.names r.d.body (fBod r.st))=mpR (fun r=>fBod r.st) rows:=by kernel_rfl
theorem r_code (P:Params):rows.map (fun r=>codeOk (H1 P) r.c r.q)=mpR (fun r=>true) rows:=by kernel_rfl
noncomputable def arL:List Nat:=[1,2,3,4,5,6]
theorem r_ar:rows.map (fun r=>arL.contains r.d.arity)=mpR (fun r=>true) rows:=by kernel_rfl
theorem bind1 (x0:Value):(rows.filter fun r=>Nat.beq r.d.arity 1).map (fun r=>bindArgs r.fd ⟨[x0],[]⟩)=mpR (fun r=>pure ((r.d.names.take r.d.arity).zip [x0])) (rows.filter fun r=>Nat.beq r.d.arity 1):=by kernel_rfl
theorem bind2 (x0 x1:Value):(rows.filter fun r=>Nat.beq r.d.arity 2).map (fun r=>bindArgs r.fd ⟨[x0,x1],[]⟩)=mpR (fun r=>pure ((r.d.names.take r.d.arity).zip [x0,x1])) (rows.filter fun r=>Nat.beq r.d.arity 2):=by kernel_rfl
theorem bind3 (x0 x1 x2:Value):(rows.filter fun r=>Nat.beq r.d.arity 3).map (fun r=>bindArgs r.fd ⟨[x0,x1,x2],[]⟩)=mpR (fun r=>pure ((r.d.names.take r.d.arity).zip [x0,x1,x2])) (rows.filter fun r=>Nat.beq r.d.arity 3):=by kernel_rfl
theorem bind4 (x0 x1 x2 x3:Value):(rows.filter fun r=>Nat.beq r.d.arity 4).map (fun r=>bindArgs r.fd ⟨[x0,x1,x2,x3],[]⟩)=mpR (fun r=>pure ((r.d.names.take r.d.arity).zip [x0,x1,x2,x3])) (rows.filter fun r=>Nat.beq r.d.arity 4):=by kernel_rfl
theorem bind5 (x0 x1 x2 x3 x4:Value):(rows.filter fun r=>Nat.beq r.d.arity 5).map (fun r=>bindArgs r.fd ⟨[x0,x1,x2,x3,x4],[]⟩)=mpR (fun r=>pure ((r.d.names.take r.d.arity).zip [x0,x1,x2,x3,x4])) (rows.filter fun r=>Nat.beq r.d.arity 5):=by kernel_rfl
theorem bind6 (x0 x1 x2 x3 x4 x5:Value):(rows.filter fun r=>Nat.beq r.d.arity 6).map (fun r=>bindArgs r.fd ⟨[x0,x1,x2,x3,x4,x5],[]⟩)=mpR (fun r=>pure ((r.d.names.take r.d.arity).zip [x0,x1,x2,x3,x4,x5])) (rows.filter fun r=>Nat.beq r.d.arity 6):=by kernel_rfl
theorem len0 {l:List Value} (h:l.length=0):l=[]:=List.length_eq_zero_iff.1 h
theorem len1 {l:List Value} (h:l.length=1):∃ a0,l=[a0]:=by
 cases l with
 | nil=>cases h
 | cons x r =>
  obtain ⟨rfl⟩:=len0 (Nat.succ.inj h)
  exact ⟨x,rfl⟩
theorem len2 {l:List Value} (h:l.length=2):∃ a0 a1,l=[a0,a1]:=by
 cases l with
 | nil=>cases h
 | cons x r =>
  obtain ⟨a0,rfl⟩:=len1 (Nat.succ.inj h)
  exact ⟨x,a0,rfl⟩
theorem len3 {l:List Value} (h:l.length=3):∃ a0 a1 a2,l=[a0,a1,a2]:=by
 cases l with
 | nil=>cases h
 | cons x r =>
  obtain ⟨a0,a1,rfl⟩:=len2 (Nat.succ.inj h)
  exact ⟨x,a0,a1,rfl⟩
theorem len4 {l:List Value} (h:l.length=4):∃ a0 a1 a2 a3,l=[a0,a1,a2,a3]:=by
 cases l with
 | nil=>cases h
 | cons x r =>
  obtain ⟨a0,a1,a2,rfl⟩:=len3 (Nat.succ.inj h)
  exact ⟨x,a0,a1,a2,rfl⟩
theorem len5 {l:List Value} (h:l.length=5):∃ a0 a1 a2 a3 a4,l=[a0,a1,a2,a3,a4]:=by
 cases l with
 | nil=>cases h
 | cons x r =>
  obtain ⟨a0,a1,a2,a3,rfl⟩:=len4 (Nat.succ.inj h)
  exact ⟨x,a0,a1,a2,a3,rfl⟩
theorem len6 {l:List Value} (h:l.length=6):∃ a0 a1 a2 a3 a4 a5,l=[a0,a1,a2,a3,a4,a5]:=by
 cases l with
 | nil=>cases h
 | cons x r =>
  obtain ⟨a0,a1,a2,a3,a4,rfl⟩:=len5 (Nat.succ.inj h)
  exact ⟨x,a0,a1,a2,a3,a4,rfl⟩
theorem bindL_1 {r:Row} (hr:r ∈ rows) (e:r.d.arity=1) (args:List Value) (ha:args.length=r.d.arity):bindArgs r.fd ⟨args,[]⟩=pure ((r.d.names.take r.d.arity).zip args):=by
 rw [e] at ha
 obtain ⟨x0,rfl⟩:=len1 ha
 exact map_at (bind1 x0) r (List.mem_filter.2 ⟨hr,show Nat.beq r.d.arity 1=true by rw [e]; rfl⟩)
theorem bindL_2 {r:Row} (hr:r ∈ rows) (e:r.d.arity=2) (args:List Value) (ha:args.length=r.d.arity):bindArgs r.fd ⟨args,[]⟩=pure ((r.d.names.take r.d.arity).zip args):=by
 rw [e] at ha
 obtain ⟨x0,x1,rfl⟩:=len2 ha
 exact map_at (bind2 x0 x1) r (List.mem_filter.2 ⟨hr,show Nat.beq r.d.arity 2=true by rw [e]; rfl⟩)
theorem bindL_3 {r:Row} (hr:r ∈ rows) (e:r.d.arity=3) (args:List Value) (ha:args.length=r.d.arity):bindArgs r.fd ⟨args,[]⟩=pure ((r.d.names.take r.d.arity).zip args):=by
 rw [e] at ha
 obtain ⟨x0,x1,x2,rfl⟩:=len3 ha
 exact map_at (bind3 x0 x1 x2) r (List.mem_filter.2 ⟨hr,show Nat.beq r.d.arity 3=true by rw [e]; rfl⟩)
theorem bindL_4 {r:Row} (hr:r ∈ rows) (e:r.d.arity=4) (args:List Value) (ha:args.length=r.d.arity):bindArgs r.fd ⟨args,[]⟩=pure ((r.d.names.take r.d.arity).zip args):=by
 rw [e] at ha
 obtain ⟨x0,x1,x2,x3,rfl⟩:=len4 ha
 exact map_at (bind4 x0 x1 x2 x3) r (List.mem_filter.2 ⟨hr,show Nat.beq r.d.arity 4=true by rw [e]; rfl⟩)
theorem bindL_5 {r:Row} (hr:r ∈ rows) (e:r.d.arity=5) (args:List Value) (ha:args.length=r.d.arity):bindArgs r.fd ⟨args,[]⟩=pure ((r.d.names.take r.d.arity).zip args):=by
 rw [e] at ha
 obtain ⟨x0,x1,x2,x3,x4,rfl⟩:=len5 ha
 exact map_at (bind5 x0 x1 x2 x3 x4) r (List.mem_filter.2 ⟨hr,show Nat.beq r.d.arity 5=true by rw [e]; rfl⟩)
theorem bindL_6 {r:Row} (hr:r ∈ rows) (e:r.d.arity=6) (args:List Value) (ha:args.length=r.d.arity):bindArgs r.fd ⟨args,[]⟩=pure ((r.d.names.take r.d.arity).zip args):=by
 rw [e] at ha
 obtain ⟨x0,x1,x2,x3,x4,x5,rfl⟩:=len6 ha
 exact map_at (bind6 x0 x1 x2 x3 x4 x5) r (List.mem_filter.2 ⟨hr,show Nat.beq r.d.arity 6=true by rw [e]; rfl⟩)
theorem bind_all {r:Row} (hr:r ∈ rows) (args:List Value) (ha:args.length=r.d.arity):bindArgs r.fd ⟨args,[]⟩=pure ((r.d.names.take r.d.arity).zip args):=by
 have h:=List.contains_iff_mem.1 (map_at r_ar r hr)
 unfold arL at h
 rcases List.mem_cons.1 h with e | h
 ·exact bindL_1 hr e args ha
 rcases List.mem_cons.1 h with e | h
 ·exact bindL_2 hr e args ha
 rcases List.mem_cons.1 h with e | h
 ·exact bindL_3 hr e args ha
 rcases List.mem_cons.1 h with e | h
 ·exact bindL_4 hr e args ha
 rcases List.mem_cons.1 h with e | h
 ·exact bindL_5 hr e args ha
 rcases List.mem_cons.1 h with e | h
 ·exact bindL_6 hr e args ha
 exact absurd h List.not_mem_nil
theorem fb_all (P:Params) (h₀:Heap) (hk:∀ b o,(H1 P).get? b=some o→h₀.get? b=some o) (f:Nat) (d:Fn) (e:fnTab f=some d):FnB h₀ (KP P) 3 0 f d:=by
 unfold fnTab at e
 rw [fnL_rows] at e
 obtain ⟨r,hr,rfl,rfl⟩:=ascN_mem e
 have o:(!(fSco r.st).isCoroutine && (!(fSco r.st).isGenerator && ((fSco r.st).kind == .function && (okSs (fSco r.st) r.d.names r.d.body (fBod r.st) && (((fSco r.st).names.all fun n=>n.2 != .cell) && ((r.d.names.all fun n=>(fSco r.st).names.lookup n == some .local) && decide r.d.names.Nodup))))))=true:=map_at r_ok r hr
 exact ⟨map_at (r_keep P) r hr,none,r.fd,#[],fBod r.st,hk _ _ (map_at (r_at P) r hr),not_f (and_l o),not_f (and_l (and_r o)),beq_iff_eq.1 (and_l (and_r (and_r o))),by rw [map_at r_sp r hr]; rfl,and_l (and_r (and_r (and_r o))),rfl,(codeRec_of (map_at (r_code P) r hr)).keeps hk,bind_all hr,
  fun x hx=>bne_iff_ne.1 (List.all_eq_true.1 (and_l (and_r (and_r (and_r (and_r o))))) x hx),fun x hx=>beq_iff_eq.1 (List.all_eq_true.1 (and_l (and_r (and_r (and_r (and_r (and_r o)))))) x hx),of_decide_eq_true (and_r (and_r (and_r (and_r (and_r (and_r o)))))),rfl,rfl⟩
theorem c_all (P:Params):clL.map (fun c=>((findIn (KP P) (.ref c) "__getattribute__",findIn (KP P) (.ref c) "__getattr__"),(findIn (KP P) (.ref c) "__setattr__",(hasDictIn (KP P) c,plainOver (KP P) c))))=mpR (fun _=>((some (some (.builtin "object.__getattribute__")),some none),(some (some (.builtin "object.__setattr__")),(true,true)))) clL:=by kernel_rfl
theorem c_attr (P:Params):clL.map (fun c=>attNames.map fun n=>findIn (KP P) (.ref c) n)=mpR (fun _=>mpR (fun _=>some none) attNames) clL:=by kernel_rfl
theorem cl_of {c:Nat} (h:insCls c=true):c ∈ clL:=by
 unfold insCls at h
 rcases Bool.or_eq_true_iff.1 h with h | h
 ·rcases Bool.or_eq_true_iff.1 h with h | h
  ·exact List.mem_cons.2 (.inl (beq_iff_eq.1 h))
  ·exact List.mem_cons_of_mem _ (List.mem_cons.2 (.inl (beq_iff_eq.1 h)))
 ·exact List.mem_cons_of_mem _ (List.mem_cons_of_mem _ (List.mem_cons.2 (.inl (beq_iff_eq.1 h))))
theorem m_all (P:Params):methL.map (fun p=>p.2.map fun q=>(insCls p.1,findIn (KP P) (.ref p.1) q.1,typeIn (KP P) (.ref q.2)))=mpR (fun p=>mpR (fun q=>(true,some (some (.ref q.2)),some (.type "function"))) p.2) methL:=by kernel_rfl
theorem meth_all (P:Params) (c:Nat) (n:Str) (f:Nat) (e:methAt c n=some f):insCls c=true∧findIn (KP P) (.ref c) n=some (some (.ref f))∧typeIn (KP P) (.ref f)=some (.type "function"):=by
 unfold methAt at e
 split at e
 ·rename_i l hl
  obtain ⟨r,h1,rfl,rfl⟩:=ascN_mem (l:=methL) (f:=Prod.fst) (g:=Prod.snd) ((List.map_id methL).symm ▸ hl)
  have:=map_at (map_at (m_all P) r h1) _ (ascS_mem e)
  exact ⟨congrArg Prod.fst this,congrArg (fun x=>x.2.1) this,congrArg (fun x=>x.2.2) this⟩
 ·cases e
noncomputable def entsD:Data→Array DictEntry
 | .dict es _=>es
 | _=>#[]
noncomputable def entsAt (h:Heap) (a:Addr):Array DictEntry:=match h.get? a with
 | some o=>entsD o.data
 | none=>#[]
noncomputable def isStrV:Value→Bool
 | .str _ _=>true
 | _=>false
noncomputable def nsD:Data→Bool
 | .dict es _=>es.toList.all fun e=>isStrV e.key
 | _=>false
noncomputable def nsOk (h:Heap) (a:Addr):Bool:=match h.get? a with
 | some o=>nsD o.data
 | none=>false
noncomputable def nsL:List Addr:=[3,0,cStatics,399,469,753]
theorem nss_ok (P:Params):nsL.map (nsOk (H1 P))=mpR (fun _=>true) nsL:=by kernel_rfl
theorem isStrV_of {x:Value} (e:isStrV x=true):∃ n t,x=.str n t:=by
 induction x using Value.casesOn <;> first | exact ⟨_,_,rfl⟩ | exact no_ft e
theorem ns_of {h:Heap} {a:Addr} (e:nsOk h a=true):h.Ns a (nsFind (entsAt h a)):=by
 have e:(match h.get? a with
  | some o=>nsD o.data
  | none=>false)=true:=e
 show h.Ns a (nsFind (match h.get? a with
  | some o=>entsD o.data
  | none=>#[]))
 cases ho:h.get? a with
 | none=>rw [ho] at e; exact no_ft e
 | some o =>
  rw [ho] at e
  obtain ⟨c,d,dt,sl⟩:=o
  have e:nsD dt=true:=e
  cases dt with
  | dict es ep=>exact ⟨_,es,ep,ho,rfl,fun x hx=>isStrV_of (List.all_eq_true.mp e x (Array.mem_toList_iff.2 hx)),fun _=>rfl⟩
  | _=>exact no_ft e
theorem ns_ok (P:Params) {a:Addr} (h:nsL.contains a=true):(H1 P).Ns a (nsFind (entsAt (H1 P) a)):=ns_of (map_at (nss_ok P) a (List.contains_iff_mem.1 h))
noncomputable def Ini.o (r:Ini):Obj:=excClassObj r.n r.q r.a r.ns r.b [.type "object"] true [] [] false none none r.k0 r.k1 r.k2 r.k3 r.k5 "object.__new__"
theorem initL_its:initL=its.map fun r=>(r.a,r.i):=rfl
theorem i_at (P:Params):its.map (fun r=>(H1 P).get? r.a)=mpR (fun r=>some r.o) its:=by kernel_rfl
theorem i_ok (P:Params):its.map (fun r=>(keepIn (KP P) (.ref r.a),nsL.contains r.ns,nsFind (entsAt (H1 P) r.ns) "__init__",((H1 P).get? r.i).map Obj.cls))=mpR (fun r=>(true,true,some (.ref r.i),some (.type "function"))) its:=by kernel_rfl
noncomputable def tk:Value→Tok
 | .int _ t=>t
 | .str _ t=>t
 | _=>0
noncomputable def tupD (c:Value):Data→Option (List Value)
 | .seq vs _=>if c == .type "tuple" then some vs.toList else none
 | _=>none
noncomputable def tupO (h:Heap) (a:Addr):Option (List Value):=match h.get? a with
 | some o=>tupD o.cls o.data
 | none=>none
noncomputable def tupAt (h:Heap):Value→Option (List Value)
 | .ref a=>tupO h a
 | _=>none
mutual
noncomputable def vrOk (h:Heap):V→Value→Bool
 | .tup l,x=>match tupAt h x with
  | some vs=>vrsOk h l vs
  | none=>false
 | .none,x=>x == .none
 | .bool b,x=>x == .bool b
 | .int i,x=>x == .int i (tk x)
 | .str s,x=>x == .str s (tk x)
 | .sta a,x=>x == .ref a
 | .bn b,x=>x == bnV b
 | .byt _,_=>false
 | .rng _ _,_=>false
 | .ins _ _,_=>false
 | .obj _,_=>false
noncomputable def vrsOk (h:Heap):List V→List Value→Bool
 | [],[]=>true
 | v::l,x::r=>vrOk h v x && vrsOk h l r
 | _,_=>false
end
theorem tupO_of {h:Heap} {a:Addr} {vs:List Value} (e:tupO h a=some vs):h.IsTuple a ⟨vs⟩:=by
 have e:(match h.get? a with
  | some o=>tupD o.cls o.data
  | none=>none)=some vs:=e
 cases ho:h.get? a with
 | none=>rw [ho] at e; exact no_ns e
 | some o =>
  rw [ho] at e
  obtain ⟨c,dd,dt,sl⟩:=o
  have e:tupD c dt=some vs:=e
  cases dt with
  | seq us n =>
   have e:(if c == .type "tuple" then some us.toList else none)=some vs:=e
   by_cases hc:(c == .type "tuple")=true
   ·cases (if_pos hc).symm.trans e
    exact ⟨_,ho,eq_of_beq hc,n,rfl⟩
   ·exact no_ns ((if_neg hc).symm.trans e)
  | _=>exact no_ns e
theorem tupAt_of {h:Heap} {x:Value} {vs:List Value} (e:tupAt h x=some vs):∃ a,x=.ref a∧h.IsTuple a ⟨vs⟩:=by
 induction x using Value.casesOn <;> first | exact no_ns e | exact ⟨_,rfl,tupO_of e⟩
theorem vrOk_of {h:Heap} (v:V):∀ x,vrOk h v x=true→VR (.b h) v x :=
 V.rec (motive_1:=fun v=>∀ x,vrOk h v x=true→VR (.b h) v x) (motive_2:=fun l=>∀ vs,vrsOk h l vs=true→VRs (.b h) l vs)
  (fun x e=>eq_of_beq e) (fun b x e=>eq_of_beq e) (fun i x e=>⟨_,eq_of_beq e⟩) (fun s x e=>⟨_,eq_of_beq e⟩) (fun b x e=>nomatch e)
  (fun l ih x e=>by
   have e2:(match tupAt h x with
    | some vs=>vrsOk h l vs
    | none=>false)=true:=e
   clear e
   cases hv:tupAt h x with
   | none=>rw [hv] at e2; exact no_ft e2
   | some vs =>
    rw [hv] at e2
    obtain ⟨a,rfl,ht⟩:=tupAt_of hv
    exact ⟨a,vs,rfl,ht,ih vs e2⟩)
  (fun a b x e=>nomatch e) (fun a x e=>eq_of_beq e) (fun b x e=>eq_of_beq e) (fun c k x e=>nomatch e) (fun k x e=>nomatch e)
  (fun vs e=>by cases vs <;> first | rfl | cases e)
  (fun v l h1 h2 vs e=>by
   induction vs using List.casesOn with
   | nil=>cases e
   | cons x r=>exact ⟨x,r,rfl,h1 x (and_l (show (vrOk h v x && vrsOk h l r)=true from e)),h2 r (and_r (show (vrOk h v x && vrsOk h l r)=true from e))⟩) v
theorem vrsOk_of {h:Heap} (l:List V):∀ (vs:List Value),vrsOk h l vs=true→VRs (.b h) l vs:=by
 induction l with
 | nil=>intro vs e; induction vs using List.casesOn with
  | nil=>rfl
  | cons=>exact no_ft e
 | cons v l ih=>intro vs e; induction vs using List.casesOn with
  | nil=>exact no_ft e
  | cons x r =>
   have e:(vrOk h v x && vrsOk h l r)=true:=e
   exact ⟨x,r,rfl,vrOk_of v x (and_l e),ih r (and_r e)⟩
theorem bmono {h h':Heap} (hk:∀ b o,h.get? b=some o→h'.get? b=some o):Mono (.b h) (.b h'):=⟨Nat.le_refl _,fun _ _=>rfl,fun a o e _=>hk a o e⟩
noncomputable def ent (P:Params) (x:K2 × Tok × Value):DictEntry:=match x.1 with
 | .inr s=>sE P s x.2.1 x.2.2
 | .inl i=>iE i x.2.1 x.2.2
noncomputable def prOk (h:Heap):List (V × V)→List (K2 × Tok × Value)→Bool
 | [],[]=>true
 | (k,v)::d,x::r=>decide (toK k=some x.1) && (vrOk h v x.2.2 && prOk h d r)
 | _,_=>false
theorem prOk_of {h:Heap} (d:List (V × V)):∀ (L:List (K2 × Tok × Value)),prOk h d L=true→PR (.b h) d (L.map fun x=>(x.1,x.2.2)):=by
 induction d with
 | nil=>intro L e; induction L using List.casesOn with
  | nil=>rfl
  | cons=>exact no_ft e
 | cons kv d ih=>intro L e; induction L using List.casesOn with
  | nil=>exact no_ft e
  | cons x r =>
   have e:(decide (toK kv.1=some x.1) && (vrOk h kv.2 x.2.2 && prOk h d r))=true:=e
   exact ⟨x.1,x.2.2,_,rfl,of_decide_eq_true (and_l e),vrOk_of kv.2 _ (and_l (and_r e)),ih r (and_r (and_r e))⟩
noncomputable def hOk (x:K2 × Tok × Value):Bool:=match x.1 with
 | .inl i=>hashInt i == i
 | .inr _=>true
theorem ent_is (prog:Program) (w:World) (x:K2 × Tok × Value) (hx:hOk x=true):(kvKind prog w).is x.1 (ent w.params x).key=true∧(ent w.params x).hash=(kvKind prog w).hash x.1∧(ent w.params x).val=x.2.2:=by
 obtain ⟨k,t,v⟩:=x
 cases k with
 | inl i=>exact ⟨beq_self_eq_true i,(eq_of_beq (show (hashInt i == i)=true from hx)).symm,rfl⟩
 | inr s=>exact ⟨beq_self_eq_true s,rfl,rfl⟩
theorem pairs_ents (prog:Program) (w:World):∀ (L:List (K2 × Tok × Value)) (hL:L.all hOk=true),Pairs (kvKind prog w) (L.map (ent w.params)) (L.map fun x=>(x.1,x.2.2))
 | [],_=>.nil
 | x::L,hL =>
  have hL:(hOk x && L.all hOk)=true:=hL
  .cons (ent_is prog w x (and_l hL)).1 (ent_is prog w x (and_l hL)).2.2 (pairs_ents prog w L (and_r hL))
theorem dictOf_ents {prog:Program} {w:World} {h:Heap} {a:Addr} {n:Nat} {L:List (K2 × Tok × Value)} (hget:h.get? a=some (oD (.type "dict") (L.map (ent w.params)) n)) (hn:(L.map (·.1)).Nodup) (hL:L.all hOk=true):h.DictOf (kvKind prog w) a (L.map fun x=>(x.1,x.2.2)):=by
 refine ⟨_,_,n,hget,⟨rfl,rfl,rfl⟩,rfl,fun e he=>?_,pairs_ents prog w L hL,by rw [List.map_map]; exact hn⟩
 obtain ⟨x,hx,rfl⟩:=List.mem_map.mp (List.mem_toArray.1 he)
 obtain ⟨h1,h2,h3⟩:=ent_is prog w x (List.all_eq_true.mp hL x hx)
 exact ⟨x.1,h1,h2⟩
theorem sdicL_rows:sdicL=dRows.map fun r=>(r.a,r.d):=rfl
theorem d_at (P:Params):dRows.map (fun r=>(H1 P).get? r.a)=mpR (fun r=>some (oD (.type "dict") (r.l.map (ent P)) r.n)) dRows:=by kernel_rfl
theorem d_ok (P:Params):dRows.map (fun r=>((r.a == sysModules),prOk (H1 P) r.d r.l,r.l.all hOk,decide (r.l.map (·.1)).Nodup))=mpR (fun r=>(false,true,true,true)) dRows:=by kernel_rfl
theorem sdic_at {t:Nat} {d:List (V × V)} (e:sdicAt t=some d):∃ r ∈ dRows,r.a=t∧r.d=d:=by
 unfold sdicAt at e
 rw [sdicL_rows] at e
 exact ascN_mem e
theorem names_at (P:Params):∃ vs m,(H1 P).get? 759=some ⟨.type "list",none,.seq ⟨vs⟩ m,#[]⟩∧vrsOk (H1 P) lawNames vs=true:=⟨[(vS s117 1436),(vS s214 1437),(vS s215 1438),(vS s216 1439),(vS s3 1440)],0,by kernel_rfl,by kernel_rfl⟩
noncomputable def gloV (h:Heap) (x:Str):Option Value:=match nsFind (entsAt h 3) x with
 | some val=>some val
 | none=>nsFind (entsAt h 0) x
noncomputable def gloOk (h:Heap) (p:Str × V):Bool:=match gloV h p.1 with
 | some val=>vrOk h p.2 val
 | none=>false
theorem glo_ok (P:Params):gloTab.map (gloOk (H1 P))=mpR (fun _=>true) gloTab:=by kernel_rfl
theorem glo_of {h h₀:Heap} {x:Str} {v:V} (hk:∀ b o,h.get? b=some o→h₀.get? b=some o) (n3:h.Ns 3 (nsFind (entsAt h 3))) (n0:h.Ns 0 (nsFind (entsAt h 0))) (e:gloOk h (x,v)=true) :
  ∃ val,VR (.b h₀) v val∧∃ mg,h₀.Ns 3 mg∧(mg x=some val∨mg x=none∧∃ mb,h₀.Ns 0 mb∧mb x=some val):=by
 have e:(match gloV h x with
  | some val=>vrOk h v val
  | none=>false)=true:=e
 cases hv:gloV h x with
 | none=>rw [hv] at e; exact no_ft e
 | some val =>
  rw [hv] at e
  refine ⟨val,(vrOk_of _ _ e).mono (bmono hk),_,n3.keeps hk,?_⟩
  have hv:(match nsFind (entsAt h 3) x with
   | some val=>some val
   | none=>nsFind (entsAt h 0) x)=some val:=hv
  cases q:nsFind (entsAt h 3) x with
  | none=>rw [q] at hv; exact .inr ⟨rfl,_,n0.keeps hk,hv⟩
  | some y=>rw [q] at hv; exact .inl hv
theorem noLim (P:Params):nsFind (entsAt (H1 P) cStatics) "sys.recursionlimit"=none:=by kernel_rfl
theorem enum3 (P:Params):nsFind (entsAt (H1 P) 3) sEnum=none:=by kernel_rfl
theorem enum0 (P:Params):nsFind (entsAt (H1 P) 0) sEnum=some (.type "enumerate"):=by kernel_rfl
theorem sys_at (P:Params):((H1 P).get? sysModules).isSome=true:=by kernel_rfl
theorem ints_vrs {h:Heap} {vs:List Value} {ns:List Int} (e:IntsAre vs ns):VRs (.b h) (ns.map V.int) vs:=by
 induction e with
 | nil=>rfl
 | cons _ _ _ ih=>exact ⟨_,_,rfl,⟨_,rfl⟩,ih⟩
theorem wd (prog:Program) (w:World) (a:Addr) (vs:List Value) (ns:List Int) (h₀:Heap) (hI:IntsAre vs ns) (hL:h₀.IsList a vs.toArray) (hk:∀ b o,(H1 w.params).get? b=some o→h₀.get? b=some o):Wd prog w h₀ (KP w.params) 3 0 a ns where
 KI:=(KP_in w.params).keeps hk
 ga:=fun c h=>congrArg (fun x=>x.1.1) (map_at (c_all w.params) c (cl_of h))
 gh:=fun c h=>congrArg (fun x=>x.1.2) (map_at (c_all w.params) c (cl_of h))
 sa:=fun c h=>congrArg (fun x=>x.2.1) (map_at (c_all w.params) c (cl_of h))
 dct:=fun c h=>congrArg (fun x=>x.2.2.1) (map_at (c_all w.params) c (cl_of h))
 over:=fun c h=>congrArg (fun x=>x.2.2.2) (map_at (c_all w.params) c (cl_of h))
 attr:=fun c n h hn=>map_at (map_at (c_attr w.params) c (cl_of h)) n (List.contains_iff_mem.1 hn)
 meth:=meth_all w.params
 sysm:=(Option.isSome_iff_exists.1 (sys_at w.params)).imp fun o h=>hk _ o h
 sdic:=fun t d e=>by
  obtain ⟨r,hr,rfl,rfl⟩:=sdic_at e
  have h:=map_at (d_ok w.params) r hr
  exact ⟨congrArg Prod.fst h,_,dictOf_ents (hk _ _ (map_at (d_at w.params) r hr)) (of_decide_eq_true (congrArg (fun x=>x.2.2.2) h)) (congrArg (fun x=>x.2.2.1) h),(prOk_of _ _ (congrArg (fun x=>x.2.1) h)).mono (bmono hk)⟩
 slst:=fun t l e=>by
  unfold slstAt at e
  split at e
  ·rename_i q
   cases e
   subst q
   exact ⟨vs,hL,ints_vrs hI⟩
  ·split at e
   ·rename_i q
    cases e
    subst q
    obtain ⟨ws,m,h1,h2⟩:=names_at w.params
    exact ⟨ws,⟨_,hk _ _ h1,rfl,m,rfl⟩,(vrsOk_of _ _ h2).mono (bmono hk)⟩
   ·cases e
 glo:=fun x v e=>glo_of hk (ns_ok w.params (a:=3) (by decide +kernel)) (ns_ok w.params (a:=0) (by decide +kernel)) (map_at (glo_ok w.params) _ (ascS_mem e))
 lim:=⟨_,(ns_ok w.params (a:=cStatics) (by decide +kernel)).keeps hk,noLim w.params⟩
 en:=⟨_,(ns_ok w.params (a:=3) (by decide +kernel)).keeps hk,enum3 w.params,_,(ns_ok w.params (a:=0) (by decide +kernel)).keeps hk,enum0 w.params⟩
 init:=fun a i e=>by
  unfold initAt at e
  rw [initL_its] at e
  obtain ⟨r,hr,rfl,rfl⟩:=ascN_mem e
  have h:=map_at (i_ok w.params) r hr
  obtain ⟨oI,h1,h2⟩:=Option.map_eq_some_iff.1 (congrArg (fun x=>x.2.2.2) h)
  exact ⟨congrArg Prod.fst h,_,_,_,_,_,_,_,_,_,_,_,_,_,_,oI,hk _ _ (map_at (i_at w.params) r hr),(ns_ok w.params (congrArg (fun x=>x.2.1) h)).keeps hk,congrArg (fun x=>x.2.2.1) h,hk _ _ h1,h2⟩
end Mine
end
section
namespace Mine
open PySem PySem.W PySem.Calls PyProof.Rows PySem.W.X PySem.Spec
noncomputable abbrev Γc:PySem.Ctx:=⟨.builtin "claim.caller" {},none,none,[],none⟩
theorem wp_of_G {prog:Program} {w:World} {α:Type} {t:Sem α} {Q:α→Shared→Prop} {s:Shared} (h:wpG (model prog w) callerA t Q s) (p:Pos):Sem.wp (model prog w) Γc t (fun a _ s'=>Q a s') (fun _ _ _=>False) p s :=
 h Γc p caller_in (by decide) (fun x hx=>nomatch hx)
theorem stub_ends {prog:Program} {w:World} {name:Str} {mg:Str→Option Value} {f:Value} {vs:List Value} {s:Shared} {R:Result→Shared→Prop} (hz:s.asleep) (hg:s.heap.Ns mainGlobals mg) (hf:mg name=some f)
  (h:wpG (model prog w) callerA (PySem.call f vs) (fun v s'=>R (.ok (.ret v)) s'∧leftWithCleanup s'.gens=false) s) {Gl:Prop}
  (kG:∀ n r s' s'',runN (denote table) prog w n s (callStub name vs)=.halted (outcomeOf r) s'→schedN (denote table) prog w n (.single s (callStub name vs))=.halted (outcomeOf r) s'→s'.forget=s''.forget→R r s''→Gl):Gl:=by
 have hw:Sem.wp (model prog w) Γc (callStub name vs).cur (Sem.finPost (model prog w) Γc fun r s'=>R r s'∧leftWithCleanup s'.gens=false) (fun e _ s'=>R (.error e) s'∧leftWithCleanup s'.gens=false) default s:=by
  have hG:wpG (model prog w) callerA (callStub name vs).cur (fun fin s'=>∃ v,fin=.done (.ret v)∧R (.ok (.ret v)) s'∧leftWithCleanup s'.gens=false) s:=by
   refine G.step (wpAny_nsGet hg ?_)
   rw [hf]
   exact G.bind (G.mono h fun v s' h'=>G.pure ⟨v,rfl,h'⟩)
  refine Sem.wp_mono _ _ _ (fun fin p' s' h'=>?_) (fun _ _ _ h'=>h'.elim) _ _ (wp_of_G hG default)
  obtain ⟨v,rfl,h1⟩:=h'
  exact h1
 obtain ⟨n,r,s₁,s₂,hs,hn,hfo,hR⟩:=wp_halts_full (M:=model prog w) (R:=R) hz hw
 exact kG n r s₂ s₁ hn hs hfo hR
def MainG:Prop:=∀ (w:World) (s:Shared) (a:Addr) (vs:List Value) (ns:List Int),ns.length≤63→IntsAre vs ns→s.heap.IsList a vs.toArray →
 (∀ b o,(H1 w.params).get? b=some o→s.heap.get? b=some o)→(H1 w.params).get? a=none→s.gens=#[] →
 wpG (model PySem.Challenge.pw_nm0047_01 w) callerA (PySem.call (.ref 811) [.ref a])
  (fun v s'=>v=.bool true∧(∀ b o,s.heap.get? b=some o→s'.heap.get? b=some o)∧s'.os=s.os∧s'.gens=#[]) s
def Plain:Prop:=∀ c:Cx,c.ns.length≤63→∃ H,Cl c 12 811 [.sta c.a] ⟨0,fun _=>none⟩ (.bool true) H
theorem mainG_of (pl:Plain):MainG:=by
 intro w s a vs ns hlen hI hL hk hn hg
 have F:sdicAt a=none∧a ≠ 759:=by
  refine ⟨?_,fun q=>?_⟩
  ·cases e:sdicAt a with
   | none=>rfl
   | some d =>
    obtain ⟨r,hr,rfl,_⟩:=sdic_at e
    cases hn.symm.trans (map_at (d_at w.params) r hr)
  ·subst q
   obtain ⟨ws,m,h1,h2⟩:=names_at w.params
   cases hn.symm.trans h1
 let c:Cx:=⟨a,ns,PySem.Challenge.pw_nm0047_01,w,s.heap,KP w.params,3,0,F,wd _ w a vs ns s.heap hI hL hk,fb_all w.params s.heap hk⟩
 obtain ⟨H,hH⟩:=pl c hlen
 let p:P c ⟨0,fun _=>none⟩:=⟨fun _=>0,s,⟨fun _ _ e=>e,fun k hk=>absurd hk (Nat.not_lt_zero _),fun k x e=>(nomatch e),fun k hk=>absurd hk (Nat.not_lt_zero _),fun j k hj=>absurd hj (Nat.not_lt_zero _),hg⟩⟩
 exact hH.r callerA p [.ref a] ⟨rfl,rfl,by decide,by decide⟩ ⟨.ref a,[],rfl,rfl,rfl⟩ _ fun x q E hx=>⟨hx,q.R.base,E.os,q.R.gens⟩
theorem open_c {r:OpenRow} {q:Program} {loose:List Str} {Xt:Shared→Bool} {α:Type} {Yf:Shared→α} {Ya:World→α} {d:DefRec} {kwd:List (Str × Expr)} {N:Nat} (left:LeftO r.prog q loose Xt Yf Ya N)
  (hdef:defOf q r.name=some (d,kwd)) (hp:r.prog.theDef r.name=some (d.params,d.body,d.scope)) (hk:kwWritten? d.params.kwonlyargs d.params.kw_defaults=some kwd) (hRf:∀ s,Xt s=true→RecFacts r.records s.heap) (hwr:(!r.writes || r.records.isEmpty)=true)
  (k1:r.wellSaid=true) (ok:(chainsOk q && opensWell r.prog && (frees r.toRowW && r.within.isEmpty))=true) (hb:r.prog.bare) (hw:r.toRowW.promised)
  (call:∀ (w:World) (s₀ s₁:Shared) (mg mb:Str→Option Value),Ground q loose r.records (fun _ _=>True) w s₀ mg mb s₁.heap→Yf s₀=Ya w→∀ (a:Addr),mg d.name=some (.ref a)→s₁.gens=#[] →
   ∀ (args:List WData) (vals:List Value) (as:List Addr),Laid r.records w s₀ s₁ args vals as→r.toRowW.claim.pre args=true→WData.layableAll args=true→ReadsAllW r.records (classAt s₀.heap) s₁.heap vals args as→WellAll w.params s₁.heap vals args→(∀ a ∈ as,(a == sysModules)=false) →
   wpG (model r.prog w) callerA (PySem.call (.ref a) vals) (fun v s'=>GoodWG r.toRowW.claim (classAt s₀.heap) (ExcName.means s₀.heap) args s₁ (.ok (.ret v)) s') s₁):r.Holds:=by
 refine hide fun Gl kG=>?_
 obtain ⟨ok1,ok2⟩:=Bool.and_eq_true_iff.mp ok
 obtain ⟨hch,o1⟩:=Bool.and_eq_true_iff.mp ok1
 obtain ⟨k5,k6⟩:=Bool.and_eq_true_iff.mp ok2
 obtain ⟨hsame,hu,ha,hap,hm⟩:=frees_parts k5
 have hwi:r.toRowW.claim.within=[]:=List.isEmpty_iff.mp k6
 have hi:=ident_freeW hu ha hap
 refine kG ?_
 refine ⟨k1,hw,⟨hb,o1,by show r.makers.map _=[]; rw [hm]; rfl⟩,hw.witness,fun w=>⟨(left.behind (XP:=fun _ _=>True) (fun _ _=>trivial) hch w).1,fun s' hs'=>hide fun Gl kG=>?_⟩⟩
 obtain ⟨s₀,hf,hg0,s,hT,hz,hgens,hg,G00,y⟩:=(left.behind (XP:=fun _ h=>RecFacts r.records h) (fun s hs=>hRf s hs) hch w).2 s' hs'
 have G0:Ground q loose [] (fun _ _=>True) w s (s.heap.nsMap mainGlobals) (s.heap.nsMap builtinsNs) s.heap:=⟨G00.T,G00.B,G00.D,G00.TE,G00.TD,G00.W,trivial,G00.cls,G00.has,G00.apart,G00.once,G00.K⟩
 have RF:=G00.X
 refine kG ⟨s₀,hf,hg0,s,hT,fun n hn=>?_,RF.1,RF.2.1,fun args hpre hlay ord hord=>hide fun Gl kG=>?_⟩
 ·obtain rfl:n=r.name:=by split at hn <;> simp_all
  exact pinned_of_view hg G0 hdef hp hk
 have hgs:s.gens=#[]:=Array.eq_empty_of_size_eq_zero (beq_iff_eq.mp hgens)
 have Gr:Ground q loose r.records (fun _ _=>True) w s _ _ s.heap:=RF.ground G0
 obtain ⟨⟨vs,s₁⟩,hlaid⟩:=Option.isSome_iff_exists.mp (layAllW_isSome (P:=w.params) (ord:=ord) Gr.has args r.args s (pre_splitW hpre).1)
 have keeps:=layAllW_keeps _ _ _ hlaid
 have hal:=layAllW_rest _ _ _ hlaid
 obtain ⟨as,hrd,hin,hold⟩:=reads_layAllW hord _ _ _ hlaid hlay s₁.heap (fun _ _ e=>e)
 have L:Laid r.records w s s₁ args vs as:=⟨⟨ord,hord,hlaid⟩,hrd,hin,hold,keeps,hal.1.trans hgs,hal.2.2.1⟩
 have G₁:=Gr.keeps (fun _ _ _ _ _=>trivial) keeps
 obtain ⟨a,o,pm,cd,doc,dV,kV,h1,h2,h3,h4,h5⟩:=G₁.fn hdef
 have hname:=defOf_name hdef
 have run:=call w s s₁ _ _ G₁ y a (hname ▸ h1) L.gens args vs as L hpre hlay L.reads L.well (L.low Gr.low)
 refine stub_ends (name:=r.name) (R:=fun res s'=>r.toRowW.claim.Ends s args vs s₁ res s'∧s'.os=s.os∧(r.writes=true→namesKept r.prog r.keeps s.heap s'.heap∧∀ x ∈ r.records,∀ a,classAt s.heap x.1=some a→recordClass s'.heap a x.1 (x.2.map (·.1))=true))
  (Shared.asleep_of_life hal.2.2.2 hz) G₁.T.g h1 (G.mono' (fun v s' g=>by
   have z:=g.laid (c:=r.toRowW.claim) hsame hwi hi L
   exact ⟨⟨z.1,z.2.1,fun q=>⟨namesKept_of hT hg r.keeps keeps g.2.1.old,noTable hwr q⟩⟩,leftWithCleanup_false_of_bare z.2.2⟩) run) fun n res e' e'' hrun hsched hfo hR=>?_
 obtain ⟨hcase,hos,hkp⟩:=hR
 obtain ⟨eh,_,_,eo,_⟩:=Shared.forget_eq hfo
 have hlife:e'.heap.life=s.heap.life:=(runN_life _ _ _ hrun).trans hal.2.2.2
 refine kG ⟨vs,s₁,hlaid,n,_,e',hsched,?_,(fun _ i x hx=>by rw [hgs] at hx; simp at hx),by rw [eh]; exact hkp,by rw [hlife],Shared.rest_eq (eo.trans hos)⟩
 rcases hcase.congr eh with ⟨v,rfl,d1,d2,d3,d4,d5⟩ | ⟨e,ob,cls,rfl,d1,d2,d3,d4,d5⟩
 ·exact .inl ⟨v,rfl,d1,d2,d3,fun b o y _=>d4 b o y,d5⟩
 ·exact .inr ⟨e,ob,cls,rfl,d1,d2,d3,d4,fun b o y _=>d5 b o y⟩
theorem ws:OpenLaw.wellSaid PySem.Challenge.rw_nm0047_01=true :=
 (congrFun PySem.W.Fast.te9446332074065402090 _).trans (show Fast.tw9446332074065402090 PySem.Challenge.rw_nm0047_01=true by kernel_rfl)
theorem holds_of_mainG (m:MainG):PySem.Challenge.rw_nm0047_01.Holds:=by
 refine holds_law ws fun said=>?_
 refine open_c (q:=qV) (loose:=looseL) (Xt:=fun _=>true) (Yf:=fun s=>s.heap) (Ya:=fun w=>H1 w.params) (N:=40000) (d:=((defOf qV s243).get (by decide +kernel)).1) (kwd:=((defOf qV s243).get (by decide +kernel)).2) leftW ?hdef ?hp ?hk (fun _ _=>recFacts_nil (by rfl)) (by rfl) (by assumption) ?ok ?hb ?hw ?hc
 case hdef=>kernel_rfl
 case hp=>kernel_rfl
 case hk=>kernel_rfl
 case ok=>kernel_rfl
 case hb=>exact ⟨rfl,rfl,rfl,rfl,rfl,by decide +kernel⟩
 case hw=>w_witness2
 case hc =>
  intro w s₀ s₁ mg mb G Y fa hmg hg args vals as L hpre hlay hrd hwl hlo
  have hname:((defOf qV s243).get (by decide +kernel)).1.name=s243:=by kernel_rfl
  rw [hname] at hmg
  wrow_args hpre hlay hrd hwl hlo
  rename_i ns _ _ _ _ _ as1 as2 a vs _ hL _ _ _ hI _ hlen _
  have Y':s₀.heap=H1 w.params:=Y
  have hkeep:∀ b o,(H1 w.params).get? b=some o→s₁.heap.get? b=some o:=fun b o e=>L.keeps b o (Y' ▸ e)
  have K3:Frag.In [(3,((H1 w.params).get? 3).getD ⟨.none,none,.plain,#[]⟩)] s₁.heap:=fun b o e=>by
   rw [List.lookup_cons] at e
   split at e
   ·rename_i hb
    cases e
    rw [show b=3 from by simpa using hb]
    exact hkeep _ _ (topThree _)
   ·cases e
  have hfa:=mg_of K3 G.T.g (lawAt w.params)
  rw [hmg] at hfa
  obtain rfl:fa=811:=by cases hfa; rfl
  have hat:=(PySem.W.X.script_at L).1
  have hnone:(H1 w.params).get? a=none:=by
   rw [← Y',hat]
   cases q:s₀.heap.get? s₀.heap.objs.size with
   | none=>rfl
   | some o=>exact absurd (Heap.lt_size q) (Nat.lt_irrefl _)
  refine Mine.G.mono' (fun v s' h=>?_) (m w s₁ a vs ns (by lia) hI hL hkeep hnone hg)
  obtain ⟨rfl,hk,hos,hg'⟩:=h
  exact ⟨.inl ⟨_,_,[],rfl,fun _=>rfl,ReadsW.bool true,by first | rfl | wrow_post,fun _=>⟨List.nodup_nil,fun _ hm=>(nomatch hm)⟩⟩,.of_keep hk,hos,.of_eq hg'⟩
theorem holds_of_plain (pl:Plain):PySem.Challenge.rw_nm0047_01.Holds:=holds_of_mainG (mainG_of pl)
end Mine
end
section
namespace Mine
open PySem
abbrev PF:=Nat→List V→Option V
noncomputable def peSub (x k:V):Option V:=match x with
 | .tup l=>match k with
  | .int n=>idx l n
  | _=>none
 | .sta t=>match sdicAt t with
  | some D=>if isKey k=true then dget D k else none
  | none=>none
 | _=>none
noncomputable def peGet (x k d:V):Option V:=match x with
 | .sta t=>match sdicAt t with
  | some D=>if isKey k=true then some ((dget D k).getD d) else none
  | none=>none
 | _=>none
noncomputable def peBin (op:Operator) (x y:V):Option V:=match x with
 | .int i=>match y with
  | .int j=>match binI op i j with
   | some z=>some (.int z)
   | none=>none
  | _=>none
 | _=>none
noncomputable def peCmp (op:CmpOp) (x y:V):Option Bool:=match op with
 | .Eq=>flatEq x y
 | .In=>match y with
  | .tup l=>memV x l
  | _=>none
 | _=>none
noncomputable def b1 {α β:Type} (o:Option α) (f:α→Option β):Option β:=match o with
 | some a=>f a
 | none=>none
section
variable (cf:PF) (L:LL)
mutual
noncomputable def pe:E→Option V
 | .int i=>some (.int i)
 | .str s=>some (.str s)
 | .loc x=>L x
 | .glo g=>gloAt g
 | .bin op a b=>b1 (pe a) fun x=>b1 (pe b) fun y=>peBin op x y
 | .ife t a b=>b1 (pt t) fun k=>cond k (pe a) (pe b)
 | .tup l=>b1 (pes l) fun vs=>some (.tup vs)
 | .sub a b=>b1 (pe a) fun x=>b1 (pe b) fun y=>peSub x y
 | .call f as=>b1 (pe f) fun x=>b1 (pes as) fun vs=>match x with
  | .sta f=>if (initAt f).isNone=true then cf f vs else none
  | _=>none
 | .met e n as=>if n=t_get then b1 (pe e) fun x=>b1 (pes as) fun vs=>match vs with
   | [k,d]=>peGet x k d
   | _=>none
  else none
 | _=>none
noncomputable def pt:E→Option Bool
 | .cmp op a b=>b1 (pe a) fun x=>b1 (pe b) fun y=>peCmp op x y
 | .bop op l=>pts op l
 | _=>none
noncomputable def pes:List E→Option (List V)
 | []=>some []
 | e::r=>b1 (pe e) fun v=>b1 (pes r) fun vs=>some (v::vs)
noncomputable def pts (op:BoolOp):List E→Option Bool
 | []=>match op with
  | .And=>some true
  | .Or=>some false
 | e::r=>b1 (pt e) fun k=>match op,k with
  | .And,false=>some false
  | .Or,true=>some true
  | _,_=>pts op r
end
end
mutual
noncomputable def px (cf:PF):S→LL→Option (LL ⊕ V)
 | .asg x e,L=>b1 (pe cf L e) fun v=>some (.inl (L.put x v))
 | .swp xs es,L=>b1 (pes cf L es) fun vs=>b1 (bindAll L xs vs) fun L1=>some (.inl L1)
 | .ret e,L=>b1 (pe cf L e) fun v=>some (.inr v)
 | .ifs t a b,L=>b1 (pt cf L t) fun k=>cond k (pxs cf a L) (pxs cf b L)
 | _,_=>none
noncomputable def pxs (cf:PF):List S→LL→Option (LL ⊕ V)
 | [],L=>some (.inl L)
 | s::r,L=>b1 (px cf s L) fun x=>match x with
  | .inl L1=>pxs cf r L1
  | .inr v=>some (.inr v)
end
noncomputable def callP:Nat→PF
 | 0,_,_=>none
 | n+1,f,as=>b1 (fnTab f) fun D=>if as.length=D.arity then b1 (pxs (callP n) D.body (argsL 0 as)) fun x=>match x with
   | .inr v=>some v
   | .inl _=>none
  else none
theorem b1_inv {α β:Type} {o:Option α} {f:α→Option β} {y:β} (h:b1 o f=some y) {P:Prop} (k:∀ a,o=some a→f a=some y→P):P:=by
 induction o using Option.casesOn with
 | none=>exact no_ns h
 | some a=>exact k a rfl h
def CfOk (c:Cx) (d:Nat) (cf:PF):Prop:=∀ f vs v,cf f vs=some v→∀ H,Cl c d f vs H v H
section
variable {c:Cx} {d:Nat} {cf:PF} {L:LL} {H:MH}
theorem sd_el {γ:Type} {t:Nat} {f:List (V × V)→Option γ} {y:γ} (h:(match sdicAt t with | some D=>f D | none=>none)=some y) {P:Prop} (k:∀ D,sdicAt t=some D→f D=some y→P):P:=by
 cases q:sdicAt t with
 | none=>rw [q] at h; exact no_ns h
 | some D=>rw [q] at h; exact k D q h
theorem if_el {γ:Type} {p:Prop} [Decidable p] {x:Option γ} {y:γ} (h:(if p then x else none)=some y) {P:Prop} (k:p→x=some y→P):P:=by
 by_cases q:p
 ·exact k q ((if_pos q).symm.trans h)
 ·exact no_ns ((if_neg q).symm.trans h)
theorem peSub_ok {x k v:V} (h:peSub x k=some v):SubR c H x k v:=by
 induction x using V.casesOn with
 | tup l=>induction k using V.casesOn with
  | int n=>exact sub_t h
  | _=>exact no_ns h
 | sta t=>exact sd_el (f:=fun D=>if isKey k=true then dget D k else none) h fun D hD h=>if_el h fun q h=>sub_s hD q h
 | _=>exact no_ns h
theorem peBin_ok {op:Operator} {x y v:V} (h:peBin op x y=some v):BinR c H op x y v H:=by
 induction x using V.casesOn with
 | int i=>induction y using V.casesOn with
  | int j =>
   have h:(match binI op i j with | some z=>some (V.int z) | none=>none)=some v:=h
   cases hz:binI op i j with
   | none=>rw [hz] at h; exact no_ns h
   | some z=>rw [hz] at h; exact Option.some.inj h ▸ b_int hz
  | _=>exact no_ns h
 | _=>exact no_ns h
theorem q_flat {x y:V} {k:Bool} (h:flatEq x y=some k):CmpR c H .Eq x y k:=by
 rcases flat_inv h with ⟨i,j,rfl,rfl,e⟩ | ⟨i,j,rfl,rfl,e⟩
 ·exact q_ieq e
 ·exact q_seq e
theorem peCmp_ok {op:CmpOp} {x y:V} {k:Bool} (h:peCmp op x y=some k):CmpR c H op x y k:=by
 induction op using CmpOp.casesOn with
 | Eq=>exact q_flat h
 | In=>induction y using V.casesOn with
  | tup l=>exact q_tin h
  | _=>exact no_ns h
 | _=>exact no_ns h
theorem peGet_ok {x k d v:V} (h:peGet x k d=some v):LookR c H x t_get (.blt "dict.get")∧MetR c H x (.blt "dict.get") [k,d] v H:=by
 induction x using V.casesOn with
 | sta t=>exact sd_el (f:=fun D=>if isKey k=true then some ((dget D k).getD d) else none) h fun D hD h=>if_el h fun q h=>Option.some.inj h ▸ ⟨lk_gets hD,mt_gets hD q⟩
 | _=>exact no_ns h
theorem pe_ok (ok:CfOk c d cf) (e:E):(∀ v,pe cf L e=some v→∀ H,Ev c d e L H v H)∧∀ k,pt cf L e=some k→∀ H,Et c d e L H k H :=
 E.rec (motive_1:=fun e=>(∀ v,pe cf L e=some v→∀ H,Ev c d e L H v H)∧∀ k,pt cf L e=some k→∀ H,Et c d e L H k H)
  (motive_2:=fun l=>(∀ vs,pes cf L l=some vs→∀ H,Ea c d l L H vs H)∧∀ op k,pts cf L op l=some k→∀ H,Es c d op l L H k H)
  (fun i=>⟨fun v h H=>Option.some.inj h ▸ d_int,fun _ h=>no_ns h⟩) (fun s=>⟨fun v h H=>Option.some.inj h ▸ d_str,fun _ h=>no_ns h⟩) (fun b=>⟨fun _ h=>no_ns h,fun _ h=>no_ns h⟩) ⟨fun _ h=>no_ns h,fun _ h=>no_ns h⟩ ⟨fun _ h=>no_ns h,fun _ h=>no_ns h⟩ ⟨fun _ h=>no_ns h,fun _ h=>no_ns h⟩
  (fun x=>⟨fun v h H=>d_loc h,fun _ h=>no_ns h⟩) (fun g=>⟨fun v h H=>d_glo h,fun _ h=>no_ns h⟩)
  (fun op a b ha hb=>⟨fun v h H=>by
   refine b1_inv h fun x h1 h=>?_
   refine b1_inv h fun y h2 h=>?_
   exact d_bin (ha.1 x h1 H) (hb.1 y h2 H) (peBin_ok h),fun _ h=>no_ns h⟩)
  (fun a _=>⟨fun _ h=>no_ns h,fun _ h=>no_ns h⟩) (fun a _=>⟨fun _ h=>no_ns h,fun _ h=>no_ns h⟩) (fun a _=>⟨fun _ h=>no_ns h,fun _ h=>no_ns h⟩)
  (fun op a b ha hb=>⟨fun _ h=>no_ns h,fun k h H=>by
   refine b1_inv h fun x h1 h=>?_
   refine b1_inv h fun y h2 h=>?_
   exact t_cmp (ha.1 x h1 H) (hb.1 y h2 H) (peCmp_ok h)⟩)
  (fun o1 o2 a b c _ _ _=>⟨fun _ h=>no_ns h,fun _ h=>no_ns h⟩)
  (fun t a b ht ha hb=>⟨fun v h H=>by
   refine b1_inv h fun k h1 h=>?_
   cases k
   ·exact d_ife (ht.2 _ h1 H) (e_ff (hb.1 v h H))
   ·exact d_ife (ht.2 _ h1 H) (e_tt (ha.1 v h H)),fun _ h=>no_ns h⟩)
  (fun op l hl=>⟨fun _ h=>no_ns h,fun k h H=>t_bop (hl.2 op k h H)⟩)
  (fun l hl=>⟨fun v h H=>by
   refine b1_inv h fun vs h1 h=>?_
   exact Option.some.inj h ▸ d_tup (hl.1 vs h1 H),fun _ h=>no_ns h⟩)
  (fun l _=>⟨fun _ h=>no_ns h,fun _ h=>no_ns h⟩) (fun ks vs _ _=>⟨fun _ h=>no_ns h,fun _ h=>no_ns h⟩) (fun e n _=>⟨fun _ h=>no_ns h,fun _ h=>no_ns h⟩)
  (fun a b ha hb=>⟨fun v h H=>by
   refine b1_inv h fun x h1 h=>?_
   refine b1_inv h fun y h2 h=>?_
   exact d_sub (ha.1 x h1 H) (hb.1 y h2 H) (peSub_ok h),fun _ h=>no_ns h⟩)
  (fun e lo hi st _ _ _ _=>⟨fun _ h=>no_ns h,fun _ h=>no_ns h⟩)
  (fun f as hf hl=>⟨fun v h H=>(by
   refine b1_inv h fun x h1 h=>?_
   refine b1_inv h fun vs h2 h=>?_
   induction x using V.casesOn with
   | sta g =>
    by_cases q:(initAt g).isNone=true
    ·exact d_cal (hf.1 _ h1 H) (hl.1 vs h2 H) (ck_fn (Option.isNone_iff_eq_none.1 q) (ok g vs v ((if_pos q).symm.trans h) H))
    ·exact no_ns ((if_neg q).symm.trans h)
   | _=>exact no_ns h),fun _ h=>no_ns h⟩)
  (fun e n as he hl=>⟨fun v h H=>(by
   by_cases q:n=t_get
   ·refine b1_inv ((if_pos q).symm.trans h) fun x h1 h=>?_
    refine b1_inv h fun vs h2 h=>?_
    induction vs using List.casesOn with
    | nil=>exact no_ns h
    | cons k r =>
     induction r using List.casesOn with
     | nil=>exact no_ns h
     | cons d r =>
      induction r using List.casesOn with
      | nil=>exact q ▸ d_met (he.1 x h1 H) (peGet_ok h).1 (hl.1 _ h2 H) (mk_bl (peGet_ok h).2)
      | cons=>exact no_ns h
   ·exact no_ns ((if_neg q).symm.trans h)),fun _ h=>no_ns h⟩)
  (fun en e ns it _ _=>⟨fun _ h=>no_ns h,fun _ h=>no_ns h⟩)
  ⟨fun vs h H=>Option.some.inj h ▸ a_nil,fun op k h H=>by
   cases op
   ·exact Option.some.inj h ▸ s_and0
   ·exact Option.some.inj h ▸ s_or0⟩
  (fun e r he hr=>⟨fun vs h H=>by
   refine b1_inv h fun v h1 h=>?_
   refine b1_inv h fun ws h2 h=>?_
   exact Option.some.inj h ▸ a_cons (he.1 v h1 H) (hr.1 ws h2 H),fun op k h H=>by
   refine b1_inv h fun x h1 h=>?_
   cases op <;> cases x
   ·exact Option.some.inj h ▸ s_cons (he.2 _ h1 H) k_af
   ·exact s_cons (he.2 _ h1 H) (k_at (hr.2 _ k h H))
   ·exact s_cons (he.2 _ h1 H) (k_of (hr.2 _ k h H))
   ·exact Option.some.inj h ▸ s_cons (he.2 _ h1 H) k_ot⟩) e
theorem pes_ok (ok:CfOk c d cf):∀ {l:List E} {vs:List V},pes cf L l=some vs→Ea c d l L H vs H
 | [],vs,h=>Option.some.inj h ▸ a_nil
 | e::r,vs,h=>by
  refine b1_inv h fun v h1 h=>?_
  refine b1_inv h fun ws h2 h=>?_
  exact Option.some.inj h ▸ a_cons ((pe_ok ok e).1 v h1 H) (pes_ok ok h2)
def PxR (c:Cx) (d:Nat) (L:LL) (H:MH) (k:Fl→LL→Prop):LL ⊕ V→Prop
 | .inl L1=>k .next L1
 | .inr v=>∃ L1,k (.ret v) L1
theorem px_ok (ok:CfOk c d cf) (s:S):∀ L x,px cf s L=some x→∀ H,PxR c d L H (fun fl L1=>Ex c d s L H fl L1 H) x :=
 S.rec (motive_1:=fun s=>∀ L x,px cf s L=some x→∀ H,PxR c d L H (fun fl L1=>Ex c d s L H fl L1 H) x)
  (motive_2:=fun l=>∀ L x,pxs cf l L=some x→∀ H,PxR c d L H (fun fl L1=>Rn c d l L H fl L1 H) x)
  (fun n e L x h H=>by
   refine b1_inv h fun v h1 h=>?_
   cases h
   exact x_asg ((pe_ok ok e).1 v h1 H))
  (fun _ _ _ _ _=>fun _ _ h=>no_ns h)
  (fun xs es L x h H=>by
   refine b1_inv h fun vs h1 h=>?_
   refine b1_inv h fun L1 h2 h=>?_
   cases h
   exact x_swp (pes_ok ok h1) h2)
  (fun _ _=>fun _ _ h=>no_ns h) (fun _ _ _=>fun _ _ h=>no_ns h) (fun _ _ _=>fun _ _ h=>no_ns h) (fun _ _ _ _=>fun _ _ h=>no_ns h) (fun _=>fun _ _ h=>no_ns h)
  (fun e L x h H=>by
   refine b1_inv h fun v h1 h=>?_
   cases h
   exact ⟨L,x_ret ((pe_ok ok e).1 v h1 H) (by cases e <;> first | rfl | cases h1)⟩)
  (fun t a b ha hb L x h H=>by
   refine b1_inv h fun k h1 h=>?_
   have ht:=(pe_ok ok t).2 k h1 H
   cases k
   ·have:=hb L x h H
    cases x with
    | inl L1=>exact x_ifs ht (r_ff this)
    | inr v=>exact this.imp fun L1 q=>x_ifs ht (r_ff q)
   ·have:=ha L x h H
    cases x with
    | inl L1=>exact x_ifs ht (r_tt this)
    | inr v=>exact this.imp fun L1 q=>x_ifs ht (r_tt q))
  (fun _ _ _=>fun _ _ h=>no_ns h) (fun _ _ _ _ _=>fun _ _ h=>no_ns h) (fun _ _ h=>no_ns h) (fun _ _=>fun _ _ h=>no_ns h) (fun _ _ h=>no_ns h)
  (fun L x h H=>Option.some.inj h ▸ r_nil)
  (fun s r hs hr L x h H=>by
   refine b1_inv h fun y h1 h=>?_
   have:=hs L y h1 H
   cases y with
   | inl L1 =>
    have q:=hr L1 x h H
    cases x with
    | inl L2=>exact r_cons this (k_next q)
    | inr v=>exact q.imp fun L2 q=>r_cons this (k_next q)
   | inr v =>
    cases h
    exact this.imp fun L1 q=>r_cons q k_ret) s
theorem pxs_ok (ok:CfOk c d cf):∀ {l:List S} {L:LL} {v:V},pxs cf l L=some (.inr v)→∃ L1,Rn c d l L H (.ret v) L1 H
 | s::r,L,v,h=>by
  refine b1_inv h fun y h1 h=>?_
  have:=px_ok ok s L y h1 H
  cases y with
  | inl L1=>exact (pxs_ok ok h).imp fun L2 q=>r_cons this (k_next q)
  | inr v' =>
   cases h
   exact this.imp fun L1 q=>r_cons q k_ret
theorem callP_ok {n:Nat}:CfOk c n (callP n):=by
 induction n with
 | zero=>intro f vs v h; exact no_ns h
 | succ n ih =>
  intro f vs v h H
  refine b1_inv h fun D h1 h=>?_
  by_cases q:vs.length=D.arity
  ·refine b1_inv ((if_pos q).symm.trans h) fun x h2 h=>?_
   cases x with
   | inl=>exact no_ns h
   | inr w =>
    cases h
    obtain ⟨L1,r⟩:=pxs_ok (H:=H) ih h2
    exact c_ret h1 q r
  ·exact no_ns ((if_neg q).symm.trans h)
end
theorem SetAR.to {c:Cx} {H:MH} {o:V} {u:Str} {v:V} {H1 H2:MH} (h:SetAR c H o u v H1) (e:H1=H2):SetAR c H o u v H2:=e ▸ h
end Mine
end
section
namespace Mine.Q
open PySem
def FreshA (a:Nat):Prop:=sdicAt a=none∧a ≠ 759
theorem new_at (H:MH) (x:MO):(H.new x).o H.n=some x:=if_pos rfl
theorem new_ne {H:MH} {x:MO} {k:Nat} (h:k ≠ H.n):(H.new x).o k=H.o k:=if_neg h
theorem new_lt {H:MH} {x:MO} {k:Nat} (h:k<H.n):(H.new x).o k=H.o k:=if_neg (Nat.ne_of_lt h)
theorem put_at (H:MH) (k:Nat) (x:MO):(H.put k x).o k=some x:=if_pos rfl
theorem put_ne {H:MH} {k j:Nat} {x:MO} (h:j ≠ k):(H.put k x).o j=H.o j:=if_neg h
theorem new_put (H:MH) (x y:MO):(H.new x).put H.n y=H.new y:=by
 unfold MH.put MH.new
 congr 1
 funext k
 by_cases q:k=H.n
 ·rw [if_pos q,if_pos q]
 ·rw [if_neg q,if_neg q]
  exact if_neg q
theorem put_put (H:MH) (k:Nat) (x y:MO):(H.put k x).put k y=H.put k y:=by
 unfold MH.put
 congr 1
 funext j
 by_cases q:j=k
 ·rw [if_pos q,if_pos q]
 ·rw [if_neg q,if_neg q]
  exact if_neg q
theorem put_self {H:MH} {k:Nat} {x:MO} (h:H.o k=some x):H.put k x=H:=by
 cases H with
 | mk n o =>
  unfold MH.put
  congr 1
  funext j
  by_cases q:j=k
  ·rw [if_pos q,q]; exact h.symm
  ·rw [if_neg q]
theorem bitAnd_mask32 (x:Int):Builtin.bitAnd x 4294967295=x % 4294967296:=by
 have hp:∀ n:Nat,n &&& 4294967295=n % 4294967296:=fun n=>Nat.and_two_pow_sub_one_eq_mod n 32
 unfold Builtin.bitAnd
 by_cases h:0≤x
 ·simp only [h,decide_true,show decide ((0:Int)≤4294967295)=true from by decide]
  show (((x.toNat &&& 4294967295:Nat)):Int)=_
  rw [hp]
  lia
 ·simp only [h,decide_false,show decide ((0:Int)≤4294967295)=true from by decide]
  show (4294967295:Int) - (((4294967295 &&& (Builtin.bitNot x).toNat:Nat)):Int)=_
  rw [Nat.and_comm,hp]
  unfold Builtin.bitNot
  lia
theorem bitAnd_3 (x:Int):Builtin.bitAnd x 3=x % 4:=by
 have hp:∀ n:Nat,n &&& 3=n % 4:=fun n=>Nat.and_two_pow_sub_one_eq_mod n 2
 unfold Builtin.bitAnd
 by_cases h:0≤x
 ·simp only [h,decide_true,show decide ((0:Int)≤3)=true from by decide]
  show (((x.toNat &&& 3:Nat)):Int)=_
  rw [hp]
  lia
 ·simp only [h,decide_false,show decide ((0:Int)≤3)=true from by decide]
  show (3:Int) - (((3 &&& (Builtin.bitNot x).toNat:Nat)):Int)=_
  rw [Nat.and_comm,hp]
  unfold Builtin.bitNot
  lia
section
variable {c:Cx} {d:Nat} {L L1 L':LL} {H H1 H2 H3 H':MH} {e a b t:E} {x y z v w:V} {i j:Int} {fl:Fl}
theorem d_msk (p:Ev c d a L H (.int i) H1) (q:Ev c d b L H1 (.int 4294967295) H2):Ev c d (.bin .BitAnd a b) L H (.int (i % 4294967296)) H2:=bitAnd_mask32 i ▸ d_bin p q b_and
theorem d_mkg (p:Ev c d a L H (.int i) H1):Ev c d (.bin .BitAnd a (.glo t_WORD_MASK)) L H (.int (i % 4294967296)) H1:=d_msk p (d_glo (by rfl))
theorem bl_mx {v':Int} (h:(if j > i then j else i)=v'):BltR c H .max [.int i,.int j] (.int v') H:=h ▸ bl_max
end
set_option compiler.extract_closed false in
local macro_rules
 | `(tactic| decreasing_trivial)=>do
  let f (s:String):=(s.splitOn " ").toArray.map fun n=>Lean.mkIdent (Lean.Name.mkSimple n)
  let a:=f "a_nil a_cons r_cons k_next k_ret k_brk r_nil r_tt r_ff e_tt e_ff d_int d_str d_loc o_abs d_tt d_non d_byt d_tup d_lst d_add d_sbt d_mul d_mkg d_sub d_bin d_slc x_sls d_att d_cal"
  let b:=f "ck_bl d_glo d_cmp d_ife d_neg d_inv d_dic0 d_met mk_fn mk_bl s_cons k_af k_ot k_at k_of s_and0 s_or0 x_ret0 x_ret x_asg x_ifs x_exp x_swp x_ast x_sst x_upk x_try g_nil g_nam g_att t_cmp t_bop t_not"
  let c:=f "b_and b_or q_isT q_isN q_niT q_niN bl_max bl_rng1 bl_rng2 bl_ba0"
  let h:=f "q_lt q_ltf q_le q_lef q_gt q_gtf q_ge q_gef q_eq q_eqf q_ne q_nef"
  let r:=f "q_sT q_sF q_eq"
  let u:=f "q_inT q_inF"
  let x:=f "lk_st mt_st lk_fb lk_tob"
  let y:=f "q_isT q_isN k_ret r_nil"
  `(tactic| repeat' (first
   | with_reducible first $[| apply $a:ident]*
   | ((with_reducible apply ck_fn); focus rfl)
   | ((with_reducible apply ck_cl); focus rfl)
   | with_reducible first $[| apply $b:ident]*
   | apply t_of rfl
   | with_reducible first
    | assumption
    $[| apply $c:ident]*
    $[| exact $h:ident (by assumption)]*
    | exact sub_l (by assumption) (by assumption)
   | exact at_of (by with_reducible assumption) rfl rfl (fun _ q=>by cases q)
   | exact lk_of (by with_reducible assumption) (by rfl) (by rfl)
   | exact sub_d (by with_reducible assumption) rfl (by first | with_reducible assumption | rfl)
   | exact sub_s (by rfl) rfl (by first | with_reducible assumption | rfl)
   | exact set_att (by with_reducible assumption) rfl (Nat.le_of_ble_eq_true rfl)
   | first $[| exact $r:ident (by rfl)]*
   | first $[| exact $u:ident (by rfl) (by rfl)]*
   | exact q_eqf (by decide)
   | first $[| exact $x:ident]*
   | exact sub_t rfl
   | first $[| exact $y:ident]*
   | rfl
   | assumption))
structure Mac where
 base:Int
 pc:Int
 steps:Int
 status:Int
 done:Bool
noncomputable def machD (k:Nat) (m:Mac):List (V × V):=[(.str t_base,.int m.base),(.str t_size,.int 1536),(.str t_memory,.obj (k+1)),(.str t_registers,.obj (k+3)),(.str t_pc,.int m.pc),(.str t_output,.obj (k+4)),(.str t_input,.obj (k+5)),(.str t_taken,.int 0),(.str t_steps,.int m.steps),(.str t_status,.int m.status),(.str t_is_done,.bool m.done),(.str t_known,.obj (k+6))]
noncomputable def rd (mem:List UInt8) (i:Nat):Int:=leInt ((mem.drop i).take 4)
noncomputable def wr (mem:List UInt8) (i:Nat) (v:Int):List UInt8:=mem.take i++leBytes 4 v.toNat++mem.drop (i+4)
noncomputable def rg (R:List Int) (j:Nat):Int:=R.getD j 0
theorem leBytes_len:∀ (n x:Nat),(leBytes n x).length=n
 | 0,_=>rfl
 | n+1,x=>congrArg (·+1) (leBytes_len n (x / 256))
theorem wr_len {mem:List UInt8} {i:Nat} {v:Int} (h:mem.length=1536) (hi:i+4≤1536):(wr mem i v).length=1536:=by
 unfold wr
 rw [List.length_append,List.length_append,leBytes_len,List.length_take,List.length_drop,h]
 lia
theorem fmod_pos {x y:Int} (h:0<y):x.fmod y=x % y:=Int.fmod_eq_emod_of_nonneg x (Int.le_of_lt h)
theorem fdiv_pos {x y:Int} (h:0<y):x.fdiv y=x / y:=Int.fdiv_eq_ediv_of_nonneg x (Int.le_of_lt h)
inductive In where
 | addi (d s:Nat) (i:Int)
 | add
 | sub
 | lui (d:Nat) (i:Int)
 | sw (c:Nat) (o:Int)
 | lw (c:Nat) (o:Int)
 | jal (i:Int)
 | jalr (d s:Nat)
 | beq
 | ecall
noncomputable def In.nm:In→Str
 | .addi _ _ _=>t_addi
 | .add=>t_add
 | .sub=>t_sub
 | .lui _ _=>t_lui
 | .sw _ _=>t_sw
 | .lw _ _=>t_lw
 | .jal _=>t_jal
 | .jalr _ _=>t_jalr
 | .beq=>t_beq
 | .ecall=>t_ecall
noncomputable def In.fl:In→List (V × V)
 | .addi d s i=>[(.str t_rd,.int d),(.str t_rs1,.int s),(.str t_imm,.int i)]
 | .add=>[(.str t_rd,.int 2),(.str t_rs1,.int 2),(.str t_rs2,.int 5)]
 | .sub=>[(.str t_rd,.int 2),(.str t_rs1,.int 2),(.str t_rs2,.int 5)]
 | .lui d i=>[(.str t_rd,.int d),(.str t_imm,.int i)]
 | .sw c o=>[(.str t_rs1,.int 2),(.str t_rs2,.int c),(.str t_imm,.int o)]
 | .lw c o=>[(.str t_rd,.int c),(.str t_rs1,.int 2),(.str t_imm,.int o)]
 | .jal i=>[(.str t_rd,.int 1),(.str t_imm,.int i)]
 | .jalr d s=>[(.str t_rd,.int d),(.str t_rs1,.int s),(.str t_imm,.int 0)]
 | .beq=>[(.str t_rs1,.int 10),(.str t_rs2,.int 0),(.str t_imm,.int 12)]
 | .ecall=>[]
noncomputable def In.fm:In→Str
 | .addi _ _ _=>t_I
 | .add=>t_R
 | .sub=>t_R
 | .lui _ _=>t_U
 | .sw _ _=>t_S
 | .lw _ _=>t_I
 | .jal _=>t_J
 | .jalr _ _=>t_I
 | .beq=>t_B
 | .ecall=>t_E
noncomputable def In.im:In→Option Int
 | .addi _ _ i=>some i
 | .add=>none
 | .sub=>none
 | .lui _ i=>some i
 | .sw _ o=>some o
 | .lw _ o=>some o
 | .jal i=>some i
 | .jalr _ _=>some 0
 | .beq=>some 12
 | .ecall=>none
noncomputable def plL:List (Str × List (Str × Nat)):=[(t_I,[(t_rd,7),(t_rs1,15)]),(t_R,[(t_rd,7),(t_rs1,15),(t_rs2,20)]),(t_U,[(t_rd,7)]),(t_J,[(t_rd,7)]),(t_S,[(t_rs1,15),(t_rs2,20)]),(t_B,[(t_rs1,15),(t_rs2,20)])]
noncomputable def In.pl (i:In):List (Str × Nat):=(ascS plL i.fm).getD []
noncomputable def rf (w:Int) (p:Str × Nat):V × V:=(.str p.1,.int (Builtin.bitAnd (w.fdiv (2 ^ p.2)) 31))
noncomputable def imF:Option V→List (V × V)
 | some x=>[(.str t_imm,x)]
 | none=>[]
noncomputable def wN (w:Int):Option V:=callP 2 348 [.int w]
noncomputable def wI (fm:Str) (w:Int):Option V:=callP 2 137 [.str fm,.int w]
noncomputable def nmL:List (Str × Str × Bool):=[(t_addi,t_I,true),(t_add,t_R,false),(t_sub,t_R,false),(t_lui,t_U,true),(t_sw,t_S,true),(t_lw,t_I,true),(t_jal,t_J,true),(t_jalr,t_I,true),(t_beq,t_B,true),(t_ecall,t_E,false)]
structure In.Ok (i:In) (w:Int):Prop where
 n:wN w=some (.str i.nm)
 m:i.im.map V.int=bif i.im.isSome then wI i.fm w else none
 f:i.pl.map (rf w)++imF (i.im.map V.int)=i.fl
theorem In.tab (i:In):ascS nmL i.nm=some (i.fm,i.im.isSome):=by cases i <;> rfl
theorem In.det {w:Int} {i j:In} (h:i.Ok w) (g:j.Ok w):i.nm=j.nm∧i.fl=j.fl:=by
 have e:i.nm=j.nm:=by
  have:=h.n.symm.trans g.n
  injection this with this
  injection this with this
 have e2:(i.fm,i.im.isSome)=(j.fm,j.im.isSome):=Option.some.inj (i.tab.symm.trans (e ▸ j.tab))
 injection e2 with e2 e3
 refine ⟨e,?_⟩
 rw [← h.f,← g.f,h.m,g.m,e2,e3]
 unfold In.pl
 rw [e2]
noncomputable def Out (km k:Nat):Prop:=k<km∨km+6<k
theorem Out.ne {km k:Nat} (o:Out km k) {i:Nat} (h:i≤6):k ≠ km+i:=by
 unfold Out at o
 lia
structure MR (H:MH) (km:Nat) (m:Mac) (R:List Int) (mem:List UInt8) (d:List (V × V)):Prop where
 h:H.o km=some (.dic (machD km m))
 hm:H.o (km+1)=some (.bya mem)
 hr:H.o (km+3)=some (.lst (R.map .int))
 hk:H.o (km+6)=some (.dic d)
 nR:R.length=32
 nM:mem.length=1536
 l:km+6<H.n
 kn:∀ w i v,In.Ok i w→dget d (.int w)=some v→∃ k,v=.tup [.str i.nm,.obj k]∧k<H.n∧Out km k∧H.o k=some (.dic i.fl)
theorem Out.ne0 {km k:Nat} (o:Out km k):k ≠ km:=o.ne (i:=0) (by decide)
noncomputable def Fm (km:Nat) (H H':MH):Prop:=H.n≤H'.n∧∀ k,k<H.n→Out km k→H'.o k=H.o k
noncomputable def Kp (H H':MH):Prop:=H.n≤H'.n∧∀ k,k<H.n→H'.o k=H.o k
theorem Fm.refl {km H}:Fm km H H:=⟨Nat.le_refl _,fun _ _ _=>rfl⟩
theorem Fm.trans {km H H' H''} (x:Fm km H H') (y:Fm km H' H''):Fm km H H'':=⟨Nat.le_trans x.1 y.1,fun k hk hn=>(y.2 k (Nat.lt_of_lt_of_le hk x.1) hn).trans (x.2 k hk hn)⟩
theorem Fm.put {km H x} {i:Nat} (h:i≤6):Fm km H (H.put (km+i) x):=⟨Nat.le_refl _,fun k _ o=>put_ne (o.ne h)⟩
theorem Kp.refl {H}:Kp H H:=⟨Nat.le_refl _,fun _ _=>rfl⟩
theorem Kp.trans {H H' H''} (x:Kp H H') (y:Kp H' H''):Kp H H'':=⟨Nat.le_trans x.1 y.1,fun k hk=>(y.2 k (Nat.lt_of_lt_of_le hk x.1)).trans (x.2 k hk)⟩
theorem Kp.new {H x}:Kp H (H.new x):=⟨Nat.le_succ _,fun _ hk=>new_lt hk⟩
theorem Kp.put {H H':MH} {k x} (e:Kp H H') (h:H.n≤k):Kp H (H'.put k x):=⟨e.1,fun _ hj=>(put_ne (Nat.ne_of_lt (Nat.lt_of_lt_of_le hj h))).trans (e.2 _ hj)⟩
theorem Kp.fm {km H H'} (x:Kp H H'):Fm km H H':=⟨x.1,fun k hk _=>x.2 k hk⟩
theorem MR.keep {H:MH} {km:Nat} {m:Mac} {R:List Int} {mem:List UInt8} {d:List (V × V)} (M:MR H km m R mem d) {H':MH} (k:Kp H H'):MR H' km m R mem d :=
 have le (i:Nat) (h:i≤6):km+i<H.n:=Nat.lt_of_le_of_lt (Nat.add_le_add_left h _) M.l
 ⟨(k.2 _ (le 0 (by decide))).trans M.h,(k.2 _ (le 1 (by decide))).trans M.hm,(k.2 _ (le 3 (by decide))).trans M.hr,(k.2 _ M.l).trans M.hk,M.nR,M.nM,Nat.lt_of_lt_of_le M.l k.1,fun w i v hi hd=>by
  obtain ⟨j,e,hj,o,ho⟩:=M.kn w i v hi hd
  exact ⟨j,e,Nat.lt_of_lt_of_le hj k.1,o,(k.2 _ hj).trans ho⟩⟩
theorem ne_add (k:Nat) {i j:Nat} (h:i ≠ j):k+i ≠ k+j:=fun q=>h (Nat.add_left_cancel q)
theorem MR.setR {H:MH} {km:Nat} {m:Mac} {R:List Int} {mem:List UInt8} {d:List (V × V)} (M:MR H km m R mem d) {R':List Int} (hl:R'.length=32):MR (H.put (km+3) (.lst (R'.map .int))) km m R' mem d :=
 ⟨(put_ne (ne_add _ (by decide:0 ≠ 3))).trans M.h,(put_ne (ne_add _ (by decide))).trans M.hm,put_at _ _ _,(put_ne (ne_add _ (by decide))).trans M.hk,hl,M.nM,M.l,fun w i v hi hd=>by
  obtain ⟨j,e,hj,o,ho⟩:=M.kn w i v hi hd
  exact ⟨j,e,hj,o,(put_ne (o.ne (by decide))).trans ho⟩⟩
theorem MR.setMem {H:MH} {km:Nat} {m:Mac} {R:List Int} {mem:List UInt8} {d:List (V × V)} (M:MR H km m R mem d) {mem':List UInt8} (hl:mem'.length=1536):MR (H.put (km+1) (.bya mem')) km m R mem' d :=
 ⟨(put_ne (ne_add _ (by decide:0 ≠ 1))).trans M.h,put_at _ _ _,(put_ne (ne_add _ (by decide))).trans M.hr,(put_ne (ne_add _ (by decide))).trans M.hk,M.nR,hl,M.l,fun w i v hi hd=>by
  obtain ⟨j,e,hj,o,ho⟩:=M.kn w i v hi hd
  exact ⟨j,e,hj,o,(put_ne (o.ne (by decide))).trans ho⟩⟩
theorem MR.setM {H:MH} {km:Nat} {m:Mac} {R:List Int} {mem:List UInt8} {d:List (V × V)} (M:MR H km m R mem d) (m':Mac):MR (H.put km (.dic (machD km m'))) km m' R mem d :=
 ⟨put_at _ _ _,(put_ne (ne_add _ (by decide:1 ≠ 0))).trans M.hm,(put_ne (ne_add _ (by decide:3 ≠ 0))).trans M.hr,(put_ne (ne_add _ (by decide:6 ≠ 0))).trans M.hk,M.nR,M.nM,M.l,fun w i v hi hd=>by
  obtain ⟨j,e,hj,o,ho⟩:=M.kn w i v hi hd
  exact ⟨j,e,hj,o,(put_ne (o.ne (i:=0) (by decide))).trans ho⟩⟩
theorem key_int {b:V} {i:Int} (h:keyEq b (.int i)=true):b=.int i:=by
 induction b using V.casesOn with
 | int k=>exact congrArg V.int (beq_iff_eq.1 h)
 | _=>exact no_ft h
theorem int_inj {i j:Int} (h:V.int i=V.int j):i=j:=by injection h
theorem int_key {i:Int}:keyEq (.int i) (.int i)=true:=beq_self_eq_true i
theorem dget_dput {i j:Int} {x:V}:∀ {d:List (V × V)},dget (dput d (.int i) x) (.int j)=if i=j then some x else dget d (.int j):=by
 intro d
 induction d with
 | nil =>
  show (if keyEq (.int i) (.int j)=true then some x else none)=_
  by_cases q:i=j
  ·subst q; rw [if_pos int_key,if_pos rfl]
  ·rw [if_neg fun z=>q (int_inj (key_int z)),if_neg q]; rfl
 | cons p r ih =>
  obtain ⟨b,y⟩:=p
  rw [dput_cons,dget_cons]
  by_cases q1:keyEq b (.int i)=true
  ·rw [if_pos q1,dget_cons,key_int q1]
   by_cases q:i=j
   ·subst q; rw [if_pos int_key,if_pos rfl]
   ·have n:¬ keyEq (.int i) (.int j)=true:=fun z=>q (int_inj (key_int z))
    rw [if_neg n,if_neg q,if_neg n]
  ·rw [if_neg q1,dget_cons,ih]
   by_cases q:keyEq b (.int j)=true
   ·rw [if_pos q,if_pos q,if_neg fun z:i=j=>q1 (z ▸ q)]
   ·rw [if_neg q,if_neg q]
theorem dput_len {k x:V}:∀ {d:List (V × V)},(dput d k x).length≤d.length+1:=by
 intro d
 induction d with
 | nil=>exact Nat.le_refl _
 | cons p r ih =>
  obtain ⟨b,y⟩:=p
  show (if keyEq b k=true then (b,x)::r else (b,y)::dput r k x).length≤_
  by_cases q:keyEq b k=true
  ·rw [if_pos q]; exact Nat.le_succ _
  ·rw [if_neg q]; exact Nat.succ_le_succ ih
theorem MR.setK {H:MH} {km:Nat} {m:Mac} {R:List Int} {mem:List UInt8} {d:List (V × V)} (M:MR H km m R mem d) {w:Int} {i:In} {k:Nat} (hi:i.Ok w) (hk:k<H.n) (o:Out km k) (ho:H.o k=some (.dic i.fl)) :
  MR (H.put (km+6) (.dic (dput d (.int w) (.tup [.str i.nm,.obj k])))) km m R mem (dput d (.int w) (.tup [.str i.nm,.obj k])) :=
 ⟨(put_ne (ne_add _ (by decide:0 ≠ 6))).trans M.h,(put_ne (ne_add _ (by decide))).trans M.hm,(put_ne (ne_add _ (by decide))).trans M.hr,put_at _ _ _,M.nR,M.nM,M.l,fun w' i' v hi' hd=>by
  rw [dget_dput] at hd
  by_cases q:w=w'
  ·subst q
   rw [if_pos rfl] at hd
   cases hd
   obtain ⟨e1,e2⟩:=In.det hi' hi
   rw [e1,e2]
   exact ⟨k,rfl,hk,o,(put_ne (o.ne (by decide))).trans ho⟩
  ·rw [if_neg q] at hd
   obtain ⟨j,e,hj,oj,hh⟩:=M.kn w' i' v hi' hd
   exact ⟨j,e,hj,oj,(put_ne (oj.ne (by decide))).trans hh⟩⟩
theorem MR.idx {H:MH} {km:Nat} {m:Mac} {R:List Int} {mem:List UInt8} {d:List (V × V)} (M:MR H km m R mem d) {j:Nat} (hj:j<32):idx (R.map V.int) (j:Int)=some (.int (rg R j)):=by
 have e1:¬ (R.map V.int).length > 100000:=by rw [List.length_map,M.nR]; decide
 unfold Mine.idx
 rw [if_neg e1,if_pos (Int.natCast_nonneg j),Int.toNat_natCast,List.getElem?_map]
 have h:j<R.length:=by rw [M.nR]; exact hj
 rw [List.getElem?_eq_getElem h]
 unfold rg
 rw [List.getD_eq_getElem?_getD,List.getElem?_eq_getElem h]
 rfl
section
variable {c:Cx} {H:MH} {km:Nat} {m:Mac} {R:List Int} {mem:List UInt8} {d:List (V × V)}
theorem place_of {ad sz:Int} (M:MR H km m R mem d) (h0:0≤ad - m.base) (h1:0≤sz) (h2:ad - m.base+sz≤1536):Cl c 1 667 [.ins 754 km,.int ad,.int sz] H (.int (ad - m.base)) H:=by
 have h:=M.h
 have e1:=Int.not_lt.2 h0
 have e2:=Int.not_lt.2 h1
 have e3:¬ ad - m.base+sz > 1536:=Int.not_lt.2 h2
 exact c_ret (by rfl) rfl (by unfold f_Machine_place_of; decreasing_trivial)
structure Ad (m:Mac) (ad:Int):Prop where
 a0:0≤ad - m.base
 a1:ad - m.base+4≤1536
 a4:ad % 4=0
theorem place_for {ad:Int} (M:MR H km m R mem d) (A:Ad m ad):Cl c 2 674 [.ins 754 km,.int ad,.int 4] H (.int (ad - m.base)) H:=by
 have h:=M.h
 have hp:=place_of (c:=c) (sz:=4) M A.a0 (by decide) A.a1
 have e1:=b_mod (c:=c) (H:=H) (i:=ad) (j:=4) (by decide)
 rw [fmod_pos (by decide),A.a4] at e1
 exact c_ret (by rfl) rfl (by unfold f_Machine_place_for; exact r_cons (x_ifs (t_cmp (d_bin (d_loc rfl) (d_loc rfl) e1) d_int (q_nef rfl)) (r_ff r_nil)) (k_next (by decreasing_trivial)))
theorem take4 {mem:List UInt8} {i:Nat}:((mem.drop i).take 4).length≤8:=by
 rw [List.length_take]
 exact Nat.le_trans (Nat.min_le_left _ _) (by decide)
noncomputable def ldH (H:MH) (m:Mac) (mem:List UInt8) (ad:Int):MH:=H.new (.bya ((mem.drop (ad - m.base).toNat).take 4))
theorem Ad.nat {m:Mac} {ad:Int} (A:Ad m ad):∃ n:Nat,ad - m.base=n∧n+4≤1536:=⟨(ad - m.base).toNat,(Int.toNat_of_nonneg A.a0).symm,by have:=A.a0; have:=A.a1; lia⟩
theorem load {ad:Int} (M:MR H km m R mem d) (A:Ad m ad):Cl c 3 681 [.ins 754 km,.int ad,.int 4] H (.int (rd mem (ad - m.base).toNat)) (ldH H m mem ad):=by
 have h:=M.h
 have hp:=place_for (c:=c) M A
 unfold ldH rd
 obtain ⟨n,e,hn⟩:=A.nat
 rw [e] at hp ⊢
 rw [Int.toNat_natCast]
 have e1:=slc_b (c:=c) (x:=n) (y:=n+4) M.hm (Nat.le_add_right ..) (M.nM.symm ▸ hn) (by rw [M.nM]; decide)
 rw [Nat.add_sub_cancel_left] at e1
 have e2:=mt_fb (c:=c) (new_at H (.bya ((mem.drop n).take 4))) take4
 exact c_ret (by rfl) rfl (by
  unfold f_Machine_load
  exact r_cons (x_asg (d_met (d_loc rfl) (lk_of h rfl rfl) (a_cons (d_loc rfl) (a_cons (d_loc rfl) a_nil)) (mk_fn hp))) (k_next (r_cons (x_ret (d_met (d_glo (by rfl)) lk_fb (a_cons (d_slc (d_att (d_loc rfl) (at_of h rfl rfl (fun _ q=>by cases q))) (o_of (fun _=>rfl) (d_loc rfl)) (o_of (fun _=>rfl) (d_add (d_loc rfl) (d_loc rfl))) o_abs e1) (a_cons d_str a_nil)) (mk_bd e2))) k_ret)))
noncomputable def stH (H:MH) (km:Nat) (m:Mac) (mem:List UInt8) (ad v:Int):MH:=H.put (km+1) (.bya (wr mem (ad - m.base).toNat (v % 4294967296)))
theorem store {ad v:Int} (M:MR H km m R mem d) (A:Ad m ad):Cl c 3 688 [.ins 754 km,.int ad,.int 4,.int v] H .none (stH H km m mem ad v):=by
 have h:=M.h
 have hp:=place_for (c:=c) M A
 unfold stH wr
 obtain ⟨n,e,hn⟩:=A.nat
 rw [e] at hp ⊢
 rw [Int.toNat_natCast]
 have e0:0≤v % 4294967296:=Int.emod_nonneg _ (by decide)
 have e00:v % 4294967296<4294967296:=Int.emod_lt_of_pos _ (by decide)
 have hx:v % 4294967296=((v % 4294967296).toNat:Int):=(Int.toNat_of_nonneg e0).symm
 have hb:=mt_tob (c:=c) (H:=H) (x:=(v % 4294967296).toNat) (n:=4) (by decide) (by lia)
 rw [← hx] at hb
 have hl:=leBytes_len 4 (v % 4294967296).toNat
 have hs:=ssl (c:=c) (x:=n) (e:=leBytes 4 (v % 4294967296).toNat) M.hm (by rw [hl,M.nM]; exact hn) (by rw [M.nM]; decide)
 rw [hl] at hs
 exact c_end (by rfl) rfl (by
  unfold f_Machine_store
  exact r_cons (x_asg (d_met (d_loc rfl) (lk_of h rfl rfl) (a_cons (d_loc rfl) (a_cons (d_loc rfl) a_nil)) (mk_fn hp))) (k_next (r_cons (x_asg (d_msk (d_loc rfl) (d_sbt (i:=4294967296) (j:=1) (d_bin (x:=.int 1) (y:=.int 32) (z:=.int 4294967296) d_int (d_mul (i:=8) (j:=4) d_int (d_loc rfl) (by rfl) (by rfl)) (b_shl (i:=1) (j:=32) (by decide) (by decide) (by rfl))) d_int))) (k_next (r_cons (x_sls (d_met (d_loc rfl) lk_tob (a_cons (d_loc rfl) (a_cons d_str a_nil)) (mk_bl hb)) (d_att (d_loc rfl) (at_of h rfl rfl (fun _ q=>by cases q))) (o_of (fun _=>rfl) (d_loc rfl)) (o_of (fun _=>rfl) (d_add (d_loc rfl) (d_loc rfl))) hs) (k_next r_nil))))))
end
theorem In.fl_dput (i:In):i.fl.foldl (fun d f=>dput d f.1 f.2) []=i.fl:=by cases i <;> rfl
noncomputable def pv (p:Str × Nat):V:=.tup [.str p.1,.int p.2]
theorem places_of {c:Cx} {w:Int} {nm form:Str} {H:MH} {l0:List (Str × Nat)}:∀ {l:List (Str × Nat)} {acc:List (V × V)} {i:Nat} {L:LL},l0.drop i=l→L 0=some (.int w)→L 3=some (.obj H.n)→L 2=some (.str form)→L 1=some (.str nm)→acc.length+l.length≤1000 →
  ∃ L',Fo c 2 false [4,5] [.sst (.loc 3) (.loc 4) (.bin .BitAnd (.bin .RShift (.loc 0) (.loc 5)) (.int 31))] (.tup (l0.map pv)) (l.length+1) i L (H.new (.dic acc)) .next L' (H.new (.dic ((l.map (rf w)).foldl (fun d f=>dput d f.1 f.2) acc)))∧L' 0=some (.int w)∧L' 3=some (.obj H.n)∧L' 2=some (.str form)∧L' 1=some (.str nm):=by
 intro l
 induction l with
 | nil =>
  intro acc i L e h0 h3 h2 h1 _
  refine ⟨L,f_end (congrArg some ?_),h0,h3,h2,h1⟩
  rw [List.getElem?_map,← Nat.add_zero i,← List.getElem?_drop,e]; rfl
 | cons x r ih =>
  intro acc i L e h0 h3 h2 h1 hl
  have e2:l0.drop (i+1)=r:=by rw [← List.drop_drop,e]; rfl
  obtain ⟨L',q,g⟩:=ih (acc:=dput acc (.str x.1) (.int (Builtin.bitAnd (w.fdiv (2 ^ x.2)) 31))) (L:=(L.put 4 (.str x.1)).put 5 (.int x.2)) e2 h0 h3 h2 h1 (by
   have:=dput_len (k:=.str x.1) (x:=.int (Builtin.bitAnd (w.fdiv (2 ^ x.2)) 31)) (d:=acc)
   rw [List.length_cons] at hl
   lia)
  refine ⟨L',f_nx (L1:=(L.put 4 (.str x.1)).put 5 (.int x.2)) (x:=pv x) (congrArg some ?_) rfl ?_ q,g⟩
  ·rw [List.getElem?_map,← Nat.add_zero i,← List.getElem?_drop,e]; rfl
  ·have sd:=set_d (c:=c) (v:=.int (Builtin.bitAnd (w.fdiv (2 ^ x.2)) 31)) (y:=.str x.1) (new_at H (.dic acc)) rfl (by lia)
   rw [new_put] at sd
   exact r_cons (x_sst (d_bin (d_bin (d_loc h0) (d_loc rfl) (b_shr (Int.natCast_nonneg x.2))) d_int b_and) (d_loc h3) (d_loc rfl) sd) (k_next r_nil)
theorem In.k (i:In):((i.nm == t_x)=false∧∃ n,dget d_INSTRUCTIONS (.str i.nm)=some (.tup [.str i.fm,.int n]))∧dget d_PLACES (.str i.fm)=some (.tup (i.pl.map pv))∧(dget d_BOUNDS (.str i.fm)).isSome=i.im.isSome∧i.pl.length≤3:=by
 cases i <;> exact ⟨⟨rfl,_,rfl⟩,rfl,rfl,Nat.le_of_ble_eq_true rfl⟩
theorem dput_fold:∀ {l D:List (V × V)},(l.foldl (fun d f=>dput d f.1 f.2) D).length≤D.length+l.length
 | [],_=>Nat.le_refl _
 | f::l,D=>by
  have:=dput_fold (l:=l) (D:=dput D f.1 f.2)
  have:=dput_len (k:=f.1) (x:=f.2) (d:=D)
  rw [List.length_cons,List.foldl_cons]
  lia
theorem im_of {c:Cx} {i:In} {w:Int} {H H1:MH} {L:LL} {D:List (V × V)} (e:∀ {x},i.im=some x→Cl c 2 137 [.str i.fm,.int w] H1 (.int x) H1) (h0:L 0=some (.int w)) (h3:L 3=some (.obj H.n)) (h2:L 2=some (.str i.fm)) (hH:H1=H.new (.dic D)) (hl:D.length≤4):Ex c 2 (.ifs (.cmp .In (.loc 2) (.glo t_BOUNDS)) [.sst (.loc 3) (.str t_imm) (.call (.glo t_imm_of) [.loc 2,.loc 0])] []) L H1 .next L (H.new (.dic ((imF (i.im.map V.int)).foldl (fun d f=>dput d f.1 f.2) D))):=by
 have k:=i.k.2.2.1
 have hb:sdicAt 116=some d_BOUNDS:=rfl
 subst hH
 cases hx:i.im with
 | none =>
  rw [hx] at k
  exact x_ifs (t_cmp (d_loc h2) (d_glo rfl) (q_inF hb k)) (r_ff r_nil)
 | some x =>
  rw [hx] at k
  have sd:=set_d (c:=c) (v:=.int x) (y:=.str t_imm) (new_at H (.dic D)) rfl (by lia)
  rw [new_put] at sd
  exact x_ifs (t_cmp (d_loc h2) (d_glo rfl) (q_inT hb k)) (r_tt (r_cons (x_sst (d_cal (d_glo rfl) (a_cons (d_loc h2) (a_cons (d_loc h0) a_nil)) (ck_fn rfl (e hx))) (d_loc h3) d_str sd) (k_next r_nil)))
theorem Ok_of {c:Cx} {i:In} {w:Int} {H:MH} (a:Cl c 2 348 [.int w] H (.str i.nm) H) (b:i.pl.map (rf w)++imF (i.im.map V.int)=i.fl) (e:∀ {H x},i.im=some x→Cl c 2 137 [.str i.fm,.int w] H (.int x) H):Cl c 3 355 [.int w] H (.tup [.str i.nm,.obj H.n]) (H.new (.dic i.fl)):=by
 obtain ⟨⟨k1,n,k2⟩,k3,k4,k5⟩:=i.k
 have s1:sdicAt 42=some d_INSTRUCTIONS:=rfl
 have s2:sdicAt 93=some d_PLACES:=rfl
 obtain ⟨L',q,h0,h3,h2,h1⟩:=places_of (c:=c) (w:=w) (nm:=i.nm) (form:=i.fm) (H:=H) (l0:=i.pl) (l:=i.pl) (acc:=[]) (i:=0) (L:=(((argsL 0 [.int w]).put 1 (.str i.nm)).put 2 (.str i.fm)).put 3 (.obj H.n)) rfl rfl rfl rfl rfl (by rw [List.length_nil]; lia)
 have hl:((i.pl.map (rf w)).foldl (fun d f=>dput d f.1 f.2) []).length≤4:=Nat.le_trans dput_fold (by rw [List.length_nil,List.length_map]; lia)
 refine c_ret (L':=L') (by rfl) rfl ?_
 unfold f_decode
 refine r_cons (x_asg (d_cal (d_glo rfl) (a_cons (d_loc rfl) a_nil) (ck_fn rfl a))) (k_next ?_)
 refine r_cons (x_ifs (t_cmp (d_loc rfl) d_str (q_sF k1)) (r_ff r_nil)) (k_next ?_)
 refine r_cons (x_asg (d_sub (d_sub (d_glo rfl) (d_loc rfl) (sub_s s1 rfl k2)) d_int (sub_t rfl))) (k_next ?_)
 refine r_cons (x_asg d_dic0) (k_next ?_)
 refine r_cons (x_fo (d_sub (d_glo rfl) (d_loc rfl) (sub_s s2 rfl k3)) rfl rfl rfl q) (k_next ?_)
 refine r_cons (im_of (i:=i) e h0 h3 h2 rfl hl) (k_next (r_cons (x_ret ?_) k_ret))
 rw [← List.foldl_append,b,In.fl_dput]
 exact d_tup (a_cons (d_loc h1) (a_cons (d_loc h3) a_nil))
theorem In.Ok.dec {i:In} {w:Int} (h:i.Ok w) (c:Cx) (H:MH):Cl c 3 355 [.int w] H (.tup [.str i.nm,.obj H.n]) (H.new (.dic i.fl)) :=
 Ok_of (callP_ok _ _ _ h.n H) h.f fun {H x} e=>callP_ok _ _ _ (by
  have:=h.m
  rw [e] at this
  exact this.symm) H
section
variable {c:Cx} {H:MH} {km:Nat} {m:Mac} {R:List Int} {mem:List UInt8} {d:List (V × V)}
theorem set_l {k i:Nat} {l:List V} {v:V} (h:H.o k=some (.lst l)) (hi:i<l.length) (hl:l.length≤100000):SetR c H (.obj k) (.int i) v (H.put k (.lst (l.set i v))):=Mine.set_l h (Int.natCast_nonneg _) (Int.ofNat_lt.2 hi) hl
noncomputable def puH (H:MH) (km:Nat) (R:List Int) (j:Nat) (v:Int):MH:=H.put (km+3) (.lst ((R.set j (v % 4294967296)).map .int))
theorem put_of {j:Nat} {v:Int} (M:MR H km m R mem d) (h0:j ≠ 0) (hj:j<32):Cl c 1 702 [.ins 754 km,.int j,.int v] H .none (puH H km R j v):=by
 have h:=M.h
 have e1:¬ (j:Int)=0:=by lia
 have nl:(R.map V.int).length=32:=by rw [List.length_map,M.nR]
 have e2:=set_l (c:=c) (v:=.int (v % 4294967296)) M.hr (by rw [nl]; exact hj) (by rw [nl]; decide)
 rw [← List.map_set] at e2
 exact c_end (by rfl) rfl (by
  unfold f_Machine_put
  apply r_cons
  ·apply x_ifs
   ·decreasing_trivial
   apply r_tt
   apply r_cons
   ·apply x_sst (d_msk (d_loc rfl) (d_glo (by rfl)))
    all_goals decreasing_trivial
   decreasing_trivial
  decreasing_trivial)
theorem put_0 {v:Int}:Cl c 1 702 [.ins 754 km,.int ((0:Nat):Int),.int v] H .none H:=by
 have e1:((0:Nat):Int)=0:=rfl
 exact c_end (by rfl) rfl (by unfold f_Machine_put; decreasing_trivial)
theorem jump_of {t:Int} (M:MR H km m R mem d) (h:t % 4=0):Cl c 1 716 [.ins 754 km,.int t] H .none (H.put km (.dic (machD km { m with pc:=t % 4294967296 }))):=by
 have h1:=M.h
 have e1:=b_and (c:=c) (H:=H) (i:=t) (j:=3)
 rw [bitAnd_3,h] at e1
 have e2:¬ ¬ (0:Int)=0:=fun q=>q rfl
 have e3:=q_nef (c:=c) (H:=H) (i:=0) (j:=0) rfl
 exact c_end (by rfl) rfl (by
  unfold f_Machine_jump
  apply r_cons
  ·apply x_ifs (t_cmp (d_bin (d_loc rfl) d_int e1) d_int e3)
   decreasing_trivial
  apply k_next
  apply r_cons
  ·apply x_ast (d_msk (d_loc rfl) (d_glo (by rfl)))
   all_goals decreasing_trivial
  decreasing_trivial)
theorem added_of {a b:Int}:Cl c 1 488 [.int a,.int b] H (.int (a+b)) H:=c_ret (by rfl) rfl (by unfold f_added; decreasing_trivial)
theorem subtracted_of {a b:Int}:Cl c 1 495 [.int a,.int b] H (.int (a - b)) H:=c_ret (by rfl) rfl (by unfold f_subtracted; decreasing_trivial)
theorem same_t {a b:Int} (h:a=b):Cl c 1 551 [.int a,.int b] H (.int 1) H:=c_ret (by rfl) rfl (by unfold f_same; decreasing_trivial)
theorem same_f {a b:Int} (h:¬ a=b):Cl c 1 551 [.int a,.int b] H (.int 0) H:=c_ret (by rfl) rfl (by unfold f_same; decreasing_trivial)
theorem sg_t {a:Int} (e:(Builtin.bitAnd a 2147483648 != 0)=true):Cl c 1 481 [.int a] H (.int (a - 4294967296)) H:=by
 have e1:truth H (.int (Builtin.bitAnd a 2147483648))=some true:=congrArg some e
 exact c_ret (by rfl) rfl (by unfold f_signed_word; decreasing_trivial)
theorem sg_f {a:Int} (e:(Builtin.bitAnd a 2147483648 != 0)=false):Cl c 1 481 [.int a] H (.int a) H:=by
 have e1:truth H (.int (Builtin.bitAnd a 2147483648))=some false:=congrArg some e
 exact c_ret (by rfl) rfl (by unfold f_signed_word; decreasing_trivial)
structure InAt (H:MH) (km:Nat) (m:Mac) (R:List Int) (mem:List UInt8) (d:List (V × V)) (i:In) (H':MH) (d':List (V × V)) (k:Nat):Prop where
 M:MR H' km m R mem d'
 f:Fm km H H'
 le:d'.length≤d.length+1
 lt:k<H'.n
 o:Out km k
 ho:H'.o k=some (.dic i.fl)
theorem instruction_at_of {pc:Int} {i:In} (M:MR H km m R mem d) (A:Ad m pc) (hi:i.Ok (rd mem (pc - m.base).toNat)) (hd:d.length≤90000) {Gl:Prop} (kG:∀ H' d' k,(Cl c 4 709 [.ins 754 km,.int pc] H (.tup [.str i.nm,.obj k]) H')→(InAt H km m R mem d i H' d' k)→Gl):Gl:=by
 have h:=M.h
 have l:=load (c:=c) M A
 have k1:Kp H (ldH H m mem pc):=.new
 have M1:=M.keep k1
 generalize ldH H m mem pc=H1 at *
 have h1:=M1.h
 have h2:=M1.hk
 generalize hw:rd mem (pc - m.base).toNat=w at *
 cases e:dget d (.int w) with
 | some v =>
  obtain ⟨k,rfl,hk,o,ho⟩:=M1.kn w i v hi e
  have ni:CmpR c H1 .NotIn (.int w) (.obj (km+6)) false:=q_nin M1.hk rfl (by rw [e]; rfl)
  exact kG H1 d k (c_ret (by rfl) rfl (by unfold f_Machine_instruction_at; decreasing_trivial)) ⟨M1,k1.fm,Nat.le_succ _,hk,o,ho⟩
 | none =>
  have ni:CmpR c H1 .NotIn (.int w) (.obj (km+6)) true:=q_nin M1.hk rfl (by rw [e]; rfl)
  have dc:=hi.dec c H1
  have k2:Kp H1 (H1.new (.dic i.fl)):=.new
  have M2:=M1.keep k2
  have o:Out km H1.n:=.inr M1.l
  have M3:=M2.setK hi (Nat.lt_succ_self _) o (new_at _ _)
  have h3:=M2.h
  have h4:=M3.h
  have h5:=M3.hk
  have sd:=set_d (c:=c) (y:=.int w) (v:=.tup [.str i.nm,.obj H1.n]) M2.hk rfl (Nat.le_trans hd (by decide))
  have hg:dget (dput d (.int w) (.tup [.str i.nm,.obj H1.n])) (.int w)=some (.tup [.str i.nm,.obj H1.n]):=dget_dput.trans (if_pos rfl)
  refine kG _ _ _ (c_ret (by rfl) rfl (by unfold f_Machine_instruction_at; decreasing_trivial)) ⟨M3,(k1.fm.trans k2.fm).trans (.put (by decide)),dput_len,Nat.lt_succ_self _,o,(put_ne (o.ne (by decide))).trans (new_at _ _)⟩
end
section
variable {c:Cx} {H H1 H2:MH} {km:Nat} {m:Mac} {R:List Int} {mem:List UInt8} {d d1:List (V × V)} {i:In} {k:Nat}
structure At (m:Mac) (mem:List UInt8) (d:List (V × V)) (i:In):Prop where
 run:m.done=false
 ad:Ad m m.pc
 ok:i.Ok (rd mem (m.pc - m.base).toNat)
 sm:d.length≤90000
inductive StepTo (c:Cx) (H:MH) (km:Nat) (d:List (V × V)) (m':Mac) (R':List Int) (mem':List UInt8):Prop
 | mk (H':MH) (d':List (V × V)) (h1:Cl c 5 723 [.ins 754 km] H .none H') (h2:MR H' km m' R' mem' d') (h3:Fm km H H') (h4:d'.length≤d.length+1):StepTo c H km d m' R' mem'
noncomputable def stI:S:=match f_Machine_step.body with
 | [_,_,s,_]=>s
 | _=>.stuck
noncomputable def Lk (km:Nat) (i:In) (k:Nat):LL:=((argsL 0 [.ins 754 km]).put 1 (.str i.nm)).put 2 (.obj k)
theorem step_of (M:MR H km m R mem d) (A:At m mem d i) {m2:Mac} {R2:List Int} {mem2:List UInt8}
  (r:∀ {H1 d1 k},InAt H km m R mem d i H1 d1 k→∃ L' H2,Ex c 4 stI (Lk km i k) H1 .next L' H2∧L' 0=some (.ins 754 km)∧MR H2 km m2 R2 mem2 d1∧Fm km H1 H2):StepTo c H km d { m2 with steps:=m2.steps+1 } R2 mem2:=by
 refine instruction_at_of (c:=c) M A.ad A.ok A.sm fun H1 d1 k e I=>?_
 obtain ⟨L',H2,g,l0,M2,f⟩:=r I
 have h:=M.h
 have e1:AttR c H (.ins 754 km) t_is_done (.bool false):=at_of M.h rfl (congrArg (fun b=>some (V.bool b)) A.run) (fun _ q=>by cases q)
 have h2:H2.o km=some (.dic (machD km m2)):=M2.h
 have M3:=M2.setM { m2 with steps:=m2.steps+1 }
 refine ⟨_,d1,c_end (L':=L') (by rfl) rfl ?_,M3,(I.f.trans f).trans (.put (i:=0) (by decide)),I.le⟩
 unfold f_Machine_step
 apply r_cons
 ·decreasing_trivial
 apply k_next
 apply r_cons
 ·apply x_upk (vs:=[.str i.nm,.obj k]) (v:=.tup [.str i.nm,.obj k])
  ·decreasing_trivial
  ·rfl
  ·exact g_nam (g_nam g_nil)
 apply k_next
 apply r_cons g
 apply k_next
 apply r_cons
 ·apply x_ast (d_add (d_att (d_loc l0) (at_of h2 rfl rfl (fun _ q=>by cases q))) d_int) (d_loc l0)
  exact set_att h2 rfl (Nat.le_of_ble_eq_true rfl)
 apply k_next
 exact r_nil
theorem step_addi {e s:Nat} {j:Int} (M:MR H km m R mem d) (A:At m mem d (.addi e s j)) (he:e ≠ 0) (he':e<32) (hs:s<32) :
  StepTo c H km d { m with pc:=(m.pc+4) % 4294967296,steps:=m.steps+1 } (R.set e ((rg R s+j % 4294967296) % 4294967296)) mem:=by
 refine step_of (m2:={ m with pc:=(m.pc+4) % 4294967296 }) M A fun {H1 d1 k} I=>?_
 have h1:H1.o km=some (.dic (machD km m)):=I.M.h
 have h2:H1.o (km+3)=_:=I.M.hr
 have h3:H1.o k=some (.dic [(.str t_rd,.int e),(.str t_rs1,.int s),(.str t_imm,.int j)]):=I.ho
 have i1:=M.idx hs
 have pt:=(put_of (c:=c) (v:=rg R s+j % 4294967296) I.M he he').up 3
 have M2:=I.M.setR ((List.length_set (i:=e) (a:=(rg R s+j % 4294967296) % 4294967296)).trans M.nR)
 have h4:(puH H1 km R e (rg R s+j % 4294967296)).o km=_:=M2.h
 have ad:=(added_of (c:=c) (H:=H1) (a:=rg R s) (b:=j % 4294967296)).up 3
 exact ⟨Lk km _ k,_,by show Ex _ _ (.ifs _ _ _) _ _ _ _ _; decreasing_trivial,rfl,M2.setM { m with pc:=(m.pc+4) % 4294967296 },(Fm.put (i:=3) (by decide)).trans (.put (i:=0) (by decide))⟩
theorem step_add (M:MR H km m R mem d) (A:At m mem d .add) :
  StepTo c H km d { m with pc:=(m.pc+4) % 4294967296,steps:=m.steps+1 } (R.set 2 ((rg R 2+rg R 5) % 4294967296)) mem:=by
 refine step_of (m2:={ m with pc:=(m.pc+4) % 4294967296 }) M A fun {H1 d1 k} I=>?_
 have h1:=I.M.h
 have h2:=I.M.hr
 have h3:H1.o k=some (.dic [(.str t_rd,.int 2),(.str t_rs1,.int 2),(.str t_rs2,.int 5)]):=I.ho
 have i1:Mine.idx (R.map V.int) 2=_:=M.idx (j:=2) (by decide)
 have i2:Mine.idx (R.map V.int) 5=_:=M.idx (j:=5) (by decide)
 have pt:Cl c 4 702 [.ins 754 km,.int 2,.int (rg R 2+rg R 5)] H1 .none _:=(put_of (c:=c) (j:=2) I.M (by decide) (by decide)).up 3
 have M2:=I.M.setR ((List.length_set (i:=2) (a:=(rg R 2+rg R 5) % 4294967296)).trans M.nR)
 have h4:(puH H1 km R 2 (rg R 2+rg R 5)).o km=_:=M2.h
 have ad:=(added_of (c:=c) (H:=H1) (a:=rg R 2) (b:=rg R 5)).up 3
 exact ⟨((Lk km .add k).put 3 (.int (rg R 2))).put 4 (.int (rg R 5)),_,by show Ex _ _ (.ifs _ _ _) _ _ _ _ _; decreasing_trivial,rfl,M2.setM { m with pc:=(m.pc+4) % 4294967296 },(Fm.put (i:=3) (by decide)).trans (.put (i:=0) (by decide))⟩
theorem step_sub (M:MR H km m R mem d) (A:At m mem d .sub) :
  StepTo c H km d { m with pc:=(m.pc+4) % 4294967296,steps:=m.steps+1 } (R.set 2 ((rg R 2 - rg R 5) % 4294967296)) mem:=by
 refine step_of (m2:={ m with pc:=(m.pc+4) % 4294967296 }) M A fun {H1 d1 k} I=>?_
 have h1:=I.M.h
 have h2:=I.M.hr
 have h3:H1.o k=some (.dic [(.str t_rd,.int 2),(.str t_rs1,.int 2),(.str t_rs2,.int 5)]):=I.ho
 have i1:Mine.idx (R.map V.int) 2=_:=M.idx (j:=2) (by decide)
 have i2:Mine.idx (R.map V.int) 5=_:=M.idx (j:=5) (by decide)
 have pt:Cl c 4 702 [.ins 754 km,.int 2,.int (rg R 2 - rg R 5)] H1 .none _:=(put_of (c:=c) (j:=2) I.M (by decide) (by decide)).up 3
 have M2:=I.M.setR ((List.length_set (i:=2) (a:=(rg R 2 - rg R 5) % 4294967296)).trans M.nR)
 have h4:(puH H1 km R 2 (rg R 2 - rg R 5)).o km=_:=M2.h
 have ad:=(subtracted_of (c:=c) (H:=H1) (a:=rg R 2) (b:=rg R 5)).up 3
 exact ⟨((Lk km .sub k).put 3 (.int (rg R 2))).put 4 (.int (rg R 5)),_,by show Ex _ _ (.ifs _ _ _) _ _ _ _ _; decreasing_trivial,rfl,M2.setM { m with pc:=(m.pc+4) % 4294967296 },(Fm.put (i:=3) (by decide)).trans (.put (i:=0) (by decide))⟩
theorem step_lead (M:MR H km m R mem d) (A:At m mem d i) {m2:Mac} {R2:List Int} {mem2:List UInt8}
  (hn:(dget d_WITH_NUMBERS (.str i.nm)).isSome=false∧(dget d_WITH_REGISTERS (.str i.nm)).isSome=false∧(dget d_LOADS (.str i.nm)).isSome=false∧(dget d_STORES (.str i.nm)).isSome=false∧(dget d_BRANCHES (.str i.nm)).isSome=false)
  (r:∀ {H1 d1 k},InAt H km m R mem d i H1 d1 k→∃ H2,Cl c 4 737 [.ins 754 km,.str i.nm,.obj k] H1 .none H2∧MR H2 km m2 R2 mem2 d1∧Fm km H1 H2):StepTo c H km d { m2 with steps:=m2.steps+1 } R2 mem2:=by
 refine step_of (m2:=m2) M A fun {H1 d1 k} I=>?_
 obtain ⟨H2,e,M2,f⟩:=r I
 have h1:=I.M.h
 obtain ⟨a1,a2,a3,a4,a5⟩:=hn
 have e1:=q_inF (c:=c) (H:=H1) (d:=638) (by rfl) a1
 have e2:=q_inF (c:=c) (H:=H1) (d:=636) (by rfl) a2
 have e3:=q_inF (c:=c) (H:=H1) (d:=640) (by rfl) a3
 have e4:=q_inF (c:=c) (H:=H1) (d:=646) (by rfl) a4
 have e5:=q_inF (c:=c) (H:=H1) (d:=639) (by rfl) a5
 exact ⟨Lk km i k,H2,by show Ex _ _ (.ifs _ _ _) _ _ _ _ _; decreasing_trivial,rfl,M2,f⟩
theorem step_lui {e:Nat} {j:Int} (M:MR H km m R mem d) (A:At m mem d (.lui e j)) (he:e ≠ 0) (he':e<32) (hi:small j=true) :
  StepTo c H km d { m with pc:=(m.pc+4) % 4294967296,steps:=m.steps+1 } (R.set e (j * 4096 % 4294967296)) mem:=by
 refine step_lead (m2:={ m with pc:=(m.pc+4) % 4294967296 }) M A ⟨by rfl,by rfl,by rfl,by rfl,by rfl⟩ fun {H1 d1 k} I=>?_
 have h1:=I.M.h
 have h3:H1.o k=some (.dic [(.str t_rd,.int e),(.str t_imm,.int j)]):=I.ho
 have pt:=(put_of (c:=c) (v:=j * 4096) I.M he he').up 2
 have M2:=I.M.setR ((List.length_set (i:=e) (a:=j * 4096 % 4294967296)).trans M.nR)
 have h4:(puH H1 km R e (j * 4096)).o km=_:=M2.h
 have sh:BinR c H1 .LShift (.int j) (.int 12) (.int (j * 4096)) H1:=b_shl (j:=12) (by decide) (by decide) hi
 exact ⟨_,c_end (by rfl) rfl (by unfold f_Machine_lead; decreasing_trivial),M2.setM { m with pc:=(m.pc+4) % 4294967296 },(Fm.put (i:=3) (by decide)).trans (.put (i:=0) (by decide))⟩
theorem step_jal {j:Int} (M:MR H km m R mem d) (A:At m mem d (.jal j)) (h4:(m.pc+j) % 4=0) :
  StepTo c H km d { m with pc:=(m.pc+j) % 4294967296,steps:=m.steps+1 } (R.set 1 ((m.pc+4) % 4294967296)) mem:=by
 refine step_lead (m2:={ m with pc:=(m.pc+j) % 4294967296 }) M A ⟨by rfl,by rfl,by rfl,by rfl,by rfl⟩ fun {H1 d1 k} I=>?_
 have h1:=I.M.h
 have h3:H1.o k=some (.dic [(.str t_rd,.int 1),(.str t_imm,.int j)]):=I.ho
 have ju:=(jump_of (c:=c) I.M h4).up 2
 have M1:=I.M.setM { m with pc:=(m.pc+j) % 4294967296 }
 have h5:=M1.h
 have h6:=(put_ne (x:=.dic (machD km { m with pc:=(m.pc+j) % 4294967296 })) I.o.ne0).trans h3
 have pt:Cl c 3 702 [.ins 754 km,.int 1,.int (m.pc+4)] _ .none _:=(put_of (c:=c) (j:=1) (v:=m.pc+4) M1 (by decide) (by decide)).up 2
 have M2:=M1.setR ((List.length_set (i:=1) (a:=(m.pc+4) % 4294967296)).trans M.nR)
 exact ⟨_,c_end (by rfl) rfl (by unfold f_Machine_lead; decreasing_trivial),M2,(Fm.put (i:=0) (by decide)).trans (.put (i:=3) (by decide))⟩
theorem and_m2 {x:Int} (h:x % 2=0):BinR c H .BitAnd (.int x) (.int (-1 - 1)) (.int x) H:=by
 suffices hx:Builtin.bitAnd x (-1 - 1)=x from (congrArg (fun r=>BinR c H .BitAnd (.int x) (.int (-1 - 1)) (.int r) H) hx).mp b_and
 show Builtin.bitAnd x (-2)=x
 have hp:∀ k:Nat,k &&& 1=k % 2:=fun k=>Nat.and_two_pow_sub_one_eq_mod k 1
 unfold Builtin.bitAnd
 by_cases q:0≤x
 ·simp only [q,decide_true,show decide ((0:Int)≤-2)=false from by decide]
  show (x:Int) - (((x.toNat &&& 1:Nat)):Int)=_
  rw [hp]
  lia
 ·simp only [q,decide_false,show decide ((0:Int)≤-2)=false from by decide]
  show Builtin.bitNot (((((Builtin.bitNot x).toNat ||| 1:Nat)):Int))=_
  have ho:∀ k:Nat,k % 2=1→k ||| 1=k:=by
   intro k hk
   apply Nat.eq_of_testBit_eq
   intro i
   rw [Nat.testBit_or]
   induction i using Nat.casesOn with
   | zero=>simp [Nat.testBit_zero,hk]
   | succ i=>simp [Nat.testBit_succ]
  have h1:(Builtin.bitNot x).toNat % 2=1:=by unfold Builtin.bitNot; lia
  rw [ho _ h1]
  unfold Builtin.bitNot
  lia
theorem lead_jalr {e s:Nat} {d1:List (V × V)} {H2:MH} (I:InAt H km m R mem d (.jalr e s) H1 d1 k) (hs:s<32) (h4:rg R s % 4294967296 % 4=0)
  (pt:Cl c 3 702 [.ins 754 km,.int e,.int (m.pc+4)] (H1.put km (.dic (machD km { m with pc:=rg R s % 4294967296 % 4294967296 }))) .none H2):Cl c 4 737 [.ins 754 km,.str t_jalr,.obj k] H1 .none H2:=by
 have h1:=I.M.h
 have h2:=I.M.hr
 have h3:H1.o k=some (.dic [(.str t_rd,.int e),(.str t_rs1,.int s),(.str t_imm,.int 0)]):=I.ho
 have i1:=I.M.idx hs
 have ju:=(jump_of (c:=c) I.M h4).up 2
 have a2:=and_m2 (c:=c) (H:=H1) (x:=(rg R s+0) % 4294967296) (by rw [Int.add_zero]; lia)
 rw [Int.add_zero] at a2
 have a3:(rg R s+0) % 4294967296=rg R s % 4294967296:=by rw [Int.add_zero]
 have a4:BinR c H1 .BitAnd (.int ((rg R s+0) % 4294967296)) (.int (-1 - 1)) (.int (rg R s % 4294967296)) H1:=by rw [a3]; exact a2
 have h6:=(put_ne (x:=.dic (machD km { m with pc:=rg R s % 4294967296 % 4294967296 })) I.o.ne0).trans h3
 have h5:=(I.M.setM { m with pc:=rg R s % 4294967296 % 4294967296 }).h
 exact c_end (by rfl) rfl (by unfold f_Machine_lead; decreasing_trivial)
theorem mod_mod (x:Int):x % 4294967296 % 4294967296=x % 4294967296:=Int.emod_emod_of_dvd _ (Int.dvd_refl _)
theorem step_jalr {e s:Nat} (M:MR H km m R mem d) (A:At m mem d (.jalr e s)) (he:e ≠ 0) (he':e<32) (hs:s<32) (h4:rg R s % 4294967296 % 4=0) :
  StepTo c H km d { m with pc:=rg R s % 4294967296,steps:=m.steps+1 } (R.set e ((m.pc+4) % 4294967296)) mem:=by
 refine step_lead (m2:={ m with pc:=rg R s % 4294967296 }) M A ⟨by rfl,by rfl,by rfl,by rfl,by rfl⟩ fun {H1 d1 k} I=>?_
 have M1:=I.M.setM { m with pc:=rg R s % 4294967296 }
 have M2:=M1.setR ((List.length_set (i:=e) (a:=(m.pc+4) % 4294967296)).trans M.nR)
 exact ⟨_,lead_jalr I hs h4 (by rw [mod_mod]; exact (put_of (c:=c) M1 he he').up 2),M2,(Fm.put (i:=0) (by decide)).trans (.put (i:=3) (by decide))⟩
theorem step_ret {s:Nat} (M:MR H km m R mem d) (A:At m mem d (.jalr 0 s)) (hs:s<32) (h4:rg R s % 4294967296 % 4=0) :
  StepTo c H km d { m with pc:=rg R s % 4294967296,steps:=m.steps+1 } R mem:=by
 refine step_lead (m2:={ m with pc:=rg R s % 4294967296 }) M A ⟨by rfl,by rfl,by rfl,by rfl,by rfl⟩ fun {H1 d1 k} I=>?_
 exact ⟨_,lead_jalr I hs h4 (by rw [mod_mod]; exact (put_0 (c:=c)).up 2),I.M.setM { m with pc:=rg R s % 4294967296 },Fm.put (i:=0) (by decide)⟩
theorem step_beq_t (M:MR H km m R mem d) (A:At m mem d .beq) (hq:rg R 10=rg R 0) (h4:(m.pc+12) % 4=0) :
  StepTo c H km d { m with pc:=(m.pc+12) % 4294967296,steps:=m.steps+1 } R mem:=by
 refine step_of (m2:={ m with pc:=(m.pc+12) % 4294967296 }) M A fun {H1 d1 k} I=>?_
 have h1:=I.M.h
 have h2:=I.M.hr
 have h3:H1.o k=some (.dic [(.str t_rs1,.int 10),(.str t_rs2,.int 0),(.str t_imm,.int 12)]):=I.ho
 have i1:Mine.idx (R.map V.int) 10=_:=M.idx (j:=10) (by decide)
 have i2:Mine.idx (R.map V.int) 0=_:=M.idx (j:=0) (by decide)
 have sa:=(same_t (c:=c) (H:=H1) hq).up 3
 have ju:=(jump_of (c:=c) I.M h4).up 3
 exact ⟨((Lk km .beq k).put 3 (.int (rg R 10))).put 4 (.int (rg R 0)),_,by show Ex _ _ (.ifs _ _ _) _ _ _ _ _; decreasing_trivial,rfl,I.M.setM { m with pc:=(m.pc+12) % 4294967296 },Fm.put (i:=0) (by decide)⟩
theorem step_beq_f (M:MR H km m R mem d) (A:At m mem d .beq) (hq:¬ rg R 10=rg R 0) (h4:(m.pc+4) % 4=0) :
  StepTo c H km d { m with pc:=(m.pc+4) % 4294967296,steps:=m.steps+1 } R mem:=by
 refine step_of (m2:={ m with pc:=(m.pc+4) % 4294967296 }) M A fun {H1 d1 k} I=>?_
 have h1:=I.M.h
 have h2:=I.M.hr
 have h3:H1.o k=some (.dic [(.str t_rs1,.int 10),(.str t_rs2,.int 0),(.str t_imm,.int 12)]):=I.ho
 have i1:Mine.idx (R.map V.int) 10=_:=M.idx (j:=10) (by decide)
 have i2:Mine.idx (R.map V.int) 0=_:=M.idx (j:=0) (by decide)
 have sa:=(same_f (c:=c) (H:=H1) hq).up 3
 have ju:=(jump_of (c:=c) I.M h4).up 3
 exact ⟨((Lk km .beq k).put 3 (.int (rg R 10))).put 4 (.int (rg R 0)),_,by show Ex _ _ (.ifs _ _ _) _ _ _ _ _; decreasing_trivial,rfl,I.M.setM { m with pc:=(m.pc+4) % 4294967296 },Fm.put (i:=0) (by decide)⟩
theorem step_move (M:MR H km m R mem d) (A:At m mem d i) {R2:List Int} {mem2:List UInt8}
  (hn:(dget d_WITH_NUMBERS (.str i.nm)).isSome=false∧(dget d_WITH_REGISTERS (.str i.nm)).isSome=false∧((dget d_LOADS (.str i.nm)).isSome=true∨(dget d_LOADS (.str i.nm)).isSome=false∧(dget d_STORES (.str i.nm)).isSome=true))
  (r:∀ {H1 d1 k},InAt H km m R mem d i H1 d1 k→∃ H2,Cl c 4 730 [.ins 754 km,.str i.nm,.obj k] H1 .none H2∧MR H2 km m R2 mem2 d1∧Fm km H1 H2):StepTo c H km d { m with pc:=(m.pc+4) % 4294967296,steps:=m.steps+1 } R2 mem2:=by
 refine step_of (m2:={ m with pc:=(m.pc+4) % 4294967296 }) M A fun {H1 d1 k} I=>?_
 obtain ⟨H2,e,M2,f⟩:=r I
 have h1:=I.M.h
 have h2:=M2.h
 obtain ⟨a1,a2,a3⟩:=hn
 have e1:=q_inF (c:=c) (H:=H1) (d:=638) (by rfl) a1
 have e2:=q_inF (c:=c) (H:=H1) (d:=636) (by rfl) a2
 rcases a3 with a3 | ⟨a3,a4⟩
 ·have e3:=q_inT (c:=c) (H:=H1) (d:=640) (by rfl) a3
  exact ⟨Lk km i k,_,by show Ex _ _ (.ifs _ _ _) _ _ _ _ _; decreasing_trivial,rfl,M2.setM { m with pc:=(m.pc+4) % 4294967296 },f.trans (.put (i:=0) (by decide))⟩
 ·have e3:=q_inF (c:=c) (H:=H1) (d:=640) (by rfl) a3
  have e4:=q_inT (c:=c) (H:=H1) (d:=646) (by rfl) a4
  exact ⟨Lk km i k,_,by show Ex _ _ (.ifs _ _ _) _ _ _ _ _; decreasing_trivial,rfl,M2.setM { m with pc:=(m.pc+4) % 4294967296 },f.trans (.put (i:=0) (by decide))⟩
theorem step_sw {e:Nat} {o:Int} (M:MR H km m R mem d) (A:At m mem d (.sw e o)) (he:e<32) (B:Ad m ((rg R 2+o) % 4294967296)) :
  StepTo c H km d { m with pc:=(m.pc+4) % 4294967296,steps:=m.steps+1 } R (wr mem ((rg R 2+o) % 4294967296 - m.base).toNat (rg R e % 4294967296)):=by
 refine step_move M A ⟨by rfl,by rfl,.inr ⟨by rfl,by rfl⟩⟩ fun {H1 d1 k} I=>?_
 have h1:=I.M.h
 have h2:=I.M.hr
 have h3:H1.o k=some (.dic [(.str t_rs1,.int 2),(.str t_rs2,.int e),(.str t_imm,.int o)]):=I.ho
 have i1:Mine.idx (R.map V.int) 2=_:=M.idx (j:=2) (by decide)
 have i2:=M.idx he
 have st:=store (c:=c) (v:=rg R e) I.M B
 have a0:=B.a0
 have a1:=B.a1
 exact ⟨_,c_ret (by rfl) rfl (by unfold f_Machine_move; decreasing_trivial),I.M.setMem (wr_len M.nM (by lia)),Fm.put (i:=1) (by decide)⟩
theorem step_lw {e:Nat} {o:Int} (M:MR H km m R mem d) (A:At m mem d (.lw e o)) (he:e<32) (h0:e ≠ 0) (B:Ad m ((rg R 2+o) % 4294967296)) :
  StepTo c H km d { m with pc:=(m.pc+4) % 4294967296,steps:=m.steps+1 } (R.set e (rd mem ((rg R 2+o) % 4294967296 - m.base).toNat % 4294967296)) mem:=by
 refine step_move M A ⟨by rfl,by rfl,.inl (by rfl)⟩ fun {H1 d1 k} I=>?_
 have h1:=I.M.h
 have h2:=I.M.hr
 have h3:H1.o k=some (.dic [(.str t_rd,.int e),(.str t_rs1,.int 2),(.str t_imm,.int o)]):=I.ho
 have i1:Mine.idx (R.map V.int) 2=_:=M.idx (j:=2) (by decide)
 have ld:=load (c:=c) I.M B
 have k1:Kp H1 (ldH H1 m mem ((rg R 2+o) % 4294967296)):=.new
 have M1:=I.M.keep k1
 generalize ldH H1 m mem ((rg R 2+o) % 4294967296)=H2 at *
 have h4:=(k1.2 _ I.lt).trans h3
 have h5:=M1.h
 have pt:=(put_of (c:=c) (v:=rd mem ((rg R 2+o) % 4294967296 - m.base).toNat) M1 h0 he).up 2
 exact ⟨_,c_end (by rfl) rfl (by
  unfold f_Machine_move
  apply r_cons
  ·decreasing_trivial
  apply k_next
  apply r_cons
  ·decreasing_trivial
  apply k_next
  apply r_cons
  ·apply x_upk (v:=.tup [.int 4,.bool false])
   ·decreasing_trivial
   ·rfl
   ·exact g_nam (g_nam g_nil)
  decreasing_trivial),M1.setR ((List.length_set (i:=e) (a:=rd mem ((rg R 2+o) % 4294967296 - m.base).toNat % 4294967296)).trans M.nR),k1.fm.trans (.put (i:=3) (by decide))⟩
theorem step_ecall (M:MR H km m R mem d) (A:At m mem d .ecall) (h:rg R 17=93):∃ st,StepTo c H km d { m with pc:=(m.pc+4) % 4294967296,steps:=m.steps+1,done:=true,status:=st } R mem:=by
 obtain ⟨st,hs⟩:∃ st,∀ H,Cl c 1 481 [.int (rg R 10)] H (.int st) H:=by
  cases e:(Builtin.bitAnd (rg R 10) 2147483648 != 0) with
  | true=>exact ⟨_,fun H=>sg_t e⟩
  | false=>exact ⟨_,fun H=>sg_f e⟩
 refine ⟨st,step_lead (m2:={ m with pc:=(m.pc+4) % 4294967296,done:=true,status:=st }) M A ⟨by rfl,by rfl,by rfl,by rfl,by rfl⟩ fun {H1 d1 k} I=>?_⟩
 have h1:=I.M.h
 have h2:=I.M.hr
 have i1:Mine.idx (R.map V.int) 17=some (.int 93):=by rw [← h]; exact M.idx (j:=17) (by decide)
 have i2:Mine.idx (R.map V.int) 10=_:=M.idx (j:=10) (by decide)
 have M1:=I.M.setM { m with done:=true }
 have h3:=M1.h
 have h4:=M1.hr
 have sw:=(hs (H1.put km (.dic (machD km { m with done:=true })))).up 1
 have M2:=M1.setM { m with done:=true,status:=st }
 have h5:=M2.h
 have s1:SetAR c H1 (.ins 754 km) t_is_done (.bool true) (H1.put km (.dic (machD km { m with done:=true }))):=set_att h1 rfl (Nat.le_of_ble_eq_true rfl)
 have s2:SetAR c (H1.put km (.dic (machD km { m with done:=true }))) (.ins 754 km) t_status (.int st) ((H1.put km (.dic (machD km { m with done:=true }))).put km (.dic (machD km { m with done:=true,status:=st }))):=set_att h3 rfl (Nat.le_of_ble_eq_true rfl)
 have co:Cl c 3 744 [.ins 754 km] H1 .none ((H1.put km (.dic (machD km { m with done:=true }))).put km (.dic (machD km { m with done:=true,status:=st }))):=c_end (by rfl) rfl (by unfold f_Machine_call_out; decreasing_trivial)
 exact ⟨_,c_end (by rfl) rfl (by unfold f_Machine_lead; decreasing_trivial),M2.setM { m with pc:=(m.pc+4) % 4294967296,done:=true,status:=st },((Fm.put (i:=0) (by decide)).trans (.put (i:=0) (by decide))).trans (.put (i:=0) (by decide))⟩
end
noncomputable def okW (p:In × Int):Option V × Option V × List (V × V):=(wN p.2,bif p.1.im.isSome then wI p.1.fm p.2 else none,p.1.pl.map (rf p.2)++imF (p.1.im.map V.int))
noncomputable def okI (p:In × Int):Option V × Option V × List (V × V):=(some (.str p.1.nm),p.1.im.map V.int,p.1.fl)
theorem ok_of {l:List (In × Int)} (h:l.map okW=mpR okI l) {i:In} {w:Int} (m:(i,w) ∈ l):i.Ok w :=
 have e:=List.map_inj_left.1 (h.trans (mpR_eq ..)) _ m
 ⟨congrArg (·.1) e,(congrArg (·.2.1) e).symm,congrArg (·.2.2) e⟩
noncomputable def jalW (far:Int):Int:=239+(far.fdiv 2).fmod 1024 * 2097152+(far.fdiv 2048).fmod 2 * 1048576+((far.fdiv 1048576).fmod 2 * 2147483648+(far.fdiv 4096).fmod 256 * 4096)
theorem jal_ok {x:Int} (h:x % 4=0) (h0:-400≤x) (h1:x≤400):(In.jal x).Ok (jalW x) :=
 ok_of (l:=(List.range 201).map fun k:Nat=>(In.jal ((k:Int) * 4 - 400),jalW ((k:Int) * 4 - 400))) (by kernel_rfl) (List.mem_map.2 ⟨((x+400) / 4).toNat,List.mem_range.2 (by lia),by
  rw [show ((((x+400) / 4).toNat:Nat):Int) * 4 - 400=x by lia]⟩)
noncomputable def numD (N:List (Int × Int)):List (V × V):=N.map fun p=>(.int p.1,.int p.2)
noncomputable def numGet (N:List (Int × Int)) (k:Int):Option Int:=match N with
 | []=>none
 | (a,x)::r=>if (a == k)=true then some x else numGet r k
noncomputable def numPut (N:List (Int × Int)) (k x:Int):List (Int × Int):=match N with
 | []=>[(k,x)]
 | (a,y)::r=>if (a == k)=true then (a,x)::r else (a,y)::numPut r k x
theorem numD_get {k:Int}:∀ {N:List (Int × Int)},dget (numD N) (.int k)=(numGet N k).map .int
 | []=>rfl
 | p::r=>by
  show (if (p.1 == k)=true then some (V.int p.2) else dget (numD r) _)=Option.map _ (if _ then _ else _)
  by_cases q:(p.1 == k)=true
  ·rw [if_pos q,if_pos q]; rfl
  ·rw [if_neg q,if_neg q,numD_get]
theorem numD_put {k x:Int}:∀ {N:List (Int × Int)},dput (numD N) (.int k) (.int x)=numD (numPut N k x)
 | []=>rfl
 | p::r=>by
  show (if (p.1 == k)=true then (V.int p.1,V.int x)::numD r else (V.int p.1,V.int p.2)::dput (numD r) _ _)=numD (if _ then _ else _)
  by_cases q:(p.1 == k)=true
  ·rw [if_pos q,if_pos q]; rfl
  ·rw [if_neg q,if_neg q,numD_put]; rfl
theorem numD_len {N:List (Int × Int)}:(numD N).length=N.length:=List.length_map ..
theorem numPut_len {N:List (Int × Int)} {k x:Int}:(numPut N k x).length≤N.length+1:=by
 rw [← numD_len,← numD_put,← numD_len (N:=N)]; exact dput_len
noncomputable def lowP (N:List (Int × Int)):In→Int
 | .addi d s i=>if d=2∧s=2 then (if -i > 0 then -i else 0) else 0
 | .sub=>(numGet N 5).getD 0
 | _=>0
noncomputable def noteP (N:List (Int × Int)):In→Option (List (Int × Int))
 | .lui d i=>if d ≠ 2 then some (numPut N d (i * 4096 % 4294967296)) else none
 | .addi d s i=>if d ≠ 2∧(s=0∨s=d) then some (numPut N d (((if s ≠ 0 then (numGet N s).getD 0 else 0)+i) % 4294967296)) else none
 | _=>none
section
variable {c:Cx} {H:MH} {km kf kn:Nat} {m:Mac} {R:List Int} {mem:List UInt8} {d:List (V × V)} {i:In} {N:List (Int × Int)} {nm:Str}
theorem num_get {k:Int} (hn:H.o kn=some (.dic (numD N))):MetR c H (.obj kn) (.blt "dict.get") [.int k,.int 0] (.int ((numGet N k).getD 0)) H:=by
 have h:=mt_get (c:=c) (df:=.int 0) hn (show isKey (.int k)=true from rfl)
 rw [numD_get] at h
 cases q:numGet N k <;> rw [q] at h <;> exact h
theorem num_set {k x:Int} (hn:H.o kn=some (.dic (numD N))) (hl:N.length≤90000):SetR c H (.obj kn) (.int k) (.int x) (H.put kn (.dic (numD (numPut N k x)))):=by
 rw [← numD_put]
 exact set_d hn rfl (by rw [numD_len]; exact Nat.le_trans hl (by decide))
noncomputable def ioH (H:MH) (m:Mac) (mem:List UInt8) (ad:Int) (i:In):MH:=(ldH H m mem ad).new (.dic i.fl)
theorem ioH_k {ad:Int}:Kp H (ioH H m mem ad i):=Kp.trans .new .new
theorem instruction_of_of (M:MR H km m R mem d) {ad:Int} (A:Ad m ad) (hi:i.Ok (rd mem (ad - m.base).toNat)) :
  Cl c 4 411 [.ins 754 km,.int ad] H (.tup [.str i.nm,.obj (H.n+1)]) (ioH H m mem ad i):=by
 have h:=M.h
 have l:=load (c:=c) M A
 have dc:=hi.dec c (ldH H m mem ad)
 exact c_ret (by rfl) rfl (by unfold f_instruction_of; decreasing_trivial)
theorem low_other (h1:∀ {H},CmpR c H .Eq (.str nm) (.str t_addi) false) (h2:∀ {H},CmpR c H .Eq (.str nm) (.str t_sub) false):Cl c 1 418 [.tup [.str nm,.obj kf],.obj kn] H (.int 0) H:=by
 have h1:=h1 (H:=H)
 have h2:=h2 (H:=H)
 exact c_ret (by rfl) rfl (by unfold f_lowered; decreasing_trivial)
theorem lowered_of (hf:H.o kf=some (.dic i.fl)) (hn:H.o kn=some (.dic (numD N))):Cl c 1 418 [.tup [.str i.nm,.obj kf],.obj kn] H (.int (lowP N i)) H:=by
 have ng {k:Int}:=num_get (c:=c) (k:=k) hn
 have lk:=lk_get (c:=c) hn
 induction i using In.casesOn with
 | addi e s j =>
  have hf:H.o kf=some (.dic [(.str t_rd,.int e),(.str t_rs1,.int s),(.str t_imm,.int j)]):=hf
  by_cases q1:(e:Int)=2
  ·by_cases q2:(s:Int)=2
   ·rw [show lowP N (.addi e s j)=_ from if_pos ⟨Int.ofNat.inj q1,Int.ofNat.inj q2⟩]
    exact c_ret (by rfl) rfl (by unfold f_lowered; decreasing_trivial)
   ·rw [show lowP N (.addi e s j)=_ from if_neg fun q=>q2 (congrArg Nat.cast q.2)]
    exact c_ret (by rfl) rfl (by unfold f_lowered; decreasing_trivial)
  ·rw [show lowP N (.addi e s j)=_ from if_neg fun q=>q1 (congrArg Nat.cast q.1)]
   exact c_ret (by rfl) rfl (by unfold f_lowered; decreasing_trivial)
 | sub =>
  have hf:H.o kf=some (.dic [(.str t_rd,.int 2),(.str t_rs1,.int 2),(.str t_rs2,.int 5)]):=hf
  have ng:=ng (k:=5)
  exact c_ret (by rfl) rfl (by unfold f_lowered; decreasing_trivial)
 | _=>exact low_other (q_sF rfl) (q_sF rfl)
noncomputable def noteH (H:MH) (kn:Nat):Option (List (Int × Int))→MH
 | some N'=>H.put kn (.dic (numD N'))
 | none=>H
theorem note_other (h1:∀ {H},CmpR c H .Eq (.str nm) (.str t_lui) false) (h2:∀ {H},CmpR c H .Eq (.str nm) (.str t_addi) false):Cl c 1 425 [.tup [.str nm,.obj kf],.obj kn] H (.bool false) H:=by
 have h1:=h1 (H:=H)
 have h2:=h2 (H:=H)
 exact c_ret (by rfl) rfl (by unfold f_note_number; decreasing_trivial)
theorem note_of (hi:∀ e j,i=.lui e j→small j=true) (hf:H.o kf=some (.dic i.fl)) (hn:H.o kn=some (.dic (numD N))) (hl:N.length≤90000) :
  Cl c 1 425 [.tup [.str i.nm,.obj kf],.obj kn] H (.bool (noteP N i).isSome) (noteH H kn (noteP N i)):=by
 have ng {k:Int}:=num_get (c:=c) (k:=k) hn
 have ns {k x:Int}:=num_set (c:=c) (k:=k) (x:=x) hn hl
 have lk:=lk_get (c:=c) hn
 cases i with
 | lui e j =>
  have hf:H.o kf=some (.dic [(.str t_rd,.int e),(.str t_imm,.int j)]):=hf
  have sj:=hi e j rfl
  by_cases q:(e:Int)=2
  ·rw [show noteP N (.lui e j)=_ from if_neg fun q'=>q' (Int.ofNat.inj q)]
   exact c_ret (by rfl) rfl (by unfold f_note_number; decreasing_trivial)
  ·rw [show noteP N (.lui e j)=_ from if_pos fun q'=>q (congrArg Nat.cast q')]
   have ns:=ns (k:=e) (x:=j * 4096 % 4294967296)
   have ls:BinR c H .LShift (.int j) (.int 12) (.int (j * 4096)) H:=b_shl (j:=12) (by decide) (by decide) sj
   exact c_ret (by rfl) rfl (by unfold f_note_number; decreasing_trivial)
 | addi e s j =>
  have hf:H.o kf=some (.dic [(.str t_rd,.int e),(.str t_rs1,.int s),(.str t_imm,.int j)]):=hf
  have me:CmpR c H .In (.int s) (.tup [.int 0,.int e]) (((0:Int) == s) || (((e:Int) == s) || false)):=q_tin rfl
  by_cases q:(e:Int)=2
  ·rw [show noteP N (.addi e s j)=_ from if_neg fun q'=>q'.1 (Int.ofNat.inj q)]
   exact c_ret (by rfl) rfl (by unfold f_note_number; decreasing_trivial)
  ·have q0:e ≠ 2:=fun q'=>q (congrArg Nat.cast q')
   by_cases q1:(s:Int)=0
   ·have s0:s=0:=Int.ofNat.inj q1
    subst s0
    rw [show noteP N (.addi e 0 j)=_ from if_pos ⟨q0,.inl rfl⟩]
    have ns:=ns (k:=e) (x:=(0+j) % 4294967296)
    have me:CmpR c H .In (.int (0:Nat)) (.tup [.int 0,.int e]) true:=q_tin rfl
    have q1:((0:Nat):Int)=0:=rfl
    exact c_ret (by rfl) rfl (by unfold f_note_number; decreasing_trivial)
   ·have z:((0:Int) == s)=false:=beq_eq_false_iff_ne.2 fun q=>q1 q.symm
    have s0:s ≠ 0:=fun q=>q1 (congrArg Nat.cast q)
    rw [z] at me
    by_cases q2:e=s
    ·subst q2
     have me:CmpR c H .In (.int e) (.tup [.int 0,.int e]) true:=by rw [beq_self_eq_true] at me; exact me
     rw [show noteP N (.addi e e j)=_ from if_pos ⟨q0,.inr rfl⟩,if_pos s0]
     have ng:=ng (k:=e)
     have ns:=ns (k:=e) (x:=((numGet N e).getD 0+j) % 4294967296)
     exact c_ret (by rfl) rfl (by unfold f_note_number; decreasing_trivial)
    ·rw [show ((e:Int) == s)=false from beq_eq_false_iff_ne.2 fun q=>q2 (Int.ofNat.inj q)] at me
     have me:CmpR c H .In (.int s) (.tup [.int 0,.int e]) false:=me
     rw [show noteP N (.addi e s j)=_ from if_neg fun q'=>q'.2.elim s0 fun q=>q2 q.symm]
     exact c_ret (by rfl) rfl (by unfold f_note_number; decreasing_trivial)
 | _=>exact note_other (q_sF rfl) (q_sF rfl)
end
structure Ent where
 size:Int
 kept:Int
 sd:Int
 kd:Int
noncomputable def entD (e:Ent):List (V × V):=[(.str t_size,.int e.size),(.str t_kept,.int e.kept),(.str t_size_done,.int e.sd),(.str t_kept_done,.int e.kd)]
noncomputable def swStep (pos:Int) (e:Ent) (N:List (Int × Int)):In→Option (Ent × List (Int × Int))
 | .sw c o=>if c=1 then some ({ e with kept:=o,kd:=pos+4 },N) else some (e,N)
 | _=>none
theorem In.isSw:∀ i:In,(∃ r o,i=.sw r o)∨(∀ {c:Cx} {H},CmpR c H .NotEq (.str i.nm) (.str t_sw) true)∧∀ {pos e N},swStep pos e N i=none
 | .sw r o=>.inl ⟨r,o,rfl⟩
 | .addi .. | .add | .sub | .lui .. | .lw .. | .jal .. | .jalr .. | .beq | .ecall=>.inr ⟨q_sne rfl,rfl⟩
noncomputable def entStep (pos:Int) (e:Ent) (N:List (Int × Int)) (i:In):Option (Ent × List (Int × Int)) :=
 if e.size=0 then
  if lowP N i > 0 then some ({ e with size:=lowP N i,sd:=pos+4 },N) else (noteP N i).map fun N'=>(e,N')
 else swStep pos e N i
noncomputable def entRun (pos:Int) (e:Ent) (N:List (Int × Int)):List In→Option Ent
 | []=>none
 | i::r=>match entStep pos e N i with
  | none=>some e
  | some (e',N')=>entRun (pos+4) e' N' r
noncomputable def entB:List S:=match f_entry_of.body with
 | [_,.fori _ _ _ b,_]=>b
 | _=>[]
structure EL (L:LL) (km ke kn:Nat) (pos:Int):Prop where
 l0:L 0=some (.ins 754 km)
 l2:L 2=some (.ins 400 ke)
 l3:L 3=some (.obj kn)
 l4:L 4=some (.int pos)
structure EH (H0 H:MH) (ke kn:Nat) (e:Ent) (N:List (Int × Int)):Prop where
 kp:Kp H0 H
 n1:H0.n≤ke
 n2:H0.n≤kn
 n3:ke<H.n
 n4:kn<H.n
 n5:ke ≠ kn
 he:H.o ke=some (.dic (entD e))
 hn:H.o kn=some (.dic (numD N))
section
variable {c:Cx} {H H0:MH} {km ke kn:Nat} {m:Mac} {R:List Int} {mem:List UInt8} {d:List (V × V)} {i:In} {e e':Ent} {N N':List (Int × Int)} {nm:Str} {L:LL} {pos:Int}
theorem EH.keep (h:EH H0 H ke kn e N) {H':MH} (k:Kp H H'):EH H0 H' ke kn e N :=
 ⟨h.kp.trans k,h.n1,h.n2,Nat.lt_of_lt_of_le h.n3 k.1,Nat.lt_of_lt_of_le h.n4 k.1,h.n5,(k.2 _ h.n3).trans h.he,(k.2 _ h.n4).trans h.hn⟩
theorem EH.putE (h:EH H0 H ke kn e N) (e':Ent):EH H0 (H.put ke (.dic (entD e'))) ke kn e' N :=
 ⟨h.kp.put h.n1,h.n1,h.n2,h.n3,h.n4,h.n5,put_at _ _ _,(put_ne h.n5.symm).trans h.hn⟩
theorem EH.putN (h:EH H0 H ke kn e N) (N':List (Int × Int)):EH H0 (H.put kn (.dic (numD N'))) ke kn e N' :=
 ⟨h.kp.put h.n2,h.n1,h.n2,h.n3,h.n4,h.n5,(put_ne h.n5).trans h.he,put_at _ _ _⟩
theorem entry_new:Cl c 1 397 [.ins 400 H.n] (H.new (.dic [])) .none (H.new (.dic (entD ⟨0,-1,0,0⟩))):=by
 have s {D:List (V × V)} {t:Str} {v:V} (l:Nat.ble D.length 1000=true):SetAR c (H.new (.dic D)) (.ins 400 H.n) t v (H.new (.dic (dput D (.str t) v))):=(set_att (new_at ..) rfl (Nat.le_of_ble_eq_true l)).to (by rw [new_put])
 exact c_end (by rfl) rfl (r_cons (x_ast d_int (d_loc rfl) (s rfl)) (k_next (r_cons (x_ast (d_neg d_int) (d_loc rfl) (s rfl)) (k_next (r_cons (x_ast d_int (d_loc rfl) (s rfl)) (k_next (r_cons (x_ast d_int (d_loc rfl) (s rfl)) (k_next r_nil))))))))
structure Turn (c:Cx) (H0 H:MH) (km ke kn:Nat) (pos:Int) (L:LL) (e:Ent) (N:List (Int × Int)) (r:Option (Ent × List (Int × Int))):Prop where
 go:∀ e' N',r=some (e',N')→∃ L' H',Rn c 4 entB L H .next L' H'∧EL L' km ke kn (pos+4)∧EH H0 H' ke kn e' N'
 stop:r=none→∃ L' H',Rn c 4 entB L H .brk L' H'∧L' 2=some (.ins 400 ke)∧EH H0 H' ke kn e N
theorem at_size (h:EH H0 H ke kn e N):AttR c H (.ins 400 ke) t_size (.int e.size):=at_of h.he rfl rfl (fun _ q=>by cases q)
theorem put_two {t u:Str} {x y:V} (h:EH H0 H ke kn e N) (e2:dput (entD e) (.str t) x=entD e') {e3:Ent} (g:dput (entD e') (.str u) y=entD e3) (l:L 2=some (.ins 400 ke)):Tg c 4 [.att (.loc 2) t,.att (.loc 2) u] [x,y] L H L (H.put ke (.dic (entD e3))) :=
 g_att (d_loc l) ((set_att h.he rfl (Nat.le_of_ble_eq_true rfl)).to (by rw [e2])) (g_att (d_loc l) ((set_att (put_at ..) rfl (Nat.le_of_ble_eq_true rfl)).to (by rw [g,put_put])) g_nil)
noncomputable def entS:S:=match entB with
 | [_,_,_,s,_]=>s
 | _=>.stuck
noncomputable def entK:List S:=match entS with
 | .ifs _ _ [.ifs _ (_::l) _]=>l
 | _=>[]
noncomputable def entL (L:LL) (nm:Str) (k:Nat) (z:Int):LL:=(L.put 6 (.tup [.str nm,.obj k])).put 7 (.int z)
theorem ent_ask (el:EL L km ke kn pos) (he:EH H0 H ke kn e N) {k:Nat} (lo:Cl c 4 418 [.tup [.str nm,.obj k],.obj kn] H (.int (lowP N i)) H) :
  Ex c 4 (.asg 7 (.ife (.cmp .Eq (.att (.loc 2) t_size) (.int 0)) (.call (.glo t_lowered) [.loc 6,.loc 3]) (.int 0))) (L.put 6 (.tup [.str nm,.obj k])) H .next (entL L nm k (if e.size=0 then lowP N i else 0)) H:=by
 have l2:(L.put 6 (.tup [.str nm,.obj k])) 2=some (.ins 400 ke):=el.l2
 have l3:(L.put 6 (.tup [.str nm,.obj k])) 3=some (.obj kn):=el.l3
 have sz:=at_size (c:=c) he
 unfold entL
 by_cases q:e.size=0
 ·rw [if_pos q]; decreasing_trivial
 ·rw [if_neg q]; decreasing_trivial
theorem ent_head (M:MR H km m R mem d) (A:Ad m pos) (hi:i.Ok (rd mem (pos - m.base).toNat)) (el:EL L km ke kn pos) (eh:EH H0 (ioH H m mem pos i) ke kn e N) {fl fl':Fl} {L' L4:LL} {H' H4:MH}
  (x:Ex c 4 entS (entL L i.nm (H.n+1) (if e.size=0 then lowP N i else 0)) (ioH H m mem pos i) fl L4 H4) (k:Rk c 4 [.asg 4 (.bin .Add (.loc 4) (.int 4))] fl L4 H4 fl' L' H'):Rn c 4 entB L H fl' L' H':=by
 have io:=instruction_of_of (c:=c) M A hi
 have lo:=(lowered_of (c:=c) (i:=i) (kf:=H.n+1) (new_at (ldH H m mem pos) _) eh.hn).up 3
 have l0:=el.l0
 have l4:=el.l4
 have as:=ent_ask el eh lo
 refine r_cons (x_asg (d_cal (d_glo (by rfl)) (a_cons (d_loc l0) (a_cons (d_loc l4) a_nil)) (ck_fn rfl io))) (k_next (r_cons (x_ifs (t_cmp (d_loc rfl) d_non q_isT) (r_ff r_nil)) (k_next (r_cons as (k_next (r_cons x k))))))
theorem ent_step (M0:MR H0 km m R mem d) (eh:EH H0 H ke kn e N) (el:EL L km ke kn pos) (A:Ad m pos) (hi:i.Ok (rd mem (pos - m.base).toNat)) (hs:∀ e j,i=.lui e j→small j=true) (hl:N.length≤90000) (h5:0≤e.size) :
  Turn c H0 H km ke kn pos L e N (entStep pos e N i):=by
 have M:=M0.keep eh.kp
 have e1:=eh.keep (ioH_k (H:=H) (m:=m) (mem:=mem) (i:=i) (ad:=pos))
 have hf:(ioH H m mem pos i).o (H.n+1)=some (.dic i.fl):=new_at _ _
 have no:=(note_of (c:=c) hs hf e1.hn hl).up 3
 have l2:∀ {z},entL L i.nm (H.n+1) z 2=some (.ins 400 ke):=el.l2
 have l3:∀ {z},entL L i.nm (H.n+1) z 3=some (.obj kn):=el.l3
 have l4:∀ {z},entL L i.nm (H.n+1) z 4=some (.int pos):=el.l4
 have hd {fl fl' L' L4 H' H4}:=ent_head (c:=c) (fl:=fl) (fl':=fl') (L':=L') (L4:=L4) (H':=H') (H4:=H4) M A hi el e1
 have sz:=at_size (c:=c) e1
 have nx {L4:LL} {H4:MH} (h:L4 4=some (.int pos)):Rk c 4 [.asg 4 (.bin .Add (.loc 4) (.int 4))] .next L4 H4 .next (L4.put 4 (.int (pos+4))) H4:=k_next (r_cons (x_asg (d_add (d_loc h) d_int)) (k_next r_nil))
 unfold entStep
 generalize hH:ioH H m mem pos i=H1 at *
 by_cases q:e.size=0
 ·rw [if_pos q]
  rw [if_pos q] at hd
  have hd {fl fl' L' L4 H' H4}:=hd (fl:=fl) (fl':=fl') (L':=L') (L4:=L4) (H':=H') (H4:=H4)
  by_cases q1:lowP N i > 0
  ·rw [if_pos q1]
   refine ⟨fun e' N' hq=>?_,fun hq=>by cases hq⟩
   cases hq
   refine ⟨_,_,hd (fl:=.next) (x_ifs (t_cmp (d_loc rfl) d_int (q_gt q1)) (r_tt (r_cons (x_upk (d_tup (a_cons (d_loc rfl) (a_cons (d_add (d_loc l4) d_int) a_nil))) rfl (put_two (e':={ e with size:=lowP N i }) (e3:={ e with size:=lowP N i,sd:=pos+4 }) e1 rfl rfl l2)) (k_next r_nil)))) (nx l4),⟨el.l0,el.l2,el.l3,rfl⟩,e1.putE _⟩
  ·rw [if_neg q1]
   have qg:¬ e.size > 0:=fun h=>Int.ne_of_gt h q
   have go {b:Bool} {H2:MH} {fl:Fl} {L':LL} (no:Cl c 4 425 [.tup [.str i.nm,.obj (H.n+1)],.obj kn] H1 (.bool b) H2) (r:Rn c 4 (cond (!b) [.brk] []) (entL L i.nm (H.n+1) (lowP N i)) H2 fl L' H2):Ex c 4 entS (entL L i.nm (H.n+1) (lowP N i)) H1 fl L' H2 :=
    x_ifs (t_cmp (d_loc rfl) d_int (q_gtf q1)) (r_ff (r_one (x_ifs (t_cmp (d_att (d_loc l2) sz) d_int (q_gtf qg)) (r_ff (r_one (x_ifs (t_not (t_of rfl (d_cal (d_glo (by rfl)) (a_cons (d_loc rfl) (a_cons (d_loc l3) a_nil)) (ck_fn rfl no)) rfl)) r))))))
   cases q2:noteP N i with
   | none =>
    rw [q2] at no
    exact ⟨(fun e' N' hq=>by cases hq),fun _=>⟨_,_,hd (go no (r_tt (r_cons x_brk k_brk))) k_brk,el.l2,e1⟩⟩
   | some N1 =>
    rw [q2] at no
    refine ⟨fun e' N' hq=>?_,fun hq=>by cases hq⟩
    cases hq
    exact ⟨_,_,hd (go no (r_ff r_nil)) (nx l4),⟨el.l0,el.l2,el.l3,rfl⟩,e1.putN _⟩
 ·rw [if_neg q]
  rw [if_neg q] at hd
  have hd {fl fl' L' L4 H' H4}:=hd (fl:=fl) (fl':=fl') (L':=L') (L4:=L4) (H':=H') (H4:=H4)
  have qg:e.size > 0:=by lia
  have go {H2:MH} {fl:Fl} {L':LL} (r:Rn c 4 entK (((entL L i.nm (H.n+1) 0).put 8 (.str i.nm)).put 9 (.obj (H.n+1))) H1 fl L' H2):Ex c 4 entS (entL L i.nm (H.n+1) 0) H1 fl L' H2 :=
   x_ifs (t_cmp (d_loc rfl) d_int (q_gtf (by decide))) (r_ff (r_one (x_ifs (t_cmp (d_att (d_loc l2) sz) d_int (q_gt qg)) (r_tt (r_cons (x_upk (d_loc rfl) rfl (g_nam (g_nam g_nil))) (k_next r))))))
  have no (h:∀ {H},CmpR c H .NotEq (.str i.nm) (.str t_sw) true):∃ L' H',Rn c 4 entB L H .brk L' H'∧L' 2=some (.ins 400 ke)∧EH H0 H' ke kn e N :=
   ⟨_,_,hd (go (r_cons (x_ifs (t_bop (s_cons (t_cmp (d_loc rfl) d_str h) k_ot)) (r_tt (r_cons x_brk k_brk))) k_brk)) k_brk,el.l2,e1⟩
  rcases i.isSw with ⟨r,o,hi⟩ | ⟨h1,h2⟩
  ·have en:i.nm=t_sw:=by rw [hi]; rfl
   rw [hi] at hf ⊢
   rw [en] at go hd
   have hf:H1.o (H.n+1)=some (.dic [(.str t_rs1,.int 2),(.str t_rs2,.int r),(.str t_imm,.int o)]):=hf
   have f {u:Str} {v:V} (g:dget [(.str t_rs1,.int 2),(.str t_rs2,.int r),(.str t_imm,.int o)] (.str u)=some v):Ev c 4 (.sub (.loc 9) (.str u)) (((entL L t_sw (H.n+1) 0).put 8 (.str t_sw)).put 9 (.obj (H.n+1))) H1 v H1:=d_sub (d_loc rfl) d_str (sub_d hf rfl g)
   have go {H2:MH} {k:Bool} (q:CmpR c H1 .Eq (.int r) (.int 1) k) (r:Rn c 4 (cond k [.upk [.att (.loc 2) t_kept,.att (.loc 2) t_kept_done] (.tup [.sub (.loc 9) (.str t_imm),.bin .Add (.loc 4) (.int 4)])] []) (((entL L t_sw (H.n+1) 0).put 8 (.str t_sw)).put 9 (.obj (H.n+1))) H1 .next (((entL L t_sw (H.n+1) 0).put 8 (.str t_sw)).put 9 (.obj (H.n+1))) H2):Rn c 4 entB L H .next (((((entL L t_sw (H.n+1) 0).put 8 (.str t_sw)).put 9 (.obj (H.n+1)))).put 4 (.int (pos+4))) H2 :=
    hd (go (r_cons (x_ifs (t_bop (s_cons (t_cmp (d_loc rfl) d_str (q_sne rfl)) (k_of (s_cons (t_cmp (f rfl) (d_glo (by rfl)) (q_nef rfl)) (k_of s_or0))))) (r_ff r_nil)) (k_next (r_one (x_ifs (t_cmp (f rfl) (d_glo (by rfl)) q) r))))) (nx el.l4)
   by_cases q1:r=1
   ·rw [show swStep pos e N (.sw r o)=_ from if_pos q1]
    refine ⟨fun e' N' hq=>?_,fun hq=>by cases hq⟩
    cases hq
    exact ⟨_,_,go (q_eq (congrArg Nat.cast q1)) (r_one (x_upk (d_tup (a_cons (f rfl) (a_cons (d_add (d_loc el.l4) d_int) a_nil))) rfl (put_two (e':={ e with kept:=o }) (e3:={ e with kept:=o,kd:=pos+4 }) e1 rfl rfl el.l2))),⟨el.l0,el.l2,el.l3,rfl⟩,e1.putE { e with kept:=o,kd:=pos+4 }⟩
   ·rw [show swStep pos e N (.sw r o)=_ from if_neg q1]
    refine ⟨fun e' N' hq=>?_,fun hq=>by cases hq⟩
    cases hq
    exact ⟨_,_,go (q_eqf fun q=>q1 (Int.ofNat.inj q)) r_nil,⟨el.l0,el.l2,el.l3,rfl⟩,e1⟩
  ·rw [h2]
   exact ⟨(fun e' N' hq=>by cases hq),fun _=>no h1⟩
end
noncomputable def Cd (mem:List UInt8) (off:Nat):List In→Prop
 | []=>True
 | i::r=>(i.Ok (rd mem off)∧∀ e j,i=.lui e j→small j=true)∧Cd mem (off+4) r
section
variable {c:Cx} {H H0:MH} {km ke kn:Nat} {m:Mac} {R:List Int} {mem:List UInt8} {d:List (V × V)} {i:In} {e e':Ent} {N N':List (Int × Int)} {nm:Str} {L:LL} {pos:Int}
theorem noteP_len (h:noteP N i=some N'):N'.length≤N.length+1:=by
 cases i with
 | lui e j =>
  by_cases q:e ≠ 2
  ·cases (show noteP N (.lui e j)=_ from if_pos q).symm.trans h
   exact numPut_len
  ·cases (show noteP N (.lui e j)=_ from if_neg q).symm.trans h
 | addi e s j =>
  by_cases q:e ≠ 2∧(s=0∨s=e)
  ·cases (show noteP N (.addi e s j)=_ from if_pos q).symm.trans h
   exact numPut_len
  ·cases (show noteP N (.addi e s j)=_ from if_neg q).symm.trans h
 | _=>cases h
theorem entStep_size (h:0≤e.size) (q:entStep pos e N i=some (e',N')):0≤e'.size∧N'.length≤N.length+1:=by
 unfold entStep at q
 by_cases a:e.size=0
 ·rw [if_pos a] at q
  by_cases b:lowP N i > 0
  ·rw [if_pos b] at q
   cases q
   exact ⟨Int.le_of_lt b,Nat.le_succ _⟩
  ·rw [if_neg b] at q
   obtain ⟨M,e2,g⟩:=Option.map_eq_some_iff.1 q
   cases g
   exact ⟨h,noteP_len e2⟩
 ·rw [if_neg a] at q
  rcases i.isSw with ⟨r,o,rfl⟩ | ⟨_,g⟩
  ·by_cases b:r=1
   ·cases (show swStep pos e N (.sw r o)=_ from if_pos b).symm.trans q
    exact ⟨h,Nat.le_succ _⟩
   ·cases (show swStep pos e N (.sw r o)=_ from if_neg b).symm.trans q
    exact ⟨h,Nat.le_succ _⟩
  ·cases g.symm.trans q
theorem next40 {i:Nat} (h:i<40):nextV H (.rng 0 40) i=some (some (.int (0+i))):=by
 unfold nextV
 dsimp only
 rw [if_pos ⟨by decide,by decide⟩,if_pos (show (0:Int)+i<40 by lia)]
theorem ent_loop (M0:MR H0 km m R mem d) (hb:m.base % 4=0):∀ {l:List In} {off:Nat} {e e':Ent} {N:List (Int × Int)} {L:LL} {H:MH} {i f:Nat},
  EH H0 H ke kn e N→EL L km ke kn (m.base+off)→off % 4=0→off+4 * l.length≤1536→Cd mem off l→i+l.length≤40→l.length≤f→N.length+l.length≤90000→0≤e.size→entRun (m.base+off) e N l=some e' →
  ∃ L' H' N',Fo c 4 false [5] entB (.rng 0 40) f i L H .next L' H'∧L' 2=some (.ins 400 ke)∧EH H0 H' ke kn e' N':=by
 intro l
 induction l with
 | nil=>intro off e e' N L H i f eh el ho hb hc hi hf hN hs hr; cases hr
 | cons x l ih =>
  intro off e e' N L H i f eh el ho hb2 hc hi hf hN hs hr
  rw [List.length_cons] at hb2 hi hf hN
  obtain ⟨f,rfl⟩:=Nat.exists_eq_add_of_le' (Nat.le_trans (Nat.le_add_left 1 _) hf)
  have el1:EL (L.put 5 (.int (0+i))) km ke kn (m.base+off):=⟨el.l0,el.l2,el.l3,el.l4⟩
  obtain ⟨⟨c1,c2⟩,c3⟩:=hc
  have st:=ent_step (c:=c) M0 eh el1 ⟨by lia,by lia,by lia⟩ (i:=x) (by rw [show (m.base+(off:Int) - m.base).toNat=off by lia]; exact c1) c2 (by lia) hs
  have nx:=next40 (H:=H) (show i<40 by lia)
  unfold entRun at hr
  cases q:entStep (m.base+off) e N x with
  | none =>
   rw [q] at hr
   cases hr
   obtain ⟨L',H',h1,h2,h3⟩:=st.stop q
   exact ⟨L',H',N,f_bk nx rfl h1,h2,h3⟩
  | some p =>
   obtain ⟨e1,N1⟩:=p
   obtain ⟨L',H',h1,h2,h3⟩:=st.go _ _ q
   obtain ⟨s1,s2⟩:=entStep_size hs q
   rw [q] at hr
   have hr:entRun (m.base+off+4) e1 N1 l=some e':=hr
   rw [show m.base+(off:Int)+4=m.base+((off+4:Nat):Int) by lia] at hr h2
   obtain ⟨L2,H2,N2,g1,g2,g3⟩:=ih h3 h2 (by lia) (by lia) c3 (show i+1+l.length≤40 by lia) (show l.length≤f by lia) (by lia) s1 hr
   exact ⟨L2,H2,N2,f_nx nx rfl h1 g1,g2,g3⟩
theorem entry_of_of (M:MR H km m R mem d) (hb:m.base % 4=0) {off:Nat} {l:List In} {e:Ent} (ho:off % 4=0) (hl:off+4 * l.length≤1536) (hc:Cd mem off l) (h40:l.length≤40) (hr:entRun (m.base+off) ⟨0,-1,0,0⟩ [] l=some e) :
  ∃ ke H',Cl c 5 432 [.ins 754 km,.int (m.base+off)] H (.ins 400 ke) H'∧Kp H H'∧ke<H'.n∧H'.o ke=some (.dic (entD e)):=by
 have en:=(entry_new (c:=c) (H:=H)).up 3
 have g:EH H ((H.new (.dic (entD ⟨0,-1,0,0⟩))).new (.dic [])) H.n (H.n+1) ⟨0,-1,0,0⟩ [] :=
  ⟨Kp.trans .new .new,Nat.le_refl _,Nat.le_succ _,Nat.lt_succ_of_lt (Nat.lt_succ_self _),Nat.lt_succ_self _,Nat.ne_of_lt (Nat.lt_succ_self _),(new_lt (H:=H.new _) (Nat.lt_succ_self _)).trans (new_at _ _),new_at (H.new _) _⟩
 have el:EL ((((argsL 0 [.ins 754 km,.int (m.base+off)]).put 2 (.ins 400 H.n)).put 3 (.obj (H.n+1))).put 4 (.int (m.base+off))) km H.n (H.n+1) (m.base+off):=⟨rfl,rfl,rfl,rfl⟩
 obtain ⟨L',H',N',h1,h2,h3⟩:=ent_loop (c:=c) (f:=41) (i:=0) M hb g el ho hl hc (by lia) (by lia) (by rw [List.length_nil]; lia) (Int.le_refl 0) hr
 exact ⟨H.n,H',c_ret (D:=f_entry_of) (by rfl) rfl (r_cons (x_swp (a_cons (d_cal (d_glo (by rfl)) a_nil (ck_cl rfl en)) (a_cons d_dic0 (a_cons (d_loc rfl) a_nil))) rfl) (k_next (r_cons (x_fo (d_cal (d_glo (by rfl)) (a_cons (d_glo (by rfl)) a_nil) (ck_bl bl_rng1)) rfl (next40 (by decide)) rfl h1) (k_next (r_cons (x_ret (d_loc h2)) k_ret))))),h3.kp,h3.n3,h3.he⟩
noncomputable def leavP:In→Bool
 | .jalr d s=>(d:Int) == 0 && (s:Int) == 1
 | _=>false
theorem In.isJr:∀ i:In,(∃ r o,i=.jalr r o)∨(∀ {c:Cx} {H},CmpR c H .Eq (.str i.nm) (.str t_jalr) false)∧leavP i=false
 | .jalr r o=>.inl ⟨r,o,rfl⟩
 | .addi .. | .add | .sub | .lui .. | .lw .. | .jal .. | .sw .. | .beq | .ecall=>.inr ⟨q_sF rfl,rfl⟩
theorem is_leaving_of (M:MR H km m R mem d) (A:Ad m pos) (hi:i.Ok (rd mem (pos - m.base).toNat)) {Gl:Prop} (kG:∀ H',(Cl c 5 439 [.ins 754 km,.int pos] H (.bool (leavP i)) H')→(Kp H H')→Gl):Gl:=by
 have io:=instruction_of_of (c:=c) M A hi
 have hf:(ioH H m mem pos i).o (H.n+1)=some (.dic i.fl):=new_at _ _
 have k:=ioH_k (H:=H) (m:=m) (mem:=mem) (i:=i) (ad:=pos)
 have hn:H.n+1<(ioH H m mem pos i).n:=Nat.lt_succ_self _
 generalize ioH H m mem pos i=H1 at *
 have go {k:Bool} {H2:MH} (x:Eb c 4 .And [.cmp .Eq (.sub (.loc 2) (.int 0)) (.str t_jalr),.cmp .Eq (.sub (.loc 2) (.int 1)) (.dic [.str t_rd,.str t_rs1,.str t_imm] [.int 0,.glo t_RA,.int 0])] ((argsL 0 [.ins 754 km,.int pos]).put 2 (.tup [.str i.nm,.obj (H.n+1)])) H1 (.bool k) H2):Cl c 5 439 [.ins 754 km,.int pos] H (.bool k) H2 :=
  c_ret (D:=f_is_leaving) (by rfl) rfl (r_cons (x_asg (d_cal (d_glo (by rfl)) (a_cons (d_loc rfl) (a_cons (d_loc rfl) a_nil)) (ck_fn rfl io))) (k_next (r_cons (x_ret (d_bop (b_go (d_cmp (d_loc rfl) d_non q_niT) (k:=true) rfl rfl x))) k_ret)))
 have nm {k:Bool} (q:CmpR c H1 .Eq (.str i.nm) (.str t_jalr) k):Ev c 4 (.cmp .Eq (.sub (.loc 2) (.int 0)) (.str t_jalr)) ((argsL 0 [.ins 754 km,.int pos]).put 2 (.tup [.str i.nm,.obj (H.n+1)])) H1 (.bool k) H1:=d_cmp (d_sub (d_loc rfl) d_int (sub_t rfl)) d_str q
 rcases i.isJr with ⟨r,o,e⟩ | ⟨h1,h2⟩
 ·rw [e] at hf kG
  have D:Ev c 4 (.dic [.str t_rd,.str t_rs1,.str t_imm] [.int 0,.glo t_RA,.int 0]) ((argsL 0 [.ins 754 km,.int pos]).put 2 (.tup [.str i.nm,.obj (H.n+1)])) H1 (.obj H1.n) (H1.new (.dic [(.str t_rd,.int 0),(.str t_rs1,.int 1),(.str t_imm,.int 0)])):=d_dic (p_cons d_str d_int (p_cons d_str (d_glo (by rfl)) (p_cons d_str d_int p_nil))) rfl
  refine kG _ (go (b_go (nm (k:=true) (by rw [e]; exact q_sT rfl)) rfl rfl (b_one (d_cmp (d_sub (d_loc rfl) d_int (sub_t rfl)) D ?_)))) (k.trans .new)
  have q:=q_dD (c:=c) (k:=(r:Int) == 0 && ((o:Int) == 1 && true)) ((new_lt (x:=.dic [(.str t_rd,.int 0),(.str t_rs1,.int 1),(.str t_imm,.int 0)]) hn).trans hf) (new_at H1 _) rfl rfl
  rw [Bool.and_true] at q
  exact q
 ·rw [h2] at kG
  exact kG H1 (go (b_stop (nm h1) rfl rfl)) k
noncomputable def outP (inner:Bool) (pos:Int) (e:Ent) (lv:Bool) (sp r1 base:Int) (mem:List UInt8):Option (Int × Int) :=
 if inner=true∧(pos<e.sd∨lv=true) then some (r1,sp)
 else if e.kept<0∨(inner=true∧pos<e.kd) then (if inner=true then some (r1,(sp+e.size) % 4294967296) else none)
 else some (rd mem ((sp+e.kept) % 4294967296 - base).toNat,(sp+e.size) % 4294967296)
noncomputable def outV:Option (Int × Int)→V
 | none=>.none
 | some (x,y)=>.tup [.int x,.int y]
section
variable {sp:Int} (M:MR H km m R mem d) (he:H.o ke=some (.dic (entD e))) (hk:ke<H.n)
include M he hk
theorem out_in (A:Ad m pos) (hi:i.Ok (rd mem (pos - m.base).toNat))
  (hl:¬ pos<e.sd→leavP i=false→¬ e.kept<0→¬ pos<e.kd→Ad m ((sp+e.kept) % 4294967296)) :
  ∃ H',Cl c 6 446 [.ins 754 km,.ins 400 ke,.int pos,.int sp,.bool true] H (outV (outP true pos e (leavP i) sp (rg R 1) m.base mem)) H'∧Kp H H':=by
 have i1:Mine.idx (R.map V.int) 1=some (.int (rg R 1)):=M.idx (j:=1) (by decide)
 have h:=M.h
 have hr:=M.hr
 by_cases q1:pos<e.sd
 ·rw [show outP true pos e (leavP i) sp (rg R 1) m.base mem=_ from if_pos ⟨rfl,.inl q1⟩]
  exact ⟨H,c_ret (by rfl) rfl (by unfold f_step_out; decreasing_trivial),.refl⟩
 ·refine is_leaving_of (c:=c) M A hi fun H1 il k1=>?_
  have M1:=M.keep k1
  have he:=he
  have he1:=(k1.2 _ hk).trans he
  have h1:=M1.h
  have hr1:=M1.hr
  by_cases q2:leavP i=true
  ·rw [show outP true pos e (leavP i) sp (rg R 1) m.base mem=_ from if_pos ⟨rfl,.inr q2⟩]
   rw [q2] at il
   exact ⟨H1,c_ret (by rfl) rfl (by unfold f_step_out; decreasing_trivial),k1⟩
  ·rw [show outP true pos e (leavP i) sp (rg R 1) m.base mem=_ from if_neg fun q=>q.2.elim q1 q2]
   rw [Bool.eq_false_iff.2 q2] at il
   by_cases q3:e.kept<0
   ·rw [if_pos (.inl q3)]
    exact ⟨H1,c_ret (by rfl) rfl (by unfold f_step_out; decreasing_trivial),k1⟩
   ·by_cases q4:pos<e.kd
    ·rw [if_pos (.inr ⟨rfl,q4⟩)]
     exact ⟨H1,c_ret (by rfl) rfl (by unfold f_step_out; decreasing_trivial),k1⟩
    ·rw [if_neg fun q=>q.elim q3 fun q=>q4 q.2]
     have k2:Kp H1 (ldH H1 m mem ((sp+e.kept) % 4294967296)):=.new
     have ld:=(load (c:=c) M1 (hl q1 (Bool.eq_false_iff.2 q2) q3 q4)).up 2
     have he2:=(k2.2 _ (Nat.lt_of_lt_of_le hk k1.1)).trans he1
     exact ⟨_,c_ret (by rfl) rfl (by unfold f_step_out; decreasing_trivial),k1.trans k2⟩
theorem out_outer {lv:Bool} (hl:¬ e.kept<0→Ad m ((sp+e.kept) % 4294967296)) :
  ∃ H',Cl c 6 446 [.ins 754 km,.ins 400 ke,.int pos,.int sp,.bool false] H (outV (outP false pos e lv sp (rg R 1) m.base mem)) H'∧Kp H H':=by
 have h:=M.h
 rw [show outP false pos e lv sp (rg R 1) m.base mem=_ from if_neg fun q=>by cases q.1]
 by_cases q3:e.kept<0
 ·rw [if_pos (.inl q3)]
  exact ⟨H,c_ret (by rfl) rfl (by unfold f_step_out; decreasing_trivial),.refl⟩
 ·rw [if_neg fun q=>q.elim q3 fun q=>by cases q.1]
  have k2:Kp H (ldH H m mem ((sp+e.kept) % 4294967296)):=.new
  have ld:=(load (c:=c) M (hl q3)).up 2
  have he2:=(k2.2 _ hk).trans he
  exact ⟨_,c_ret (by rfl) rfl (by unfold f_step_out; decreasing_trivial),k2⟩
end
end
structure Img where
 base:Int
 oct:List UInt8
 ks:Nat
 kp:Nat
 kl:Nat
 kn:Nat
noncomputable def imgD (i:Img):List (V × V):=[(.str t_entry,.int i.base),(.str t_base,.int i.base),(.str t_octets,.byt i.oct),(.str t_bss_size,.int 0),(.str t_symbols,.obj i.ks),(.str t_pieces,.obj i.kp),(.str t_lines,.obj i.kl),(.str t_names,.obj i.kn)]
structure Pl where
 base:Int
 fin:Int
 marks:List (Int × Str)
 cut:Nat
noncomputable def Pl.mk1 (p:Pl) (j:Nat):Int:=(p.marks.getD j (0,t_x)).1
noncomputable def Pl.mk2 (p:Pl) (j:Nat):Str:=(p.marks.getD j (0,t_x)).2
noncomputable def markV (q:Int × Str):V:=.tup [.int q.1,.str q.2]
noncomputable def Pl.names (p:Pl):List V:=p.marks.map markV
noncomputable def Pl.behind (p:Pl):Int:=if 0<p.cut then p.mk1 p.cut else p.fin
noncomputable def pcV (n x:Str) (b s:Int):V:=.tup [.str n,.str x,.int b,.int s]
noncomputable def Pl.p1 (p:Pl):V:=pcV t_x46_116_101_120_116 t_x97_46_99 p.base (p.behind - p.base)
noncomputable def Pl.p2 (p:Pl):V:=pcV t_x46_116_101_120_116_46_98 t_x98_46_99 p.behind (p.fin - p.behind)
noncomputable def Pl.pieces (p:Pl):List V:=if 0<p.cut then [p.p1,p.p2] else [p.p1]
structure Pl.Good (p:Pl):Prop where
 len:0<p.marks.length∧p.marks.length≤5
 cut:p.cut<p.marks.length
 m0:∀ j,j<p.marks.length→p.base≤p.mk1 j
 sd:∀ i j,i<j→j<p.marks.length→p.mk1 i<p.mk1 j
structure Pl.At (p:Pl) (ad:Int) (j:Nat):Prop where
 lt:j<p.marks.length
 lo:p.mk1 j≤ad
 hi:∀ i,j<i→i<p.marks.length→ad<p.mk1 i
 fin:ad<p.fin
structure IR (H:MH) (ki:Nat) (im:Img) (p:Pl):Prop where
 h:H.o ki=some (.dic (imgD im))
 hp:H.o im.kp=some (.lst p.pieces)
 hn:H.o im.kn=some (.lst p.names)
 l1:ki<H.n
 l2:im.kp<H.n
 l3:im.kn<H.n
theorem IR.keep {H ki im p} (I:IR H ki im p) {H':MH} (k:Kp H H'):IR H' ki im p :=
 ⟨(k.2 _ I.l1).trans I.h,(k.2 _ I.l2).trans I.hp,(k.2 _ I.l3).trans I.hn,Nat.lt_of_lt_of_le I.l1 k.1,Nat.lt_of_lt_of_le I.l2 k.1,Nat.lt_of_lt_of_le I.l3 k.1⟩
theorem idxL {l:List V} {j:Nat} {v:V} (hl:l.length≤100000) (h:l[j]?=some v):idx l (j:Int)=some v:=by
 unfold idx
 rw [if_neg (Nat.not_lt.2 hl),if_pos (Int.natCast_nonneg _),Int.toNat_natCast,h]
theorem Pl.names_at {p:Pl} {j:Nat} (h:j<p.marks.length):p.names[j]?=some (.tup [.int (p.mk1 j),.str (p.mk2 j)]):=by
 unfold Pl.names Pl.mk1 Pl.mk2
 rw [List.getElem?_map,List.getD_eq_getElem?_getD,List.getElem?_eq_getElem h]
 rfl
section
variable {c:Cx} {H:MH} {ki kn:Nat} {im:Img} {p:Pl} {ad:Int} {j:Nat} {L:LL}
theorem names_len (g:p.Good):p.names.length≤100000:=by
 rw [show p.names.length=p.marks.length from List.length_map ..]
 exact Nat.le_trans g.len.2 (by decide)
theorem b_half {p:Nat}:BinR c H .FloorDiv (.int p) (.int 2) (.int (p / 2:Nat)) H:=by
 have h:=b_fdv (c:=c) (H:=H) (i:=p) (j:=2) (by decide) (by decide)
 rw [Int.fdiv_eq_ediv_of_nonneg _ (by decide)] at h
 exact h
theorem nextL {k i:Nat} {l:List V} (h:H.o k=some (.lst l)) (hl:l.length≤100000):nextV H (.obj k) i=some l[i]?:=by
 unfold nextV
 dsimp only
 rw [h]
 exact if_pos hl
noncomputable def tpB:List S:=match f_text_piece.body with
 | [.fori _ _ _ b,_]=>b
 | _=>[]
theorem piece {n x:Str} {b s:Int} (l1:L 1=some (.int ad)) (l2:L 2=some (pcV n x b s)) (hn:n=t_x46_116_101_120_116∨n=t_x46_116_101_120_116_46_98) (h0:b≤ad) :
  (ad<b+s→Rn c 0 tpB L H (.ret (pcV n x b s)) L H)∧(¬ ad<b+s→Rn c 0 tpB L H .next L H):=by
 have e:Es c 0 .Or [.cmp .Eq (.sub (.loc 2) (.int 0)) (.glo t_TEXT),.met (.sub (.loc 2) (.int 0)) t_startswith [.bin .Add (.glo t_TEXT) (.str t_x46)]] L H true H:=by
  rcases hn with rfl | rfl
  ·exact s_cons (t_cmp (d_sub (d_loc l2) d_int (sub_t rfl)) (d_glo (by rfl)) (q_sT rfl)) k_ot
  ·exact s_cons (t_cmp (d_sub (d_loc l2) d_int (sub_t rfl)) (d_glo (by rfl)) (q_sF rfl)) (k_of (s_cons (t_of rfl (d_met (d_sub (d_loc l2) d_int (sub_t rfl)) lk_st (a_cons (d_bin (d_glo (by rfl)) d_str (b_str (Nat.le_of_ble_eq_true rfl) (Nat.le_of_ble_eq_true rfl) (Nat.le_of_ble_eq_true rfl))) a_nil) (mk_bl mt_st)) rfl) k_ot))
 have s2:Ev c 0 (.sub (.loc 2) (.int 2)) L H (.int b) H:=d_sub (d_loc l2) d_int (sub_t rfl)
 have s3:Ev c 0 (.sub (.loc 2) (.int 3)) L H (.int s) H:=d_sub (d_loc l2) d_int (sub_t rfl)
 exact ⟨fun h=>r_one (x_ifs (t_bop e) (r_tt (r_one (x_ifs (t_cm2 s2 (d_loc l1) (q_le h0) (d_add s2 s3) (q_lt h)) (r_tt (r_one (x_ret (d_loc l2)))))))),
  fun h=>r_one (x_ifs (t_bop e) (r_tt (r_one (x_ifs (t_cm2 s2 (d_loc l1) (q_le h0) (d_add s2 s3) (q_ltf h)) (r_ff r_nil)))))⟩
theorem piece_of {m i:Nat} {l:List V} (hp:H.o im.kp=some (.lst l)) (hl:l.length≤2) (L0:LL) (l1:L0 1=some (.int ad)) {n x:Str} {b s:Int} (hi:l[i]?=some (pcV n x b s)) (hn:n=t_x46_116_101_120_116∨n=t_x46_116_101_120_116_46_98) (h0:b≤ad) :
  (ad<b+s→Fo c 0 false [2] tpB (.obj im.kp) (m+1) i L0 H (.ret (pcV n x b s)) (L0.put 2 (pcV n x b s)) H)∧(∀ {L' H' fl},¬ ad<b+s→Fo c 0 false [2] tpB (.obj im.kp) m (i+1) (L0.put 2 (pcV n x b s)) H fl L' H'→Fo c 0 false [2] tpB (.obj im.kp) (m+1) i L0 H fl L' H'):=by
 have nx:nextV H (.obj im.kp) i=some (some (pcV n x b s)):=(nextL hp (Nat.le_trans hl (by decide))).trans (congrArg some hi)
 have pc:=piece (c:=c) (H:=H) (L:=L0.put 2 (pcV n x b s)) l1 rfl hn h0
 exact ⟨fun h=>f_rt nx rfl (pc.1 h),fun h q=>f_nx nx rfl (pc.2 h) q⟩
theorem tp_ret {v r:V} {l:List V} {L':LL} (I:IR H ki im p) (e:p.pieces=r::l) (hl:l.length≤1) (f:Fo c 0 false [2] tpB (.obj im.kp) (l.length+1+1) 0 (argsL 0 [.ins 470 ki,.int ad]) H (.ret v) L' H):Cl c 1 362 [.ins 470 ki,.int ad] H v H:=by
 have hp:=I.hp
 rw [e] at hp
 exact c_ret (D:=f_text_piece) (by rfl) rfl (r_cons (x_fo (d_att (d_loc rfl) (at_of I.h rfl rfl (fun _ q=>by cases q))) rfl (nextL hp (show l.length+1≤100000 by lia)) rfl f) k_ret)
theorem text_piece (I:IR H ki im p) (g:p.Good) (A:p.At ad j) {Gl:Prop} (kG:∀ n x b s,(Cl c 1 362 [.ins 470 ki,.int ad] H (pcV n x b s) H)→(b≤p.mk1 j)→Gl):Gl:=by
 have b0:=g.m0 _ A.lt
 have b1:=A.lo
 by_cases hc:0<p.cut
 ·have e:p.pieces=[p.p1,p.p2]:=if_pos hc
  have hp:=I.hp
  rw [e] at hp
  have f1 {m:Nat}:=piece_of (c:=c) (i:=0) (m:=m) hp (Nat.le_refl _) (argsL 0 [.ins 470 ki,.int ad]) rfl rfl (.inl rfl) (Int.le_trans b0 b1)
  by_cases q:ad<p.base+(p.behind - p.base)
  ·exact kG _ _ _ _ (tp_ret I e (Nat.le_refl _) (f1.1 q)) b0
  ·have hb:p.behind=p.mk1 p.cut:=if_pos hc
   have q:p.behind≤ad:=by lia
   have q2:ad<p.behind+(p.fin - p.behind):=by have:=A.fin; lia
   have f2:=(piece_of (c:=c) (i:=1) (m:=1) hp (Nat.le_refl _) ((argsL 0 [.ins 470 ki,.int ad]).put 2 p.p1) rfl rfl (.inr rfl) q).1 q2
   refine kG _ _ _ _ (tp_ret I e (Nat.le_refl _) (f1.2 (by lia) f2)) ?_
   rw [hb]
   rcases Nat.lt_trichotomy p.cut j with h | h | h
   ·exact Int.le_of_lt (g.sd _ _ h A.lt)
   ·rw [h]; exact Int.le_refl _
   ·have:=A.hi _ h g.cut
    lia
 ·have e:p.pieces=[p.p1]:=if_neg hc
  have hp:=I.hp
  rw [e] at hp
  have hb:p.behind=p.fin:=if_neg hc
  have q:ad<p.base+(p.behind - p.base):=by have:=A.fin; lia
  exact kG _ _ _ _ (tp_ret I e (Nat.zero_le _) ((piece_of (c:=c) (i:=0) (m:=1) hp (Nat.le_succ _) (argsL 0 [.ins 470 ki,.int ad]) rfl rfl (.inl rfl) (Int.le_trans b0 b1)).1 q)) b0
noncomputable def laB:List S:=match f_last_at.body with
 | [_,.whl _ b,_]=>b
 | _=>[]
noncomputable def laT:E:=match f_last_at.body with
 | [_,.whl t _,_]=>t
 | _=>.abs
theorem la_loop (hn:H.o kn=some (.lst p.names)) (g:p.Good) (A:p.At ad j):∀ {f lo hi:Nat} {L:LL},
  L 0=some (.obj kn)→L 1=some (.int ad)→L 2=some (.int lo)→L 3=some (.int hi)→lo≤j+1→j+1≤hi→hi≤p.marks.length→hi - lo<f →
  ∃ L',Wh c 0 laT laB f L H .next L' H∧L' 2=some (.int ((j+1:Nat):Int)):=by
 intro f
 induction f with
 | zero=>intro lo hi L _ _ _ _ _ _ _ h; cases h
 | succ f ih =>
  intro lo hi L l0 l1 l2 l3 h1 h2 h3 h4
  by_cases q:(lo:Int)<hi
  ·have hm:(lo+hi) / 2<p.marks.length:=by lia
   have fd:BinR c H .FloorDiv (.int (lo+hi)) (.int 2) (.int ((lo+hi) / 2:Nat)) H:=b_half (p:=lo+hi)
   have ix:=idxL (names_len g) (Pl.names_at hm)
   have as:Ex c 0 (.asg 4 (.bin .FloorDiv (.bin .Add (.loc 2) (.loc 3)) (.int 2))) L H .next (L.put 4 (.int ((lo+hi) / 2:Nat))) H:=x_asg (d_bin (d_add (d_loc l2) (d_loc l3)) d_int fd)
   have ev:Ev c 0 (.sub (.sub (.loc 0) (.loc 4)) (.int 0)) (L.put 4 (.int ((lo+hi) / 2:Nat))) H (.int (p.mk1 ((lo+hi) / 2))) H:=d_sub (d_sub (d_loc l0) (d_loc rfl) (sub_l hn ix)) d_int (sub_t rfl)
   have ct:Et c 0 laT L H true H:=t_cmp (d_loc l2) (d_loc l3) (q_lt q)
   by_cases q2:(lo+hi) / 2≤j
   ·have le:p.mk1 ((lo+hi) / 2)≤ad:=by
     have:=A.lo
     rcases Nat.lt_or_eq_of_le q2 with q2 | q2
     ·have:=g.sd _ _ q2 A.lt
      lia
     ·rw [q2]; exact this
    obtain ⟨L',h5,h6⟩:=ih (lo:=(lo+hi) / 2+1) (hi:=hi) (L:=(L.put 4 (.int ((lo+hi) / 2:Nat))).put 2 (.int (((lo+hi) / 2:Nat)+1))) l0 l1 rfl l3 (by lia) h2 h3 (by lia)
    exact ⟨L',w_nx ct (r_cons as (k_next (r_one (x_ifs (t_cmp ev (d_loc l1) (q_le le)) (r_tt (r_one (x_asg (d_add (d_loc rfl) d_int)))))))) h5,h6⟩
   ·have gt:=A.hi _ (Nat.lt_of_not_le q2) hm
    obtain ⟨L',h5,h6⟩:=ih (lo:=lo) (hi:=(lo+hi) / 2) (L:=(L.put 4 (.int ((lo+hi) / 2:Nat))).put 3 (.int ((lo+hi) / 2:Nat))) l0 l1 l2 rfl h1 (by lia) (by lia) (by lia)
    exact ⟨L',w_nx ct (r_cons as (k_next (r_one (x_ifs (t_cmp ev (d_loc l1) (q_lef (Int.not_le.2 gt))) (r_ff (r_one (x_asg (d_loc rfl)))))))) h5,h6⟩
  ·exact ⟨L,w_end (t_cmp (d_loc l2) (d_loc l3) (q_ltf q)),l2.trans (congrArg (fun n:Nat=>some (V.int n)) (by lia))⟩
theorem last_at_of (hn:H.o kn=some (.lst p.names)) (g:p.Good) (A:p.At ad j):Cl c 1 369 [.obj kn,.int ad] H (.int j) H:=by
 have bl:=bl_len (c:=c) hn (names_len g)
 rw [show p.names.length=p.marks.length from List.length_map ..] at bl
 obtain ⟨L',h1,h2⟩:=la_loop (c:=c) hn g A (f:=12) (lo:=0) (hi:=p.marks.length) (L:=((argsL 0 [.obj kn,.int ad]).put 2 (.int 0)).put 3 (.int p.marks.length)) rfl rfl rfl rfl (by lia) A.lt (Nat.le_refl _) (by have:=g.len.2; lia)
 have e:((j+1:Nat):Int) - 1=(j:Int):=by lia
 refine c_ret (D:=f_last_at) (by rfl) rfl (r_cons (x_swp (a_cons d_int (a_cons (d_cal (d_glo (by rfl)) (a_cons (d_loc rfl) a_nil) (ck_bl bl)) a_nil)) rfl) (k_next (r_cons (x_wh h1) (k_next (r_one (x_ret ?_))))))
 rw [← e]
 exact d_sbt (d_loc h2) d_int
theorem function_row_of (I:IR H ki im p) (g:p.Good) (A:p.At ad j):Cl c 2 376 [.ins 470 ki,.int ad] H (.tup [.int (p.mk1 j),.str (p.mk2 j)]) H:=by
 refine text_piece (c:=c) I g A fun n x b s tp hb=>?_
 have la:=last_at_of (c:=c) I.hn g A
 have sl:SubR c H (.obj im.kn) (.int j) (.tup [.int (p.mk1 j),.str (p.mk2 j)]):=sub_l I.hn (idxL (names_len g) (Pl.names_at A.lt))
 have nm {L:LL} (l0:L 0=some (.ins 470 ki)):Ev c 1 (.att (.loc 0) t_names) L H (.obj im.kn) H:=d_att (d_loc l0) (at_of I.h rfl rfl (fun _ q=>by cases q))
 have q1:¬ (j:Int)<0:=by lia
 have q2:¬ p.mk1 j<b:=Int.not_lt.2 hb
 refine c_ret (D:=f_function_row) (by rfl) rfl (r_cons (x_asg (d_cal (d_glo (by rfl)) (a_cons (d_loc rfl) (a_cons (d_loc rfl) a_nil)) (ck_fn rfl tp))) (k_next (r_cons (x_asg (d_cal (d_glo (by rfl)) (a_cons (nm rfl) (a_cons (d_loc rfl) a_nil)) (ck_fn rfl la))) (k_next (r_cons (x_ifs (t_bop (s_cons (t_cmp (d_loc rfl) d_non q_isT) (k_of (s_cons (t_cmp (d_loc rfl) d_int (q_ltf q1)) (k_of (s_cons (t_cmp (d_sub (d_sub (nm rfl) (d_loc rfl) sl) d_int (sub_t rfl)) (d_sub (d_loc rfl) d_int (sub_t rfl)) (q_ltf q2)) (k_of s_or0))))))) (r_ff r_nil)) (k_next (r_one (x_ret (d_sub (nm rfl) (d_loc rfl) sl)))))))))
theorem function_at_of (I:IR H ki im p) (g:p.Good) (A:p.At ad j):Cl c 3 383 [.ins 470 ki,.int ad] H (.str (p.mk2 j)) H:=by
 have fr:=function_row_of (c:=c) I g A
 exact c_ret (D:=f_function_at) (by rfl) rfl (r_cons (x_asg (d_cal (d_glo (by rfl)) (a_cons (d_loc rfl) (a_cons (d_loc rfl) a_nil)) (ck_fn rfl fr))) (k_next (r_one (x_ret (d_ife (t_cmp (d_loc rfl) d_non q_niT) (e_tt (d_sub (d_loc rfl) d_int (sub_t rfl))))))))
end
structure Frame where
 j:Nat
 e:Ent
 pos:Int
 sp:Int
 out:Option (Int × Int)
structure FOk (c:Cx) (H0:MH) (km:Nat) (p:Pl) (inner:Bool) (fr:Frame):Prop where
 at_:p.At fr.pos fr.j
 en:∀ {H1},Kp H0 H1→∃ ke H2,Cl c 6 432 [.ins 754 km,.int (p.mk1 fr.j)] H1 (.ins 400 ke) H2∧Kp H1 H2∧ke<H2.n∧H2.o ke=some (.dic (entD fr.e))
 so:∀ {H1 ke},Kp H0 H1→ke<H1.n→H1.o ke=some (.dic (entD fr.e))→∃ H2,Cl c 6 446 [.ins 754 km,.ins 400 ke,.int fr.pos,.int fr.sp,.bool inner] H1 (outV fr.out) H2∧Kp H1 H2
noncomputable def Stops (p:Pl) (fr:Frame):Prop:=match fr.out with
 | none=>True
 | some (x,_)=>x<4∨(fr.e.kept<0∧p.At (x - 4) fr.j)
noncomputable def Goes (p:Pl) (fr:Frame) (pos sp:Int):Prop:=∃ x,fr.out=some (x,sp)∧pos=x - 4∧¬ x<4∧(fr.e.kept<0→∃ j,p.At (x - 4) j∧j ≠ fr.j)
noncomputable def FChain (c:Cx) (H0:MH) (km:Nat) (p:Pl) (inner:Bool):List Frame→Prop
 | []=>False
 | f::r=>FOk c H0 km p inner f∧match r with
  | []=>Stops p f
  | g::_=>Goes p f g.pos g.sp∧FChain c H0 km p false r
noncomputable def coB:List S:=match f_calls_of.body with
 | [_,_,.fori _ _ _ b,_]=>b
 | _=>[]
noncomputable def coE:E:=match coB with
 | [_,_,_,_,_,.ifs e _ _,_]=>e
 | _=>.abs
noncomputable def Pl.nm (p:Pl) (f:Frame):V:=.str (p.mk2 f.j)
structure CL (L:LL) (km ki kf:Nat) (pos sp:Int):Prop where
 l0:L 0=some (.ins 754 km)
 l1:L 1=some (.ins 470 ki)
 l2:L 2=some (.obj kf)
 l3:L 3=some (.int pos)
 l4:L 4=some (.int sp)
structure CH (H0 H:MH) (kf:Nat) (l:List V):Prop where
 kp:Kp H0 H
 n1:H0.n≤kf
 n2:kf<H.n
 hf:H.o kf=some (.lst l)
theorem CH.keep {H0 H H' kf l} (h:CH H0 H kf l) (k:Kp H H'):CH H0 H' kf l:=⟨h.kp.trans k,h.n1,Nat.lt_of_lt_of_le h.n2 k.1,(k.2 _ h.n2).trans h.hf⟩
theorem CH.app {H0 H kf l} (h:CH H0 H kf l) (l':List V):CH H0 (H.put kf (.lst l')) kf l':=⟨h.kp.put h.n1,h.n1,h.n2,put_at _ _ _⟩
section
variable {c:Cx} {H H0:MH} {km ki kf ke:Nat} {im:Img} {p:Pl} {m:Mac} {R:List Int} {mem:List UInt8} {d:List (V × V)} {L:LL} {t:Int} {inner:Bool} {fr:Frame} {l:List V} {D:V}
theorem Pl.At.uniq (g:p.Good) {ad:Int} {i j:Nat} (x:p.At ad i) (y:p.At ad j):i=j:=by
 rcases Nat.lt_trichotomy i j with q | q | q
 ·exact absurd (Int.lt_of_lt_of_le (x.hi j q y.lt) y.lo) (Int.lt_irrefl _)
 ·exact q
 ·exact absurd (Int.lt_of_lt_of_le (y.hi i q x.lt) x.lo) (Int.lt_irrefl _)
noncomputable def coL (L:LL) (p:Pl) (fr:Frame) (ke:Nat):LL:=(((L.put 6 (.tup [.int (p.mk1 fr.j),.str (p.mk2 fr.j)])).put 7 (.ins 400 ke)).put 8 (outV fr.out))
theorem co_head (I0:IR H0 ki im p) (g:p.Good) (ch:CH H0 H kf l) (cl:CL L km ki kf fr.pos fr.sp) (l5:L 5=some (.int t)) (ht:(t == 0)=inner) (hl:l.length≤90000) (ok:FOk c H0 km p inner fr) {Gl:Prop} (kG:∀ ke H3,(CH H0 H3 kf (l++[p.nm fr]))→(H3.o ke=some (.dic (entD fr.e)))→(∀ {k:Bool} {fl L' H'},Et c 6 coE (coL L p fr ke) H3 k H3→Rn c 6 (cond k [.brk] []) (coL L p fr ke) H3 fl (coL L p fr ke) H3→Rk c 6 [.swp [3,4] [.bin .Sub (.sub (.loc 8) (.int 0)) (.int 4),.sub (.loc 8) (.int 1)]] fl (coL L p fr ke) H3 fl L' H'→Rn c 6 coB L H fl L' H')→Gl):Gl:=by
 have fr1:=(function_row_of (c:=c) (I0.keep ch.kp) g ok.at_).up 4
 have c1:=ch.app (l++[p.nm fr])
 obtain ⟨ke,H2,en,k2,ke2,he⟩:=ok.en c1.kp
 have c2:=c1.keep k2
 obtain ⟨H3,so,k3⟩:=ok.so c2.kp ke2 he
 have lk:=lk_app (c:=c) ch.hf
 have mt:=mt_app (c:=c) (v:=p.nm fr) ch.hf (Nat.le_trans hl (by decide))
 have l0:=cl.l0
 have l1:=cl.l1
 have l2:=cl.l2
 have l3:=cl.l3
 have l4:=cl.l4
 refine kG ke H3 (c2.keep k3) ((k3.2 _ ke2).trans he) (fun e r k=>?_)
 refine r_cons (x_asg (d_cal (d_glo (by rfl)) (a_cons (d_loc l1) (a_cons (d_loc l3) a_nil)) (ck_fn rfl fr1))) (k_next (r_cons (x_ifs (t_cmp (d_loc rfl) d_non q_isT) (r_ff r_nil)) (k_next (r_cons (x_exp (d_met (d_loc l2) lk (a_cons (d_sub (d_loc rfl) d_int (sub_t rfl)) a_nil) (mk_bl mt))) (k_next (r_cons (x_asg (d_cal (d_glo (by rfl)) (a_cons (d_loc l0) (a_cons (d_sub (d_loc rfl) d_int (sub_t rfl)) a_nil)) (ck_fn rfl en))) (k_next (r_cons (x_asg (d_cal (d_glo (by rfl)) (a_cons (d_loc l0) (a_cons (d_loc rfl) (a_cons (d_loc l3) (a_cons (d_loc l4) (a_cons (d_cmp (d_loc l5) d_int (q_ieq ht)) a_nil))))) (ck_fn rfl so))) (k_next (r_cons (x_ifs e r) k))))))))))
theorem co_ask (I:IR H ki im p) (g:p.Good) (l1:L 1=some (.ins 470 ki)) (he:H.o ke=some (.dic (entD fr.e))) {x y:Int} (ho:fr.out=some (x,y)) (h4:¬ x<4) :
  (∀ {j:Nat} {k:Bool},fr.e.kept<0→p.At (x - 4) j→(p.mk1 j == p.mk1 fr.j && (p.mk2 j == p.mk2 fr.j && true))=k→Et c 6 coE (coL L p fr ke) H k H)∧(¬ fr.e.kept<0→Et c 6 coE (coL L p fr ke) H false H):=by
 have l8:coL L p fr ke 8=some (.tup [.int x,.int y]):=congrArg (fun o=>some (outV o)) ho
 have a1:Et c 6 (.cmp .Is (.loc 8) .non) (coL L p fr ke) H false H:=t_cmp (d_loc l8) d_non q_isT
 have s0:Ev c 6 (.sub (.loc 8) (.int 0)) (coL L p fr ke) H (.int x) H:=d_sub (d_loc l8) d_int (sub_t rfl)
 have a2:Et c 6 (.cmp .Lt (.sub (.loc 8) (.int 0)) (.int 4)) (coL L p fr ke) H false H:=t_cmp s0 d_int (q_ltf h4)
 have kp:Ev c 6 (.att (.loc 7) t_kept) (coL L p fr ke) H (.int fr.e.kept) H:=d_att (d_loc rfl) (at_of he rfl rfl (fun _ q=>by cases q))
 refine ⟨fun {j k} q A e=>?_,fun q=>t_bop (s_cons a1 (k_of (s_cons a2 (k_of (s_cons (t_bop (s_cons (t_cmp kp d_int (q_ltf q)) k_af)) (k_of s_or0))))))⟩
 have fr2:=(function_row_of (c:=c) I g A).up 4
 have a3:Et c 6 (.cmp .Eq (.call (.glo t_function_row) [.loc 1,.bin .Sub (.sub (.loc 8) (.int 0)) (.int 4)]) (.loc 6)) (coL L p fr ke) H k H:=t_cmp (d_cal (d_glo (by rfl)) (a_cons (d_loc l1) (a_cons (d_sbt s0 d_int) a_nil)) (ck_fn rfl fr2)) (d_loc rfl) (q_tT rfl (congrArg some e))
 have a4:=t_cmp (c:=c) (L:=coL L p fr ke) kp d_int (q_lt q)
 induction k using Bool.casesOn with
 | true=>exact t_bop (s_cons a1 (k_of (s_cons a2 (k_of (s_cons (t_bop (s_cons a4 (k_at (s_cons a3 (k_at s_and0))))) k_ot)))))
 | false=>exact t_bop (s_cons a1 (k_of (s_cons a2 (k_of (s_cons (t_bop (s_cons a4 (k_at (s_cons a3 k_af)))) (k_of s_or0))))))
section
variable (I0:IR H0 ki im p) (g:p.Good) (ch:CH H0 H kf l) (cl:CL L km ki kf fr.pos fr.sp) (l5:L 5=some (.int t)) (ht:(t == 0)=inner) (hl:l.length≤90000) (ok:FOk c H0 km p inner fr)
include I0 g ch cl l5 ht hl ok
theorem co_stop (st:Stops p fr) {Gl:Prop} (kG:∀ L' H',(Rn c 6 coB L H .brk L' H')→(L' 2=some (.obj kf))→(CH H0 H' kf (l++[p.nm fr]))→Gl):Gl:=by
 refine co_head I0 g ch cl l5 ht hl ok fun ke H3 c3 he3 hd=>?_
 have fin (e:Et c 6 coE (coL L p fr ke) H3 true H3):Gl:=kG _ H3 (hd e (r_tt (r_cons x_brk k_brk)) k_brk) cl.l2 c3
 unfold Stops at st
 cases q:fr.out with
 | none=>exact fin (t_bop (s_cons (t_cmp (d_loc (congrArg (fun o=>some (outV o)) q)) d_non q_isN) k_ot))
 | some o =>
  rw [q] at st
  obtain ⟨x,y⟩:=o
  by_cases q4:x<4
  ·exact fin (t_bop (s_cons (t_cmp (d_loc (congrArg (fun o=>some (outV o)) q)) d_non q_isT) (k_of (s_cons (t_cmp (d_sub (d_loc (congrArg (fun o=>some (outV o)) q)) d_int (sub_t rfl)) d_int (q_lt q4)) k_ot))))
  ·have s:=st.resolve_left q4
   exact fin ((co_ask (I0.keep c3.kp) g cl.l1 he3 q q4).1 s.1 s.2 (by rw [beq_self_eq_true,beq_self_eq_true]; rfl))
theorem co_go {pos sp:Int} (go:Goes p fr pos sp) {Gl:Prop} (kG:∀ L' H',(Rn c 6 coB L H .next L' H')→(CL L' km ki kf pos sp)→(CH H0 H' kf (l++[p.nm fr]))→Gl):Gl:=by
 refine co_head I0 g ch cl l5 ht hl ok fun ke H3 c3 he3 hd=>?_
 obtain ⟨x,q,e,q4,q5⟩:=go
 have ask:=co_ask (c:=c) (I0.keep c3.kp) g cl.l1 he3 q q4
 have l8:coL L p fr ke 8=some (.tup [.int x,.int sp]):=congrArg (fun o=>some (outV o)) q
 have fin (e':Et c 6 coE (coL L p fr ke) H3 false H3):Gl:=by
  refine kG (((coL L p fr ke).put 3 (.int (x - 4))).put 4 (.int sp)) H3 (hd e' (r_ff r_nil) (k_next (r_one (x_swp (a_cons (d_sbt (d_sub (d_loc l8) d_int (sub_t rfl)) d_int) (a_cons (d_sub (d_loc l8) d_int (sub_t rfl)) a_nil)) rfl)))) ⟨cl.l0,cl.l1,cl.l2,?_,rfl⟩ c3
  rw [e]
  rfl
 by_cases q6:fr.e.kept<0
 ·obtain ⟨j,a1,a2⟩:=q5 q6
  refine fin (ask.1 q6 a1 ?_)
  have ne:p.mk1 j ≠ p.mk1 fr.j:=by
   rcases Nat.lt_or_gt_of_ne a2 with z | z
   ·exact Int.ne_of_lt (g.sd _ _ z ok.at_.lt)
   ·exact Int.ne_of_gt (g.sd _ _ z a1.lt)
  rw [beq_eq_false_iff_ne.2 ne]
  rfl
 ·exact fin (ask.2 q6)
end
theorem next64 {i:Nat} (h:i<64):nextV H (.rng 0 64) i=some (some (.int (0+i))):=by
 unfold nextV
 dsimp only
 rw [if_pos ⟨by decide,by decide⟩,if_pos (show (0:Int)+i<64 by lia)]
theorem co_loop (I0:IR H0 ki im p) (g:p.Good):∀ {fs:List Frame} {f:Frame} {l:List V} {L:LL} {H:MH} {i N:Nat} {inner:Bool},
  CH H0 H kf l→CL L km ki kf f.pos f.sp→(((0:Int)+(i:Int)) == 0)=inner→l.length+fs.length+1≤90000→i+fs.length+1≤64→fs.length+1≤N→FChain c H0 km p inner (f::fs) →
  ∃ L' H',Fo c 6 false [5] coB (.rng 0 64) N i L H .next L' H'∧L' 2=some (.obj kf)∧CH H0 H' kf (l++(f::fs).map p.nm):=by
 intro fs
 induction fs with
 | nil =>
  intro f l L H i N inner ch cl hi h1 h2 h3 fc
  obtain ⟨N,rfl⟩:=Nat.exists_eq_add_of_le' h3
  refine co_stop (L:=L.put 5 (.int (0+i))) (t:=0+i) I0 g ch ⟨cl.l0,cl.l1,cl.l2,cl.l3,cl.l4⟩ rfl hi (Nat.le_of_succ_le h1) fc.1 fc.2 fun L' H' r1 r2 r3=>?_
  exact ⟨L',H',f_bk (next64 (show i<64 from h2)) rfl r1,r2,r3⟩
 | cons x fs ih =>
  intro f l L H i N inner ch cl hi h1 h2 h3 fc
  rw [List.length_cons] at h1 h2 h3
  obtain ⟨N,rfl⟩:=Nat.exists_eq_add_of_le' (Nat.le_trans (Nat.le_add_left 1 _) h3)
  refine co_go (L:=L.put 5 (.int (0+i))) (t:=0+i) I0 g ch ⟨cl.l0,cl.l1,cl.l2,cl.l3,cl.l4⟩ rfl hi (by lia) fc.1 fc.2.1 fun L' H' r1 r2 r3=>?_
  obtain ⟨L2,H2,q1,q2,q3⟩:=ih (i:=i+1) (N:=N) r3 r2 (beq_eq_false_iff_ne.2 (by lia)) (by rw [List.length_append,List.length_singleton]; lia) (by lia) (by lia) fc.2.2
  rw [List.append_assoc] at q3
  exact ⟨L2,H2,f_nx (next64 (by lia)) rfl r1 q1,q2,q3⟩
theorem calls_of_of (M:MR H0 km m R mem d) (I0:IR H0 ki im p) (g:p.Good) {f:Frame} {fs:List Frame}
  (h1:fs.length+1≤64) (e1:f.pos=m.pc) (e2:f.sp=rg R 2) (fc:FChain c H0 km p true (f::fs)) {Gl:Prop} (kG:∀ k H',(Cl c 7 453 [.ins 754 km,.ins 470 ki] H0 (.obj k) H')→(Kp H0 H')→(H0.n≤k)→(k<H'.n)→(H'.o k=some (.lst ((f::fs).map p.nm)))→Gl):Gl:=by
 have M1:=M.keep (Kp.new (x:=.lst []))
 have ch:CH H0 (H0.new (.lst [])) H0.n []:=⟨.new,Nat.le_refl _,Nat.lt_succ_self _,new_at _ _⟩
 obtain ⟨L',H',q1,q2,q3⟩:=co_loop (c:=c) (km:=km) (i:=0) (N:=65) (L:=((((argsL 0 [.ins 754 km,.ins 470 ki]).put 2 (.obj H0.n)).put 3 (.int m.pc)).put 4 (.int (rg R 2)))) I0 g ch ⟨rfl,rfl,rfl,by rw [e1]; rfl,by rw [e2]; rfl⟩ rfl (by rw [List.length_nil]; lia) (by lia) (by lia) fc
 have i2:Mine.idx (R.map V.int) 2=some (.int (rg R 2)):=M.idx (j:=2) (by decide)
 have att {t:Str} {v:V} (g:dget (machD km m) (.str t)=some v) (nb:∀ n,v ≠ .bn n):Ev c 6 (.att (.loc 0) t) ((argsL 0 [.ins 754 km,.ins 470 ki]).put 2 (.obj H0.n)) (H0.new (.lst [])) v (H0.new (.lst [])):=d_att (d_loc rfl) (at_of M1.h rfl g nb)
 exact kG H0.n H' (c_ret (D:=f_calls_of) (by rfl) rfl (r_cons (x_asg (d_lst a_nil)) (k_next (r_cons (x_swp (a_cons (att rfl (fun _ q=>by cases q)) (a_cons (d_sub (att rfl (fun _ q=>by cases q)) (d_glo (by rfl)) (sub_l M1.hr i2)) a_nil)) rfl) (k_next (r_cons (x_fo (d_cal (d_glo (by rfl)) (a_cons (d_glo (by rfl)) a_nil) (ck_bl bl_rng1)) rfl (next64 (by decide)) rfl q1) (k_next (r_one (x_ret (d_loc q2)))))))))) q3.kp q3.n1 q3.n2 q3.hf
end
inductive Rw where
 | addi (d s:Nat) (i:Int)
 | add
 | sub
 | lui
 | sw (c o:Nat)
 | lw (c o:Nat)
 | jal (g:Nat)
 | high
 | near (g:Nat)
 | jalrc (g:Nat)
 | ret
 | beq
 | ecall
 deriving DecidableEq
noncomputable def Rw.v:Rw→V
 | .addi d s i=>.tup [.str t_addi,.int d,.int s,.int i]
 | .add=>.tup [.str t_add,.int 2,.int 2,.int 5]
 | .sub=>.tup [.str t_sub,.int 2,.int 2,.int 5]
 | .lui=>.tup [.str t_lui,.int 5,.int 1]
 | .sw c o=>.tup [.str t_sw,.int c,.int 2,.int o]
 | .lw c o=>.tup [.str t_lw,.int c,.int 2,.int o]
 | .jal g=>.tup [.str t_jal,.int g]
 | .high=>.tup [.str t_high,.int 6]
 | .near g=>.tup [.str t_near,.int 6,.int g]
 | .jalrc g=>.tup [.str t_jalr,.int 1,.int 6,.int g]
 | .ret=>.tup [.str t_jalr,.int 0,.int 1,.int (-1)]
 | .beq=>.tup [.str t_beq]
 | .ecall=>.tup [.str t_ecall]
structure Wk (H:MH) (kw kn:Nat) (B:Nat):Prop where
 ex:∃ (N:List Int) (p:Nat),H.o kw=some (.lst [.obj kn,.int p])∧H.o kn=some (.lst (N.map .int))∧0<N.length∧p≤N.length∧N.length+B≤90000∧∀ x ∈ N,0≤x∧x<2147483648
 ne:kw ≠ kn
 l1:kw<H.n
 l2:kn<H.n
noncomputable def Kw (kw kn:Nat) (H H':MH):Prop:=H.n≤H'.n∧∀ k,k<H.n→k ≠ kw→k ≠ kn→H'.o k=H.o k
theorem Kw.refl {kw kn H}:Kw kw kn H H:=⟨Nat.le_refl _,fun _ _ _ _=>rfl⟩
theorem Kw.trans {kw kn H H' H''} (x:Kw kw kn H H') (y:Kw kw kn H' H''):Kw kw kn H H'':=⟨Nat.le_trans x.1 y.1,fun k hk a b=>(y.2 k (Nat.lt_of_lt_of_le hk x.1) a b).trans (x.2 k hk a b)⟩
theorem Kp.kw {kw kn H H'} (k:Kp H H'):Kw kw kn H H':=⟨k.1,fun j hj _ _=>k.2 j hj⟩
theorem Wk.keep {H kw kn B} (W:Wk H kw kn B) {H':MH} (k:Kp H H'):Wk H' kw kn B:=by
 obtain ⟨⟨N,p,h1,h2,h3⟩,h4,h5,h6⟩:=W
 exact ⟨⟨N,p,(k.2 _ h5).trans h1,(k.2 _ h6).trans h2,h3⟩,h4,Nat.lt_of_lt_of_le h5 k.1,Nat.lt_of_lt_of_le h6 k.1⟩
theorem Wk.less {H kw kn B B'} (W:Wk H kw kn B) (h:B'≤B):Wk H kw kn B':=by
 obtain ⟨⟨N,p,h1,h2,h3,h4,h5,h6⟩,h7,h8,h9⟩:=W
 exact ⟨⟨N,p,h1,h2,h3,h4,Nat.le_trans (Nat.add_le_add_left h _) h5,h6⟩,h7,h8,h9⟩
section
variable {c:Cx} {H:MH} {kw kn B:Nat} {N:List Int} {L:LL}
theorem idxN {j:Nat} (hl:N.length≤90000) (hj:j<N.length):idx (N.map V.int) (j:Int)=some (.int (N.getD j 0)):=by
 refine idxL (by rw [List.length_map]; exact Nat.le_trans hl (by decide)) ?_
 rw [List.getElem?_map,List.getD_eq_getElem?_getD,List.getElem?_eq_getElem hj]
 rfl
theorem idxNl (hl:N.length≤90000) (h:0<N.length):idx (N.map V.int) (-1)=some (.int (N.getD (N.length - 1) 0)):=by
 have e:=idxN hl (Nat.sub_lt h Nat.one_pos)
 unfold idx at e ⊢
 rw [List.length_map] at e ⊢
 rw [if_neg (by lia),if_pos (Int.natCast_nonneg _),Int.toNat_natCast] at e
 rw [if_neg (by lia),if_neg (by decide),if_pos (by lia),show (-1+(N.length:Int)).toNat=N.length - 1 by lia]
 exact e
theorem getD_mem {j:Nat} (h:j<N.length):N.getD j 0 ∈ N:=by
 rw [List.getD_eq_getElem?_getD,List.getElem?_eq_getElem h]
 exact List.getElem_mem h
theorem sm31 {x:Int} (h0:0≤x) (h1:x<2147483648):small x=true:=by
 unfold small
 rw [decide_eq_true_eq]
 lia
theorem draw_end {L:LL} {p:Nat} {z size:Int} (l0:L 0=some (.obj kw)) (l1:L 1=some (.int size)) (l2:L 2=some (.obj kn)) (l3:L 3=some (.int p)) (h1:H.o kw=some (.lst [.obj kn,.int p])) (h2:H.o kn=some (.lst (N.map .int))) (ne:kw ≠ kn) (hs:0<size) (hi:idx (N.map V.int) p=some (.int z)) :
  Rn c 0 [.sst (.loc 0) (.int 1) (.bin .Add (.loc 3) (.int 1)),.ret (.bin .Mod (.sub (.loc 2) (.loc 3)) (.loc 1))] L H (.ret (.int (z.fmod size))) L (H.put kw (.lst [.obj kn,.int (p+1:Nat)])):=by
 have sv:=set_l (c:=c) (i:=1) (v:=.int (p+1)) h1 (Nat.le_of_ble_eq_true rfl) (Nat.le_of_ble_eq_true rfl)
 have hn:(H.put kw (.lst [.obj kn,.int (p+1:Nat)])).o kn=some (.lst (N.map .int)):=(put_ne ne.symm).trans h2
 exact r_cons (x_sst (d_add (d_loc l3) d_int) (d_loc l0) d_int sv) (k_next (r_one (x_ret (d_bin (d_sub (d_loc l2) (d_loc l3) (sub_l hn hi)) (d_loc l1) (b_mod (Int.ne_of_gt hs))))))
theorem draw_of (W:Wk H kw kn (B+1)) {size:Int} (hs:0<size) {Gl:Prop} (kG:∀ (x:Int) (H':MH),(Cl c 1 766 [.obj kw,.int size] H (.int x) H')→(0≤x)→(x<size)→(Wk H' kw kn B)→(Kw kw kn H H')→(H'.n=H.n)→Gl):Gl:=by
 obtain ⟨⟨N,p,h1,h2,h3,h4,h5,h6⟩,ne,l1,l2⟩:=W
 have hl:N.length≤90000:=by lia
 have ln:=bl_len (c:=c) h2 (by rw [List.length_map]; lia)
 rw [List.length_map] at ln
 have rg (z:Int):0≤z.fmod size∧z.fmod size<size:=⟨Int.fmod_nonneg_of_pos _ hs,Int.fmod_lt_of_pos _ hs⟩
 have up:Ex c 0 (.upk [.nam 2,.nam 3] (.loc 0)) (argsL 0 [.obj kw,.int size]) H .next (((argsL 0 [.obj kw,.int size]).put 2 (.obj kn)).put 3 (.int p)) H:=x_upk (d_loc rfl) (by
  unfold unpV
  dsimp only
  rw [h1]) (g_nam (g_nam g_nil))
 by_cases q:p=N.length
 ·have i1:=idxNl hl h3
  have hp:p / 2<N.length:=by lia
  have i2:=idxN hl hp
  have m1:=h6 _ (getD_mem (N:=N) (Nat.sub_lt h3 Nat.one_pos))
  have m2:=h6 _ (getD_mem hp)
  have fd:BinR c H .FloorDiv (.int p) (.int 2) (.int (p / 2:Nat)) H:=b_half
  generalize N.getD (N.length - 1) 0=x1 at *
  generalize N.getD (p / 2) 0=x2 at *
  have v0:=Int.fmod_nonneg_of_pos (x1 * 5+x2+p) (show (0:Int)<251 by decide)
  have v1:=Int.fmod_lt_of_pos (x1 * 5+x2+p) (show (0:Int)<251 by decide)
  have md:BinR c H .Mod (.int (x1 * 5+x2+p)) (.int 251) (.int ((x1 * 5+x2+p).fmod 251)) H:=b_mod (by decide)
  generalize (x1 * 5+x2+p).fmod 251=z at *
  have lk:=lk_app (c:=c) h2
  have mt:=mt_app (c:=c) (v:=.int z) h2 (by rw [List.length_map]; lia)
  rw [show N.map V.int++[V.int z]=(N++[z]).map V.int by rw [List.map_append]; rfl] at mt
  have iz:idx ((N++[z]).map V.int) (p:Int)=some (.int z):=by
   refine idxL (by rw [List.length_map,List.length_append,List.length_singleton]; lia) ?_
   rw [q,List.getElem?_map,List.getElem?_concat_length]
   rfl
  have en:=draw_end (c:=c) (L:=((argsL 0 [.obj kw,.int size]).put 2 (.obj kn)).put 3 (.int p)) rfl rfl rfl rfl ((put_ne ne).trans h1) (put_at _ _ _) ne hs iz
  have sm:=sm31 m1.1 m1.2
  have gt:Rn c 0 [.exp (.met (.loc 2) t_append [.bin .Mod (.bin .Add (.bin .Add (.bin .Mult (.sub (.loc 2) (.neg (.int 1))) (.int 5)) (.sub (.loc 2) (.bin .FloorDiv (.loc 3) (.int 2)))) (.loc 3)) (.int 251)])] (((argsL 0 [.obj kw,.int size]).put 2 (.obj kn)).put 3 (.int p)) H .next (((argsL 0 [.obj kw,.int size]).put 2 (.obj kn)).put 3 (.int p)) (H.put kn (.lst ((N++[z]).map .int))) :=
   r_one (x_exp (d_met (d_loc rfl) lk (a_cons (d_bin (d_add (d_add (d_mul (d_sub (d_loc rfl) (d_neg d_int) (sub_l h2 i1)) d_int sm (by decide)) (d_sub (d_loc rfl) (d_bin (d_loc rfl) d_int fd) (sub_l h2 i2))) (d_loc rfl)) d_int md) a_nil) (mk_bl mt)))
  refine kG _ _ (c_ret (D:=f_law_draw) (by rfl) rfl (r_cons up (k_next (r_cons (x_ifs (t_cmp (d_loc rfl) (d_cal (d_glo (by rfl)) (a_cons (d_loc rfl) a_nil) (ck_bl ln)) (q_eq (congrArg Nat.cast q))) (r_tt gt)) (k_next en))))) ((rg _).1) ((rg _).2) ⟨⟨N++[z],p+1,put_at _ _ _,(put_ne ne.symm).trans (put_at _ _ _),?_,?_,?_,?_⟩,ne,l1,l2⟩ ⟨Nat.le_refl _,fun k hk a b=>(put_ne a).trans (put_ne b)⟩ rfl
  ·rw [List.length_append]; lia
  ·rw [List.length_append,List.length_singleton]; lia
  ·rw [List.length_append,List.length_singleton]; lia
  ·intro x hx
   rcases List.mem_append.1 hx with hx | hx
   ·exact h6 x hx
   ·rw [List.mem_singleton.1 hx]; lia
 ·have en:=draw_end (c:=c) (L:=((argsL 0 [.obj kw,.int size]).put 2 (.obj kn)).put 3 (.int p)) rfl rfl rfl rfl h1 h2 ne hs (idxN hl (j:=p) (by lia))
  refine kG _ _ (c_ret (D:=f_law_draw) (by rfl) rfl (r_cons up (k_next (r_cons (x_ifs (t_cmp (d_loc rfl) (d_cal (d_glo (by rfl)) (a_cons (d_loc rfl) a_nil) (ck_bl ln)) (q_eqf fun e=>q (Int.ofNat.inj e))) (r_ff r_nil)) (k_next en))))) ((rg _).1) ((rg _).2) ⟨⟨N,p+1,put_at _ _ _,(put_ne ne.symm).trans h2,h3,by lia,by lia,h6⟩,ne,l1,l2⟩ ⟨Nat.le_refl _,fun k hk a b=>put_ne a⟩ rfl
noncomputable def calls (g:Nat):List (List Rw):=[[.jal g],[.high,.near g,.jalrc g]]
noncomputable def fills (b:Bool):List (List Rw):=[[],[.addi 11 11 1]]++(if b then [[.sw 11 12]] else [])
structure Built (kw kn B:Nat) (S:List Rw→Prop) (H:MH) (k:Nat) (H':MH):Prop where
 ex:∃ rows,S rows∧H'.o k=some (.lst (rows.map Rw.v))
 lo:H.n≤k
 hi:k<H'.n
 W:Wk H' kw kn B
 K:Kw kw kn H H'
theorem Built.of {S:List Rw→Prop} {H1:MH} {rows:List Rw} (W:Wk H1 kw kn B) (K:Kw kw kn H H1) (h:S rows):Built kw kn B S H H1.n (H1.new (.lst (rows.map Rw.v))) :=
 ⟨⟨rows,h,new_at _ _⟩,K.1,Nat.lt_succ_self _,W.keep .new,K.trans (Kp.kw .new)⟩
theorem call_of (W:Wk H kw kn (B+1)) {g:Nat}:∃ k H',Cl c 2 773 [.obj kw,.int g] H (.obj k) H'∧Built kw kn B (· ∈ calls g) H k H':=by
 refine draw_of (c:=c) W (size:=2) (by decide) fun x H1 dr h0 h1 W1 k1 n1=>?_
 have t {k:Bool} (q:CmpR c H1 .Eq (.int x) (.int 0) k):Et c 1 (.cmp .Eq (.call (.glo t__law_draw) [.loc 0,.int 2]) (.int 0)) (argsL 0 [.obj kw,.int g]) H k H1:=t_cmp (d_cal (d_glo (by rfl)) (a_cons (d_loc rfl) (a_cons d_int a_nil)) (ck_fn rfl dr)) d_int q
 by_cases q:x=0
 ·exact ⟨_,_,c_ret (D:=f_law_call) (by rfl) rfl (r_cons (x_ifs (t (q_eq q)) (r_tt (r_one (x_ret (d_lst (a_cons (d_tup (a_cons d_str (a_cons (d_loc rfl) a_nil))) a_nil)))))) k_ret),.of (rows:=[.jal g]) W1 k1 (.head _)⟩
 ·exact ⟨_,_,c_ret (D:=f_law_call) (by rfl) rfl (r_cons (x_ifs (t (q_eqf q)) (r_ff r_nil)) (k_next (r_one (x_ret (d_lst (a_cons (d_tup (a_cons d_str (a_cons d_int a_nil))) (a_cons (d_tup (a_cons d_str (a_cons d_int (a_cons (d_loc rfl) a_nil)))) (a_cons (d_tup (a_cons d_str (a_cons d_int (a_cons d_int (a_cons (d_loc rfl) a_nil))))) a_nil)))))))),.of (rows:=[.high,.near g,.jalrc g]) W1 k1 (.tail _ (.head _))⟩
theorem filler_of (W:Wk H kw kn (B+1)) (b:Bool) {Gl:Prop} (kG:∀ k H',(Cl c 2 785 [.obj kw,.bool b] H (.obj k) H')→(Built kw kn B (· ∈ fills b) H k H')→Gl):Gl:=by
 refine draw_of (c:=c) W (size:=3) (by decide) fun x H1 dr h0 h1 W1 k1 n1=>?_
 have go {fl:Fl} {L' H'} (r:Rn c 1 f_law_filler.body.tail ((argsL 0 [.obj kw,.bool b]).put 2 (.int x)) H1 fl L' H'):Rn c 1 f_law_filler.body (argsL 0 [.obj kw,.bool b]) H fl L' H' :=
  r_cons (x_asg (d_cal (d_glo (by rfl)) (a_cons (d_loc rfl) (a_cons d_int a_nil)) (ck_fn rfl dr))) (k_next r)
 by_cases q:x=0
 ·exact kG _ _ (c_ret (D:=f_law_filler) (by rfl) rfl (go (r_cons (x_ifs (t_cmp (d_loc rfl) d_int (q_eq q)) (r_tt (r_one (x_ret (d_lst a_nil))))) k_ret))) (.of (rows:=[]) W1 k1 (.head _))
 ·have go {k:Bool} {v:V} {H':MH} (s:Es c 1 .And [.cmp .Eq (.loc 2) (.int 2),.loc 1] ((argsL 0 [.obj kw,.bool b]).put 2 (.int x)) H1 k H1) (e:Ev c 1 (cond k (.lst [.tup [.str t_sw,.int 11,.int 2,.int 12]]) (.lst [.tup [.str t_addi,.int 11,.int 11,.int 1]])) ((argsL 0 [.obj kw,.bool b]).put 2 (.int x)) H1 v H'):Cl c 2 785 [.obj kw,.bool b] H v H' :=
   c_ret (D:=f_law_filler) (by rfl) rfl (go (r_cons (x_ifs (t_cmp (d_loc rfl) d_int (q_eqf q)) (r_ff r_nil)) (k_next (r_one (x_ret (d_ife (t_bop s) e))))))
  have ad {L:LL}:Ev c 1 (.lst [.tup [.str t_addi,.int 11,.int 11,.int 1]]) L H1 (.obj H1.n) (H1.new (.lst ([Rw.addi 11 11 1].map Rw.v))):=d_lst (a_cons (d_tup (a_cons d_str (a_cons d_int (a_cons d_int (a_cons d_int a_nil))))) a_nil)
  by_cases q2:x=2
  ·induction b using Bool.casesOn with
   | true=>exact kG _ _ (go (k:=true) (s_cons (t_cmp (d_loc rfl) d_int (q_eq q2)) (k_at (s_cons (t_of rfl (d_loc rfl) (k:=true) rfl) (k_at s_and0)))) (e_tt (d_lst (a_cons (d_tup (a_cons d_str (a_cons d_int (a_cons d_int (a_cons d_int a_nil))))) a_nil)))) (.of (rows:=[.sw 11 12]) W1 k1 (.tail _ (.tail _ (.head _))))
   | false=>exact kG _ _ (go (k:=false) (s_cons (t_cmp (d_loc rfl) d_int (q_eq q2)) (k_at (s_cons (t_of rfl (d_loc rfl) (k:=false) rfl) k_af))) (e_ff ad)) (.of (rows:=[.addi 11 11 1]) W1 k1 (.tail _ (.head _)))
  ·exact kG _ _ (go (k:=false) (s_cons (t_cmp (d_loc rfl) d_int (q_eqf q2)) k_af) (e_ff ad)) (.of (rows:=[.addi 11 11 1]) W1 k1 (.tail _ (.head _)))
end
noncomputable def begins (s:Int) (w:Nat):List Rw:=if w=2 then [.addi 5 0 s,.sub] else if w=3 then [.lui,.addi 5 5 (-2048),.addi 5 5 (s - 2048),.sub] else [.addi 2 2 (-s)]
noncomputable def finishes (s:Int) (w:Nat):List Rw:=if w > 1 then [.addi 5 0 s,.add] else [.addi 2 2 s]
noncomputable def cellR (f:Nat→Nat→Rw):Nat→List Nat→List Rw
 | _,[]=>[]
 | i,c::r=>f c (4 * i)::cellR f (i+1) r
noncomputable def openR (s:Int) (w:Nat) (cells:List Nat):List Rw:=begins s w++cellR .sw 0 cells
noncomputable def closeR (s:Int) (w:Nat) (cells:List Nat):List Rw:=cellR .lw 0 cells++finishes s w++[.ret]
noncomputable def cellV (cells:List Nat):List V:=cells.map fun c:Nat=>.int c
structure Lr (kw kn:Nat) (H:MH) (k:Nat) (rows:List Rw):Prop where
 o:H.o k=some (.lst (rows.map Rw.v))
 l:k<H.n
 n1:k ≠ kw
 n2:k ≠ kn
theorem Lr.kw {kw kn H k rows} (x:Lr kw kn H k rows) {H':MH} (f:Kw kw kn H H'):Lr kw kn H' k rows:=⟨(f.2 _ x.l x.n1 x.n2).trans x.o,Nat.lt_of_lt_of_le x.l f.1,x.n1,x.n2⟩
section
variable {c:Cx} {H H1 H2:MH} {kw kn B d kc:Nat} {L:LL} {cells:List Nat} {a b:E} {r1 r2:List Rw}
theorem Lr.of (W:Wk H kw kn B) {rows:List Rw}:Lr kw kn (H.new (.lst (rows.map Rw.v))) H.n rows:=⟨new_at _ _,Nat.lt_succ_self _,Nat.ne_of_gt W.l1,Nat.ne_of_gt W.l2⟩
theorem cat {i j:Nat} (p:Ev c d a L H (.obj i) H1) (x:Lr kw kn H1 i r1) (q:Ev c d b L H1 (.obj j) H2) (y:Lr kw kn H2 j r2) (f:Kw kw kn H1 H2) (h:r1.length+r2.length≤100000):Ev c d (.bin .Add a b) L H (.obj H2.n) (H2.new (.lst ((r1++r2).map Rw.v))):=by
 have h:=b_lst (c:=c) (x.kw f).o y.o (by rw [List.length_map,List.length_map]; exact h)
 rw [← List.map_append] at h
 exact d_bin p q h
theorem sm_nat {n:Nat} (h:n≤1000):small (n:Int)=true:=by
 unfold small
 rw [decide_eq_true_eq]
 lia
theorem cells_nx {i:Nat} {x:Option Nat} (hc:H.o kc=some (.lst (cellV cells))) (h0:cells.length≤1000) (e:cells[i]?=x):nextV H (.obj kc) i=some (x.map fun n:Nat=>V.int n) :=
 (nextL hc (by rw [show (cellV cells).length=cells.length from List.length_map ..]; lia)).trans (congrArg some ((List.getElem?_map ..).trans (congrArg _ e)))
theorem cells_loop (h0:cells.length≤1000) {f:Nat→Nat→Rw} {t:Str} (hf:∀ c o,(f c o).v=.tup [.str t,.int c,.int 2,.int o]) {k:Nat} (hn:k ≠ kc):∀ {r:List Nat} {l:List V} {i:Nat} {L:LL} {H:MH},H.o kc=some (.lst (cellV cells))→cells.drop i=r→i+r.length≤1000→l.length+r.length≤1000→H.o k=some (.lst l) →
  Co c 1 (.tup [.str t,.loc 1,.int 2,.bin .Mult (.int 4) (.loc 0)]) [0,1] true (.obj kc) k (r.length+1) i L H (H.put k (.lst (l++(cellR f i r).map Rw.v))):=by
 intro r
 induction r with
 | nil =>
  intro l i L H hc e h1 h2 ho
  have nx:nextV H (.obj kc) i=some .none:=cells_nx (i:=i) (x:=none) hc h0 (by rw [← Nat.add_zero i,← List.getElem?_drop,e]; rfl)
  rw [show H.put k (.lst (l++(cellR f i []).map Rw.v))=H by
   rw [show l++(cellR f i []).map Rw.v=l from List.append_nil l]
   exact put_self ho]
  exact co_end nx
 | cons x r ih =>
  intro l i L H hc e h1 h2 ho
  rw [List.length_cons] at h1 h2
  have e2:cells.drop (i+1)=r:=by rw [← List.drop_drop,e]; rfl
  have nx:nextV H (.obj kc) i=some (some (.int x)):=cells_nx (i:=i) (x:=some x) hc h0 (by rw [← Nat.add_zero i,← List.getElem?_drop,e]; rfl)
  have g:=ih (l:=l++[(f x (4 * i)).v]) (i:=i+1) (L:=(L.put 0 (.int i)).put 1 (.int x)) (H:=H.put k (.lst (l++[(f x (4 * i)).v]))) ((put_ne hn.symm).trans hc) e2 (by lia) (by rw [List.length_append,List.length_singleton]; lia) (put_at _ _ _)
  rw [put_put,List.append_assoc] at g
  refine co_nx nx (L1:=(L.put 0 (.int i)).put 1 (.int x)) rfl ?_ ho (by lia) g
  rw [hf,Int.natCast_mul]
  exact d_tup (a_cons d_str (a_cons (d_loc rfl) (a_cons d_int (a_cons (d_mul d_int (d_loc rfl) (by decide) (sm_nat (by lia))) a_nil))))
theorem cells_comp {f:Nat→Nat→Rw} {t:Str} (hf:∀ c o,(f c o).v=.tup [.str t,.int c,.int 2,.int o]) {k:Nat} {L:LL} (l1:L 1=some (.obj kc)) (hc:H.o kc=some (.lst (cellV cells))) (hk:kc<H.n) (hl:cells.length≤1000) :
  Ex c 1 (.asc k true (.tup [.str t,.loc 1,.int 2,.bin .Mult (.int 4) (.loc 0)]) [t_place,t_cell] (.loc 1)) L H .next (L.put k (.obj H.n)) (H.new (.lst ((cellR f 0 cells).map Rw.v))):=by
 have g:=cells_loop (c:=c) hl hf (Nat.ne_of_gt hk) (r:=cells) (l:=[]) (i:=0) (L:=noL) (H:=H.new (.lst [])) ((new_lt hk).trans hc) rfl (by lia) (by rw [List.length_nil]; lia) (new_at _ _)
 rw [new_put] at g
 exact x_asc (d_loc l1) rfl (cells_nx (i:=0) hc hl rfl) rfl g
theorem ways_of (W:Wk H kw kn B) {s:Int} {w:Nat} (hw:w<4) (l2:L 2=some (.int s)) (l3:L 3=some (.int w)) {Gl:Prop} (kG:∀ kb kf L' H',(∀ {l fl L2 H2},Rn c 1 l L' H' fl L2 H2→Rn c 1 ((f_law_frame.body.drop 2).take 4++l) L H fl L2 H2)→(Lr kw kn H' kb (begins s w))→(Lr kw kn H' kf (finishes s w))→(Kp H H')→(L' 4=some (.obj kb))→(L' 5=some (.obj kf))→(L' 1=L 1)→Gl):Gl:=by
 have a1:Ev c 1 (.lst [.tup [.str t_addi,.int 2,.int 2,.neg (.loc 2)]]) L H (.obj H.n) (H.new (.lst ([Rw.addi 2 2 (-s)].map Rw.v))):=d_lst (a_cons (d_tup (a_cons d_str (a_cons d_int (a_cons d_int (a_cons (d_neg (d_loc l2)) a_nil))))) a_nil)
 have a2 {H:MH}:Ev c 1 (.lst [.tup [.str t_addi,.int 2,.int 2,.loc 2]]) L H (.obj H.n) (H.new (.lst ([Rw.addi 2 2 s].map Rw.v))):=d_lst (a_cons (d_tup (a_cons d_str (a_cons d_int (a_cons d_int (a_cons (d_loc l2) a_nil))))) a_nil)
 have k1:Kp H (H.new (.lst ([Rw.addi 2 2 (-s)].map Rw.v))):=.new
 have W1:=W.keep k1
 have k2:=k1.trans (Kp.new (x:=.lst ([Rw.addi 2 2 s].map Rw.v)))
 have W2:=W.keep k2
 have b1:=(Lr.of (rows:=[Rw.addi 2 2 (-s)]) W).kw (Kp.new (x:=.lst ([Rw.addi 2 2 s].map Rw.v))).kw
 have f1:=Lr.of (rows:=[Rw.addi 2 2 s]) W1
 have sw:Ex c 1 (.swp [4,5] [.lst [.tup [.str t_addi,.int 2,.int 2,.neg (.loc 2)]],.lst [.tup [.str t_addi,.int 2,.int 2,.loc 2]]]) L H .next ((L.put 4 (.obj H.n)).put 5 (.obj (H.n+1))) _:=x_swp (a_cons a1 (a_cons a2 a_nil)) rfl
 generalize (H.new (.lst ([Rw.addi 2 2 (-s)].map Rw.v))).new (.lst ([Rw.addi 2 2 s].map Rw.v))=H2 at *
 have l3':∀ {v},(((L.put 4 (.obj H.n)).put 5 (.obj (H.n+1))).put 4 v) 3=some (.int w):=l3
 have fin {b:List Rw} {e:E} (hb:Ev c 1 e ((L.put 4 (.obj H.n)).put 5 (.obj (H.n+1))) H2 (.obj H2.n) (H2.new (.lst (b.map Rw.v)))):∃ kf,Lr kw kn ((H2.new (.lst (b.map Rw.v))).new (.lst ([Rw.addi 5 0 s,.add].map Rw.v))) H2.n b∧Lr kw kn ((H2.new (.lst (b.map Rw.v))).new (.lst ([Rw.addi 5 0 s,.add].map Rw.v))) kf [Rw.addi 5 0 s,.add]∧Kp H ((H2.new (.lst (b.map Rw.v))).new (.lst ([Rw.addi 5 0 s,.add].map Rw.v))) ∧
   Ex c 1 (.asg 5 (.lst [.tup [.str t_addi,.int 5,.int 0,.loc 2],.tup [.str t_add,.int 2,.int 2,.int 5]])) (((L.put 4 (.obj H.n)).put 5 (.obj (H.n+1))).put 4 (.obj H2.n)) (H2.new (.lst (b.map Rw.v))) .next ((((L.put 4 (.obj H.n)).put 5 (.obj (H.n+1))).put 4 (.obj H2.n)).put 5 (.obj kf)) ((H2.new (.lst (b.map Rw.v))).new (.lst ([Rw.addi 5 0 s,.add].map Rw.v))) :=
  ⟨_,(Lr.of W2).kw (Kp.kw .new),Lr.of (W2.keep .new),k2.trans (Kp.trans .new .new),x_asg (d_lst (a_cons (d_tup (a_cons d_str (a_cons d_int (a_cons d_int (a_cons (d_loc l2) a_nil))))) (a_cons (d_tup (a_cons d_str (a_cons d_int (a_cons d_int (a_cons d_int a_nil))))) a_nil)))⟩
 by_cases q2:w=2
 ·have hb:Ev c 1 (.lst [.tup [.str t_addi,.int 5,.int 0,.loc 2],.tup [.str t_sub,.int 2,.int 2,.int 5]]) ((L.put 4 (.obj H.n)).put 5 (.obj (H.n+1))) H2 (.obj H2.n) (H2.new (.lst ([Rw.addi 5 0 s,.sub].map Rw.v))):=d_lst (a_cons (d_tup (a_cons d_str (a_cons d_int (a_cons d_int (a_cons (d_loc l2) a_nil))))) (a_cons (d_tup (a_cons d_str (a_cons d_int (a_cons d_int (a_cons d_int a_nil))))) a_nil))
  obtain ⟨kf,h1,h2,h3,h4⟩:=fin hb
  subst q2
  exact kG _ kf _ _ (fun r=>r_cons sw (k_next (r_cons (x_ifs (t_cmp (d_loc l3) d_int (q_eq rfl)) (r_tt (r_one (x_asg hb)))) (k_next (r_cons (x_ifs (t_cmp (d_loc l3') d_int (q_eqf (by decide))) (r_ff r_nil)) (k_next (r_cons (x_ifs (t_cmp (d_loc l3') d_int (q_gt (by decide))) (r_tt (r_one h4))) (k_next r)))))))) h1 h2 h3 rfl rfl rfl
 ·by_cases q3:w=3
  ·have hb:Ev c 1 (.lst [.tup [.str t_lui,.int 5,.int 1],.tup [.str t_addi,.int 5,.int 5,.neg (.int 2048)],.tup [.str t_addi,.int 5,.int 5,.bin .Sub (.loc 2) (.int 2048)],.tup [.str t_sub,.int 2,.int 2,.int 5]]) ((L.put 4 (.obj H.n)).put 5 (.obj (H.n+1))) H2 (.obj H2.n) (H2.new (.lst ([Rw.lui,.addi 5 5 (-2048),.addi 5 5 (s - 2048),.sub].map Rw.v))):=d_lst (a_cons (d_tup (a_cons d_str (a_cons d_int (a_cons d_int a_nil)))) (a_cons (d_tup (a_cons d_str (a_cons d_int (a_cons d_int (a_cons (d_neg d_int) a_nil))))) (a_cons (d_tup (a_cons d_str (a_cons d_int (a_cons d_int (a_cons (d_sbt (d_loc l2) d_int) a_nil))))) (a_cons (d_tup (a_cons d_str (a_cons d_int (a_cons d_int (a_cons d_int a_nil))))) a_nil))))
   obtain ⟨kf,h1,h2,h3,h4⟩:=fin hb
   subst q3
   exact kG _ kf _ _ (fun r=>r_cons sw (k_next (r_cons (x_ifs (t_cmp (d_loc l3) d_int (q_eqf (by decide))) (r_ff r_nil)) (k_next (r_cons (x_ifs (t_cmp (d_loc l3) d_int (q_eq rfl)) (r_tt (r_one (x_asg hb)))) (k_next (r_cons (x_ifs (t_cmp (d_loc l3') d_int (q_gt (by decide))) (r_tt (r_one h4))) (k_next r)))))))) h1 h2 h3 rfl rfl rfl
  ·have q4:¬ w > 1:=by lia
   refine kG _ _ _ _ (fun r=>r_cons sw (k_next (r_cons (x_ifs (t_cmp (d_loc l3) d_int (q_eqf fun e=>q2 (Int.ofNat.inj e))) (r_ff r_nil)) (k_next (r_cons (x_ifs (t_cmp (d_loc l3) d_int (q_eqf fun e=>q3 (Int.ofNat.inj e))) (r_ff r_nil)) (k_next (r_cons (x_ifs (t_cmp (d_loc l3) d_int (q_gtf (by lia))) (r_ff r_nil)) (k_next r)))))))) ?_ ?_ k2 rfl rfl rfl
   ·rw [show begins s w=_ from (if_neg q2).trans (if_neg q3)]
    exact b1
   ·rw [show finishes s w=_ from if_neg q4]
    exact f1
theorem cellR_len {f:Nat→Nat→Rw}:∀ {l:List Nat} {i:Nat},(cellR f i l).length=l.length
 | [],_=>rfl
 | _::l,i=>congrArg (·+1) (cellR_len (l:=l) (i:=i+1))
theorem begins_len {s:Int} {w:Nat}:(begins s w).length≤4:=by
 unfold begins
 by_cases q:w=2
 ·rw [if_pos q]; exact Nat.le_of_ble_eq_true rfl
 ·rw [if_neg q]
  by_cases q:w=3
  ·rw [if_pos q]; exact Nat.le_refl _
  ·rw [if_neg q]; exact Nat.le_of_ble_eq_true rfl
theorem finishes_len {s:Int} {w:Nat}:(finishes s w).length≤2:=by
 unfold finishes
 by_cases q:w > 1
 ·rw [if_pos q]; exact Nat.le_refl _
 ·rw [if_neg q]; exact Nat.le_of_ble_eq_true rfl
structure Fr (kw kn B:Nat) (cells:List Nat) (H:MH) (kb kf:Nat) (s:Int) (w:Nat) (H':MH):Prop where
 s_:s ∈ [(16:Int),32,48]
 w_:w ∈ [0,1,2,3]
 b:Lr kw kn H' kb (openR s w cells)
 f:Lr kw kn H' kf (closeR s w cells)
 W:Wk H' kw kn B
 K:Kw kw kn H H'
theorem frame_of (W:Wk H kw kn (B+2)) (hc:H.o kc=some (.lst (cellV cells))) (hk:kc<H.n) (hw:kc ≠ kw) (hw2:kc ≠ kn) (hl:cells.length≤3) {Gl:Prop} (kG:∀ kb kf s w H',(Cl c 2 778 [.obj kw,.obj kc] H (.tup [.obj kb,.obj kf]) H')→(Fr kw kn B cells H kb kf s w H')→Gl):Gl:=by
 refine draw_of (c:=c) W (size:=3) (by decide) fun x H1 dr1 h0 h1 W1 k1 n1=>?_
 refine draw_of (c:=c) W1 (size:=4) (by decide) fun w H2 dr2 w0 w1 W2 k2 n2=>?_
 obtain ⟨w,rfl⟩:=Int.eq_ofNat_of_zero_le w0
 have hc2:H2.o kc=some (.lst (cellV cells)):=((k1.trans k2).2 kc hk hw hw2).trans hc
 have hk2:kc<H2.n:=Nat.lt_of_lt_of_le hk (k1.trans k2).1
 have hs:16 * (1+x) ∈ [(16:Int),32,48]:=by
  rcases (by lia:x=0∨x=1∨x=2) with rfl | rfl | rfl <;> decide
 have wm:w ∈ [0,1,2,3]:=by
  rcases (by lia:w=0∨w=1∨w=2∨w=3) with rfl | rfl | rfl | rfl <;> decide
 have sx:small (1+x)=true:=sm31 (by lia) (by lia)
 have e1:Ex c 1 (.asg 2 (.bin .Mult (.int 16) (.bin .Add (.int 1) (.call (.glo t__law_draw) [.loc 0,.int 3])))) (argsL 0 [.obj kw,.obj kc]) H .next ((argsL 0 [.obj kw,.obj kc]).put 2 (.int (16 * (1+x)))) H1:=x_asg (d_mul d_int (d_add d_int (d_cal (d_glo (by rfl)) (a_cons (d_loc rfl) (a_cons d_int a_nil)) (ck_fn rfl dr1))) (by decide) sx)
 generalize 16 * (1+x)=s at *
 refine ways_of (c:=c) (L:=((argsL 0 [.obj kw,.obj kc]).put 2 (.int s)).put 3 (.int w)) W2 (s:=s) (w:=w) (by lia) rfl rfl fun kb kf L' H3 go Lb Lf k3 l4 l5 l1=>?_
 have W3:=W2.keep k3
 have hc3:=(k3.2 _ hk2).trans hc2
 have hk3:=Nat.lt_of_lt_of_le hk2 k3.1
 have sw:=cells_comp (c:=c) (k:=6) (f:=.sw) (t:=t_sw) (fun _ _=>rfl) (l1.trans rfl) hc3 hk3 (Nat.le_trans hl (by decide))
 have k4:Kp H3 (H3.new (.lst ((cellR .sw 0 cells).map Rw.v))):=.new
 have L6:=Lr.of (rows:=cellR .sw 0 cells) W3
 have W4:=W3.keep k4
 have lw:=cells_comp (c:=c) (k:=7) (f:=.lw) (t:=t_lw) (L:=L'.put 6 (.obj H3.n)) (fun _ _=>rfl) (l1.trans rfl) ((k4.2 _ hk3).trans hc3) (Nat.lt_of_lt_of_le hk3 k4.1) (Nat.le_trans hl (by decide))
 have lb:=begins_len (s:=s) (w:=w)
 have lf:=finishes_len (s:=s) (w:=w)
 have lc {f:Nat→Nat→Rw}:(cellR f 0 cells).length≤3:=by rw [cellR_len]; exact hl
 have l6:=lc (f:=.sw)
 have l7:=lc (f:=.lw)
 generalize hH4:H3.new (.lst ((cellR .sw 0 cells).map Rw.v))=H4 at *
 have k5:Kp H4 (H4.new (.lst ((cellR .lw 0 cells).map Rw.v))):=.new
 have L7:=Lr.of (rows:=cellR .lw 0 cells) W4
 have W5:=W4.keep k5
 generalize hH5:H4.new (.lst ((cellR .lw 0 cells).map Rw.v))=H5 at *
 have k45:=k4.trans k5
 have ca:Ev c 1 (.bin .Add (.loc 4) (.loc 6)) ((L'.put 6 (.obj H3.n)).put 7 (.obj H4.n)) H5 (.obj H5.n) (H5.new (.lst ((openR s w cells).map Rw.v))):=cat (d_loc l4) (Lb.kw k45.kw) (d_loc rfl) (L6.kw k5.kw) .refl (by lia)
 have k6:Kp H5 (H5.new (.lst ((openR s w cells).map Rw.v))):=.new
 have LO:=Lr.of (rows:=openR s w cells) W5
 have W6:=W5.keep k6
 generalize H5.new (.lst ((openR s w cells).map Rw.v))=H6 at *
 have k46:=k45.trans k6
 have cb:Ev c 1 (.bin .Add (.loc 7) (.loc 5)) ((L'.put 6 (.obj H3.n)).put 7 (.obj H4.n)) H6 (.obj H6.n) (H6.new (.lst ((cellR .lw 0 cells++finishes s w).map Rw.v))):=cat (d_loc rfl) (L7.kw k6.kw) (d_loc l5) (Lf.kw k46.kw) .refl (by lia)
 have k7:Kp H6 (H6.new (.lst ((cellR .lw 0 cells++finishes s w).map Rw.v))):=.new
 have LC:=Lr.of (rows:=cellR .lw 0 cells++finishes s w) W6
 have W7:=W6.keep k7
 generalize H6.new (.lst ((cellR .lw 0 cells++finishes s w).map Rw.v))=H7 at *
 have rt:Ev c 1 (.lst [.tup [.str t_jalr,.int 0,.int 1,.neg (.int 1)]]) ((L'.put 6 (.obj H3.n)).put 7 (.obj H4.n)) H7 (.obj H7.n) (H7.new (.lst ([Rw.ret].map Rw.v))):=d_lst (a_cons (d_tup (a_cons d_str (a_cons d_int (a_cons d_int (a_cons (d_neg d_int) a_nil))))) a_nil)
 have k8:Kp H7 (H7.new (.lst ([Rw.ret].map Rw.v))):=.new
 have LR:=Lr.of (rows:=[Rw.ret]) W7
 have W8:=W7.keep k8
 have cc:=cat cb LC rt LR k8.kw (by rw [List.length_append,List.length_singleton]; lia)
 generalize H7.new (.lst ([Rw.ret].map Rw.v))=H8 at *
 have k9:Kp H8 (H8.new (.lst ((closeR s w cells).map Rw.v))):=.new
 exact kG _ _ s w _ (c_ret (D:=f_law_frame) (by rfl) rfl (r_cons e1 (k_next (r_cons (x_asg (d_cal (d_glo (by rfl)) (a_cons (d_loc rfl) (a_cons d_int a_nil)) (ck_fn rfl dr2))) (k_next (go (r_cons sw (k_next (r_cons lw (k_next (r_one (x_ret (d_tup (a_cons ca (a_cons cc a_nil))))))))))))))) ⟨hs,wm,LO.kw ((k7.trans k8).trans k9).kw,Lr.of W8,W8.keep k9,(k1.trans k2).trans (((k3.trans k46).trans k7).trans (k8.trans k9)).kw⟩
end
noncomputable def cellsL:List (List Nat):=[[1],[1,9],[9,1],[9,1,18]]
noncomputable def mids (g:Nat):List (List Rw):=(fills true).flatMap fun f=>(calls g).map (f++·)
noncomputable def insides (g:Nat):List (List Rw):=mids g++(mids g).flatMap fun m=>(fills true).flatMap fun f=>(calls g).map fun c=>m++f++c
noncomputable def inners (g:Nat):List (List Rw):=(insides g).flatMap fun i=>(fills true).map (i++·)
noncomputable def wraps (cells:List Nat) (bs:List (List Rw)):List (List Rw):=[(16:Int),32,48].flatMap fun s=>[0,1,2,3].flatMap fun w=>bs.map fun b=>openR s w cells++b++closeR s w cells
noncomputable def funsN (g:Nat):List (List Rw):=cellsL.flatMap fun c=>wraps c (inners g)
noncomputable def recs (g:Nat):List (List Rw):=(fills true).flatMap fun f=>(fills true).map fun f2=>f++[.beq,.addi 10 10 (-1),.jal g]++f2
noncomputable def last0:List (List Rw):=(fills false).map (·++[.ret])
noncomputable def last1:List (List Rw):=wraps [9] (fills true)
noncomputable def last2:List (List Rw):=cellsL.flatMap fun c=>wraps c (fills true)
noncomputable def last3 (g:Nat):List (List Rw):=cellsL.flatMap fun c=>wraps c (recs g)
noncomputable def funsL (g:Nat):List (List Rw):=last0++last1++last2++last3 g
structure Lo (kw kn:Nat) (H:MH) (k:Nat) (l:List V):Prop where
 o:H.o k=some (.lst l)
 l:k<H.n
 n1:k ≠ kw
 n2:k ≠ kn
theorem Lo.kw {kw kn H k l} (x:Lo kw kn H k l) {H':MH} (f:Kw kw kn H H'):Lo kw kn H' k l:=⟨(f.2 _ x.l x.n1 x.n2).trans x.o,Nat.lt_of_lt_of_le x.l f.1,x.n1,x.n2⟩
noncomputable def cellsE:E:=.sub (.lst [.lst [.int 1],.lst [.int 1,.int 9],.lst [.int 9,.int 1],.lst [.int 9,.int 1,.int 18]]) (.call (.glo t__law_draw) [.loc 0,.int 4])
section
variable {c:Cx} {H H1 H2:MH} {kw kn B:Nat} {L:LL}
theorem Lo.of (W:Wk H kw kn B) {l:List V}:Lo kw kn (H.new (.lst l)) H.n l:=⟨new_at _ _,Nat.lt_succ_self _,Nat.ne_of_gt W.l1,Nat.ne_of_gt W.l2⟩
theorem cells_of (W:Wk H kw kn (B+1)) (hL:L 0=some (.obj kw)) {Gl:Prop} (kG:∀ kc H' cells,(Ev c 2 cellsE L H (.obj kc) H')→(cells ∈ cellsL)→(Lo kw kn H' kc (cellV cells))→(Wk H' kw kn B)→(Kw kw kn H H')→Gl):Gl:=by
 have e1:Ev c 2 (.lst [.int 1]) L H (.obj H.n) (H.new (.lst (cellV [1]))):=d_lst (a_cons d_int a_nil)
 have x1:=Lo.of (l:=cellV [1]) W
 have k1:Kp H (H.new (.lst (cellV [1]))):=.new
 generalize H.new (.lst (cellV [1]))=H1 at *
 have W1:=W.keep k1
 have e2:Ev c 2 (.lst [.int 1,.int 9]) L H1 (.obj H1.n) (H1.new (.lst (cellV [1,9]))):=d_lst (a_cons d_int (a_cons d_int a_nil))
 have x2:=Lo.of (l:=cellV [1,9]) W1
 have k2:Kp H1 (H1.new (.lst (cellV [1,9]))):=.new
 generalize H1.new (.lst (cellV [1,9]))=H2 at *
 have W2:=W1.keep k2
 have e3:Ev c 2 (.lst [.int 9,.int 1]) L H2 (.obj H2.n) (H2.new (.lst (cellV [9,1]))):=d_lst (a_cons d_int (a_cons d_int a_nil))
 have x3:=Lo.of (l:=cellV [9,1]) W2
 have k3:Kp H2 (H2.new (.lst (cellV [9,1]))):=.new
 generalize H2.new (.lst (cellV [9,1]))=H3 at *
 have W3:=W2.keep k3
 have e4:Ev c 2 (.lst [.int 9,.int 1,.int 18]) L H3 (.obj H3.n) (H3.new (.lst (cellV [9,1,18]))):=d_lst (a_cons d_int (a_cons d_int (a_cons d_int a_nil)))
 have x4:=Lo.of (l:=cellV [9,1,18]) W3
 have k4:Kp H3 (H3.new (.lst (cellV [9,1,18]))):=.new
 generalize H3.new (.lst (cellV [9,1,18]))=H4 at *
 have W4:=W3.keep k4
 have e5:=d_lst (a_cons e1 (a_cons e2 (a_cons e3 (a_cons e4 a_nil))))
 have x5:=Lo.of (l:=[.obj H.n,.obj H1.n,.obj H2.n,.obj H3.n]) W4
 have k5:Kp H4 (H4.new (.lst [.obj H.n,.obj H1.n,.obj H2.n,.obj H3.n])):=.new
 generalize H4.new (.lst [.obj H.n,.obj H1.n,.obj H2.n,.obj H3.n])=H5 at *
 refine draw_of (c:=c) (W4.keep k5) (size:=4) (by decide) fun x H6 dr h0 h1 W6 k6 n6=>?_
 have K4:=k5.kw.trans k6
 have K3:=k4.kw.trans K4
 have K2:=k3.kw.trans K3
 have K1:=k2.kw.trans K2
 have x5:=x5.kw k6
 have ev {k:Nat} (h:idx [.obj H.n,.obj H1.n,.obj H2.n,.obj H3.n] x=some (.obj k)):Ev c 2 cellsE L H (.obj k) H6:=d_sub e5 (d_cal (d_glo (by rfl)) (a_cons (d_loc hL) (a_cons d_int a_nil)) (ck_fn rfl (dr.up 1))) (sub_l x5.o h)
 rcases (by lia:x=0∨x=1∨x=2∨x=3) with rfl | rfl | rfl | rfl
 ·exact kG _ H6 [1] (ev rfl) (.head _) (x1.kw K1) W6 (k1.kw.trans K1)
 ·exact kG _ H6 [1,9] (ev rfl) (.tail _ (.head _)) (x2.kw K2) W6 (k1.kw.trans K1)
 ·exact kG _ H6 [9,1] (ev rfl) (.tail _ (.tail _ (.head _))) (x3.kw K3) W6 (k1.kw.trans K1)
 ·exact kG _ H6 [9,1,18] (ev rfl) (.tail _ (.tail _ (.tail _ (.head _)))) (x4.kw K4) W6 (k1.kw.trans K1)
theorem Built.lr {B' k:Nat} {S:List Rw→Prop} (b:Built kw kn B' S H k H1) (W:Wk H kw kn B):∃ rows,S rows∧Lr kw kn H1 k rows :=
 b.ex.elim fun rows h=>⟨rows,h.1,h.2,b.hi,Nat.ne_of_gt (Nat.lt_of_lt_of_le W.l1 b.lo),Nat.ne_of_gt (Nat.lt_of_lt_of_le W.l2 b.lo)⟩
theorem fill_len {b:Bool} {r:List Rw} (h:r ∈ fills b):r.length≤1:=by
 cases b
 ·exact (show ∀ r ∈ fills false,r.length≤1 by decide) r h
 ·exact (show ∀ r ∈ fills true,r.length≤1 by decide) r h
theorem call_len {g:Nat} {r:List Rw} (h:r ∈ calls g):r.length≤3:=by
 rcases List.mem_cons.1 h with rfl | h
 ·exact Nat.le_of_ble_eq_true rfl
 ·rw [List.mem_singleton.1 h]; exact Nat.le_refl _
theorem cells_len {l:List Nat} (h:l ∈ cellsL):l.length≤3:=(show ∀ l ∈ cellsL,l.length≤3 by decide) l h
theorem open_len {s:Int} {w:Nat} {l:List Nat} (h:l.length≤3):(openR s w l).length≤7:=by
 have:=begins_len (s:=s) (w:=w)
 unfold openR
 rw [List.length_append,cellR_len]
 lia
theorem close_len {s:Int} {w:Nat} {l:List Nat} (h:l.length≤3):(closeR s w l).length≤6:=by
 have:=finishes_len (s:=s) (w:=w)
 unfold closeR
 rw [List.length_append,List.length_append,cellR_len,List.length_singleton]
 lia
structure Pc (c:Cx) (kw kn B:Nat) (e:E) (L:LL) (S:List Rw→Prop) (n:Nat) (H:MH) (k:Nat) (H':MH) (r:List Rw):Prop where
 e:Ev c 2 e L H (.obj k) H'
 s:S r
 l:Lr kw kn H' k r
 W:Wk H' kw kn B
 K:Kw kw kn H H'
 n:r.length≤n
theorem fil (W:Wk H kw kn (B+1)) (l0:L 0=some (.obj kw)) (b:Bool) {Gl:Prop} (kG:∀ k H' r,(Pc c kw kn B (.call (.glo t__law_filler) [.loc 0,.tt b]) L (· ∈ fills b) 1 H k H' r)→Gl):Gl:=by
 refine filler_of (c:=c) W b fun k H' e b'=>?_
 obtain ⟨r,s,l⟩:=b'.lr W
 exact kG k H' r ⟨d_cal (d_glo (by rfl)) (a_cons (d_loc l0) (a_cons d_tt a_nil)) (ck_fn rfl e),s,l,b'.W,b'.K,fill_len s⟩
theorem cll (W:Wk H kw kn (B+1)) (l0:L 0=some (.obj kw)) {g:Nat} (l1:L 1=some (.int g)) {Gl:Prop} (kG:∀ k H' r,(Pc c kw kn B (.call (.glo t__law_call) [.loc 0,.bin .Add (.loc 1) (.int 1)]) L (· ∈ calls (g+1)) 3 H k H' r)→Gl):Gl:=by
 obtain ⟨k,H',e,b'⟩:=call_of (c:=c) W (g:=g+1)
 obtain ⟨r,s,l⟩:=b'.lr W
 exact kG k H' r ⟨d_cal (d_glo (by rfl)) (a_cons (d_loc l0) (a_cons (d_add (d_loc l1) d_int) a_nil)) (ck_fn rfl e),s,l,b'.W,b'.K,call_len s⟩
theorem pcl {k j:Nat} {r:List Rw} (W:Wk H kw kn B) (l:L j=some (.obj k)) (x:Lr kw kn H k r) {n:Nat} (h:r.length≤n):Pc c kw kn B (.loc j) L (·=r) n H k H r:=⟨d_loc l,rfl,x,W,.refl,h⟩
theorem Pc.add {a b:E} {S T:List Rw→Prop} {m n i j B':Nat} {r1 r2:List Rw} (p:Pc c kw kn B a L S m H i H1 r1) (q:Pc c kw kn B' b L T n H1 j H2 r2) (h:m+n≤100000):Pc c kw kn B' (.bin .Add a b) L (fun r=>S r1∧T r2∧r=r1++r2) (m+n) H H2.n (H2.new (.lst ((r1++r2).map Rw.v))) (r1++r2) :=
 have le:=Nat.add_le_add p.n q.n
 ⟨cat p.e p.l q.e q.l q.K (Nat.le_trans le h),⟨p.s,q.s,rfl⟩,Lr.of q.W,q.W.keep .new,(p.K.trans q.K).trans (Kp.kw .new),by rw [List.length_append]; exact le⟩
theorem mem_wraps {l:List Nat} {bs:List (List Rw)} {s:Int} {w:Nat} {b:List Rw} (hs:s ∈ [(16:Int),32,48]) (hw:w ∈ [0,1,2,3]) (hb:b ∈ bs):openR s w l++b++closeR s w l ∈ wraps l bs :=
 List.mem_flatMap.2 ⟨s,hs,List.mem_flatMap.2 ⟨w,hw,List.mem_map.2 ⟨b,hb,rfl⟩⟩⟩
theorem mem_mids {g:Nat} {f r:List Rw} (hf:f ∈ fills true) (hc:r ∈ calls g):f++r ∈ mids g :=
 List.mem_flatMap.2 ⟨f,hf,List.mem_map.2 ⟨r,hc,rfl⟩⟩
theorem mem_inners {g:Nat} {m f:List Rw} (h:m ∈ insides g) (hf:f ∈ fills true):m++f ∈ inners g :=
 List.mem_flatMap.2 ⟨m,h,List.mem_map.2 ⟨f,hf,rfl⟩⟩
theorem upk_fr {a:E} {k B':Nat} {cells:List Nat} (ce:Ev c 2 a L H (.obj k) H1) (x:Lo kw kn H1 k (cellV cells)) (W:Wk H1 kw kn (B+2)) (hl:cells.length≤3) (l0:L 0=some (.obj kw)) :
  ∃ kb kf s w H2,Ex c 2 (.upk [.nam 4,.nam 5] (.call (.glo t__law_frame) [.loc 0,a])) L H .next ((L.put 4 (.obj kb)).put 5 (.obj kf)) H2∧Fr kw kn B cells H1 kb kf s w H2:=by
 refine frame_of (c:=c) W x.o x.l x.n1 x.n2 hl fun kb kf s w H2 e f=>?_
 exact ⟨kb,kf,s,w,H2,x_upk (d_cal (d_glo (by rfl)) (a_cons (d_loc l0) (a_cons ce a_nil)) (ck_fn rfl e)) rfl (g_nam (g_nam g_nil)),f⟩
theorem fun_fin {kb kf k6:Nat} {ro rc m:List Rw} (W:Wk H kw kn (B+1)) (l0:L 0=some (.obj kw)) (l4:L 4=some (.obj kb)) (l5:L 5=some (.obj kf)) (l6:L 6=some (.obj k6)) (Lb:Lr kw kn H kb ro) (Lf:Lr kw kn H kf rc) (Lm:Lr kw kn H k6 m) (nb:ro.length≤7) (nf:rc.length≤6) (nm:m.length≤20) {Gl:Prop} (kG:∀ k H' r,(r ∈ fills true)→(Ev c 2 (.bin .Add (.bin .Add (.bin .Add (.loc 4) (.loc 6)) (.call (.glo t__law_filler) [.loc 0,.tt true])) (.loc 5)) L H (.obj k) H')→(Lr kw kn H' k (ro++m++r++rc))→(Wk H' kw kn B)→(Kw kw kn H H')→(H.n≤k)→Gl):Gl:=by
 have P1:=(pcl (c:=c) W l4 Lb nb).add (pcl W l6 Lm nm) (by decide)
 refine fil (c:=c) P1.W l0 true fun k2 H2 r P2=>?_
 have P3:=P1.add P2 (by decide)
 have P4:=P3.add (pcl (c:=c) P3.W l5 (Lf.kw P3.K) nf) (by decide)
 exact kG _ _ r P2.s P4.e P4.l P4.W P4.K P3.K.1
theorem fun_lt (W:Wk H kw kn (B+20)) {number many:Nat} (hlt:number<many) {Gl:Prop} (kG:∀ k H',(Cl c 3 792 [.obj kw,.int number,.int many] H (.obj k) H')→(Built kw kn B (· ∈ funsN (number+1)) H k H')→Gl):Gl:=by
 refine cells_of (c:=c) (B:=B+19) (L:=argsL 0 [.obj kw,.int number,.int many]) W rfl fun kc H1 cells ce hc xc W1 K1=>?_
 have cl:=cells_len hc
 obtain ⟨kb,kf,s,w,H2,eu,F⟩:=upk_fr (B:=B+17) (B':=0) ce xc W1 cl rfl
 have lo:=open_len (s:=s) (w:=w) cl
 have lz:=close_len (s:=s) (w:=w) cl
 refine fil (c:=c) (B:=B+16) (L:=((argsL 0 [.obj kw,.int number,.int many]).put 4 (.obj kb)).put 5 (.obj kf)) F.W rfl true fun k3 H3 r3 P3=>?_
 refine cll (c:=c) (B:=B+15) (L:=((argsL 0 [.obj kw,.int number,.int many]).put 4 (.obj kb)).put 5 (.obj kf)) P3.W rfl (g:=number) rfl fun k4 H4 r4 P4=>?_
 have P5:=P3.add P4 (by decide)
 generalize H4.new (.lst ((r3++r4).map Rw.v))=H5 at *
 refine draw_of (c:=c) (B:=B+14) P5.W (size:=4) (by decide) fun x H6 dr x0 x1 W6 K6 n6=>?_
 have K26:=P5.K.trans K6
 have as:Ex c 2 (.asg 6 (.bin .Add (.call (.glo t__law_filler) [.loc 0,.tt true]) (.call (.glo t__law_call) [.loc 0,.bin .Add (.loc 1) (.int 1)]))) (((argsL 0 [.obj kw,.int number,.int many]).put 4 (.obj kb)).put 5 (.obj kf)) H2 .next ((((argsL 0 [.obj kw,.int number,.int many]).put 4 (.obj kb)).put 5 (.obj kf)).put 6 (.obj H4.n)) H5:=x_asg P5.e
 have n34:=Nat.add_le_add P3.n P4.n
 have t {k:Bool} (q:CmpR c H6 .Eq (.int x) (.int 1) k):Et c 2 (.cmp .Eq (.call (.glo t__law_draw) [.loc 0,.int 4]) (.int 1)) ((((argsL 0 [.obj kw,.int number,.int many]).put 4 (.obj kb)).put 5 (.obj kf)).put 6 (.obj H4.n)) H5 k H6:=t_cmp (d_cal (d_glo (by rfl)) (a_cons (d_loc rfl) (a_cons d_int a_nil)) (ck_fn rfl (dr.up 1))) d_int q
 have all {H7:MH} {k6:Nat} {m:List Rw} {L':LL} (l0:L' 0=some (.obj kw)) (l4:L' 4=some (.obj kb)) (l5:L' 5=some (.obj kf)) (l6:L' 6=some (.obj k6)) (e:Ex c 2 (.ifs (.cmp .Eq (.call (.glo t__law_draw) [.loc 0,.int 4]) (.int 1)) [.asg 6 (.bin .Add (.bin .Add (.loc 6) (.call (.glo t__law_filler) [.loc 0,.tt true])) (.call (.glo t__law_call) [.loc 0,.bin .Add (.loc 1) (.int 1)]))] []) ((((argsL 0 [.obj kw,.int number,.int many]).put 4 (.obj kb)).put 5 (.obj kf)).put 6 (.obj H4.n)) H5 .next L' H7) (W7:Wk H7 kw kn (B+1)) (K7:Kw kw kn H6 H7) (Lm:Lr kw kn H7 k6 m) (nm:m.length≤20) (hm:m ∈ insides (number+1)):Gl:=by
  have K27:=K26.trans K7
  refine fun_fin (c:=c) W7 l0 l4 l5 l6 (F.b.kw K27) (F.f.kw K27) Lm lo lz nm fun k H' r hr ev l W' K' lo'=>?_
  have KK:=(K1.trans F.K).trans K27
  refine kG k H' (c_ret (D:=f_law_function) (by rfl) rfl (r_cons (x_ifs (t_cmp (d_loc rfl) (d_loc rfl) (q_lt (Int.ofNat_lt.2 hlt))) (r_tt (r_cons eu (k_next (r_cons as (k_next (r_cons e (k_next (r_one (x_ret ev)))))))))) k_ret)) ⟨⟨_,?_,l.o⟩,Nat.le_trans KK.1 lo',l.l,W',KK.trans K'⟩
  rw [List.append_assoc (openR s w cells)]
  exact List.mem_flatMap.2 ⟨cells,hc,mem_wraps F.s_ F.w_ (mem_inners hm hr)⟩
 by_cases q:x=1
 ·refine fil (c:=c) (B:=B+13) (L:=(((argsL 0 [.obj kw,.int number,.int many]).put 4 (.obj kb)).put 5 (.obj kf)).put 6 (.obj H4.n)) W6 rfl true fun k7 H7 r7 P7=>?_
  have P8:=(pcl (c:=c) (j:=6) W6 rfl (P5.l.kw K6) (n:=4) (by rw [List.length_append]; exact n34)).add P7 (by decide)
  refine cll (c:=c) (B:=B+12) (L:=(((argsL 0 [.obj kw,.int number,.int many]).put 4 (.obj kb)).put 5 (.obj kf)).put 6 (.obj H4.n)) P8.W rfl (g:=number) rfl fun k9 H9 r9 P9=>?_
  have P10:=P8.add P9 (by decide)
  exact all rfl rfl rfl rfl (x_ifs (t (q_eq q)) (r_tt (r_one (x_asg P10.e)))) (P10.W.less (by lia)) P10.K P10.l (Nat.le_trans P10.n (by decide)) (List.mem_append.2 (.inr (List.mem_flatMap.2 ⟨_,mem_mids P3.s P4.s,List.mem_flatMap.2 ⟨_,P7.s,List.mem_map.2 ⟨_,P9.s,rfl⟩⟩⟩)))
 ·exact all rfl rfl rfl rfl (x_ifs (t (q_eqf q)) (r_ff r_nil)) (W6.less (by lia)) .refl (P5.l.kw K6) (by rw [List.length_append]; lia) (List.mem_append.2 (.inl (mem_mids P3.s P4.s)))
theorem pc_lit (W:Wk H kw kn B) {rows:List Rw} {e:E} (h:Ev c 2 e L H (.obj H.n) (H.new (.lst (rows.map Rw.v)))):Pc c kw kn B e L (·=rows) rows.length H H.n (H.new (.lst (rows.map Rw.v))) rows:=⟨h,rfl,Lr.of W,W.keep .new,Kp.kw .new,Nat.le_refl _⟩
theorem fin_of {e:E} {S:List Rw→Prop} {n kb kf k B':Nat} {ro rc m:List Rw} (W:Wk H kw kn B') (l4:L 4=some (.obj kb)) (l5:L 5=some (.obj kf)) (Lb:Lr kw kn H kb ro) (Lf:Lr kw kn H kf rc) (nb:ro.length≤7) (nf:rc.length≤6) (P:Pc c kw kn B e L S n H k H1 m) (hn:n≤20) {Gl:Prop} (kG:∀ k H',(Ev c 2 (.bin .Add (.bin .Add (.loc 4) e) (.loc 5)) L H (.obj k) H')→(Lr kw kn H' k (ro++m++rc))→(Wk H' kw kn B)→(Kw kw kn H H')→(H.n≤k)→Gl):Gl:=by
 have P2:=(pcl (c:=c) W l4 Lb nb).add P (by lia)
 have P3:=P2.add (pcl (c:=c) P2.W l5 (Lf.kw P2.K) nf) (by lia)
 exact kG _ _ P3.e P3.l P3.W P3.K P2.K.1
theorem fun_last (W:Wk H kw kn (B+20)) {number:Nat} {Gl:Prop} (kG:∀ k H',(Cl c 3 792 [.obj kw,.int number,.int number] H (.obj k) H')→(Built kw kn B (· ∈ funsL number) H k H')→Gl):Gl:=by
 refine draw_of (c:=c) (B:=B+19) W (size:=4) (by decide) fun x H1 dr x0 x1 W1 K1 n1=>?_
 have go {l:List S} {fl:Fl} {L' H'} (r:Rn c 2 l ((argsL 0 [.obj kw,.int number,.int number]).put 3 (.int x)) H1 fl L' H') (e:f_law_function.body.drop 2=l):Rn c 2 f_law_function.body (argsL 0 [.obj kw,.int number,.int number]) H fl L' H' :=
  r_cons (x_ifs (t_cmp (d_loc rfl) (d_loc rfl) (q_ltf (Int.lt_irrefl _))) (r_ff r_nil)) (k_next (r_cons (x_asg (d_cal (d_glo (by rfl)) (a_cons (d_loc rfl) (a_cons d_int a_nil)) (ck_fn rfl (dr.up 1)))) (k_next (by subst e; exact r))))
 by_cases q0:x=0
 ·refine fil (c:=c) (B:=B+18) (L:=(argsL 0 [.obj kw,.int number,.int number]).put 3 (.int x)) W1 rfl false fun k3 H3 r3 P3=>?_
  have P4:=P3.add (pc_lit (c:=c) (rows:=[.ret]) (e:=.lst [.tup [.str t_jalr,.int 0,.int 1,.neg (.int 1)]]) P3.W (d_lst (a_cons (d_tup (a_cons d_str (a_cons d_int (a_cons d_int (a_cons (d_neg d_int) a_nil))))) a_nil))) (by decide)
  have K:=K1.trans P3.K
  exact kG _ _ (c_ret (D:=f_law_function) (by rfl) rfl (go (r_cons (x_ifs (t_cmp (d_loc rfl) d_int (q_eq q0)) (r_tt (r_one (x_ret P4.e)))) k_ret) rfl)) ⟨⟨_,List.mem_append.2 (.inl (List.mem_append.2 (.inl (List.mem_append.2 (.inl (List.mem_map.2 ⟨r3,P3.s,rfl⟩)))))),P4.l.o⟩,Nat.le_succ_of_le K.1,P4.l.l,P4.W.less (by lia),K1.trans P4.K⟩
 ·have go {l:List S} {fl:Fl} {L' H'} (r:Rn c 2 l ((argsL 0 [.obj kw,.int number,.int number]).put 3 (.int x)) H1 fl L' H') (e:f_law_function.body.drop 3=l):Rn c 2 f_law_function.body (argsL 0 [.obj kw,.int number,.int number]) H fl L' H' :=
   go (r_cons (x_ifs (t_cmp (d_loc rfl) d_int (q_eqf q0)) (r_ff r_nil)) (k_next (by subst e; exact r))) rfl
  by_cases q1:x=1
  ·obtain ⟨kb,kf,s,w,H2,eu,F⟩:=upk_fr (B:=B+17) (B':=0) (cells:=[9]) (L:=(argsL 0 [.obj kw,.int number,.int number]).put 3 (.int x)) (d_lst (c:=c) (H:=H1) (a_cons (d_int (i:=9)) a_nil)) (Lo.of W1) (W1.keep .new) (by decide) rfl
   refine fil (c:=c) (B:=B+16) (L:=(((argsL 0 [.obj kw,.int number,.int number]).put 3 (.int x)).put 4 (.obj kb)).put 5 (.obj kf)) F.W rfl true fun k3 H3 r3 P3=>?_
   refine fin_of F.W rfl rfl F.b F.f (open_len (by decide)) (close_len (by decide)) P3 (by decide) fun k H' ev l W' K' lo=>?_
   have K2:=(K1.trans (Kp.kw .new)).trans F.K
   exact kG k H' (c_ret (D:=f_law_function) (by rfl) rfl (go (r_cons (x_ifs (t_cmp (d_loc rfl) d_int (q_eq q1)) (r_tt (r_cons eu (k_next (r_one (x_ret ev)))))) k_ret) rfl)) ⟨⟨_,List.mem_append.2 (.inl (List.mem_append.2 (.inl (List.mem_append.2 (.inr (mem_wraps F.s_ F.w_ P3.s)))))),l.o⟩,Nat.le_trans K2.1 lo,l.l,W'.less (by lia),K2.trans K'⟩
  ·refine cells_of (c:=c) (B:=B+18) (L:=(argsL 0 [.obj kw,.int number,.int number]).put 3 (.int x)) W1 rfl fun kc H2 cells ce hc xc W2 K2=>?_
   have cl:=cells_len hc
   obtain ⟨kb,kf,s,w,H3,eu,F⟩:=upk_fr (B:=B+16) (B':=0) ce xc W2 cl rfl
   refine fil (c:=c) (B:=B+15) (L:=(((argsL 0 [.obj kw,.int number,.int number]).put 3 (.int x)).put 4 (.obj kb)).put 5 (.obj kf)) F.W rfl true fun k4 H4 r4 P4=>?_
   have KF:=(K1.trans K2).trans F.K
   have all {H5:MH} {k6:Nat} {m:List Rw} {L':LL} (l4:L' 4=some (.obj kb)) (l5:L' 5=some (.obj kf)) (l6:L' 6=some (.obj k6)) (e:Ex c 2 (.ifs (.cmp .Eq (.loc 3) (.int 3)) [.asg 6 (.bin .Add (.bin .Add (.loc 6) (.lst [.tup [.str t_beq],.tup [.str t_addi,.int 10,.int 10,.neg (.int 1)],.tup [.str t_jal,.loc 1]])) (.call (.glo t__law_filler) [.loc 0,.tt true]))] []) (((((argsL 0 [.obj kw,.int number,.int number]).put 3 (.int x)).put 4 (.obj kb)).put 5 (.obj kf)).put 6 (.obj k4)) H4 .next L' H5) (W5:Wk H5 kw kn B) (K5:Kw kw kn H4 H5) (Lm:Lr kw kn H5 k6 m) (nm:m.length≤20) (hm:openR s w cells++m++closeR s w cells ∈ funsL number):Gl:=by
    have K35:=P4.K.trans K5
    refine fin_of (c:=c) W5 l4 l5 (F.b.kw K35) (F.f.kw K35) (open_len cl) (close_len cl) (pcl W5 l6 Lm nm) (Nat.le_refl _) fun k H' ev l W' K' lo=>?_
    have K:=KF.trans K35
    exact kG k H' (c_ret (D:=f_law_function) (by rfl) rfl (go (r_cons (x_ifs (t_cmp (d_loc rfl) d_int (q_eqf q1)) (r_ff r_nil)) (k_next (r_cons eu (k_next (r_cons (x_asg P4.e) (k_next (r_cons e (k_next (r_one (x_ret ev)))))))))) rfl)) ⟨⟨_,hm,l.o⟩,Nat.le_trans K.1 lo,l.l,W',K.trans K'⟩
   by_cases q3:x=3
   ·have P5:=(pcl (c:=c) (j:=6) (L:=((((argsL 0 [.obj kw,.int number,.int number]).put 3 (.int x)).put 4 (.obj kb)).put 5 (.obj kf)).put 6 (.obj k4)) P4.W rfl P4.l P4.n).add (pc_lit (c:=c) (rows:=[.beq,.addi 10 10 (-1),.jal number]) (e:=.lst [.tup [.str t_beq],.tup [.str t_addi,.int 10,.int 10,.neg (.int 1)],.tup [.str t_jal,.loc 1]]) P4.W (d_lst (a_cons (d_tup (a_cons d_str a_nil)) (a_cons (d_tup (a_cons d_str (a_cons d_int (a_cons d_int (a_cons (d_neg d_int) a_nil))))) (a_cons (d_tup (a_cons d_str (a_cons (d_loc rfl) a_nil))) a_nil))))) (Nat.le_of_ble_eq_true rfl)
    refine fil (c:=c) (B:=B+14) (L:=((((argsL 0 [.obj kw,.int number,.int number]).put 3 (.int x)).put 4 (.obj kb)).put 5 (.obj kf)).put 6 (.obj k4)) P5.W rfl true fun k7 H7 r7 P7=>?_
    have P8:=P5.add P7 (Nat.le_of_ble_eq_true rfl)
    exact all rfl rfl rfl (x_ifs (t_cmp (d_loc rfl) d_int (q_eq q3)) (r_tt (r_one (x_asg P8.e)))) (P8.W.less (by lia)) P8.K P8.l (Nat.le_trans P8.n (Nat.le_of_ble_eq_true rfl)) (List.mem_append.2 (.inr (List.mem_flatMap.2 ⟨cells,hc,mem_wraps F.s_ F.w_ (List.mem_flatMap.2 ⟨r4,P4.s,List.mem_map.2 ⟨r7,P7.s,rfl⟩⟩)⟩)))
   ·exact all rfl rfl rfl (x_ifs (t_cmp (d_loc rfl) d_int (q_eqf q3)) (r_ff r_nil)) (P4.W.less (by lia)) .refl P4.l (Nat.le_trans P4.n (Nat.le_of_ble_eq_true rfl)) (List.mem_append.2 (.inl (List.mem_append.2 (.inr (List.mem_flatMap.2 ⟨cells,hc,mem_wraps F.s_ F.w_ P4.s⟩)))))
end
noncomputable def Rw.word (pos base:Int) (st:Nat→Int):Rw→Int
 | .addi d s i=>19+d * 128+s * 32768+i.fmod 4096 * 1048576
 | .add=>5308723
 | .sub=>1079050547
 | .lui=>4791
 | .sw c o=>8227+c * 1048576+65536+(o:Int).fdiv 32 * 33554432+(o:Int).fmod 32 * 128
 | .lw c o=>8195+c * 128+65536+(o:Int).fmod 4096 * 1048576
 | .jal g=>jalW (st g - pos)
 | .high=>823+base
 | .near g=>197395+(st g - base) * 1048576
 | .jalrc _=>196839
 | .ret=>32871
 | .beq=>329315
 | .ecall=>115
noncomputable def Rw.ins (pos base:Int) (st:Nat→Int):Rw→In
 | .addi d s i=>.addi d s i
 | .add=>.add
 | .sub=>.sub
 | .lui=>.lui 5 1
 | .sw c o=>.sw c o
 | .lw c o=>.lw c o
 | .jal g=>.jal (st g - pos)
 | .high=>.lui 6 (base / 4096)
 | .near g=>.addi 6 6 (st g - base)
 | .jalrc _=>.jalr 1 6
 | .ret=>.jalr 0 1
 | .beq=>.beq
 | .ecall=>.ecall
noncomputable def conL:List Rw:=[.add,.sub,.lui,.ret,.beq,.ecall,.addi 5 5 (-2048),.addi 11 11 1,.sw 11 12,.addi 10 10 (-1),.addi 17 0 93,.addi 10 0 1,.addi 10 0 2] ++
 [(16:Int),32,48].flatMap (fun s=>[.addi 5 0 s,.addi 5 5 (s - 2048),.addi 2 2 (-s),.addi 2 2 s])++[1,9,18].flatMap (fun c=>[0,4,8].flatMap fun o=>[.sw c o,.lw c o])
noncomputable def Rw.fine:Rw→Bool
 | .jal _=>true
 | .high=>true
 | .near _=>true
 | .jalrc _=>true
 | r=>decide (r ∈ conL)
theorem Rw.fine_cases:∀ {r:Rw},r.fine=true→(∃ g,r=.jal g)∨r=.high∨(∃ g,r=.near g)∨(∃ g,r=.jalrc g)∨r ∈ conL
 | .jal g,_=>.inl ⟨g,rfl⟩
 | .high,_=>.inr (.inl rfl)
 | .near g,_=>.inr (.inr (.inl ⟨g,rfl⟩))
 | .jalrc g,_=>.inr (.inr (.inr (.inl ⟨g,rfl⟩)))
 | .addi ..,h | .add,h | .sub,h | .lui,h | .sw ..,h | .lw ..,h | .ret,h | .beq,h | .ecall,h=>.inr (.inr (.inr (.inr (of_decide_eq_true h))))
noncomputable def isW (i:In) (w:Int):Prop:=i.Ok w∧0≤w∧w<4294967296
theorem con_w (pos base:Int) (st:Nat→Int):conL.map (fun r=>okW (r.ins pos base st,r.word pos base st))=mpR (fun r=>okI (r.ins pos base st,r.word pos base st)) conL:=by kernel_rfl
theorem con_lt (pos base:Int) (st:Nat→Int):(conL.all fun r=>decide (0≤r.word pos base st) && decide (r.word pos base st<4294967296))=true:=by kernel_rfl
theorem ok1 {i:In} {w:Int} (h:[okW (i,w)]=[okI (i,w)]):i.Ok w:=ok_of (l:=[(i,w)]) h (.head _)
theorem near_w:((List.range 101).map fun k:Nat=>okW (.addi 6 6 ((k:Int) * 4),197395+(k:Int) * 4 * 1048576))=mpR (fun k:Nat=>okI (.addi 6 6 ((k:Int) * 4),197395+(k:Int) * 4 * 1048576)) (List.range 101):=by kernel_rfl
theorem high_w:([(0:Int),4096,8192].map fun b=>okW (.lui 6 (b / 4096),823+b))=mpR (fun b=>okI (.lui 6 (b / 4096),823+b)) [(0:Int),4096,8192]:=by kernel_rfl
theorem jal_lt:((List.range 201).all fun k:Nat=>decide (0≤jalW ((k:Int) * 4 - 400)) && decide (jalW ((k:Int) * 4 - 400)<4294967296))=true:=by kernel_rfl
theorem ok_map {α:Type} {l:List α} {f:α→In × Int} (h:l.map (fun x=>okW (f x))=mpR (fun x=>okI (f x)) l) {x:α} (m:x ∈ l):(f x).1.Ok (f x).2 :=
 ok_of (l:=l.map f) (by rw [mpR_eq,List.map_map,List.map_map]; exact h.trans (mpR_eq ..)) (List.mem_map.2 ⟨x,m,rfl⟩)
theorem two_of {p q:Prop} [Decidable p] [Decidable q] (h:(decide p && decide q)=true):p∧q:=⟨of_decide_eq_true (Bool.and_eq_true_iff.1 h).1,of_decide_eq_true (Bool.and_eq_true_iff.1 h).2⟩
theorem word_isW {r:Rw} {pos base:Int} {st:Nat→Int} (h:r.fine=true) (hb:base=0∨base=4096∨base=8192)
  (hj:∀ g,r=.jal g→(st g - pos) % 4=0∧-400≤st g - pos∧st g - pos≤400) (hn:∀ g,r=.near g→(st g - base) % 4=0∧0≤st g - base∧st g - base≤400):isW (r.ins pos base st) (r.word pos base st):=by
 rcases Rw.fine_cases h with ⟨g,rfl⟩ | rfl | ⟨g,rfl⟩ | ⟨g,rfl⟩ | m
 ·obtain ⟨h1,h2,h3⟩:=hj g rfl
  have e:=List.all_eq_true.1 jal_lt ((st g - pos+400) / 4).toNat (List.mem_range.2 (by omega))
  rw [show ((((st g - pos+400) / 4).toNat:Nat):Int) * 4 - 400=st g - pos by omega] at e
  exact ⟨jal_ok h1 h2 h3,two_of e⟩
 ·have e:=ok_map high_w (x:=base) (by rcases hb with rfl | rfl | rfl <;> decide)
  exact ⟨e,show 0≤823+base∧823+base<4294967296 by omega⟩
 ·obtain ⟨h1,h2,h3⟩:=hn g rfl
  have e:=ok_map near_w (x:=((st g - base) / 4).toNat) (List.mem_range.2 (by omega))
  rw [show ((((st g - base) / 4).toNat:Nat):Int) * 4=st g - base by omega] at e
  exact ⟨e,show 0≤197395+(st g - base) * 1048576∧197395+(st g - base) * 1048576<4294967296 by omega⟩
 ·exact ⟨ok1 (by kernel_rfl),show (0:Int)≤196839∧(196839:Int)<4294967296 by decide⟩
 ·exact ⟨ok_map (f:=fun r=>(Rw.ins pos base st r,Rw.word pos base st r)) (con_w pos base st) m,two_of (List.all_eq_true.1 (con_lt pos base st) r m)⟩
theorem smN {x:Int} (h0:-1000000000<x) (h1:x<1000000000):small x=true:=by
 unfold small
 rw [decide_eq_true_eq]
 omega
theorem smF {x k:Int} (h0:0<k) (h1:k<1000000000):small (x.fmod k)=true:=by
 rw [fmod_pos h0]
 have:=Int.emod_nonneg x (Int.ne_of_gt h0)
 have:=Int.emod_lt_of_pos x h0
 exact smN (by omega) (by omega)
theorem con_p (pos base:Int) (ks:Nat) (st:Nat→Int):(Rw.high::conL).map (fun r=>callP 1 799 [r.v,.int pos,.obj ks,.int base])=mpR (fun r=>some (.int (r.word pos base st))) (Rw.high::conL):=by kernel_rfl
section
variable {c:Cx} {H:MH} {pos base:Int} {ks:Nat} {D:List (V × V)} {st:Nat→Int}
theorem word_con {r:Rw} (h:r ∈ Rw.high::conL):Cl c 1 799 [r.v,.int pos,.obj ks,.int base] H (.int (r.word pos base st)) H:=callP_ok _ _ _ (map_at (con_p pos base ks st) r h) H
theorem word_jalrc {g:Nat}:Cl c 1 799 [(Rw.jalrc g).v,.int pos,.obj ks,.int base] H (.int 196839) H:=callP_ok _ _ _ (by kernel_rfl) H
theorem word_jal {g:Nat} (hD:H.o ks=some (.dic D)) (hg:dget D (.int g)=some (.int (st g))):Cl c 1 799 [(Rw.jal g).v,.int pos,.obj ks,.int base] H (.int ((Rw.jal g).word pos base st)) H:=by
 have sd:=sub_d (c:=c) (y:=.int g) hD rfl hg
 have p (n:Int) {z:Int} (e:binI .Pow 2 n=some z):BinR c H .Pow (.int 2) (.int n) (.int z) H:=b_int e
 have fd {x:Int} (n:Int) (h:n ≠ 0) (h2:n.natAbs<1073741824):BinR c H .FloorDiv (.int x) (.int n) (.int (x.fdiv n)) H:=b_fdv h h2
 have s2 {x:Int}:small (x.fmod 2)=true:=smF (by decide) (by decide)
 have s1:=s2 (x:=(st g - pos).fdiv 1048576)
 have s2:=s2 (x:=(st g - pos).fdiv 2048)
 have s3:small (((st g - pos).fdiv 4096).fmod 256)=true:=smF (by decide) (by decide)
 have s4:small (((st g - pos).fdiv 2).fmod 1024)=true:=smF (by decide) (by decide)
 have p7:=p 7 (z:=128) (by rfl)
 have p8:=p 8 (z:=256) (by rfl)
 have p10:=p 10 (z:=1024) (by rfl)
 have p11:=p 11 (z:=2048) (by rfl)
 have p12:=p 12 (z:=4096) (by rfl)
 have p20:=p 20 (z:=1048576) (by rfl)
 have p21:=p 21 (z:=2097152) (by rfl)
 have p31:=p 31 (z:=2147483648) (by rfl)
 have f1:=fd (x:=st g - pos) 1048576 (by decide) (by decide)
 have f2:=fd (x:=st g - pos) 4096 (by decide) (by decide)
 have f3:=fd (x:=st g - pos) 2 (by decide) (by decide)
 have f4:=fd (x:=st g - pos) 2048 (by decide) (by decide)
 have o1:BinR c H .Mod (.int ((st g - pos).fdiv 1048576)) (.int 2) (.int (((st g - pos).fdiv 1048576).fmod 2)) H:=b_mod (by decide)
 have o2:BinR c H .Mod (.int ((st g - pos).fdiv 4096)) (.int 256) (.int (((st g - pos).fdiv 4096).fmod 256)) H:=b_mod (by decide)
 have o3:BinR c H .Mod (.int ((st g - pos).fdiv 2)) (.int 1024) (.int (((st g - pos).fdiv 2).fmod 1024)) H:=b_mod (by decide)
 have o4:BinR c H .Mod (.int ((st g - pos).fdiv 2048)) (.int 2) (.int (((st g - pos).fdiv 2048).fmod 2)) H:=b_mod (by decide)
 exact c_ret (by rfl) rfl (by unfold f_law_word; decreasing_trivial)
theorem word_near {g:Nat} (hD:H.o ks=some (.dic D)) (hg:dget D (.int g)=some (.int (st g))) (h0:0≤st g - base) (h1:st g - base<2048):Cl c 1 799 [(Rw.near g).v,.int pos,.obj ks,.int base] H (.int ((Rw.near g).word pos base st)) H:=by
 have sd:=sub_d (c:=c) (y:=.int g) hD rfl hg
 have p (n:Int) {z:Int} (e:binI .Pow 2 n=some z):BinR c H .Pow (.int 2) (.int n) (.int z) H:=b_int e
 have p7:=p 7 (z:=128) (by rfl)
 have p15:=p 15 (z:=32768) (by rfl)
 have p20:=p 20 (z:=1048576) (by rfl)
 have s1:small (st g - base)=true:=smN (by omega) (by omega)
 exact c_ret (by rfl) rfl (by unfold f_law_word; decreasing_trivial)
end
noncomputable def Rw.tg (m:Nat):Rw→Bool
 | .jal g=>decide (g≤m)
 | .near g=>decide (g≤m)
 | _=>true
noncomputable def Rw.ft (m:Nat) (r:Rw):Bool:=r.fine && r.tg m
inductive X6 where
 | no
 | base
 | go (g:Nat)
 deriving DecidableEq
structure Ann where
 low:Int
 sav:Bool
 liv:Bool
 x5:Option Int
 x6:X6
 pos:Bool
 dec:Bool
 x17:Bool
 deriving DecidableEq
structure RE where
 size:Int
 kept:Int
 sd:Option Int
 kd:Option Int
 deriving DecidableEq
noncomputable def Ann.z:Ann:=⟨0,false,true,none,.no,false,false,false⟩
noncomputable def annCall (A:Ann):Ann:={ A with liv:=false,x5:=none,x6:=.no,pos:=false,dec:=false,x17:=false }
noncomputable def annNext (A:Ann):Rw→Ann
 | .addi d s i =>
  if d=2 then { A with low:=A.low - i }
  else if d=5 then { A with x5:=if s=0 then some i else A.x5.map (·+i) }
  else if d=10 then { A with pos:=false,dec:=s=10 }
  else if d=17 then { A with x17:=true }
  else A
 | .add=>{ A with low:=A.low - A.x5.getD 0,x5:=none }
 | .sub=>{ A with low:=A.low+A.x5.getD 0,x5:=none }
 | .lui=>{ A with x5:=some 4096 }
 | .sw c _=>if c=1 then { A with sav:=true } else A
 | .lw c _=>if c=1 then { A with liv:=true } else A
 | .jal _=>annCall A
 | .high=>{ A with x6:=.base }
 | .near g=>{ A with x6:=.go g }
 | .jalrc _=>annCall A
 | .ret=>A
 | .beq=>{ A with pos:=true }
 | .ecall=>A
noncomputable def lateOk (e:RE) (A:Ann) (r:Rw):Bool :=
 if r=.ret then A.liv && A.low == 0
 else if e.kept<0 then A.liv && A.low == e.size
 else A.sav && A.low == e.size
noncomputable def stepOk (e:RE) (j:Nat) (A:Ann) (r:Rw):Bool :=
 if (match e.sd with | some x=>decide ((4 * j:Int)<x) | none=>false) then A.liv && A.low == 0
 else if (e.kept ≥ 0 && match e.kd with | some x=>decide ((4 * j:Int)<x) | none=>false) && r ≠ .ret then A.liv && A.low == e.size
 else lateOk e A r
noncomputable def Rw.isJal:Rw→Bool
 | .jal _=>true
 | _=>false
noncomputable def beqT:List Rw→Bool
 | r::q::_=>decide (r=.addi 10 10 (-1)) && q.isJal
 | _=>false
theorem and_i {a b:Bool} (h:a=true) (g:b=true):(a && b)=true:=by rw [h,g]; rfl
theorem isJal_of {r:Rw} (h:r.isJal=true):∃ g,r=.jal g:=by
 induction r using Rw.casesOn with
 | jal g=>exact ⟨g,rfl⟩
 | _=>exact no_ft h
theorem beqT_of {l:List Rw} (h:beqT l=true):l[0]?=some (.addi 10 10 (-1))∧∃ g,l[1]?=some (.jal g):=by
 induction l using List.casesOn with
 | nil=>exact no_ft h
 | cons r l=>induction l using List.casesOn with
  | nil=>exact no_ft h
  | cons q l=>exact ⟨congrArg some (of_decide_eq_true (and_l h)),(isJal_of (and_r h)).imp fun g e=>congrArg some e⟩
theorem beqT_app {l ys:List Rw} (h:beqT l=true):beqT (l++ys)=true:=by
 induction l using List.casesOn with
 | nil=>exact no_ft h
 | cons r l=>induction l using List.casesOn with
  | nil=>exact no_ft h
  | cons q l=>exact h
noncomputable def rowOk (k:Nat) (fin:Bool) (e:RE) (A:Ann) (rs:List Rw):Rw→Bool
 | .addi d s i =>
  (d == 2 && s == 2 && decide (-48≤i) && decide (i≤48)) || (d == 5 && s == 0 && decide (0≤i) && decide (i≤48)) || (d == 5 && s == 5 && (match A.x5 with | some v=>decide (0≤v+i) && decide (v+i≤5000) && decide (-5000<i) && decide (i≤48) | none=>false)) ||
  (d == 11 && s == 11) || (d == 10 && s == 10 && i == -1 && A.pos && !A.dec)
 | .add=>A.x5.isSome && decide (0≤A.x5.getD 0) && decide (A.x5.getD 0≤48)
 | .sub=>A.x5.isSome && decide (0≤A.x5.getD 0) && decide (A.x5.getD 0≤48)
 | .lui=>true
 | .sw c o=>A.low == e.size && decide (16≤e.size) && o % 4 == 0 && decide (o≤12) && decide (c<32) && (if c=1 then A.liv && (o:Int) == e.kept else (o:Int) != e.kept)
 | .lw c o=>A.low == e.size && decide (16≤e.size) && o % 4 == 0 && decide (o≤12) && (if c=1 then A.sav && (o:Int) == e.kept else c == 9 || c == 18)
 | .jal g=>decide (0≤e.kept) && A.sav && A.low == e.size && (if fin then g == k && A.dec else g == k+1)
 | .high=>true
 | .near _=>decide (A.x6=.base)
 | .jalrc g=>decide (0≤e.kept) && A.sav && A.low == e.size && decide (A.x6=.go g) && !fin && g == k+1
 | .ret=>A.liv && A.low == 0
 | .beq=>fin && !A.dec && beqT rs
 | .ecall=>false
noncomputable def walk (k:Nat) (fin:Bool) (e:RE) (j:Nat) (A:Ann):List Rw→Bool
 | []=>true
 | r::rs=>stepOk e j A r && rowOk k fin e A rs r && walk k fin e (j+1) (annNext A r) rs
noncomputable def walkL (k:Nat) (fin:Bool) (e:RE) (A:Ann):List Rw→Bool
 | []=>true
 | r::rs=>lateOk e A r && rowOk k fin e A rs r && walkL k fin e (annNext A r) rs
theorem rowOk_app {k fin e A r} {rs ys:List Rw} (h:rowOk k fin e A rs r=true):rowOk k fin e A (rs++ys) r=true:=by
 induction r using Rw.casesOn with
 | beq=>exact and_i (and_l h) (beqT_app (and_r h))
 | _=>exact h
theorem walk_app {k fin e}:∀ {xs ys:List Rw} {j:Nat} {A:Ann},walk k fin e j A xs=true→walk k fin e (j+xs.length) (xs.foldl annNext A) ys=true→walk k fin e j A (xs++ys)=true:=by
 intro xs
 induction xs with
 | nil=>intro ys j A _ h; exact h
 | cons x xs ih =>
  intro ys j A h g
  refine and_i (and_i (and_l (and_l h)) (rowOk_app (and_r (and_l h)))) (ih (and_r h) ?_)
  rw [show j+1+xs.length=j+(x::xs).length by rw [List.length_cons]; lia]
  exact g
theorem walkL_app {k fin e}:∀ {xs ys:List Rw} {A:Ann},walkL k fin e A xs=true→walkL k fin e (xs.foldl annNext A) ys=true→walkL k fin e A (xs++ys)=true:=by
 intro xs
 induction xs with
 | nil=>intro ys A _ h; exact h
 | cons x xs ih =>
  intro ys A h g
  exact and_i (and_i (and_l (and_l h)) (rowOk_app (and_r (and_l h)))) (ih (and_r h) g)
theorem walk_late {k fin e} {J:Nat} (h1:∀ x,e.sd=some x→x≤4 * (J:Int)) (h2:∀ x,e.kd=some x→x≤4 * (J:Int)):∀ {xs:List Rw} {j:Nat} {A:Ann},J≤j→walkL k fin e A xs=true→walk k fin e j A xs=true:=by
 intro xs
 induction xs with
 | nil=>intro j A _ _; rfl
 | cons x xs ih =>
  intro j A hj h
  refine and_i (and_i ?_ (and_r (and_l h))) (ih (Nat.le_succ_of_le hj) (and_r h))
  unfold stepOk
  have a1:(match e.sd with | some x=>decide ((4 * j:Int)<x) | none=>false)=false:=by
   cases q:e.sd with
   | none=>rfl
   | some y=>exact decide_eq_false (by have:=h1 y q; lia)
  have a2:(match e.kd with | some x=>decide ((4 * j:Int)<x) | none=>false)=false:=by
   cases q:e.kd with
   | none=>rfl
   | some y=>exact decide_eq_false (by have:=h2 y q; lia)
  rw [a1,a2]
  rw [if_neg Bool.false_ne_true,Bool.and_false,if_neg (by rw [Bool.false_and]; exact Bool.false_ne_true)]
  exact and_l (and_l h)
noncomputable def lowR (n5:Int):Rw→Int
 | .addi d s i=>if d=2∧s=2 then (if -i > 0 then -i else 0) else 0
 | .sub=>n5
 | _=>0
noncomputable def noteR (n5:Int):Rw→Option Int
 | .lui=>some 4096
 | .high=>some n5
 | .near _=>some n5
 | .addi d s i=>if d ≠ 2∧(s=0∨s=d) then some (if d=5 then ((if s ≠ 0 then n5 else 0)+i) % 4294967296 else n5) else none
 | _=>none
noncomputable def entR (j:Int) (e:RE) (n5:Int):List Rw→Option RE
 | []=>none
 | r::rs =>
  if e.size=0 then
   if lowR n5 r > 0 then entR (j+4) { e with size:=lowR n5 r,sd:=some (j+4) } n5 rs
   else match noteR n5 r with
    | some n'=>entR (j+4) e n' rs
    | none=>some e
  else match r with
   | .sw c o=>if c=1 then entR (j+4) { e with kept:=o,kd:=some (j+4) } n5 rs else entR (j+4) e n5 rs
   | _=>some e
noncomputable def RE.z:RE:=⟨0,-1,none,none⟩
structure POk (k:Nat) (fin:Bool) (e:RE) (rows:List Rw):Prop where
 w:walk k fin e 0 .z rows=true
 last:∃ i,rows=i++[.ret]
 en:entR 0 .z 0 rows=some e
 s0:0≤e.size∧e.size≤48∧e.size % 4=0
 k0:e.kept=-1∨(0≤e.kept∧e.kept≤12∧e.kept % 4=0∧16≤e.size)
 t:rows.all (Rw.ft (bif fin then k else k+1))=true
 len:0<rows.length∧rows.length≤22
noncomputable def entSt (j:Int) (e:RE) (n5:Int):List Rw→Option (Int × RE × Int)
 | []=>some (j,e,n5)
 | r::rs =>
  if e.size=0 then
   if lowR n5 r > 0 then entSt (j+4) { e with size:=lowR n5 r,sd:=some (j+4) } n5 rs
   else match noteR n5 r with
    | some n'=>entSt (j+4) e n' rs
    | none=>none
  else match r with
   | .sw c o=>if c=1 then entSt (j+4) { e with kept:=o,kd:=some (j+4) } n5 rs else entSt (j+4) e n5 rs
   | _=>none
theorem entSt_app:∀ {xs ys:List Rw} {j:Int} {e:RE} {n5:Int} {j':Int} {e':RE} {n':Int},entSt j e n5 xs=some (j',e',n')→entR j e n5 (xs++ys)=entR j' e' n' ys:=by
 intro xs
 induction xs with
 | nil=>intro ys j e n5 j' e' n' h; cases h; rfl
 | cons x xs ih =>
  intro ys j e n5 j' e' n' h
  by_cases q:e.size=0
  ·have h:=(if_pos q).symm.trans h
   refine (if_pos q).trans ?_
   by_cases q2:lowR n5 x > 0
   ·exact (if_pos q2).trans (ih ((if_pos q2).symm.trans h))
   ·have h:=(if_neg q2).symm.trans h
    refine (if_neg q2).trans ?_
    cases q3:noteR n5 x with
    | none=>rw [q3] at h; exact no_ns h
    | some n'=>rw [q3] at h; exact ih h
  ·have h:=(if_neg q).symm.trans h
   refine (if_neg q).trans ?_
   induction x using Rw.casesOn with
   | sw c o =>
    by_cases q2:c=1
    ·exact (if_pos q2).trans (ih ((if_pos q2).symm.trans h))
    ·exact (if_neg q2).trans (ih ((if_neg q2).symm.trans h))
   | _=>exact no_ns h
noncomputable def noSw1:List Rw→Bool
 | []=>true
 | .sw c _::rs=>c != 1 && noSw1 rs
 | _::rs=>noSw1 rs
theorem ent_late {e:RE} (h:e.size ≠ 0) {n5:Int}:∀ {b t:List Rw} {j:Int} {c o:Nat},noSw1 b=true→entR j e n5 (b++.lw c o::t)=some e:=by
 intro b
 induction b with
 | nil=>intro t j c o _; exact (if_neg h).trans rfl
 | cons x b ih =>
  intro t j c o hb
  refine (if_neg h).trans ?_
  induction x using Rw.casesOn with
  | sw c1 o1 =>
   have q:(c1 != 1 && noSw1 b)=true:=hb
   exact (if_neg (bne_iff_ne.1 (and_l q))).trans (ih (and_r q))
  | _=>rfl
noncomputable def A1 (s:Int) (sav liv:Bool):Ann:=⟨s,sav,liv,none,.no,false,false,false⟩
noncomputable def szs:List Int:=[16,32,48]
noncomputable def wys:List Nat:=[0,1,2,3]
noncomputable def eO (s:Int) (w:Nat) (c:List Nat):RE:=match entSt 0 .z 0 (openR s w c) with
 | some (_,e,_)=>e
 | none=>.z
noncomputable def openOk (k:Nat) (fin:Bool) (s:Int) (w:Nat) (c:List Nat):Bool :=
 (match entSt 0 .z 0 (openR s w c) with
  | some (_,e,_)=>e.size == s && (match e.sd with | some x=>decide (x≤4 * ((openR s w c).length:Int)) | none=>false) && (match e.kd with | some x=>decide (x≤4 * ((openR s w c).length:Int)) | none=>true)
   && (if c.contains 1 then e.kept == 0 || e.kept == 4 else e.kept == -1)
  | none=>false) &&
 walk k fin (eO s w c) 0 .z (openR s w c) && decide ((openR s w c).foldl annNext .z=A1 s (c.contains 1) true) &&
 walkL k fin (eO s w c) (A1 s (c.contains 1) true) (closeR s w c) && (if c.contains 1 then walkL k fin (eO s w c) (A1 s true false) (closeR s w c) else true) &&
 (openR s w c).all (Rw.ft (bif fin then k else k+1)) && (closeR s w c).all (Rw.ft (bif fin then k else k+1))
theorem openOk_all:∀ k ∈ [1,2,3,4],∀ fin ∈ [true,false],∀ s ∈ szs,∀ w ∈ wys,∀ c ∈ [9]::cellsL,openOk k fin s w c=true:=by decide +kernel
noncomputable def bodyOk (k:Nat) (fin:Bool) (s kept:Int) (sav liv':Bool) (b:List Rw):Bool :=
 walkL k fin ⟨s,kept,none,none⟩ (A1 s sav true) b && decide (b.foldl annNext (A1 s sav true)=A1 s sav liv') && noSw1 b && b.all (Rw.ft (bif fin then k else k+1)) && decide (b.length≤9)
theorem inners_all:∀ k ∈ [1,2,3],∀ s ∈ szs,∀ t ∈ [(0:Int),4],∀ b ∈ inners (k+1),bodyOk k false s t true false b=true:=by decide +kernel
theorem fills_all:∀ k ∈ [1,2,3,4],∀ s ∈ szs,∀ t ∈ [(0:Int),4],∀ b ∈ fills true,bodyOk k true s t true true b=true:=by decide +kernel
theorem fills9_all:∀ k ∈ [1,2,3,4],∀ s ∈ szs,∀ b ∈ fills true,bodyOk k true s (-1) false true b=true:=by decide +kernel
theorem recs_all:∀ k ∈ [1,2,3,4],∀ s ∈ szs,∀ t ∈ [(0:Int),4],∀ b ∈ recs k,bodyOk k true s t true false b=true:=by decide +kernel
theorem last0_all:∀ k ∈ [1,2,3,4],∀ r ∈ last0,(walk k true .z 0 .z r && decide (entR 0 .z 0 r=some .z) && r.all (Rw.ft k) && decide (0<r.length∧r.length≤22))=true:=by decide +kernel
theorem foldl_body {k:Nat} {fin:Bool} {s kept:Int} {sav liv':Bool} {b:List Rw} (h:bodyOk k fin s kept sav liv' b=true) :
  walkL k fin ⟨s,kept,none,none⟩ (A1 s sav true) b=true∧b.foldl annNext (A1 s sav true)=A1 s sav liv'∧noSw1 b=true∧b.all (Rw.ft (bif fin then k else k+1))=true∧b.length≤9:=by
 have h:=h
 unfold bodyOk at h
 exact ⟨and_l (and_l (and_l (and_l h))),of_decide_eq_true (and_r (and_l (and_l (and_l h)))),and_r (and_l (and_l h)),and_r (and_l h),of_decide_eq_true (and_r h)⟩
theorem lateOk_e {e e':RE} (h1:e.size=e'.size) (h2:e.kept=e'.kept) {A r}:lateOk e A r=lateOk e' A r:=by
 obtain ⟨a,b,_,_⟩:=e
 cases (show a=_ from h1)
 cases (show b=_ from h2)
 rfl
theorem rowOk_e {k fin} {e e':RE} (h1:e.size=e'.size) (h2:e.kept=e'.kept) {A rs r}:rowOk k fin e A rs r=rowOk k fin e' A rs r:=by
 obtain ⟨a,b,_,_⟩:=e
 cases (show a=_ from h1)
 cases (show b=_ from h2)
 rfl
theorem walkL_e {k fin} {e e':RE} (h1:e.size=e'.size) (h2:e.kept=e'.kept):∀ {rs:List Rw} {A},walkL k fin e A rs=walkL k fin e' A rs:=by
 intro rs
 induction rs with
 | nil=>intro A; rfl
 | cons r rs ih=>intro A; exact show ((lateOk e A r && rowOk k fin e A rs r) && walkL k fin e (annNext A r) rs)=((lateOk e' A r && rowOk k fin e' A rs r) && walkL k fin e' (annNext A r) rs) from by rw [lateOk_e h1 h2,rowOk_e h1 h2,ih]
theorem lwR_head {c:List Nat} (h:0<c.length):∃ x o t,cellR .lw 0 c=.lw x o::t:=by
 induction c using List.casesOn with
 | nil=>simp at h
 | cons x r=>exact ⟨x,_,_,rfl⟩
theorem sz_0 {s:Int} (h:s=16∨s=32∨s=48):0≤s∧s≤48∧s % 4=0:=by rcases h with rfl | rfl | rfl <;> decide
theorem sz_k {s q:Int} (h:s=16∨s=32∨s=48) (g:q=0∨q=4):0≤q∧q≤12∧q % 4=0∧16≤s:=by rcases h with rfl | rfl | rfl <;> rcases g with rfl | rfl <;> decide
theorem en_el {o:Option (Int × RE × Int)} {f:RE→Bool} (h:(match o with | some (_,e,_)=>f e | none=>false)=true) {P:Prop} (k:∀ j e n,o=some (j,e,n)→f e=true→P):P:=by
 induction o using Option.casesOn with
 | none=>exact no_ft h
 | some p=>exact k _ _ _ rfl h
theorem wrap_ok {k:Nat} {fin:Bool} {s:Int} {w:Nat} {c:List Nat} {b:List Rw} {kept:Int} {liv':Bool} (h0:openOk k fin s w c=true) (hs:s ∈ szs) (hc:0<c.length∧c.length≤3)
  (hk:kept=(eO s w c).kept) (hb:bodyOk k fin s kept (c.contains 1) liv' b=true) (hl:liv'=true∨c.contains 1=true):POk k fin (eO s w c) (openR s w c++b++closeR s w c):=by
 obtain ⟨b1,b2,b3,b4,b5⟩:=foldl_body hb
 unfold openOk at h0
 have g7:=and_r h0
 replace h0:=and_l h0
 have g6:=and_r h0
 replace h0:=and_l h0
 have g5:=and_r h0
 replace h0:=and_l h0
 have g4:=and_r h0
 replace h0:=and_l h0
 have g3:=of_decide_eq_true (and_r h0)
 replace h0:=and_l h0
 have g2:=and_r h0
 have g1:=and_l h0
 clear h0
 have hs':s=16∨s=32∨s=48:=by
  rcases List.mem_cons.1 hs with h | h
  ·exact .inl h
  rcases List.mem_cons.1 h with h | h
  ·exact .inr (.inl h)
  ·exact .inr (.inr (List.mem_singleton.1 h))
 refine en_el g1 fun j' e n' qe g1=>?_
 have ee:eO s w c=e:=by unfold eO; rw [qe]
 rw [ee] at g2 g4 g5 hk ⊢
 have a4:=and_r g1
 have a3:=and_r (and_l g1)
 have a2:=and_r (and_l (and_l g1))
 have a1:=beq_iff_eq.1 (and_l (and_l (and_l g1)))
 have s1:∀ x,e.sd=some x→x≤4 * ((openR s w c).length:Int):=by
  intro x hx
  rw [hx] at a2
  exact of_decide_eq_true a2
 have s2:∀ x,e.kd=some x→x≤4 * ((openR s w c).length:Int):=by
  intro x hx
  rw [hx] at a3
  exact of_decide_eq_true a3
 have w2:walkL k fin e (A1 s (c.contains 1) true) (b++closeR s w c)=true:=by
  refine walkL_app ?_ ?_
  ·rw [walkL_e (e':=⟨s,kept,none,none⟩) a1 hk.symm]
   exact b1
  ·rw [b2]
   rcases hl with rfl | hl
   ·exact g4
   ·rw [if_pos hl] at g5
    rw [hl] at g4 ⊢
    cases liv'
    ·exact g5
    ·exact g4
 have hw:walk k fin e 0 .z (openR s w c++(b++closeR s w c))=true:=by
  refine walk_app g2 ?_
  rw [g3,Nat.zero_add]
  exact walk_late s1 s2 (Nat.le_refl _) w2
 have lo:=open_len (s:=s) (w:=w) hc.2
 have lz:=close_len (s:=s) (w:=w) hc.2
 refine ⟨by rw [List.append_assoc]; exact hw,⟨openR s w c++b++(cellR .lw 0 c++finishes s w),by simp [closeR]⟩,?_,?_,?_,?_,?_⟩
 ·rw [List.append_assoc,entSt_app qe]
  obtain ⟨x,o,t,hx⟩:=lwR_head hc.1
  unfold closeR
  rw [hx,List.cons_append,List.cons_append]
  refine ent_late ?_ b3
  rw [a1]
  lia
 ·rw [a1]
  exact sz_0 hs'
 ·rw [a1]
  split at a4
  ·right
   exact sz_k hs' ((Bool.or_eq_true_iff.1 a4).imp beq_iff_eq.1 beq_iff_eq.1)
  ·left
   exact beq_iff_eq.1 a4
 ·rw [List.all_append,List.all_append,g6,b4,g7]
  rfl
 ·simp only [List.length_append]
  have:0<(closeR s w c).length:=by simp [closeR]; lia
  lia
theorem eO_kept {k:Nat} {fin:Bool} {s:Int} {w:Nat} {c:List Nat} (h0:openOk k fin s w c=true):if c.contains 1 then (eO s w c).kept=0∨(eO s w c).kept=4 else (eO s w c).kept=-1:=by
 unfold openOk at h0
 refine en_el (and_l (and_l (and_l (and_l (and_l (and_l h0)))))) fun j' e n' qe g1=>?_
 have g:=and_r g1
 rw [show eO s w c=e by unfold eO; rw [qe]]
 split
 ·rename_i q
  rw [if_pos q] at g
  exact (Bool.or_eq_true_iff.1 g).imp beq_iff_eq.1 beq_iff_eq.1
 ·rename_i q
  rw [if_neg q] at g
  exact beq_iff_eq.1 g
theorem cells_lp {c:List Nat} (h:c ∈ cellsL):0<c.length∧c.length≤3:=(show ∀ c ∈ cellsL,0<c.length∧c.length≤3 by decide) c h
theorem cells_one {c:List Nat} (h:c ∈ cellsL):c.contains 1=true:=by
 simp [cellsL] at h
 rcases h with rfl | rfl | rfl | rfl <;> rfl
theorem funsN_ok {k:Nat} (hk:k ∈ [1,2,3]) {r:List Rw} (h:r ∈ funsN (k+1)):∃ e,POk k false e r:=by
 obtain ⟨c,hc,h⟩:=List.mem_flatMap.1 h
 obtain ⟨s,hs,h⟩:=List.mem_flatMap.1 h
 obtain ⟨w,hw,h⟩:=List.mem_flatMap.1 h
 obtain ⟨b,hb,rfl⟩:=List.mem_map.1 h
 have k4:k ∈ [1,2,3,4]:=by simp at hk ⊢; lia
 have h0:=openOk_all k k4 false (by decide) s hs w hw c (List.mem_cons_of_mem _ hc)
 have h1:=cells_one hc
 have ek:=eO_kept h0
 rw [if_pos h1] at ek
 have hb:=inners_all k hk s hs _ (by simpa using ek) b hb
 exact ⟨_,wrap_ok h0 hs (cells_lp hc) rfl (by rw [h1]; exact hb) (.inr h1)⟩
theorem funsL_ok {k:Nat} (hk:k ∈ [1,2,3,4]) {r:List Rw} (h:r ∈ funsL k):∃ e,POk k true e r:=by
 rcases List.mem_append.1 h with h | h
 ·rcases List.mem_append.1 h with h | h
  ·rcases List.mem_append.1 h with h | h
   ·have g:=last0_all k hk r h
    have g:(((_∧_)∧_)∧_):=⟨⟨⟨and_l (and_l (and_l g)),of_decide_eq_true (and_r (and_l (and_l g)))⟩,and_r (and_l g)⟩,of_decide_eq_true (and_r g)⟩
    obtain ⟨f,hf,rfl⟩:=List.mem_map.1 h
    exact ⟨.z,g.1.1.1,⟨f,rfl⟩,g.1.1.2,by decide,.inl rfl,g.1.2,g.2⟩
   ·obtain ⟨s,hs,h⟩:=List.mem_flatMap.1 h
    obtain ⟨w,hw,h⟩:=List.mem_flatMap.1 h
    obtain ⟨b,hb,rfl⟩:=List.mem_map.1 h
    have h0:=openOk_all k hk true (by decide) s hs w hw [9] (List.mem_cons_self ..)
    have ek:=eO_kept h0
    rw [if_neg (by decide)] at ek
    exact ⟨_,wrap_ok (kept:=-1) h0 hs (by decide) ek.symm (fills9_all k hk s hs b hb) (.inl rfl)⟩
  ·obtain ⟨c,hc,h⟩:=List.mem_flatMap.1 h
   obtain ⟨s,hs,h⟩:=List.mem_flatMap.1 h
   obtain ⟨w,hw,h⟩:=List.mem_flatMap.1 h
   obtain ⟨b,hb,rfl⟩:=List.mem_map.1 h
   have h0:=openOk_all k hk true (by decide) s hs w hw c (List.mem_cons_of_mem _ hc)
   have h1:=cells_one hc
   have ek:=eO_kept h0
   rw [if_pos h1] at ek
   have hb:=fills_all k hk s hs _ (by simpa using ek) b hb
   exact ⟨_,wrap_ok h0 hs (cells_lp hc) rfl (by rw [h1]; exact hb) (.inr h1)⟩
 ·obtain ⟨c,hc,h⟩:=List.mem_flatMap.1 h
  obtain ⟨s,hs,h⟩:=List.mem_flatMap.1 h
  obtain ⟨w,hw,h⟩:=List.mem_flatMap.1 h
  obtain ⟨b,hb,rfl⟩:=List.mem_map.1 h
  have h0:=openOk_all k hk true (by decide) s hs w hw c (List.mem_cons_of_mem _ hc)
  have h1:=cells_one hc
  have ek:=eO_kept h0
  rw [if_pos h1] at ek
  have hb:=recs_all k hk s hs _ (by simpa using ek) b hb
  exact ⟨_,wrap_ok h0 hs (cells_lp hc) rfl (by rw [h1]; exact hb) (.inr h1)⟩
theorem leInt_leBytes:∀ (n x:Nat),x<256 ^ n→leInt (leBytes n x)=x:=by
 intro n
 induction n with
 | zero=>intro x h; simp at h; subst h; rfl
 | succ n ih =>
  intro x h
  have h2:x / 256<256 ^ n:=by
   rw [Nat.pow_succ] at h
   exact Nat.div_lt_of_lt_mul (by lia)
  simp only [leBytes,leInt]
  rw [ih _ h2,Nat.toUInt8]
  simp
  lia
theorem rd_le {x:List UInt8} {w:Int} {y:List UInt8} (h0:0≤w) (h1:w<4294967296):rd (x++leBytes 4 w.toNat++y) x.length=w:=by
 unfold rd
 rw [List.append_assoc,List.drop_left,List.take_left' (leBytes_len _ _),leInt_leBytes 4 _ (by lia)]
 lia
theorem rd_wr_eq {mem:List UInt8} {i:Nat} {v:Int} (hi:i+4≤mem.length) (h0:0≤v) (h1:v<4294967296):rd (wr mem i v) i=v:=by
 have e:(mem.take i).length=i:=by simp; lia
 have:=rd_le (x:=mem.take i) (y:=mem.drop (i+4)) h0 h1
 rw [e] at this
 exact this
theorem rd_wr_ne {mem:List UInt8} {i k:Nat} {v:Int} (hi:i+4≤mem.length) (h:k+4≤i∨i+4≤k):rd (wr mem i v) k=rd mem k:=by
 unfold rd
 congr 1
 apply List.ext_getElem?
 intro j
 rw [List.getElem?_take,List.getElem?_take]
 split
 ·rename_i hj
  rw [List.getElem?_drop,List.getElem?_drop]
  unfold wr
  have l1:(mem.take i).length=i:=by simp; lia
  have l2:(leBytes 4 v.toNat).length=4:=leBytes_len _ _
  rcases h with h | h
  ·rw [List.append_assoc,List.getElem?_append_left (by lia),List.getElem?_take,if_pos (by lia)]
  ·rw [List.getElem?_append_right (by simp [l1,l2]; lia),List.getElem?_drop]
   congr 1
   simp [l1,l2]
   lia
 ·rfl
structure Lay where
 base:Int
 many:Nat
 parts:Nat→List Rw
 es:Nat→RE
 off:Nat→Nat
 ord:Nat→Nat
 pl:Pl
 total:Nat
noncomputable def Lay.st (L:Lay) (k:Nat):Int:=L.base+4 * (L.off k:Int)
noncomputable def annAt (rows:List Rw) (j:Nat):Ann:=(rows.take j).foldl annNext .z
theorem annAt_zero (rows:List Rw):annAt rows 0=.z:=rfl
theorem annAt_succ {rows:List Rw} {j:Nat} {r:Rw} (h:rows[j]?=some r):annAt rows (j+1)=annNext (annAt rows j) r:=by
 unfold annAt
 rw [List.take_add_one,h,List.foldl_append]
 rfl
noncomputable def row0 (A:Ann):Rw→Bool
 | .addi d s i=>(d == 10 && s == 0 && decide (0≤i) && decide (i≤2)) || (d == 17 && s == 0 && i == 93)
 | .jal g=>g == 1
 | .high=>true
 | .near _=>decide (A.x6=.base)
 | .jalrc g=>decide (A.x6=.go g) && g == 1
 | .ecall=>A.x17
 | _=>false
noncomputable def walk0 (A:Ann):List Rw→Bool
 | []=>true
 | r::rs=>A.low == 0 && row0 A r && walk0 (annNext A r) rs
structure P0Ok (rows:List Rw):Prop where
 w:walk0 .z rows=true
 last:∃ i,rows=i++[.ecall]
 en:entR 0 .z 0 rows=some .z
 t:rows.all (Rw.ft 1)=true
 len:0<rows.length∧rows.length≤6
structure LayOk (L:Lay):Prop where
 hb:L.base=0∨L.base=4096∨L.base=8192
 m1:1≤L.many∧L.many≤4
 p0:P0Ok (L.parts 0)
 e0:L.es 0=.z
 pk:∀ k,1≤k→k≤L.many→POk k (k == L.many) (L.es k) (L.parts k)
 tot:∀ k,k≤L.many→L.off k+(L.parts k).length≤L.total
 t100:L.total≤100
 at_:∀ k,k≤L.many→∀ j,j<(L.parts k).length→L.pl.At (L.st k+4 * (j:Int)) (L.ord k)
 mk1:∀ k,k≤L.many→L.pl.mk1 (L.ord k)=L.st k
 inj:∀ k k',k≤L.many→k'≤L.many→L.ord k=L.ord k'→k=k'
 nr:∀ k,k≤L.many→∀ (j g:Nat),(L.parts k)[j]?=some (.near g)→g≤L.many
 good:L.pl.Good
 sd:∀ i j,i<j→j<L.pl.marks.length→L.pl.mk1 i<L.pl.mk1 j
noncomputable def CodeOk (L:Lay) (mem:List UInt8):Prop:=∀ k,k≤L.many→∀ (j:Nat) (r:Rw),(L.parts k)[j]?=some r→(r.ins (L.st k+4 * (j:Int)) L.base L.st).Ok (rd mem (4 * (L.off k+j)))
structure Sf where
 k:Nat
 j:Nat
 s:Int
noncomputable def retA (L:Lay):List Sf→Int
 | []=>0
 | g::_=>L.st g.k+4 * ((g.j:Int)+1)
noncomputable def Sus (L:Lay) (mem:List UInt8):Nat→Int→List Sf→Prop
 | k,s,[]=>k=0∧s=L.base+1536
 | k,s,g::r=>k ≠ 0∧(k=g.k+1∨(k=g.k∧k=L.many))∧g.k≤L.many∧g.j+1<(L.parts g.k).length∧s=g.s - (L.es g.k).size ∧
   (∃ A0,annAt (L.parts g.k) (g.j+1)=annCall A0∧A0.low=(L.es g.k).size∧(g.k ≠ 0→A0.sav=true)) ∧
   (g.k ≠ 0→0≤(L.es g.k).kept∧rd mem (s+(L.es g.k).kept - L.base).toNat=retA L r)∧Sus L mem g.k g.s r
structure Inv (L:Lay) (k j:Nat) (s:Int) (fs:List Sf) (R:List Int) (mem:List UInt8):Prop where
 hk:k≤L.many
 hj:j<(L.parts k).length
 sus:Sus L mem k s fs
 sp:rg R 2=s - (annAt (L.parts k) j).low
 lv:k ≠ 0→(annAt (L.parts k) j).liv=true→rg R 1=retA L fs
 sv:k ≠ 0→(annAt (L.parts k) j).sav=true→rd mem (s - (L.es k).size+(L.es k).kept - L.base).toNat=retA L fs
 x5:∀ v,(annAt (L.parts k) j).x5=some v→rg R 5=v
 x6b:(annAt (L.parts k) j).x6=.base→rg R 6=L.base
 x6g:∀ g,(annAt (L.parts k) j).x6=.go g→rg R 6=L.st g
 x10:0≤rg R 10∧rg R 10≤2
 ps:(annAt (L.parts k) j).pos=true→1≤rg R 10
 cnt:k=L.many→(fs.length:Int)+rg R 10+(if (annAt (L.parts k) j).dec then 1 else 0)≤L.many+2
 r1:k=0→rg R 1=0∨∃ j':Nat,j'<(L.parts 0).length∧rg R 1=L.st 0+4 * ((j':Int)+1)
 x17:(annAt (L.parts k) j).x17=true→rg R 17=93
 x0:rg R 0=0
 code:CodeOk L mem
 lR:R.length=32
 lM:mem.length=1536
section
variable {L:Lay} (G:LayOk L) {mem:List UInt8}
theorem walk_at {k fin e}:∀ {rows:List Rw} {j0:Nat} {A:Ann} {j:Nat} {r:Rw},walk k fin e j0 A rows=true→rows[j]?=some r →
  stepOk e (j0+j) ((rows.take j).foldl annNext A) r=true∧rowOk k fin e ((rows.take j).foldl annNext A) (rows.drop (j+1)) r=true:=by
 intro rows
 induction rows with
 | nil=>intro j0 A j r _ h; simp at h
 | cons x xs ih =>
  intro j0 A j r h hj
  induction j using Nat.casesOn with
  | zero=>exact Option.some.inj hj ▸ ⟨and_l (and_l h),and_r (and_l h)⟩
  | succ j =>
   have:=ih (and_r h) (show xs[j]?=some r from hj)
   rw [show j0+(j+1)=j0+1+j by lia]
   exact this
theorem walk0_at:∀ {rows:List Rw} {A:Ann} {j:Nat} {r:Rw},walk0 A rows=true→rows[j]?=some r →
  ((rows.take j).foldl annNext A).low=0∧row0 ((rows.take j).foldl annNext A) r=true:=by
 intro rows
 induction rows with
 | nil=>intro A j r _ h; simp at h
 | cons x xs ih =>
  intro A j r h hj
  induction j using Nat.casesOn with
  | zero=>exact Option.some.inj hj ▸ ⟨beq_iff_eq.1 (and_l (and_l h)),and_r (and_l h)⟩
  | succ j=>exact ih (and_r h) (show xs[j]?=some r from hj)
include G
theorem size_ok {k:Nat} (h:k≤L.many):0≤(L.es k).size∧(L.es k).size≤48∧(L.es k).size % 4=0:=by
 by_cases q:k=0
 ·subst q
  rw [G.e0]
  decide
 ·exact (G.pk k (by lia) h).s0
theorem sus_s:∀ {fs:List Sf} {k:Nat} {s:Int},Sus L mem k s fs→s≤L.base+1536∧L.base+1536 - 48 * (fs.length:Int)≤s∧(s - L.base) % 4=0:=by
 intro fs
 induction fs with
 | nil =>
  intro k s h
  obtain ⟨_,rfl⟩:=h
  refine ⟨by lia,by simp,by lia⟩
 | cons g r ih =>
  intro k s h
  obtain ⟨h1,h2,h3,h4,h5,h6,h7,h8⟩:=h
  have:=ih h8
  have z:=size_ok G h3
  simp only [List.length_cons]
  lia
omit G in
theorem sus_len:∀ {fs:List Sf} {k:Nat} {s:Int},Sus L mem k s fs→k<L.many→fs.length=k:=by
 intro fs
 induction fs with
 | nil =>
  intro k s h _
  obtain ⟨rfl,_⟩:=h
  rfl
 | cons g r ih =>
  intro k s h hk
  obtain ⟨h1,h2,h3,h4,h5,h6,h7,h8⟩:=h
  have:k=g.k+1:=by lia
  have:=ih h8 (by lia)
  simp only [List.length_cons]
  lia
theorem sus_wr {i:Nat} {v:Int} (hm:mem.length=1536):∀ {fs:List Sf} {k:Nat} {s:Int},Sus L mem k s fs→(i:Int)+4≤s - L.base→Sus L (wr mem i v) k s fs:=by
 intro fs
 induction fs with
 | nil=>intro k s h _; exact h
 | cons g r ih =>
  intro k s h hi
  have hs:=sus_s G h
  obtain ⟨h1,h2,h3,h4,h5,h6,h7,h8⟩:=h
  have z:=size_ok G h3
  refine ⟨h1,h2,h3,h4,h5,h6,fun q=>?_,ih h8 (by lia)⟩
  obtain ⟨a,b⟩:=h7 q
  refine ⟨a,?_⟩
  rw [rd_wr_ne (by lia) (.inr (by lia))]
  exact b
theorem code_wr {i:Nat} {v:Int} (hm:mem.length=1536) (h:CodeOk L mem) (hi:400≤i) (hi2:i+4≤1536):CodeOk L (wr mem i v):=by
 intro k hk j r hr
 have hl:j<(L.parts k).length:=(List.getElem?_eq_some_iff.1 hr).1
 have:=G.tot k hk
 have:=G.t100
 rw [rd_wr_ne (by lia) (.inl (by lia))]
 exact h k hk j r hr
end
theorem rg_set {R:List Int} {d x:Nat} {v:Int} (h:R.length=32) (hd:d<32):rg (R.set d v) x=if x=d then v else rg R x:=by
 unfold rg
 rw [List.getD_eq_getElem?_getD,List.getD_eq_getElem?_getD,List.getElem?_set]
 by_cases q:d=x
 ·subst q
  simp [h,hd]
 ·have q':¬ x=d:=fun z=>q z.symm
  simp [q,q']
section
variable {L:Lay} (G:LayOk L) {mem:List UInt8} {R:List Int} {k j:Nat} {s:Int} {fs:List Sf}
theorem inv_set (I:Inv L k j s fs R mem) (hj:j+1<(L.parts k).length) {d:Nat} {v:Int} (h0:d ≠ 0) (h32:d<32)
  (a2:d=2→v=s - (annAt (L.parts k) (j+1)).low) (b2:d ≠ 2→(annAt (L.parts k) (j+1)).low=(annAt (L.parts k) j).low)
  (a1:d=1→k ≠ 0∧v=retA L fs) (b1:d ≠ 1→(annAt (L.parts k) (j+1)).liv=true→(annAt (L.parts k) j).liv=true)
  (asv:(annAt (L.parts k) (j+1)).sav=true→(annAt (L.parts k) j).sav=true)
  (a5:d=5→∀ w,(annAt (L.parts k) (j+1)).x5=some w→v=w) (b5:d ≠ 5→∀ w,(annAt (L.parts k) (j+1)).x5=some w→(annAt (L.parts k) j).x5=some w)
  (a6:d=6→((annAt (L.parts k) (j+1)).x6=.base→v=L.base)∧∀ g,(annAt (L.parts k) (j+1)).x6=.go g→v=L.st g) (b6:d ≠ 6→(annAt (L.parts k) (j+1)).x6=(annAt (L.parts k) j).x6)
  (a10:d=10→0≤v∧v≤2∧(annAt (L.parts k) (j+1)).pos=false∧(k=L.many→(fs.length:Int)+v+(if (annAt (L.parts k) (j+1)).dec then 1 else 0)≤L.many+2))
  (b10:d ≠ 10→(annAt (L.parts k) (j+1)).pos=(annAt (L.parts k) j).pos∧(annAt (L.parts k) (j+1)).dec=(annAt (L.parts k) j).dec)
  (a17:d=17→v=93) (b17:d ≠ 17→(annAt (L.parts k) (j+1)).x17=true→(annAt (L.parts k) j).x17=true) :
  Inv L k (j+1) s fs (R.set d v) mem:=by
 have rs (x:Nat):rg (R.set d v) x=if x=d then v else rg R x:=rg_set I.lR h32
 refine ⟨I.hk,hj,I.sus,?_,?_,?_,?_,?_,?_,?_,?_,?_,?_,?_,?_,I.code,by rw [List.length_set]; exact I.lR,I.lM⟩
 ·rw [rs]
  split
  ·rename_i q; exact a2 q.symm
  ·rename_i q; rw [b2 (Ne.symm q)]; exact I.sp
 ·intro hk hl
  rw [rs]
  split
  ·rename_i q; exact (a1 q.symm).2
  ·rename_i q; exact I.lv hk (b1 (Ne.symm q) hl)
 ·intro hk hl
  exact I.sv hk (asv hl)
 ·intro w hw
  rw [rs]
  split
  ·rename_i q; exact a5 q.symm w hw
  ·rename_i q; exact I.x5 w (b5 (Ne.symm q) w hw)
 ·intro h
  rw [rs]
  split
  ·rename_i q; exact (a6 q.symm).1 h
  ·rename_i q; rw [b6 (Ne.symm q)] at h; exact I.x6b h
 ·intro g h
  rw [rs]
  split
  ·rename_i q; exact (a6 q.symm).2 g h
  ·rename_i q; rw [b6 (Ne.symm q)] at h; exact I.x6g g h
 ·rw [rs]
  split
  ·rename_i q; exact ⟨(a10 q.symm).1,(a10 q.symm).2.1⟩
  ·exact I.x10
 ·intro h
  rw [rs]
  split
  ·rename_i q; rw [(a10 q.symm).2.2.1] at h; cases h
  ·rename_i q; rw [(b10 (Ne.symm q)).1] at h; exact I.ps h
 ·intro h
  rw [rs]
  split
  ·rename_i q; exact (a10 q.symm).2.2.2 h
  ·rename_i q; rw [(b10 (Ne.symm q)).2]; exact I.cnt h
 ·intro h
  rw [rs]
  split
  ·rename_i q; exact absurd h (a1 q.symm).1
  ·exact I.r1 h
 ·intro h
  rw [rs]
  split
  ·rename_i q; exact a17 q.symm
  ·rename_i q; exact I.x17 (b17 (Ne.symm q) h)
 ·rw [rs,if_neg (Ne.symm h0)]
  exact I.x0
theorem inv_move (I:Inv L k j s fs R mem) {j':Nat} (hj:j'<(L.parts k).length)
  (low:(annAt (L.parts k) j').low=(annAt (L.parts k) j).low) (liv:(annAt (L.parts k) j').liv=true→(annAt (L.parts k) j).liv=true) (sav:(annAt (L.parts k) j').sav=true→(annAt (L.parts k) j).sav=true)
  (x5:∀ w,(annAt (L.parts k) j').x5=some w→(annAt (L.parts k) j).x5=some w) (x6:(annAt (L.parts k) j').x6=.no∨(annAt (L.parts k) j').x6=(annAt (L.parts k) j).x6)
  (ps:(annAt (L.parts k) j').pos=true→1≤rg R 10) (dc:(annAt (L.parts k) j').dec=true→(annAt (L.parts k) j).dec=true) (x17:(annAt (L.parts k) j').x17=true→(annAt (L.parts k) j).x17=true) :
  Inv L k j' s fs R mem:=by
 refine ⟨I.hk,hj,I.sus,by rw [low]; exact I.sp,fun h q=>I.lv h (liv q),fun h q=>I.sv h (sav q),fun w q=>I.x5 w (x5 w q),fun q=>?_,fun g q=>?_,I.x10,ps,fun q=>?_,I.r1,fun q=>I.x17 (x17 q),I.x0,I.code,I.lR,I.lM⟩
 ·rcases x6 with h | h
  ·rw [h] at q; cases q
  ·rw [h] at q; exact I.x6b q
 ·rcases x6 with h | h
  ·rw [h] at q; cases q
  ·rw [h] at q; exact I.x6g g q
 ·have:=I.cnt q
  revert this
  cases e1:(annAt (L.parts k) j').dec
  ·cases (annAt (L.parts k) j).dec <;> simp <;> lia
  ·rw [dc e1]
   exact id
include G
theorem inv_len (I:Inv L k j s fs R mem):fs.length≤6:=by
 have m:=G.m1
 have h:=I.hk
 have x:=I.x10
 by_cases q:k=L.many
 ·have:=I.cnt q
  split at this <;> lia
 ·have:=sus_len I.sus (by lia)
  lia
theorem inv_s (I:Inv L k j s fs R mem):s≤L.base+1536∧L.base+1248≤s∧(s - L.base) % 4=0:=by
 have h:=sus_s G I.sus
 have:=inv_len G I
 lia
theorem inv_sw (I:Inv L k j s fs R mem) (hj:j+1<(L.parts k).length) {c o:Nat} {v:Int} (hk:k ≠ 0) (ho:(o:Int)≤12) (h16:16≤(L.es k).size) 
  (hc:if c=1 then (o:Int)=(L.es k).kept∧v=retA L fs∧0≤v∧v<4294967296 else (o:Int) ≠ (L.es k).kept) (ho4:o % 4=0) (hk4:(L.es k).kept % 4=0∨(L.es k).kept=-1)
  (kb:(L.es k).kept≤12∧-1≤(L.es k).kept) (hsv:c ≠ 1→(annAt (L.parts k) j).sav=true→0≤(L.es k).kept)
  (ha:annAt (L.parts k) (j+1)=if c=1 then { annAt (L.parts k) j with sav:=true } else annAt (L.parts k) j) :
  Inv L k (j+1) s fs R (wr mem (s - (L.es k).size+o - L.base).toNat v):=by
 have b:=inv_s G I
 have z:=size_ok G I.hk
 have lM:=I.lM
 obtain ⟨i,hi⟩:∃ i:Nat,i=(s - (L.es k).size+o - L.base).toNat:=⟨_,rfl⟩
 rw [← hi]
 have i1:(i:Int)=s - (L.es k).size+o - L.base:=by lia
 have e1:(annAt (L.parts k) (j+1)).low=(annAt (L.parts k) j).low:=by rw [ha]; split <;> rfl
 have e2:(annAt (L.parts k) (j+1)).liv=(annAt (L.parts k) j).liv:=by rw [ha]; split <;> rfl
 have e3:(annAt (L.parts k) (j+1)).x5=(annAt (L.parts k) j).x5:=by rw [ha]; split <;> rfl
 have e4:(annAt (L.parts k) (j+1)).x6=(annAt (L.parts k) j).x6:=by rw [ha]; split <;> rfl
 have e5:(annAt (L.parts k) (j+1)).pos=(annAt (L.parts k) j).pos:=by rw [ha]; split <;> rfl
 have e6:(annAt (L.parts k) (j+1)).dec=(annAt (L.parts k) j).dec:=by rw [ha]; split <;> rfl
 have e7:(annAt (L.parts k) (j+1)).x17=(annAt (L.parts k) j).x17:=by rw [ha]; split <;> rfl
 refine ⟨I.hk,hj,sus_wr G lM I.sus (by lia),by rw [e1]; exact I.sp,fun h q=>I.lv h (by rw [← e2]; exact q),fun h q=>?_,fun w q=>I.x5 w (by rw [← e3]; exact q),fun q=>I.x6b (by rw [← e4]; exact q),fun g q=>I.x6g g (by rw [← e4]; exact q),I.x10,
  fun q=>I.ps (by rw [← e5]; exact q),fun q=>by rw [e6]; exact I.cnt q,I.r1,fun q=>I.x17 (by rw [← e7]; exact q),I.x0,code_wr G lM I.code (by lia) (by lia),I.lR,wr_len lM (by lia)⟩
 by_cases qc:c=1
 ·rw [if_pos qc] at hc
  obtain ⟨h1,h2,h3,h4⟩:=hc
  rw [← h1,← hi,rd_wr_eq (by lia) h3 h4]
  exact h2
 ·rw [if_neg qc] at hc
  have q':(annAt (L.parts k) j).sav=true:=by rw [ha,if_neg qc] at q; exact q
  have:=hsv qc q'
  rw [rd_wr_ne (by lia) (by lia)]
  exact I.sv h q'
theorem inv_call (I:Inv L k j s fs R mem) (hj:j+1<(L.parts k).length) {g:Nat} (hg:(k<L.many∧g=k+1)∨(k=L.many∧g=k∧(annAt (L.parts k) j).dec=true)) (hg0:g ≠ 0)
  (hl:(annAt (L.parts k) j).low=(L.es k).size) (hs:k ≠ 0→(annAt (L.parts k) j).sav=true∧0≤(L.es k).kept) (ha:annAt (L.parts k) (j+1)=annCall (annAt (L.parts k) j)) :
  Inv L g 0 (s - (L.es k).size) (⟨k,j,s⟩::fs) (R.set 1 (L.st k+4 * ((j:Int)+1))) mem:=by
 have rs (x:Nat):rg (R.set 1 (L.st k+4 * ((j:Int)+1))) x=if x=1 then _ else rg R x:=rg_set I.lR (by decide)
 have hgm:g≤L.many:=by rcases hg with h | h <;> lia
 have pg:=G.pk g (by lia) hgm
 refine ⟨hgm,pg.len.1,⟨hg0,?_,I.hk,hj,rfl,⟨_,ha,hl,fun q=>(hs q).1⟩,fun q=>⟨(hs q).2,I.sv q (hs q).1⟩,I.sus⟩,?_,fun _ _=>?_,fun _ q=>?_,fun w q=>?_,fun q=>?_,fun _ q=>?_,?_,fun q=>?_,fun q=>?_,fun q=>absurd q hg0,fun q=>?_,?_,I.code,by rw [List.length_set]; exact I.lR,I.lM⟩
 ·rcases hg with h | h
  ·left; exact h.2
  ·right; exact ⟨h.2.1,by lia⟩
 ·rw [rs,annAt_zero,if_neg (by decide),I.sp,hl]
  show _=_ - (0:Int)
  lia
 ·rw [rs,if_pos rfl]
  rfl
 ·rw [annAt_zero] at q; cases q
 ·rw [annAt_zero] at q; cases q
 ·rw [annAt_zero] at q; cases q
 ·rw [annAt_zero] at q; cases q
 ·rw [rs,if_neg (by decide)]
  exact I.x10
 ·rw [annAt_zero] at q; cases q
 ·rw [rs,annAt_zero,if_neg (by decide)]
  have x:=I.x10
  show (((⟨k,j,s⟩::fs:List Sf).length:Nat):Int)+rg R 10+(if (false:Bool)=true then 1 else 0)≤(L.many:Int)+2
  simp only [List.length_cons,Bool.false_eq_true,if_false]
  rcases hg with h | h
  ·have:=sus_len I.sus h.1
   lia
  ·have:=I.cnt h.1
   rw [h.2.2,if_pos rfl] at this
   lia
 ·rw [annAt_zero] at q; cases q
 ·rw [rs,if_neg (by decide)]
  exact I.x0
theorem inv_ret {g:Sf} (I:Inv L k j s (g::fs) R mem) (hl:(annAt (L.parts k) j).low=0) (hv:(annAt (L.parts k) j).liv=true):Inv L g.k (g.j+1) g.s fs R mem:=by
 obtain ⟨h1,h2,h3,h4,h5,⟨A0,e1,e2,e3⟩,h7,h8⟩:=I.sus
 have sp:=I.sp
 have r1:=I.lv h1 hv
 refine ⟨h3,h4,h8,?_,fun _ q=>?_,fun h q=>?_,fun w q=>?_,fun q=>?_,fun _ q=>?_,I.x10,fun q=>?_,fun q=>?_,fun q=>?_,fun q=>?_,I.x0,I.code,I.lR,I.lM⟩
 ·rw [e1,sp,hl,h5]
  show _=g.s - A0.low
  rw [e2]
  lia
 ·rw [e1] at q; cases q
 ·have:=(h7 h).2
  rw [h5] at this
  exact this
 ·rw [e1] at q; cases q
 ·rw [e1] at q; cases q
 ·rw [e1] at q; cases q
 ·rw [e1] at q; cases q
 ·have hk:=I.hk
  have:=I.cnt (by lia)
  rw [e1]
  show (fs.length:Int)+rg R 10+(if (false:Bool)=true then 1 else 0)≤(L.many:Int)+2
  simp only [List.length_cons,Bool.false_eq_true,if_false] at this ⊢
  split at this <;> lia
 ·right
  refine ⟨g.j,by rw [← q]; lia,?_⟩
  rw [r1]
  show L.st g.k+_=_
  rw [q]
 ·rw [e1] at q; cases q
end
theorem stepOk_low {e:RE} {j:Nat} {A:Ann} {r:Rw} (h:stepOk e j A r=true):A.low=0∨A.low=e.size:=by
 unfold stepOk lateOk at h
 (repeat' split at h) <;> simp only [Bool.and_eq_true,beq_iff_eq] at h <;> first | exact .inl h.2 | exact .inr h.2
structure SameH (m m':Mac):Prop where
 base:m'.base=m.base
inductive Nx (C:Cx) (L:Lay) (H:MH) (km:Nat) (m:Mac) (d:List (V × V)) (k j:Nat) (s:Int) (fs:List Sf):Prop
 | mk (H':MH) (d':List (V × V)) (m':Mac) (R':List Int) (mem':List UInt8) (h1:Cl C 5 723 [.ins 754 km] H .none H') (h2:MR H' km m' R' mem' d') (h3:Fm km H H') (h4:d'.length≤d.length+1) (h5:SameH m m') (h6:m'.done=false) (h7:m'.pc=L.st k+4 * (j:Int)) (h8:Inv L k j s fs R' mem'):Nx C L H km m d k j s fs
section
variable {C:Cx} {L:Lay} (G:LayOk L) {H:MH} {km:Nat} {m:Mac} {d:List (V × V)} {mem:List UInt8} {R:List Int} {k j:Nat} {s:Int} {fs:List Sf}
theorem Nx.of {m':Mac} {R':List Int} {mem':List UInt8} {k' j':Nat} {s':Int} {fs':List Sf} (h:StepTo C H km d m' R' mem') (sm:SameH m m') (dn:m'.done=false) (pc:m'.pc=L.st k'+4 * (j':Int)) (I:Inv L k' j' s' fs' R' mem'):Nx C L H km m d k' j' s' fs':=by
 obtain ⟨H',d',h1,h2,h3,h4⟩:=h
 exact ⟨H',d',m',R',mem',h1,h2,h3,h4,sm,dn,pc,I⟩
include G
theorem base_bd:0≤L.base∧L.base≤8192∧L.base % 4=0:=by
 rcases G.hb with h | h | h <;> lia
theorem st_bd {k:Nat} (hk:k≤L.many):L.base≤L.st k∧L.st k+4 * ((L.parts k).length:Int)≤L.base+400∧L.st k % 4=0:=by
 have:=G.tot k hk
 have:=G.t100
 have:=base_bd G
 unfold Lay.st
 lia
theorem ret_bd (h:Sus L mem k s fs) (hk:k ≠ 0):4≤retA L fs∧retA L fs<10000∧retA L fs % 4=0:=by
 induction fs using List.casesOn with
 | nil=>exact absurd h.1 hk
 | cons g r =>
  obtain ⟨h1,h2,h3,h4,h5,h6,h7,h8⟩:=h
  have:=st_bd G h3
  have:=base_bd G
  show 4≤L.st g.k+4 * ((g.j:Int)+1)∧L.st g.k+4 * ((g.j:Int)+1)<10000∧(L.st g.k+4 * ((g.j:Int)+1)) % 4=0
  lia
theorem at_row {r:Rw} (I:Inv L k j s fs R mem) (hr:(L.parts k)[j]?=some r) (hb:m.base=L.base) (hp:m.pc=L.st k+4 * (j:Int)) (hd:m.done=false) (hl:d.length≤90000):Mine.Q.At m mem d (r.ins (L.st k+4 * (j:Int)) L.base L.st):=by
 have b:=base_bd G
 have t:=st_bd G I.hk
 have hj:=I.hj
 refine ⟨hd,⟨by lia,by lia,by lia⟩,?_,hl⟩
 have:=I.code k I.hk j r hr
 rw [show (m.pc - m.base).toNat=4 * (L.off k+j) by rw [hp,hb]; unfold Lay.st; lia]
 exact this
theorem low_ok (hk:k ≠ 0) (hkm:k≤L.many) {r:Rw} (hr:(L.parts k)[j]?=some r):
  stepOk (L.es k) j (annAt (L.parts k) j) r=true∧rowOk k (k == L.many) (L.es k) (annAt (L.parts k) j) ((L.parts k).drop (j+1)) r=true∧0≤(annAt (L.parts k) j).low∧(annAt (L.parts k) j).low≤48:=by
 have p:=G.pk k (by lia) hkm
 have w:=walk_at p.w hr
 rw [Nat.zero_add] at w
 have z:=p.s0
 refine ⟨w.1,w.2,?_⟩
 have:(annAt (L.parts k) j).low=0∨(annAt (L.parts k) j).low=(L.es k).size:=stepOk_low w.1
 lia
theorem next_lt (hk:k ≠ 0) (hkm:k≤L.many) {r:Rw} (hr:(L.parts k)[j]?=some r) (h:r ≠ .ret):j+1<(L.parts k).length:=by
 obtain ⟨i,hi⟩:=(G.pk k (by lia) hkm).last
 have hj:=(List.getElem?_eq_some_iff.1 hr).1
 apply Classical.byContradiction
 intro q
 rw [hi] at hr hj q
 simp only [List.length_append,List.length_cons,List.length_nil] at hj q
 have e:j=i.length:=by lia
 subst e
 simp at hr
 exact h hr.symm
theorem next_lt0 {r:Rw} (hr:(L.parts 0)[j]?=some r) (h:r ≠ .ecall):j+1<(L.parts 0).length:=by
 obtain ⟨i,hi⟩:=G.p0.last
 have hj:=(List.getElem?_eq_some_iff.1 hr).1
 apply Classical.byContradiction
 intro q
 rw [hi] at hr hj q
 simp only [List.length_append,List.length_cons,List.length_nil] at hj q
 have e:j=i.length:=by lia
 subst e
 simp at hr
 exact h hr.symm
theorem nx_set (M:MR H km m R mem d) (I:Inv L k j s fs R mem) (hb:m.base=L.base) (hp:m.pc=L.st k+4 * (j:Int)) (hd:m.done=false) {e:Nat} {v:Int}
  (h:StepTo C H km d { m with pc:=(m.pc+4) % 4294967296,steps:=m.steps+1 } (R.set e v) mem) (I':Inv L k (j+1) s fs (R.set e v) mem):Nx C L H km m d k (j+1) s fs:=by
 have b:=base_bd G
 have t:=st_bd G I.hk
 have hj:=I.hj
 refine .of h ⟨rfl⟩ hd ?_ I'
 show (m.pc+4) % 4294967296=_
 lia
theorem nx_high (M:MR H km m R mem d) (I:Inv L k j s fs R mem) (hr:(L.parts k)[j]?=some .high) (hj:j+1<(L.parts k).length) (hb:m.base=L.base) (hp:m.pc=L.st k+4 * (j:Int)) (hd:m.done=false) (hl:d.length≤90000):Nx C L H km m d k (j+1) s fs:=by
 have A:=at_row G I hr hb hp hd hl
 have b:=base_bd G
 have sm:small (L.base / 4096)=true:=smN (by lia) (by lia)
 refine nx_set G M I hb hp hd (step_lui M A (by decide) (by decide) sm) ?_
 have ha:=annAt_succ hr
 have hv:L.base / 4096 * 4096 % 4294967296=L.base:=by rcases G.hb with h | h | h <;> rw [h] <;> rfl
 rw [hv]
 refine inv_set I hj (by decide) (by decide) (fun q=>absurd q (by decide)) (fun _=>by rw [ha]; rfl) (fun q=>absurd q (by decide)) (fun _ q=>by rw [ha] at q; exact q) (fun q=>by rw [ha] at q; exact q) (fun q=>absurd q (by decide)) (fun _ w q=>by rw [ha] at q; exact q) (fun _=>⟨fun _=>rfl,fun g q=>?_⟩) (fun q=>absurd rfl q) (fun q=>absurd q (by decide)) (fun _=>by rw [ha]; exact ⟨rfl,rfl⟩) (fun q=>absurd q (by decide)) (fun _ q=>by rw [ha] at q; exact q)
 rw [ha] at q
 cases q
theorem nx_near {g:Nat} (M:MR H km m R mem d) (I:Inv L k j s fs R mem) (hr:(L.parts k)[j]?=some (.near g)) (hx:(annAt (L.parts k) j).x6=.base) (hg:g≤L.many) (hj:j+1<(L.parts k).length) (hb:m.base=L.base) (hp:m.pc=L.st k+4 * (j:Int)) (hd:m.done=false) (hl:d.length≤90000):Nx C L H km m d k (j+1) s fs:=by
 have A:=at_row G I hr hb hp hd hl
 have b:=base_bd G
 have t:=st_bd G hg
 refine nx_set G M I hb hp hd (step_addi M A (by decide) (by decide) (by decide)) ?_
 have ha:=annAt_succ hr
 have h6:=I.x6b hx
 have hv:(rg R 6+(L.st g - L.base) % 4294967296) % 4294967296=L.st g:=by rw [h6]; lia
 rw [hv]
 refine inv_set I hj (by decide) (by decide) (fun q=>absurd q (by decide)) (fun _=>by rw [ha]; rfl) (fun q=>absurd q (by decide)) (fun _ q=>by rw [ha] at q; exact q) (fun q=>by rw [ha] at q; exact q) (fun q=>absurd q (by decide)) (fun _ w q=>by rw [ha] at q; exact q) (fun _=>⟨fun q=>?_,fun g' q=>?_⟩) (fun q=>absurd rfl q) (fun q=>absurd q (by decide)) (fun _=>by rw [ha]; exact ⟨rfl,rfl⟩) (fun q=>absurd q (by decide)) (fun _ q=>by rw [ha] at q; exact q)
 ·rw [ha] at q; cases q
 ·rw [ha] at q; cases q; rfl
theorem nx_jal {g:Nat} (M:MR H km m R mem d) (I:Inv L k j s fs R mem) (hr:(L.parts k)[j]?=some (.jal g)) (hj:j+1<(L.parts k).length) (hb:m.base=L.base) (hp:m.pc=L.st k+4 * (j:Int)) (hd:m.done=false) (hl:d.length≤90000)
  (hg:(k<L.many∧g=k+1)∨(k=L.many∧g=k∧(annAt (L.parts k) j).dec=true)) (hg0:g ≠ 0) (hlo:(annAt (L.parts k) j).low=(L.es k).size) (hs:k ≠ 0→(annAt (L.parts k) j).sav=true∧0≤(L.es k).kept) :
  Nx C L H km m d g 0 (s - (L.es k).size) (⟨k,j,s⟩::fs):=by
 have A:=at_row G I hr hb hp hd hl
 have b:=base_bd G
 have hgm:g≤L.many:=by have:=I.hk; rcases hg with h | h <;> lia
 have t:=st_bd G hgm
 have t2:=st_bd G I.hk
 have hv:(m.pc+4) % 4294967296=L.st k+4 * ((j:Int)+1):=by lia
 have st:=step_jal (c:=C) M A (by lia)
 rw [hv] at st
 refine .of st ⟨rfl⟩ hd ?_ (inv_call G I hj hg hg0 hlo hs (annAt_succ hr))
 show (m.pc+(L.st g - (L.st k+4 * (j:Int)))) % 4294967296=_
 lia
theorem nx_jalrc {g:Nat} (M:MR H km m R mem d) (I:Inv L k j s fs R mem) (hr:(L.parts k)[j]?=some (.jalrc g)) (hx:(annAt (L.parts k) j).x6=.go g) (hj:j+1<(L.parts k).length) (hb:m.base=L.base) (hp:m.pc=L.st k+4 * (j:Int)) (hd:m.done=false) (hl:d.length≤90000)
  (hg:(k<L.many∧g=k+1)∨(k=L.many∧g=k∧(annAt (L.parts k) j).dec=true)) (hg0:g ≠ 0) (hlo:(annAt (L.parts k) j).low=(L.es k).size) (hs:k ≠ 0→(annAt (L.parts k) j).sav=true∧0≤(L.es k).kept) :
  Nx C L H km m d g 0 (s - (L.es k).size) (⟨k,j,s⟩::fs):=by
 have A:=at_row G I hr hb hp hd hl
 have b:=base_bd G
 have hgm:g≤L.many:=by have:=I.hk; rcases hg with h | h <;> lia
 have t:=st_bd G hgm
 have t2:=st_bd G I.hk
 have h6:=I.x6g g hx
 have hv:(m.pc+4) % 4294967296=L.st k+4 * ((j:Int)+1):=by lia
 have st:=step_jalr (c:=C) M A (by decide) (by decide) (by decide) (by rw [h6]; lia)
 rw [hv] at st
 refine .of st ⟨rfl⟩ hd ?_ (inv_call G I hj hg hg0 hlo hs (annAt_succ hr))
 show rg R 6 % 4294967296=_
 lia
theorem nx_ret (M:MR H km m R mem d) (I:Inv L k j s fs R mem) (hr:(L.parts k)[j]?=some .ret) (hk:k ≠ 0) (hb:m.base=L.base) (hp:m.pc=L.st k+4 * (j:Int)) (hd:m.done=false) (hl:d.length≤90000)
  (hlo:(annAt (L.parts k) j).low=0) (hv:(annAt (L.parts k) j).liv=true):∃ g r,fs=g::r∧Nx C L H km m d g.k (g.j+1) g.s r:=by
 have A:=at_row G I hr hb hp hd hl
 have rb:=ret_bd G I.sus hk
 have h1:=I.lv hk hv
 induction fs using List.casesOn with
 | nil=>exact absurd I.sus.1 hk
 | cons g r =>
  refine ⟨g,r,rfl,.of (step_ret (c:=C) M A (by decide) (by rw [h1]; lia)) ⟨rfl⟩ hd ?_ (inv_ret G I hlo hv)⟩
  show rg R 1 % 4294967296=L.st g.k+4 * ((g.j+1:Nat):Int)
  rw [h1]
  have:retA L (g::r)=L.st g.k+4 * ((g.j:Int)+1):=rfl
  lia
end
section
variable {C:Cx} {L:Lay} (G:LayOk L) {H:MH} {km:Nat} {m:Mac} {d:List (V × V)} {mem:List UInt8} {R:List Int} {k j:Nat} {s:Int} {fs:List Sf}
include G
theorem nx_addi {e x:Nat} {i:Int} (M:MR H km m R mem d) (I:Inv L k j s fs R mem) (hr:(L.parts k)[j]?=some (.addi e x i)) (hk:k ≠ 0) (hb:m.base=L.base) (hp:m.pc=L.st k+4 * (j:Int)) (hd:m.done=false) (hl:d.length≤90000):Nx C L H km m d k (j+1) s fs:=by
 have A:=at_row G I hr hb hp hd hl
 have b:=base_bd G
 have z:=inv_s G I
 have sz:=size_ok G I.hk
 obtain ⟨so,ro,low0,low1⟩:=low_ok G hk I.hk hr
 have hj:=next_lt G hk I.hk hr (fun q=>nomatch q)
 have ha:=annAt_succ hr
 have sp:=I.sp
 have ro:(((_∨_)∨_)∨_)∨_:=(Bool.or_eq_true_iff.1 ro).imp_left fun q=>(Bool.or_eq_true_iff.1 q).imp_left fun q=>(Bool.or_eq_true_iff.1 q).imp_left fun q=>Bool.or_eq_true_iff.1 q
 rcases ro with (((q | q) | q) | q) | q
 ·obtain rfl:=beq_iff_eq.1 (and_l (and_l (and_l q)))
  obtain rfl:=beq_iff_eq.1 (and_r (and_l (and_l q)))
  have i1:=of_decide_eq_true (and_r (and_l q))
  have i2:=of_decide_eq_true (and_r q)
  refine nx_set G M I hb hp hd (step_addi M A (by decide) (by decide) (by decide)) ?_
  refine inv_set I hj (by decide) (by decide) (fun _=>?_) (fun q=>absurd rfl q) (fun q=>absurd q (by decide)) (fun _ q=>by rw [ha] at q; exact q) (fun q=>by rw [ha] at q; exact q) (fun q=>absurd q (by decide)) (fun _ w q=>by rw [ha] at q; exact q) (fun q=>absurd q (by decide)) (fun _=>by rw [ha]; rfl) (fun q=>absurd q (by decide)) (fun _=>by rw [ha]; exact ⟨rfl,rfl⟩) (fun q=>absurd q (by decide)) (fun _ q=>by rw [ha] at q; exact q)
  rw [ha,sp]
  show _=s - ((annAt (L.parts k) j).low - i)
  lia
 ·obtain rfl:=beq_iff_eq.1 (and_l (and_l (and_l q)))
  obtain rfl:=beq_iff_eq.1 (and_r (and_l (and_l q)))
  have i1:=of_decide_eq_true (and_r (and_l q))
  have i2:=of_decide_eq_true (and_r q)
  refine nx_set G M I hb hp hd (step_addi M A (by decide) (by decide) (by decide)) ?_
  have x0:=I.x0
  refine inv_set I hj (by decide) (by decide) (fun q=>absurd q (by decide)) (fun _=>by rw [ha]; rfl) (fun q=>absurd q (by decide)) (fun _ q=>by rw [ha] at q; exact q) (fun q=>by rw [ha] at q; exact q) (fun _ w q=>?_) (fun q=>absurd rfl q) (fun q=>absurd q (by decide)) (fun _=>by rw [ha]; rfl) (fun q=>absurd q (by decide)) (fun _=>by rw [ha]; exact ⟨rfl,rfl⟩) (fun q=>absurd q (by decide)) (fun _ q=>by rw [ha] at q; exact q)
  rw [ha] at q
  have q:some i=some w:=q
  injection q with q
  rw [x0]
  lia
 ·obtain rfl:=beq_iff_eq.1 (and_l (and_l q))
  obtain rfl:=beq_iff_eq.1 (and_r (and_l q))
  replace q:=and_r q
  cases e5:(annAt (L.parts k) j).x5 with
  | none=>rw [e5] at q; exact no_ft q
  | some v =>
   rw [e5] at q
   have q1:=of_decide_eq_true (and_l (and_l (and_l q)))
   have q2:=of_decide_eq_true (and_r (and_l (and_l q)))
   have q3:=of_decide_eq_true (and_r (and_l q))
   have q4:=of_decide_eq_true (and_r q)
   clear q
   have r5:=I.x5 v e5
   refine nx_set G M I hb hp hd (step_addi M A (by decide) (by decide) (by decide)) ?_
   refine inv_set I hj (by decide) (by decide) (fun q=>absurd q (by decide)) (fun _=>by rw [ha]; rfl) (fun q=>absurd q (by decide)) (fun _ q=>by rw [ha] at q; exact q) (fun q=>by rw [ha] at q; exact q) (fun _ w q=>?_) (fun q=>absurd rfl q) (fun q=>absurd q (by decide)) (fun _=>by rw [ha]; rfl) (fun q=>absurd q (by decide)) (fun _=>by rw [ha]; exact ⟨rfl,rfl⟩) (fun q=>absurd q (by decide)) (fun _ q=>by rw [ha] at q; exact q)
   rw [ha] at q
   have q:(annAt (L.parts k) j).x5.map (·+i)=some w:=q
   rw [e5] at q
   have q:some (v+i)=some w:=q
   injection q with q
   rw [r5]
   lia
 ·obtain rfl:=beq_iff_eq.1 (and_l q)
  obtain rfl:=beq_iff_eq.1 (and_r q)
  refine nx_set G M I hb hp hd (step_addi M A (by decide) (by decide) (by decide)) ?_
  exact inv_set I hj (by decide) (by decide) (fun q=>absurd q (by decide)) (fun _=>by rw [ha]; rfl) (fun q=>absurd q (by decide)) (fun _ q=>by rw [ha] at q; exact q) (fun q=>by rw [ha] at q; exact q) (fun q=>absurd q (by decide)) (fun _ w q=>by rw [ha] at q; exact q) (fun q=>absurd q (by decide)) (fun _=>by rw [ha]; rfl) (fun q=>absurd q (by decide)) (fun _=>by rw [ha]; exact ⟨rfl,rfl⟩) (fun q=>absurd q (by decide)) (fun _ q=>by rw [ha] at q; exact q)
 ·have q2:=not_f (and_r q)
  have q1:=and_r (and_l q)
  replace q:=and_l (and_l q)
  obtain rfl:=beq_iff_eq.1 (and_l (and_l q))
  obtain rfl:=beq_iff_eq.1 (and_r (and_l q))
  obtain rfl:=beq_iff_eq.1 (and_r q)
  have p10:=I.ps q1
  have x10:=I.x10
  have cn:=I.cnt
  refine nx_set G M I hb hp hd (step_addi M A (by decide) (by decide) (by decide)) ?_
  have hv:(rg R 10+(-1) % 4294967296) % 4294967296=rg R 10 - 1:=by lia
  rw [hv]
  refine inv_set I hj (by decide) (by decide) (fun q=>absurd q (by decide)) (fun _=>by rw [ha]; rfl) (fun q=>absurd q (by decide)) (fun _ q=>by rw [ha] at q; exact q) (fun q=>by rw [ha] at q; exact q) (fun q=>absurd q (by decide)) (fun _ w q=>by rw [ha] at q; exact q) (fun q=>absurd q (by decide)) (fun _=>by rw [ha]; rfl) (fun _=>⟨by lia,by lia,by rw [ha]; rfl,fun q=>?_⟩) (fun q=>absurd rfl q) (fun q=>absurd q (by decide)) (fun _ q=>by rw [ha] at q; exact q)
  have c:=cn q
  rw [q2] at c
  rw [ha]
  show _+(if (decide (10=10))=true then (1:Int) else 0)≤_
  simp at c ⊢
  lia
theorem nx_add (M:MR H km m R mem d) (I:Inv L k j s fs R mem) (hr:(L.parts k)[j]?=some (.add)) (hk:k ≠ 0) (hb:m.base=L.base) (hp:m.pc=L.st k+4 * (j:Int)) (hd:m.done=false) (hl:d.length≤90000):Nx C L H km m d k (j+1) s fs:=by
 have A:=at_row G I hr hb hp hd hl
 have b:=base_bd G
 have z:=inv_s G I
 have sz:=size_ok G I.hk
 obtain ⟨so,ro,low0,low1⟩:=low_ok G hk I.hk hr
 have hj:=next_lt G hk I.hk hr (fun q=>nomatch q)
 have ha:=annAt_succ hr
 have sp:=I.sp
 have q1:=and_l (and_l ro)
 have q2:=of_decide_eq_true (and_r (and_l ro))
 have q3:=of_decide_eq_true (and_r ro)
 clear ro
 cases e5:(annAt (L.parts k) j).x5 with
 | none=>rw [e5] at q1; exact no_ft q1
 | some v =>
  rw [e5] at q2 q3
  simp only [Option.getD_some] at q2 q3
  have r5:=I.x5 v e5
  refine nx_set G M I hb hp hd (step_add M A) ?_
  refine inv_set I hj (by decide) (by decide) (fun _=>?_) (fun q=>absurd rfl q) (fun q=>absurd q (by decide)) (fun _ q=>by rw [ha] at q; exact q) (fun q=>by rw [ha] at q; exact q) (fun q=>absurd q (by decide)) (fun _ w q=>by rw [ha] at q; cases q) (fun q=>absurd q (by decide)) (fun _=>by rw [ha]; rfl) (fun q=>absurd q (by decide)) (fun _=>by rw [ha]; exact ⟨rfl,rfl⟩) (fun q=>absurd q (by decide)) (fun _ q=>by rw [ha] at q; exact q)
  rw [ha,sp,r5]
  show _=s - ((annAt (L.parts k) j).low - (annAt (L.parts k) j).x5.getD 0)
  rw [e5]
  show _=s - ((annAt (L.parts k) j).low - v)
  lia
theorem nx_sub (M:MR H km m R mem d) (I:Inv L k j s fs R mem) (hr:(L.parts k)[j]?=some (.sub)) (hk:k ≠ 0) (hb:m.base=L.base) (hp:m.pc=L.st k+4 * (j:Int)) (hd:m.done=false) (hl:d.length≤90000):Nx C L H km m d k (j+1) s fs:=by
 have A:=at_row G I hr hb hp hd hl
 have b:=base_bd G
 have z:=inv_s G I
 have sz:=size_ok G I.hk
 obtain ⟨so,ro,low0,low1⟩:=low_ok G hk I.hk hr
 have hj:=next_lt G hk I.hk hr (fun q=>nomatch q)
 have ha:=annAt_succ hr
 have sp:=I.sp
 have q1:=and_l (and_l ro)
 have q2:=of_decide_eq_true (and_r (and_l ro))
 have q3:=of_decide_eq_true (and_r ro)
 clear ro
 cases e5:(annAt (L.parts k) j).x5 with
 | none=>rw [e5] at q1; exact no_ft q1
 | some v =>
  rw [e5] at q2 q3
  simp only [Option.getD_some] at q2 q3
  have r5:=I.x5 v e5
  refine nx_set G M I hb hp hd (step_sub M A) ?_
  refine inv_set I hj (by decide) (by decide) (fun _=>?_) (fun q=>absurd rfl q) (fun q=>absurd q (by decide)) (fun _ q=>by rw [ha] at q; exact q) (fun q=>by rw [ha] at q; exact q) (fun q=>absurd q (by decide)) (fun _ w q=>by rw [ha] at q; cases q) (fun q=>absurd q (by decide)) (fun _=>by rw [ha]; rfl) (fun q=>absurd q (by decide)) (fun _=>by rw [ha]; exact ⟨rfl,rfl⟩) (fun q=>absurd q (by decide)) (fun _ q=>by rw [ha] at q; exact q)
  rw [ha,sp,r5]
  show _=s - ((annAt (L.parts k) j).low+(annAt (L.parts k) j).x5.getD 0)
  rw [e5]
  show _=s - ((annAt (L.parts k) j).low+v)
  lia
theorem nx_lui (M:MR H km m R mem d) (I:Inv L k j s fs R mem) (hr:(L.parts k)[j]?=some (.lui)) (hk:k ≠ 0) (hb:m.base=L.base) (hp:m.pc=L.st k+4 * (j:Int)) (hd:m.done=false) (hl:d.length≤90000):Nx C L H km m d k (j+1) s fs:=by
 have A:=at_row G I hr hb hp hd hl
 have b:=base_bd G
 have z:=inv_s G I
 have sz:=size_ok G I.hk
 obtain ⟨so,ro,low0,low1⟩:=low_ok G hk I.hk hr
 have hj:=next_lt G hk I.hk hr (fun q=>nomatch q)
 have ha:=annAt_succ hr
 have sp:=I.sp
 refine nx_set G M I hb hp hd (step_lui M A (by decide) (by decide) (by decide)) ?_
 refine inv_set I hj (by decide) (by decide) (fun q=>absurd q (by decide)) (fun _=>by rw [ha]; rfl) (fun q=>absurd q (by decide)) (fun _ q=>by rw [ha] at q; exact q) (fun q=>by rw [ha] at q; exact q) (fun _ w q=>?_) (fun q=>absurd rfl q) (fun q=>absurd q (by decide)) (fun _=>by rw [ha]; rfl) (fun q=>absurd q (by decide)) (fun _=>by rw [ha]; exact ⟨rfl,rfl⟩) (fun q=>absurd q (by decide)) (fun _ q=>by rw [ha] at q; exact q)
 rw [ha] at q
 have q:some (4096:Int)=some w:=q
 exact Option.some.inj q
omit G in
theorem sav_kept_at {k fin e}:∀ {rows:List Rw} {j0:Nat} {A:Ann} {j:Nat},walk k fin e j0 A rows=true→e.kept=-1→A.sav=false→((rows.take j).foldl annNext A).sav=false:=by
 intro rows
 induction rows with
 | nil=>intro j0 A j _ _ h; simpa using h
 | cons x xs ih =>
  intro j0 A j h he hA
  induction j using Nat.casesOn with
  | zero=>exact hA
  | succ j =>
   refine ih (and_r h) he ?_
   have ro:=and_r (and_l h)
   induction x using Rw.casesOn with
   | addi d s i =>
    by_cases h1:d=2
    ·exact (congrArg Ann.sav (if_pos h1:annNext A (.addi d s i)=_)).trans hA
    by_cases h2:d=5
    ·exact (congrArg Ann.sav ((if_neg h1).trans (if_pos h2):annNext A (.addi d s i)=_)).trans hA
    by_cases h3:d=10
    ·exact (congrArg Ann.sav ((if_neg h1).trans ((if_neg h2).trans (if_pos h3)):annNext A (.addi d s i)=_)).trans hA
    by_cases h4:d=17
    ·exact (congrArg Ann.sav ((if_neg h1).trans ((if_neg h2).trans ((if_neg h3).trans (if_pos h4))):annNext A (.addi d s i)=_)).trans hA
    ·exact (congrArg Ann.sav ((if_neg h1).trans ((if_neg h2).trans ((if_neg h3).trans (if_neg h4))):annNext A (.addi d s i)=_)).trans hA
   | sw c o =>
    by_cases qc:c=1
    ·have q:=and_r ro
     rw [if_pos qc] at q
     have q:=beq_iff_eq.1 (and_r q)
     lia
    ·exact (congrArg Ann.sav (if_neg qc:annNext A (.sw c o)=_)).trans hA
   | lw c o =>
    by_cases qc:c=1
    ·exact (congrArg Ann.sav (if_pos qc:annNext A (.lw c o)=_)).trans hA
    ·exact (congrArg Ann.sav (if_neg qc:annNext A (.lw c o)=_)).trans hA
   | _=>exact hA
omit G in
theorem sav_kept {k fin e} {rows:List Rw} {j:Nat} {r:Rw} (p:POk k fin e rows) (hr:rows[j]?=some r) (h:e.kept=-1):¬ (annAt rows j).sav=true:=by
 have:=sav_kept_at (j:=j) p.w h rfl
 unfold annAt
 rw [this]
 decide
theorem nx_sw {c o:Nat} (M:MR H km m R mem d) (I:Inv L k j s fs R mem) (hr:(L.parts k)[j]?=some (.sw c o)) (hk:k ≠ 0) (hb:m.base=L.base) (hp:m.pc=L.st k+4 * (j:Int)) (hd:m.done=false) (hl:d.length≤90000):Nx C L H km m d k (j+1) s fs:=by
 have A:=at_row G I hr hb hp hd hl
 have b:=base_bd G
 have z:=inv_s G I
 have sz:=size_ok G I.hk
 obtain ⟨so,ro,low0,low1⟩:=low_ok G hk I.hk hr
 have hj:=next_lt G hk I.hk hr (fun q=>nomatch q)
 have ha:=annAt_succ hr
 have sp:=I.sp
 have q6:=and_r ro
 replace ro:=and_l ro
 have q5:=of_decide_eq_true (and_r ro)
 replace ro:=and_l ro
 have q4:=of_decide_eq_true (and_r ro)
 have q3:=beq_iff_eq.1 (and_r (and_l ro))
 have q2:=of_decide_eq_true (and_r (and_l (and_l ro)))
 have q1:=beq_iff_eq.1 (and_l (and_l (and_l ro)))
 clear ro
 have p:=G.pk k (by lia) I.hk
 have hv:(rg R 2+(o:Int)) % 4294967296 - m.base=s - (L.es k).size+o - L.base:=by rw [sp,q1,hb]; lia
 have hm:(rg R 2+(o:Int)) % 4294967296 % 4=0:=by rw [sp,q1]; lia
 have st:=step_sw (c:=C) M A q5 ⟨by rw [hv]; lia,by rw [hv]; lia,hm⟩
 rw [hv] at st
 have hj:=I.hj
 have t:=st_bd G I.hk
 refine .of st ⟨rfl⟩ hd ?_ (inv_sw G I (next_lt G hk I.hk hr (fun q=>nomatch q)) hk (by lia) q2 ?_ q3 ?_ ?_ ?_ ha)
 ·show (m.pc+4) % 4294967296=_
  lia
 ·by_cases qc:c=1
  ·rw [if_pos qc] at q6 ⊢
   have r1:=I.lv hk (and_l q6)
   have q6:=beq_iff_eq.1 (and_r q6)
   have rb:=ret_bd G I.sus hk
   rw [qc,r1]
   exact ⟨q6,by lia,by lia,by lia⟩
  ·rw [if_neg qc] at q6 ⊢
   exact bne_iff_ne.1 q6
 ·rcases p.k0 with h | h
  ·exact .inr h
  ·exact .inl h.2.2.1
 ·rcases p.k0 with h | h <;> lia
 ·intro qc sv
  unfold stepOk lateOk at so
  rcases p.k0 with h | h
  ·exact absurd sv (sav_kept p hr h)
  ·exact h.1
theorem nx_lw {c o:Nat} (M:MR H km m R mem d) (I:Inv L k j s fs R mem) (hr:(L.parts k)[j]?=some (.lw c o)) (hk:k ≠ 0) (hb:m.base=L.base) (hp:m.pc=L.st k+4 * (j:Int)) (hd:m.done=false) (hl:d.length≤90000):Nx C L H km m d k (j+1) s fs:=by
 have A:=at_row G I hr hb hp hd hl
 have b:=base_bd G
 have z:=inv_s G I
 have sz:=size_ok G I.hk
 obtain ⟨so,ro,low0,low1⟩:=low_ok G hk I.hk hr
 have hj:=next_lt G hk I.hk hr (fun q=>nomatch q)
 have ha:=annAt_succ hr
 have sp:=I.sp
 have q6:=and_r ro
 replace ro:=and_l ro
 have q4:=of_decide_eq_true (and_r ro)
 have q3:=beq_iff_eq.1 (and_r (and_l ro))
 have q2:=of_decide_eq_true (and_r (and_l (and_l ro)))
 have q1:=beq_iff_eq.1 (and_l (and_l (and_l ro)))
 clear ro
 have hv:(rg R 2+(o:Int)) % 4294967296 - m.base=s - (L.es k).size+o - L.base:=by rw [sp,q1,hb]; lia
 have hm:(rg R 2+(o:Int)) % 4294967296 % 4=0:=by rw [sp,q1]; lia
 by_cases qc:c=1
 ·subst qc
  rw [if_pos rfl] at q6
  have q6:_∧_:=⟨and_l q6,beq_iff_eq.1 (and_r q6)⟩
  have st:=step_lw (c:=C) M A (by decide) (by decide) ⟨by rw [hv]; lia,by rw [hv]; lia,hm⟩
  rw [hv] at st
  have sv:=I.sv hk q6.1
  have rb:=ret_bd G I.sus hk
  rw [← q6.2] at sv
  rw [sv] at st
  refine nx_set G M I hb hp hd st ?_
  exact inv_set I hj (by decide) (by decide) (fun q=>absurd q (by decide)) (fun _=>by rw [ha]; rfl) (fun _=>⟨hk,by lia⟩) (fun q=>absurd rfl q) (fun q=>by rw [ha] at q; exact q) (fun q=>absurd q (by decide)) (fun _ w q=>by rw [ha] at q; exact q) (fun q=>absurd q (by decide)) (fun _=>by rw [ha]; rfl) (fun q=>absurd q (by decide)) (fun _=>by rw [ha]; exact ⟨rfl,rfl⟩) (fun q=>absurd q (by decide)) (fun _ q=>by rw [ha] at q; exact q)
 ·rw [if_neg qc] at q6
  have q6:=(Bool.or_eq_true_iff.1 q6).imp beq_iff_eq.1 beq_iff_eq.1
  have st:=step_lw (c:=C) M A (by lia) (by lia) ⟨by rw [hv]; lia,by rw [hv]; lia,hm⟩
  refine nx_set G M I hb hp hd st ?_
  have ha:annAt (L.parts k) (j+1)=annAt (L.parts k) j:=by rw [ha]; show (if c=1 then _ else _)=_; rw [if_neg qc]
  refine inv_set I hj (by lia) (by lia) (fun q=>by lia) (fun _=>by rw [ha]) (fun q=>by lia) (fun _ q=>by rw [ha] at q; exact q) (fun q=>by rw [ha] at q; exact q) (fun q=>by lia) (fun _ w q=>by rw [ha] at q; exact q) (fun q=>by lia) (fun _=>by rw [ha]) (fun q=>by lia) (fun _=>by rw [ha]; exact ⟨rfl,rfl⟩) (fun q=>by lia) (fun _ q=>by rw [ha] at q; exact q)
end
inductive Dn (C:Cx) (L:Lay) (H:MH) (km:Nat) (m:Mac) (d:List (V × V)) (R:List Int) (mem:List UInt8):Prop
 | mk (H':MH) (d':List (V × V)) (m':Mac) (h1:Cl C 5 723 [.ins 754 km] H .none H') (h2:MR H' km m' R mem d') (h3:Fm km H H') (h4:SameH m m') (h5:m'.done=true) (h6:rg R 2=L.base+1536):Dn C L H km m d R mem
noncomputable def After (C:Cx) (L:Lay) (H:MH) (km:Nat) (m:Mac) (d:List (V × V)) (R:List Int) (mem:List UInt8) (k j:Nat) (s:Int) (fs:List Sf):Rw→Prop
 | .jal g=>∃ s',Nx C L H km m d g 0 s' (⟨k,j,s⟩::fs)
 | .jalrc g=>∃ s',Nx C L H km m d g 0 s' (⟨k,j,s⟩::fs)
 | .ret=>∃ g r,fs=g::r∧Nx C L H km m d g.k (g.j+1) g.s r
 | .ecall=>Dn C L H km m d R mem∧k=0∧fs=[]
 | _=>∃ j',Nx C L H km m d k j' s fs
section
variable {C:Cx} {L:Lay} (G:LayOk L) {H:MH} {km:Nat} {m:Mac} {d:List (V × V)} {mem:List UInt8} {R:List Int} {k j:Nat} {s:Int} {fs:List Sf}
include G
theorem nx_beq (M:MR H km m R mem d) (I:Inv L k j s fs R mem) (hr:(L.parts k)[j]?=some .beq) (hk:k ≠ 0) (hb:m.base=L.base) (hp:m.pc=L.st k+4 * (j:Int)) (hd:m.done=false) (hl:d.length≤90000):∃ j',Nx C L H km m d k j' s fs:=by
 have A:=at_row G I hr hb hp hd hl
 have b:=base_bd G
 have t:=st_bd G I.hk
 have x0:=I.x0
 have x10:=I.x10
 obtain ⟨so,ro,low0,low1⟩:=low_ok G hk I.hk hr
 have hj:=next_lt G hk I.hk hr (fun q=>nomatch q)
 have ha:=annAt_succ hr
 by_cases q:rg R 10=rg R 0
 ·obtain ⟨h1,g,h2⟩:=beqT_of (and_r ro)
  ·replace h1:(L.parts k)[j+1]?=some (.addi 10 10 (-1)):=(List.getElem?_drop (xs:=L.parts k) (i:=j+1) (j:=0)).symm.trans h1
   replace h2:(L.parts k)[j+2]?=some (.jal g):=(List.getElem?_drop (xs:=L.parts k) (i:=j+1) (j:=1)).symm.trans h2
   have hj3:=next_lt G hk I.hk h2 (fun q=>nomatch q)
   have a2:=annAt_succ h1
   have a3:=annAt_succ h2
   rw [a2,ha] at a3
   refine ⟨j+3,.of (step_beq_t M A q (by lia)) ⟨rfl⟩ hd ?_ (inv_move I hj3 ?_ ?_ ?_ ?_ ?_ ?_ ?_ ?_)⟩
   ·show (m.pc+12) % 4294967296=_
    lia
   ·rw [a3]; rfl
   ·intro q; rw [a3] at q; cases q
   ·intro q; rw [a3] at q; exact q
   ·intro w q; rw [a3] at q; cases q
   ·left; rw [a3]; rfl
   ·intro q; rw [a3] at q; cases q
   ·intro q; rw [a3] at q; cases q
   ·intro q; rw [a3] at q; cases q
 ·refine ⟨j+1,.of (step_beq_f M A q (by lia)) ⟨rfl⟩ hd ?_ (inv_move I hj ?_ ?_ ?_ ?_ ?_ ?_ ?_ ?_)⟩
  ·show (m.pc+4) % 4294967296=_
   lia
  ·rw [ha]; rfl
  ·intro q; rw [ha] at q; exact q
  ·intro q; rw [ha] at q; exact q
  ·intro w q; rw [ha] at q; exact q
  ·right; rw [ha]; rfl
  ·intro _; lia
  ·intro q; rw [ha] at q; exact q
  ·intro q; rw [ha] at q; exact q
theorem after_fun (M:MR H km m R mem d) (I:Inv L k j s fs R mem) {r:Rw} (hr:(L.parts k)[j]?=some r) (hk:k ≠ 0) (hb:m.base=L.base) (hp:m.pc=L.st k+4 * (j:Int)) (hd:m.done=false) (hl:d.length≤90000):After C L H km m d R mem k j s fs r:=by
 obtain ⟨so,ro,low0,low1⟩:=low_ok G hk I.hk hr
 have sz:=size_ok G I.hk
 have hkm:=I.hk
 have callc (g:Nat) (h:(if (k == L.many)=true then g == k && (annAt (L.parts k) j).dec else g == k+1)=true):(k<L.many∧g=k+1)∨(k=L.many∧g=k∧(annAt (L.parts k) j).dec=true):=by
  by_cases q:k=L.many
  ·rw [if_pos (by simpa using q)] at h
   exact .inr ⟨q,beq_iff_eq.1 (and_l h),and_r h⟩
  ·rw [if_neg (by simpa using q)] at h
   exact .inl ⟨by lia,beq_iff_eq.1 h⟩
 induction r using Rw.casesOn with
 | addi e x i=>exact ⟨_,nx_addi G M I hr hk hb hp hd hl⟩
 | add=>exact ⟨_,nx_add G M I hr hk hb hp hd hl⟩
 | sub=>exact ⟨_,nx_sub G M I hr hk hb hp hd hl⟩
 | lui=>exact ⟨_,nx_lui G M I hr hk hb hp hd hl⟩
 | sw c o=>exact ⟨_,nx_sw G M I hr hk hb hp hd hl⟩
 | lw c o=>exact ⟨_,nx_lw G M I hr hk hb hp hd hl⟩
 | high=>exact ⟨_,nx_high G M I hr (next_lt G hk I.hk hr (fun q=>nomatch q)) hb hp hd hl⟩
 | beq=>exact nx_beq G M I hr hk hb hp hd hl
 | ecall=>exact no_ft ro
 | near g =>
  have hj:=next_lt G hk I.hk hr (fun q=>nomatch q)
  by_cases hg:g≤L.many
  ·exact ⟨_,nx_near G M I hr (of_decide_eq_true ro) hg hj hb hp hd hl⟩
  ·exact absurd (G.nr _ hkm _ _ hr) hg
 | jal g =>
  have q1:=of_decide_eq_true (and_l (and_l (and_l ro)))
  have q2:=and_r (and_l (and_l ro))
  have q3:=beq_iff_eq.1 (and_r (and_l ro))
  have c:=callc g (and_r ro)
  exact ⟨_,nx_jal G M I hr (next_lt G hk I.hk hr (fun q=>nomatch q)) hb hp hd hl c (by lia) q3 (fun _=>⟨q2,q1⟩)⟩
 | jalrc g =>
  have q6:=beq_iff_eq.1 (and_r ro)
  have q5:¬ k=L.many:=fun z=>by
   have q:(!(k == L.many))=true:=and_r (and_l ro)
   rw [beq_iff_eq.2 z] at q
   exact no_ft q
  have ro:=and_l (and_l ro)
  have q4:=of_decide_eq_true (and_r ro)
  have q3:=beq_iff_eq.1 (and_r (and_l ro))
  have q2:=and_r (and_l (and_l ro))
  have q1:=of_decide_eq_true (and_l (and_l (and_l ro)))
  exact ⟨_,nx_jalrc G M I hr q4 (next_lt G hk I.hk hr (fun q=>nomatch q)) hb hp hd hl (.inl ⟨by lia,q6⟩) (by lia) q3 (fun _=>⟨q2,q1⟩)⟩
 | ret =>
  exact nx_ret G M I hr hk hb hp hd hl (beq_iff_eq.1 (and_r ro)) (and_l ro)
theorem after_start (M:MR H km m R mem d) (I:Inv L 0 j s fs R mem) {r:Rw} (hr:(L.parts 0)[j]?=some r) (hb:m.base=L.base) (hp:m.pc=L.st 0+4 * (j:Int)) (hd:m.done=false) (hl:d.length≤90000):After C L H km m d R mem 0 j s fs r:=by
 have w:=walk0_at G.p0.w hr
 obtain ⟨lo,ro⟩:=w
 have lo:(annAt (L.parts 0) j).low=0:=lo
 have ro:row0 (annAt (L.parts 0) j) r=true:=ro
 have A:=at_row G I hr hb hp hd hl
 have ha:=annAt_succ hr
 have m1:=G.m1
 have e0:(L.es 0).size=0:=by rw [G.e0]; rfl
 have hj (h:r ≠ .ecall):=next_lt0 G hr h
 have sp:=I.sp
 have b:=base_bd G
 have hf:fs=[]∧s=L.base+1536:=by
  have:=I.sus
  induction fs using List.casesOn with
  | nil=>exact ⟨rfl,this.2⟩
  | cons g r=>exact absurd rfl this.1
 induction r using Rw.casesOn with
 | addi e x i =>
  have hj2:=hj (fun q=>nomatch q)
  clear hj
  rcases Bool.or_eq_true_iff.1 ro with q | q
  ·obtain rfl:=beq_iff_eq.1 (and_l (and_l (and_l q)))
   obtain rfl:=beq_iff_eq.1 (and_r (and_l (and_l q)))
   have i1:=of_decide_eq_true (and_r (and_l q))
   have i2:=of_decide_eq_true (and_r q)
   have x0:=I.x0
   refine ⟨_,nx_set G M I hb hp hd (step_addi M A (by decide) (by decide) (by decide)) ?_⟩
   have hv:(rg R 0+i % 4294967296) % 4294967296=i:=by rw [x0]; lia
   rw [hv]
   refine inv_set I hj2 (by decide) (by decide) (fun q=>absurd q (by decide)) (fun _=>by rw [ha]; rfl) (fun q=>absurd q (by decide)) (fun _ q=>by rw [ha] at q; exact q) (fun q=>by rw [ha] at q; exact q) (fun q=>absurd q (by decide)) (fun _ w q=>by rw [ha] at q; exact q) (fun q=>absurd q (by decide)) (fun _=>by rw [ha]; rfl) (fun _=>⟨i1,i2,by rw [ha]; rfl,fun q=>by lia⟩) (fun q=>absurd rfl q) (fun q=>absurd q (by decide)) (fun _ q=>by rw [ha] at q; exact q)
  ·obtain rfl:=beq_iff_eq.1 (and_l (and_l q))
   obtain rfl:=beq_iff_eq.1 (and_r (and_l q))
   obtain rfl:=beq_iff_eq.1 (and_r q)
   have x0:=I.x0
   refine ⟨_,nx_set G M I hb hp hd (step_addi M A (by decide) (by decide) (by decide)) ?_⟩
   refine inv_set I hj2 (by decide) (by decide) (fun q=>absurd q (by decide)) (fun _=>by rw [ha]; rfl) (fun q=>absurd q (by decide)) (fun _ q=>by rw [ha] at q; exact q) (fun q=>by rw [ha] at q; exact q) (fun q=>absurd q (by decide)) (fun _ w q=>by rw [ha] at q; exact q) (fun q=>absurd q (by decide)) (fun _=>by rw [ha]; rfl) (fun q=>absurd q (by decide)) (fun _=>by rw [ha]; exact ⟨rfl,rfl⟩) (fun _=>by rw [x0]; rfl) (fun q=>absurd rfl q)
 | jal g =>
  have ro:=beq_iff_eq.1 ro
  exact ⟨_,nx_jal G M I hr (hj (fun q=>nomatch q)) hb hp hd hl (.inl ⟨by lia,ro⟩) (by lia) (by rw [lo,e0]) (fun q=>absurd rfl q)⟩
 | jalrc g =>
  have r1:=of_decide_eq_true (and_l ro)
  have ro:=beq_iff_eq.1 (and_r ro)
  exact ⟨_,nx_jalrc G M I hr r1 (hj (fun q=>nomatch q)) hb hp hd hl (.inl ⟨by lia,ro⟩) (by lia) (by rw [lo,e0]) (fun q=>absurd rfl q)⟩
 | high=>exact ⟨_,nx_high G M I hr (hj (fun q=>nomatch q)) hb hp hd hl⟩
 | near g =>
  by_cases hg:g≤L.many
  ·exact ⟨_,nx_near G M I hr (of_decide_eq_true ro) hg (hj (fun q=>nomatch q)) hb hp hd hl⟩
  ·exact absurd (G.nr _ (Nat.zero_le _) _ _ hr) hg
 | ecall =>
  have ro:(annAt (L.parts 0) j).x17=true:=ro
  obtain ⟨st,H',d',h1,h2,h3,h4⟩:=step_ecall (c:=C) M A (I.x17 ro)
  refine ⟨⟨H',d',_,h1,h2,h3,⟨rfl⟩,rfl,?_⟩,rfl,hf.1⟩
  rw [sp,lo,hf.2]
  lia
 | add=>exact no_ft ro
 | sub=>exact no_ft ro
 | lui=>exact no_ft ro
 | sw c o=>exact no_ft ro
 | lw c o=>exact no_ft ro
 | ret=>exact no_ft ro
 | beq=>exact no_ft ro
theorem after_any (M:MR H km m R mem d) (I:Inv L k j s fs R mem) {r:Rw} (hr:(L.parts k)[j]?=some r) (hb:m.base=L.base) (hp:m.pc=L.st k+4 * (j:Int)) (hd:m.done=false) (hl:d.length≤90000):After C L H km m d R mem k j s fs r:=by
 by_cases q:k=0
 ·subst q
  exact after_start G M I hr hb hp hd hl
 ·exact after_fun G M I hr q hb hp hd hl
end
noncomputable def absE (t:Int) (e:RE):Ent:=⟨e.size,e.kept,match e.sd with | none=>0 | some x=>t+x,match e.kd with | none=>0 | some x=>t+x⟩
noncomputable def insFrom (base:Int) (st:Nat→Int):Int→List Rw→List In
 | _,[]=>[]
 | pos,r::rs=>r.ins pos base st::insFrom base st (pos+4) rs
theorem insFrom_len {base:Int} {st:Nat→Int}:∀ {rows:List Rw} {pos:Int},(insFrom base st pos rows).length=rows.length:=by
 intro rows
 induction rows with
 | nil=>intro pos; rfl
 | cons r rs ih=>intro pos; exact congrArg Nat.succ ih
theorem numGet_put {k x j:Int}:∀ {N:List (Int × Int)},numGet (numPut N k x) j=if (k == j)=true then some x else numGet N j
 | []=>rfl
 | (b,y)::r=>by
  show numGet (if (b == k)=true then (b,x)::r else (b,y)::numPut r k x) j=if (k == j)=true then some x else if (b == j)=true then some y else numGet r j
  by_cases q1:(b == k)=true
  ·rw [if_pos q1,beq_iff_eq.1 q1]
   show (if (k == j)=true then some x else numGet r j)=_
   by_cases q:(k == j)=true
   ·rw [if_pos q,if_pos q]
   ·rw [if_neg q,if_neg q,if_neg q]
  ·rw [if_neg q1]
   show (if (b == j)=true then some y else numGet (numPut r k x) j)=_
   rw [numGet_put]
   by_cases q:(b == j)=true
   ·rw [if_pos q,if_pos q,if_neg fun z=>q1 (by rw [beq_iff_eq.1 q,beq_iff_eq.1 z,beq_self_eq_true])]
   ·rw [if_neg q,if_neg q]
theorem low_rel {N:List (Int × Int)} {n5:Int} (h:(numGet N 5).getD 0=n5) {pos base:Int} {st:Nat→Int} {r:Rw}:lowP N (r.ins pos base st)=lowR n5 r:=by
 induction r using Rw.casesOn with
 | sub=>exact h
 | _=>rfl
theorem note_rel {N:List (Int × Int)} {n5:Int} (h:(numGet N 5).getD 0=n5) {pos base:Int} {st:Nat→Int} {r:Rw}:match noteR n5 r with
  | none=>noteP N (r.ins pos base st)=none
  | some n'=>∃ N',noteP N (r.ins pos base st)=some N'∧(numGet N' 5).getD 0=n':=by
 induction r using Rw.casesOn with
 | addi d s i =>
  by_cases q:d ≠ 2∧(s=0∨s=d)
  ·rw [show noteR n5 (.addi d s i)=some _ from if_pos q,show noteP N (Rw.ins pos base st (.addi d s i))=some _ from if_pos q]
   refine ⟨_,rfl,?_⟩
   rw [numGet_put]
   by_cases q5:d=5
   ·subst q5
    rw [if_pos (show (((5:Nat):Int) == 5)=true from rfl),if_pos rfl]
    simp only [Option.getD_some]
    rcases q.2 with z | z
    ·subst z; rfl
    ·subst z
     simp only [ne_eq,show ¬ (5:Nat)=0 by decide,not_false_eq_true,if_true]
     show (((numGet N 5).getD 0)+i) % _=_
     rw [h]
   ·rw [if_neg (show ¬ (((d:Nat):Int) == 5)=true from fun z=>q5 (Int.ofNat.inj (beq_iff_eq.1 z))),if_neg q5]
    exact h
  ·rw [show noteR n5 (.addi d s i)=none from if_neg q]
   exact if_neg q
 | lui=>exact ⟨_,rfl,by rw [numGet_put]; rfl⟩
 | high=>exact ⟨_,rfl,by rw [numGet_put]; exact h⟩
 | near g=>exact ⟨_,rfl,by rw [numGet_put]; exact h⟩
 | _=>rfl
theorem step_some {p:Int} {e e1:Ent} {N N1:List (Int × Int)} {i:In} {l:List In} (h:entStep p e N i=some (e1,N1)):entRun p e N (i::l)=entRun (p+4) e1 N1 l:=by
 show (match entStep p e N i with | none=>some e | some (e',N')=>entRun (p+4) e' N' l)=_
 rw [h]
theorem step_none {p:Int} {e:Ent} {N:List (Int × Int)} {i:In} {l:List In} (h:entStep p e N i=none):entRun p e N (i::l)=some e:=by
 show (match entStep p e N i with | none=>some e | some (e',N')=>entRun (p+4) e' N' l)=_
 rw [h]
theorem ent_rel {base t:Int} {st:Nat→Int}:∀ {rows:List Rw} {r:Int} {e e':RE} {n5:Int} {N:List (Int × Int)},(numGet N 5).getD 0=n5→entR r e n5 rows=some e'→entRun (t+r) (absE t e) N (insFrom base st (t+r) rows)=some (absE t e'):=by
 intro rows
 induction rows with
 | nil=>intro r e e' n5 N _ h; cases h
 | cons x rs ih =>
  intro r e e' n5 N h he
  have as:t+r+4=t+(r+4):=Int.add_assoc ..
  show entRun (t+r) (absE t e) N (x.ins (t+r) base st::insFrom base st (t+r+4) rs)=_
  by_cases q:e.size=0
  ·have he:=(if_pos q).symm.trans he
   have lw:lowP N (x.ins (t+r) base st)=lowR n5 x:=low_rel h
   by_cases q2:lowR n5 x > 0
   ·have es:entStep (t+r) (absE t e) N (x.ins (t+r) base st)=some ({ absE t e with size:=lowP N (x.ins (t+r) base st),sd:=t+r+4 },N):=(if_pos q).trans (if_pos (show lowP N (x.ins (t+r) base st) > 0 from lw ▸ q2))
    refine (step_some es).trans ?_
    rw [lw,as]
    exact ih h ((if_pos q2).symm.trans he)
   ·have he:=(if_neg q2).symm.trans he
    have es:entStep (t+r) (absE t e) N (x.ins (t+r) base st)=(noteP N (x.ins (t+r) base st)).map fun N'=>(absE t e,N'):=(if_pos q).trans (if_neg (show ¬ lowP N (x.ins (t+r) base st) > 0 from lw ▸ q2))
    have nr:=note_rel h (pos:=t+r) (base:=base) (st:=st) (r:=x)
    cases q3:noteR n5 x with
    | none =>
     rw [q3] at he nr
     rw [nr] at es
     exact (step_none es).trans (congrArg (fun e=>some (absE t e)) (Option.some.inj he))
    | some n' =>
     rw [q3] at he nr
     obtain ⟨N',h1,h2⟩:=nr
     rw [h1] at es
     refine (step_some es).trans ?_
     rw [as]
     exact ih h2 he
  ·have he:=(if_neg q).symm.trans he
   have es:entStep (t+r) (absE t e) N (x.ins (t+r) base st)=swStep (t+r) (absE t e) N (x.ins (t+r) base st):=if_neg q
   induction x using Rw.casesOn with
   | sw c o =>
    by_cases q2:c=1
    ·refine (step_some (e1:={ absE t e with kept:=o,kd:=t+r+4 }) (es.trans (if_pos q2))).trans ?_
     rw [as]
     exact ih h ((if_pos q2).symm.trans he)
    ·refine (step_some (e1:=absE t e) (es.trans (if_neg q2))).trans ?_
     rw [as]
     exact ih h ((if_neg q2).symm.trans he)
   | _=>exact (step_none es).trans (congrArg (fun e=>some (absE t e)) (Option.some.inj he))
section
variable {C:Cx} {L:Lay} (G:LayOk L) {H:MH} {km:Nat} {m:Mac} {d:List (V × V)} {mem:List UInt8} {R:List Int} {k j:Nat} {s:Int} {fs:List Sf}
theorem cd_of {base:Int} {st:Nat→Int} (hb:0≤base∧base≤8192):∀ {rows:List Rw} {off:Nat} {pos:Int},(∀ (j:Nat) (r:Rw),rows[j]?=some r→(r.ins (pos+4 * (j:Int)) base st).Ok (rd mem (off+4 * j)))→Cd mem off (insFrom base st pos rows):=by
 intro rows
 induction rows with
 | nil=>intro off pos _; trivial
 | cons x rs ih =>
  intro off pos h
  refine ⟨⟨by simpa using h 0 x rfl,?_⟩,ih fun j r hr=>?_⟩
  ·intro e i he
   induction x using Rw.casesOn with
   | lui=>cases he; decide
   | high=>cases he; exact smN (by lia) (by lia)
   | _=>cases he
  ·have:=h (j+1) r (by simpa using hr)
   rw [show pos+4+4 * (j:Int)=pos+4 * ((j+1:Nat):Int) by lia,show off+4+4 * j=off+4 * (j+1) by lia]
   exact this
include G
theorem en_of (M:MR H km m R mem d) (hb:m.base=L.base) (hc:CodeOk L mem) (hk:k≤L.many):
  ∃ ke H',Cl C 6 432 [.ins 754 km,.int (L.st k)] H (.ins 400 ke) H'∧Kp H H'∧ke<H'.n∧H'.o ke=some (.dic (entD (absE (L.st k) (L.es k)))):=by
 have b:=base_bd G
 have er:entR 0 .z 0 (L.parts k)=some (L.es k)∧(L.parts k).length≤22:=by
  by_cases q:k=0
  ·subst q
   rw [G.e0]
   exact ⟨G.p0.en,by have:=G.p0.len; lia⟩
  ·have p:=G.pk k (by lia) hk
   exact ⟨p.en,p.len.2⟩
 have rel:=ent_rel (base:=L.base) (t:=L.st k) (st:=L.st) (N:=[]) rfl er.1
 rw [Int.add_zero] at rel
 have e1:L.st k=m.base+((4 * L.off k:Nat):Int):=by rw [hb]; unfold Lay.st; lia
 have tt:=G.tot k hk
 have t100:=G.t100
 have cd:Cd mem (4 * L.off k) (insFrom L.base L.st (L.st k) (L.parts k)):=cd_of ⟨b.1,b.2.1⟩ fun j r hr=>by
  have:=hc k hk j r hr
  rw [show 4 * L.off k+4 * j=4 * (L.off k+j) by lia]
  exact this
 have z:absE (L.st k) .z=⟨0,-1,0,0⟩:=rfl
 rw [z] at rel
 have il:(insFrom L.base L.st (L.st k) (L.parts k)).length≤22:=by rw [insFrom_len]; exact er.2
 obtain ⟨ke,H',q1,q2⟩:=entry_of_of (c:=C) M (by rw [hb]; exact b.2.2) (off:=4 * L.off k) (by lia) (by rw [insFrom_len]; lia) cd (by lia) (by rw [← e1]; exact rel)
 rw [← e1] at q1
 exact ⟨ke,H',q1.up 1,q2⟩
end
theorem leav_ret {r:Rw} {pos base:Int} {st:Nat→Int}:leavP (r.ins pos base st)=decide (r=.ret):=by
 induction r using Rw.casesOn with
 | ret=>exact (decide_eq_true rfl).symm
 | _=>exact (decide_eq_false fun q=>nomatch q).symm
noncomputable def before (o:Option Int) (j:Nat):Bool:=match o with
 | some x=>decide ((4 * j:Int)<x)
 | none=>false
theorem stepOk_eq {e:RE} {j:Nat} {A:Ann} {r:Rw}:stepOk e j A r=if before e.sd j=true then A.liv && A.low == 0 else if ((e.kept ≥ 0 && before e.kd j) && decide (r ≠ .ret))=true then A.liv && A.low == e.size else lateOk e A r:=rfl
theorem bf {o:Option Int} {t:Int} {j:Nat} (h:0≤t+4 * (j:Int)):(t+4 * (j:Int)<(match o with | none=>0 | some x=>t+x))=(before o j=true):=by
 induction o using Option.casesOn with
 | none=>exact propext ⟨fun q=>absurd h (Int.not_le.2 q),no_ft⟩
 | some x=>exact propext ⟨fun q=>decide_eq_true (Int.lt_of_add_lt_add_left q),fun q=>Int.add_lt_add_left (of_decide_eq_true q) t⟩
theorem s_mod {B s z:Int} (b:0≤B∧B≤8192∧B % 4=0) (hs:s≤B+1536∧B+1000≤s∧(s - B) % 4=0):(s - z+z) % 4294967296=s:=by
 rw [Int.sub_add_cancel]
 exact Int.emod_eq_of_lt (by lia) (by lia)
theorem k_mod {B s z q:Int} (b:0≤B∧B≤8192∧B % 4=0) (hs:s≤B+1536∧B+1000≤s∧(s - B) % 4=0) (sz:0≤z∧z≤48∧z % 4=0) (k:q=-1∨0≤q∧q≤12∧q % 4=0∧16≤z):(s - z+q) % 4294967296=s - z+q:=Int.emod_eq_of_lt (by lia) (by lia)
theorem ad_sk {m:Mac} {B s z q:Int} (hb:m.base=B) (b:0≤B∧B≤8192∧B % 4=0) (hs:s≤B+1536∧B+1000≤s∧(s - B) % 4=0) (sz:0≤z∧z≤48∧z % 4=0) (k:q=-1∨0≤q∧q≤12∧q % 4=0∧16≤z) (hq:¬ q<0):Ad m ((s - z+q) % 4294967296):=by
 rw [k_mod b hs sz k]
 exact ⟨by lia,by lia,by lia⟩
theorem ad_pos {L:Lay} (G:LayOk L) {m:Mac} {k j:Nat} (hb:m.base=L.base) (hk:k≤L.many) (hj:j<(L.parts k).length):Ad m (L.st k+4 * (j:Int)):=by
 have b:=base_bd G
 have t:=st_bd G hk
 exact ⟨by lia,by lia,by lia⟩
noncomputable def outs (L:Lay):Int→List Sf→List Frame
 | _,[]=>[]
 | s,g::r=>⟨L.ord g.k,absE (L.st g.k) (L.es g.k),L.st g.k+4 * (g.j:Int),s,if g.k=0 then none else some (retA L r,g.s)⟩::outs L g.s r
section
variable {C:Cx} {L:Lay} (G:LayOk L) {H:MH} {km:Nat} {m:Mac} {d:List (V × V)} {mem:List UInt8} {R:List Int} {k j:Nat} {s:Int} {fs:List Sf}
include G
theorem inv_z (I:Inv L k j s fs R mem):s≤L.base+1536∧L.base+1000≤s∧(s - L.base) % 4=0:=by
 have z:=inv_s G I
 exact ⟨z.1,by lia,z.2.2⟩
theorem out_fun (I:Inv L k j s fs R mem) (hk:k ≠ 0) {r:Rw} (hr:(L.parts k)[j]?=some r) :
  outP true (L.st k+4 * (j:Int)) (absE (L.st k) (L.es k)) (decide (r=.ret)) (rg R 2) (rg R 1) L.base mem=some (retA L fs,s) ∧
  (¬ L.st k+4 * (j:Int)<(absE (L.st k) (L.es k)).sd→decide (r=.ret)=false→¬ (L.es k).kept<0→¬ L.st k+4 * (j:Int)<(absE (L.st k) (L.es k)).kd→(annAt (L.parts k) j).low=(L.es k).size):=by
 have b:=base_bd G
 have t:=st_bd G I.hk
 have z:=inv_s G I
 have sz:=size_ok G I.hk
 have sp:=I.sp
 obtain ⟨so,ro,low0,low1⟩:=low_ok G hk I.hk hr
 have p:=G.pk k (by lia) I.hk
 have zz:=inv_z G I
 have p0:0≤L.st k+4 * (j:Int):=by lia
 have e1:(L.st k+4 * (j:Int)<(absE (L.st k) (L.es k)).sd)=(before (L.es k).sd j=true):=bf p0
 have e2:(L.st k+4 * (j:Int)<(absE (L.st k) (L.es k)).kd)=(before (L.es k).kd j=true):=bf p0
 have e3:(absE (L.st k) (L.es k)).kept=(L.es k).kept:=rfl
 have e4:(absE (L.st k) (L.es k)).size=(L.es k).size:=rfl
 unfold outP
 simp only [e1,e2,e3,e4]
 rw [stepOk_eq] at so
 unfold lateOk at so
 generalize before (L.es k).sd j=b1 at so ⊢
 generalize before (L.es k).kd j=b2 at so ⊢
 have lv:=I.lv hk
 have sv:=I.sv hk
 have k0:=p.k0
 have sm:(rg R 2+(L.es k).size) % 4294967296=s∨¬ (annAt (L.parts k) j).low=(L.es k).size:=by
  by_cases e:(annAt (L.parts k) j).low=(L.es k).size
  ·rw [sp,e]; exact .inl (s_mod b zz)
  ·exact .inr e
 cases b1
 ·by_cases q:r=.ret
  ·simp [q] at so ⊢
   exact ⟨lv so.1,by rw [sp,so.2]; exact Int.sub_zero s⟩
  ·by_cases q2:(L.es k).kept<0
   ·have q3:¬ 0≤(L.es k).kept:=by lia
    simp [q,q2,q3] at so ⊢
    exact ⟨lv so.1,sm.resolve_right fun n=>n so.2⟩
   ·have q3:0≤(L.es k).kept:=by lia
    cases b2
    ·simp [q,q2,q3] at so ⊢
     refine ⟨⟨?_,sm.resolve_right fun n=>n so.2⟩,so.2⟩
     rw [← sv so.1,sp,so.2,k_mod b zz sz k0]
    ·simp [q,q2,q3] at so ⊢
     exact ⟨lv so.1,sm.resolve_right fun n=>n so.2⟩
 ·simp at so ⊢
  exact ⟨lv so.1,by rw [sp,so.2]; exact Int.sub_zero s⟩
theorem fok_top (M:MR H km m R mem d) (hb:m.base=L.base) (I:Inv L k j s fs R mem) {r:Rw} (hr:(L.parts k)[j]?=some r) :
  FOk C H km L.pl true ⟨L.ord k,absE (L.st k) (L.es k),L.st k+4 * (j:Int),rg R 2,if k=0 then some (rg R 1,rg R 2) else some (retA L fs,s)⟩:=by
 have b:=base_bd G
 have t:=st_bd G I.hk
 have z:=inv_s G I
 have sz:=size_ok G I.hk
 have hj:=I.hj
 refine ⟨G.at_ k I.hk j I.hj,fun {H1} k1=>?_,fun {H1 ke} k1 h1 h2=>?_⟩
 ·have:=en_of (C:=C) G (M.keep k1) hb I.code I.hk
  rw [← G.mk1 k I.hk] at this
  rw [← G.mk1 k I.hk]
  exact this
 ·have M1:=M.keep k1
  have ok:=I.code k I.hk j r hr
  rw [show 4 * (L.off k+j)=(L.st k+4 * (j:Int) - m.base).toNat by rw [hb]; unfold Lay.st; lia] at ok
  by_cases hk:k=0
  ·subst hk
   obtain ⟨lo,ro⟩:=walk0_at G.p0.w hr
   have lo:(annAt (L.parts 0) j).low=0:=lo
   have nr:¬ r=.ret:=by intro q; subst q; cases ro
   have e:absE (L.st 0) (L.es 0)=⟨0,-1,0,0⟩:=by rw [G.e0]; rfl
   have so:=out_in (c:=C) (sp:=rg R 2) M1 h2 h1 (ad_pos G hb (Nat.zero_le _) hj) ok (fun _ _ q=>by rw [e] at q; exact absurd (show (-1:Int)<0 by decide) q)
   have sp:=I.sp
   have eo:outP true (L.st 0+4 * (j:Int)) (absE (L.st 0) (L.es 0)) (leavP (r.ins (L.st 0+4 * (j:Int)) L.base L.st)) (rg R 2) (rg R 1) m.base mem=some (rg R 1,rg R 2):=by
    rw [e,leav_ret]
    unfold outP
    rw [if_neg (by simp [nr]; lia),if_pos (.inl (by decide)),if_pos rfl]
    congr 2
    show (rg R 2+0) % _=_
    lia
   rw [eo] at so
   rw [if_pos rfl]
   exact so
  ·obtain ⟨o1,o2⟩:=out_fun G I hk hr
   have p:=G.pk k (by lia) I.hk
   have k0:=p.k0
   have sp:=I.sp
   have so:=out_in (c:=C) (sp:=rg R 2) M1 h2 h1 (ad_pos G hb I.hk hj) ok (fun q1 q2 q3 q4=>by
    rw [leav_ret] at q2
    have lo:=o2 q1 q2 q3 q4
    rw [sp,lo]
    exact ad_sk hb b (inv_z G I) sz k0 q3)
   rw [leav_ret,hb,o1] at so
   rw [if_neg hk]
   exact so
theorem fok_out (M:MR H km m R mem d) (hb:m.base=L.base) (hc:CodeOk L mem) {g:Sf} {r:List Sf} (S:Sus L mem k s (g::r)) (hs:L.base+1000≤s) :
  FOk C H km L.pl false ⟨L.ord g.k,absE (L.st g.k) (L.es g.k),L.st g.k+4 * (g.j:Int),s,if g.k=0 then none else some (retA L r,g.s)⟩:=by
 have b:=base_bd G
 obtain ⟨h1,h2,h3,h4,h5,h6,h7,h8⟩:=S
 have z2:=sus_s G h8
 have sz:=size_ok G h3
 have zg:g.s≤L.base+1536∧L.base+1000≤g.s∧(g.s - L.base) % 4=0:=⟨z2.1,by lia,z2.2.2⟩
 refine ⟨G.at_ g.k h3 g.j (Nat.lt_of_succ_lt h4),fun {H1} k1=>?_,fun {H1 ke} k1 g1 g2=>?_⟩
 ·have:=en_of (C:=C) G (M.keep k1) hb hc h3
  rw [← G.mk1 g.k h3] at this
  rw [← G.mk1 g.k h3]
  exact this
 ·have M1:=M.keep k1
  by_cases hk:g.k=0
  ·have e:absE (L.st g.k) (L.es g.k)=⟨0,-1,0,0⟩:=by rw [hk,G.e0]; rfl
   have so:=out_outer (c:=C) (lv:=false) (pos:=L.st g.k+4 * (g.j:Int)) (sp:=s) M1 g2 g1 (fun q=>by rw [e] at q; exact absurd (show (-1:Int)<0 by decide) q)
   have eo:outP false (L.st g.k+4 * (g.j:Int)) (absE (L.st g.k) (L.es g.k)) false s (rg R 1) m.base mem=none:=by
    rw [e]
    unfold outP
    rw [if_neg (by simp),if_pos (.inl (by decide)),if_neg (by simp)]
   rw [eo] at so
   rw [if_pos hk]
   exact so
  ·obtain ⟨q1,q2⟩:=h7 hk
   have p:=G.pk g.k (by lia) h3
   have k0:=p.k0
   have e3:(absE (L.st g.k) (L.es g.k)).kept=(L.es g.k).kept:=rfl
   have e4:(absE (L.st g.k) (L.es g.k)).size=(L.es g.k).size:=rfl
   have so:=out_outer (c:=C) (lv:=false) (pos:=L.st g.k+4 * (g.j:Int)) (sp:=s) M1 g2 g1 (fun q=>by rw [e3,h5]; exact ad_sk hb b zg sz k0 q)
   have eo:outP false (L.st g.k+4 * (g.j:Int)) (absE (L.st g.k) (L.es g.k)) false s (rg R 1) m.base mem=some (retA L r,g.s):=by
    have q:=Int.not_lt.2 q1
    refine (if_neg fun z=>nomatch z.1).trans ((if_neg fun z=>z.elim q fun z=>nomatch z.1).trans ?_)
    rw [e3,e4,h5,k_mod b zg sz k0,s_mod b zg,hb,← h5,q2]
   rw [eo] at so
   rw [if_neg hk]
   exact so
theorem chain_out (M:MR H km m R mem d) (hb:m.base=L.base) (hc:CodeOk L mem):∀ {r:List Sf} {g:Sf} {k:Nat} {s:Int},Sus L mem k s (g::r)→L.base+1000≤s→FChain C H km L.pl false (outs L s (g::r)):=by
 intro r
 induction r with
 | nil =>
  intro g k s S hs
  have fo:=fok_out (C:=C) G M hb hc S hs
  obtain ⟨h1,h2,h3,h4,h5,h6,h7,h8⟩:=S
  have hk:g.k=0:=h8.1
  refine ⟨fo,?_⟩
  show Stops L.pl _
  unfold Stops
  simp only [if_pos hk]
 | cons g' r ih =>
  intro g k s S hs
  have fo:=fok_out (C:=C) G M hb hc S hs
  obtain ⟨h1,h2,h3,h4,h5,h6,h7,h8⟩:=S
  have hk:g.k ≠ 0:=h8.1
  have sz:=size_ok G h3
  have rb:=ret_bd G h8 hk
  refine ⟨fo,⟨retA L (g'::r),if_neg hk,?_,by lia,fun q=>?_⟩,ih h8 (by lia)⟩
  ·show L.st g'.k+4 * (g'.j:Int)=L.st g'.k+4 * ((g'.j:Int)+1) - 4
   lia
  ·have:=(h7 hk).1
   have q:(L.es g.k).kept<0:=q
   lia
theorem chain_of (M:MR H km m R mem d) (hb:m.base=L.base) (I:Inv L k j s fs R mem) {r:Rw} (hr:(L.parts k)[j]?=some r) :
  FChain C H km L.pl true (⟨L.ord k,absE (L.st k) (L.es k),L.st k+4 * (j:Int),rg R 2,if k=0 then some (rg R 1,rg R 2) else some (retA L fs,s)⟩::outs L s fs):=by
 have fo:=fok_top (C:=C) G M hb I hr
 have z:=inv_s G I
 have S:=I.sus
 refine ⟨fo,?_⟩
 induction fs using List.casesOn with
 | nil =>
  have hk:k=0:=S.1
  subst hk
  show Stops L.pl _
  unfold Stops
  simp only [if_pos]
  rcases I.r1 rfl with q | ⟨j',q1,q2⟩
  ·left; lia
  ·right
   refine ⟨by show (L.es 0).kept<0; rw [G.e0]; decide,?_⟩
   have:=G.at_ 0 (Nat.zero_le _) j' q1
   rw [show L.st 0+4 * (j':Int)=rg R 1 - 4 by lia] at this
   exact this
 | cons g r' =>
  have hk:k ≠ 0:=S.1
  have rb:=ret_bd G S hk
  have ch:=chain_out (C:=C) G M hb I.code S (by lia)
  obtain ⟨h1,h2,h3,h4,h5,h6,h7,h8⟩:=S
  refine ⟨⟨retA L (g::r'),if_neg hk,?_,by lia,fun q=>?_⟩,ch⟩
  ·show L.st g.k+4 * (g.j:Int)=L.st g.k+4 * ((g.j:Int)+1) - 4
   lia
  ·have q:(L.es k).kept<0:=q
   refine ⟨L.ord g.k,?_,fun e=>?_⟩
   ·have:=G.at_ g.k h3 g.j (by lia)
    rw [show L.st g.k+4 * (g.j:Int)=retA L (g::r') - 4 by show _=L.st g.k+4 * ((g.j:Int)+1) - 4; lia] at this
    exact this
   ·have ek:=G.inj _ _ h3 I.hk e
    have:=(h7 (by lia)).1
    rw [ek] at this
    lia
end
theorem put_new {K:MH} {j:Nat} {x y:MO} (h:j<K.n):(K.new x).put j y=(K.put j y).new x:=by
 unfold MH.put MH.new
 refine congrArg (MH.mk _) (funext fun k=>?_)
 show (if k=j then some y else if k=K.n then some x else K.o k)=if k=K.n then some x else if k=j then some y else K.o k
 by_cases q:k=j
 ·rw [if_pos q,if_neg (by lia),if_pos q]
 ·rw [if_neg q,if_neg q]
theorem news_put {j:Nat} {y:MO}:∀ {l:List MO} {K:MH},j<K.n→(l.foldl MH.new K).put j y=l.foldl MH.new (K.put j y)
 | [],_,_=>rfl
 | x::l,K,h=>(news_put (l:=l) (K:=K.new x) (Nat.lt_succ_of_lt h)).trans (by rw [put_new h]; rfl)
theorem news_o {j:Nat}:∀ {l:List MO} {K:MH},j<K.n→(l.foldl MH.new K).o j=K.o j
 | [],_,_=>rfl
 | x::l,K,h=>(news_o (l:=l) (K:=K.new x) (Nat.lt_succ_of_lt h)).trans (new_lt h)
theorem news_i:∀ {l:List MO} {K:MH} {i:Nat},i<l.length→(l.foldl MH.new K).o (K.n+i)=l[i]?
 | x::l,K,0,_=>(news_o (l:=l) (K:=K.new x) (Nat.lt_succ_self _)).trans (new_at ..)
 | x::l,K,i+1,h=>by
  have:=news_i (l:=l) (K:=K.new x) (i:=i) (Nat.lt_of_succ_lt_succ h)
  rw [show (K.new x).n+i=K.n+(i+1) from Nat.succ_add_eq_add_succ ..] at this
  exact this
theorem news_n:∀ {l:List MO} {K:MH},(l.foldl MH.new K).n=K.n+l.length
 | [],_=>rfl
 | x::l,K=>(news_n (l:=l) (K:=K.new x)).trans (Nat.succ_add_eq_add_succ ..)
noncomputable def mkO (H:MH) (D:List (V × V)) (l:List MO):MH:=l.foldl MH.new (H.new (.dic D))
theorem mkO_o {H:MH} {D:List (V × V)} {l:List MO}:(mkO H D l).o H.n=some (.dic D):=(news_o (Nat.lt_succ_self _)).trans (new_at ..)
theorem mkO_lt {H:MH} {D:List (V × V)} {l:List MO} {k:Nat} (h:k<H.n):(mkO H D l).o k=H.o k:=(news_o (Nat.lt_succ_of_lt h)).trans (new_lt h)
theorem mkO_kp {H:MH} {D:List (V × V)} {l:List MO}:Kp H (mkO H D l):=⟨by unfold mkO; rw [news_n]; exact Nat.le_trans (Nat.le_succ _) (Nat.le_add_right ..),fun _ h=>mkO_lt h⟩
noncomputable def regs0 (b:Int):List Int:=(List.replicate 32 (0:Int)).set 2 (b+1536)
noncomputable def mem0 (oct:List UInt8):List UInt8:=(List.replicate 1536 (0:UInt8)).take 0++oct++(List.replicate 1536 (0:UInt8)).drop oct.length
section
variable {c:Cx} {d:Nat} {H:MH} {ki:Nat} {im:Img} {D:List (V × V)} {l:List MO} {L:LL} {v:V}
theorem mkO_set {t:Str} {f:Nat} (hf:insCls f=true) (hD:Nat.ble D.length 1000=true):SetAR c (mkO H D l) (.ins f H.n) t v (mkO H (dput D (.str t) v) l) :=
 (set_att mkO_o hf (Nat.le_of_ble_eq_true hD)).to ((news_put (Nat.lt_succ_self _)).trans (congrArg (List.foldl MH.new · l) (new_put ..)))
theorem ba1536 {K:MH}:BltR c K .bytearray [.int 1536] (.obj K.n) (K.new (.bya (List.replicate 1536 0))):=bl_ba
theorem machine_of (h:H.o ki=some (.dic (imgD im))) (hk:ki<H.n) (hb:im.base=0∨im.base=4096∨im.base=8192) (hl:im.oct.length≤400) {Gl:Prop} (kG:∀ m H',(Cl c 1 660 [.ins 754 H.n,.ins 470 ki,.int 1536] (H.new (.dic [])) .none H')→(MR H' H.n m (regs0 im.base) (mem0 im.oct) [])→(m.base=im.base)→(m.pc=im.base)→(m.done=false)→(Kp H H')→Gl):Gl:=by
 have rp:(List.replicate 1536 (0:UInt8)).length=1536:=List.length_replicate ..
 have bl:=bl_lenb (c:=c) (H:=mkO H [] []) (b:=im.oct) (by lia)
 have im1 {D:List (V × V)} {l:List MO} {L:LL} {t:Str} {v:V} (l1:L 1=some (.ins 470 ki)) (g:dget (imgD im) (.str t)=some v) (nb:∀ n,v ≠ .bn n):Ev c 0 (.att (.loc 1) t) L (mkO H D l) v (mkO H D l) :=
  d_att (d_loc l1) (at_of ((mkO_lt hk).trans h) rfl g nb)
 have nb:∀ n,V.byt im.oct ≠ .bn n:=fun _ q=>by cases q
 have ni {i:Int}:∀ n,V.int i ≠ .bn n:=fun _ q=>by cases q
 have sl:=ssl_0 (c:=c) (H:=mkO H [(.str t_base,.int im.base),(.str t_size,.int 1536),(.str t_memory,.obj (H.n+1))] [.bya (List.replicate 1536 0)]) (n:=H.n+1) (b:=List.replicate 1536 0) (e:=im.oct) (new_at ..) (by rw [rp]; lia) (by rw [rp]; decide)
 rw [show (mkO H [(.str t_base,.int im.base),(.str t_size,.int 1536),(.str t_memory,.obj (H.n+1))] [.bya (List.replicate 1536 0)]).put (H.n+1) (.bya ((List.replicate 1536 0).take 0++im.oct++(List.replicate 1536 0).drop im.oct.length))=mkO H [(.str t_base,.int im.base),(.str t_size,.int 1536),(.str t_memory,.obj (H.n+1))] [.bya (mem0 im.oct)] from new_put ..] at sl
 have rg {D:List (V × V)}:Ev c 0 (.bin .Mult (.lst [.int 0]) (.int 32)) (((argsL 0 [.ins 754 H.n,.ins 470 ki,.int 1536]).put 3 (.int im.oct.length))) (mkO H D [.bya (mem0 im.oct)]) (.obj (H.n+3)) (mkO H D [.bya (mem0 im.oct),.lst [.int 0],.lst (List.replicate 32 (.int 0))]) :=
  d_bin (d_lst (a_cons d_int a_nil)) d_int (b_rep (new_at ..) (by decide) (by decide))
 have rs {D:List (V × V)} {x y:MO}:SetR c (mkO H D [x,y,.lst (List.replicate 32 (.int 0))]) (.obj (H.n+3)) (.int 2) (.int (im.base+1536)) (mkO H D [x,y,.lst ((regs0 im.base).map .int)]):=by
  have s:=set_l (c:=c) (i:=2) (v:=.int (im.base+1536)) (show (mkO H D [x,y,.lst (List.replicate 32 (.int 0))]).o (H.n+3)=_ from new_at ..) (Nat.le_of_ble_eq_true rfl) (Nat.le_of_ble_eq_true rfl)
  rw [show (mkO H D [x,y,.lst (List.replicate 32 (.int 0))]).put (H.n+3) (.lst ((List.replicate 32 (.int 0)).set 2 (.int (im.base+1536))))=mkO H D [x,y,.lst ((List.replicate 32 (.int 0)).set 2 (.int (im.base+1536)))] from new_put ..] at s
  exact s
 have md {K:MH}:BinR c K .Mod (.int (im.base+1536)) (.int 16) (.int 0) K:=by
  have s:=b_mod (c:=c) (H:=K) (i:=im.base+1536) (j:=16) (by decide)
  rw [fmod_pos (by decide),show (im.base+1536) % 16=0 by lia] at s
  exact s
 have sp {L:LL} {K:MH} (l4:L 4=some (.int (im.base+1536))):Ev c 0 (.bin .Sub (.loc 4) (.bin .Mod (.loc 4) (.int 16))) L K (.int (im.base+1536)) K:=by
  have s:=d_sbt (d_loc (c:=c) (d:=0) (H:=K) l4) (d_bin (d_loc l4) d_int md)
  rw [Int.sub_zero] at s
  exact s
 have at0 {D:List (V × V)} {l:List MO} {L:LL} {t:Str} {k:Nat} (l0:L 0=some (.ins 754 H.n)) (g:dget D (.str t)=some (.obj k)):Ev c 0 (.att (.loc 0) t) L (mkO H D l) (.obj k) (mkO H D l) :=
  d_att (d_loc l0) (at_of mkO_o rfl g fun _ q=>by cases q)
 refine kG ⟨im.base,im.base,0,0,false⟩ (mkO H (machD H.n ⟨im.base,im.base,0,0,false⟩) [.bya (mem0 im.oct),.lst [.int 0],.lst ((regs0 im.base).map .int),.bya [],.bya [],.dic []]) ?_ ⟨mkO_o,news_i (i:=0) (Nat.le_of_ble_eq_true rfl),news_i (i:=2) (Nat.le_of_ble_eq_true rfl),news_i (i:=5) (Nat.le_of_ble_eq_true rfl),rfl,?_,Nat.lt_succ_self _,fun w i v _ q=>by cases q⟩ rfl rfl rfl mkO_kp
 ·show Cl c 1 660 _ (mkO H [] []) .none _
  refine c_end (D:=f_Machine_init) (L':=((argsL 0 [.ins 754 H.n,.ins 470 ki,.int 1536]).put 3 (.int im.oct.length)).put 4 (.int (im.base+1536))) (by rfl) rfl (r_cons (x_asg (d_cal (d_glo (by rfl)) (a_cons (im1 rfl rfl nb) a_nil) (ck_bl bl))) (k_next ?_))
  refine r_cons (x_ifs (t_bop (s_cons (t_cmp (im1 rfl rfl ni) d_int (q_ltf (by lia))) (k_of (s_cons (t_cmp (d_add (d_loc rfl) (im1 rfl rfl ni)) (d_loc rfl) (q_gtf (by lia))) (k_of (s_cons (t_cmp (d_add (im1 rfl rfl ni) (d_loc rfl)) (d_glo (by rfl)) (q_gtf (by lia))) (k_of s_or0))))))) (r_ff r_nil)) (k_next ?_)
  refine r_cons (x_ast (im1 rfl rfl ni) (d_loc rfl) (mkO_set rfl rfl)) (k_next (r_cons (x_ast (d_loc rfl) (d_loc rfl) (mkO_set rfl rfl)) (k_next ?_)))
  refine r_cons (x_ast (d_cal (d_glo (by rfl)) (a_cons (d_loc rfl) a_nil) (ck_bl ba1536)) (d_loc rfl) (mkO_set (l:=[.bya (List.replicate 1536 0)]) rfl rfl)) (k_next ?_)
  refine r_cons (x_sls (im1 (l:=[.bya (List.replicate 1536 0)]) rfl rfl nb) (at0 rfl rfl) o_abs (o_of (fun _=>rfl) (d_loc rfl)) sl) (k_next ?_)
  refine r_cons (x_ast rg (d_loc rfl) (mkO_set rfl rfl)) (k_next (r_cons (x_asg (d_add (im1 rfl rfl ni) (d_loc rfl))) (k_next ?_)))
  refine r_cons (x_sst (sp rfl) (at0 rfl rfl) (d_glo (by rfl)) rs) (k_next (r_cons (x_ast (im1 rfl rfl ni) (d_loc rfl) (mkO_set rfl rfl)) (k_next ?_)))
  refine r_cons (x_ast (d_cal (d_glo (by rfl)) a_nil (ck_bl bl_ba0)) (d_loc rfl) (mkO_set (l:=[.bya (mem0 im.oct),.lst [.int 0],.lst ((regs0 im.base).map .int),.bya []]) rfl rfl)) (k_next ?_)
  refine r_cons (x_ast (d_cal (d_glo (by rfl)) a_nil (ck_bl bl_ba0)) (d_loc rfl) (mkO_set (l:=[.bya (mem0 im.oct),.lst [.int 0],.lst ((regs0 im.base).map .int),.bya [],.bya []]) rfl rfl)) (k_next ?_)
  refine r_cons (x_ast d_int (d_loc rfl) (mkO_set rfl rfl)) (k_next (r_cons (x_ast d_int (d_loc rfl) (mkO_set rfl rfl)) (k_next (r_cons (x_ast d_int (d_loc rfl) (mkO_set rfl rfl)) (k_next (r_cons (x_ast d_tt (d_loc rfl) (mkO_set rfl rfl)) (k_next ?_)))))))
  exact r_one (x_ast d_dic0 (d_loc rfl) (mkO_set (l:=[.bya (mem0 im.oct),.lst [.int 0],.lst ((regs0 im.base).map .int),.bya [],.bya [],.dic []]) rfl rfl))
 ·unfold mem0
  rw [List.length_append,List.length_append,List.length_take,List.length_drop,rp]
  lia
end
noncomputable def nameL:List Str:=[t_start,t_f,t_g,t_h,t_k]
structure LS where
 N:List (Int × Int)
 rows:List Rw
 marks:List (Int × Str)
noncomputable def lay1 (base:Int) (P:List (List Rw)) (s:LS) (o:Nat):LS :=
 ⟨numPut s.N o (base+4 * (s.rows.length:Int)),s.rows++P.getD o [],s.marks++[(base+4 * (s.rows.length:Int),nameL.getD o t_x)]⟩
noncomputable def laid1:List S:=match f_law_laid.body with
 | [_,_,.fori _ _ _ b,_,_,_,_,_,_,_,_]=>b
 | _=>[]
structure L1 (L:LL) (kp ks kr km:Nat) (base:Int):Prop where
 l0:L 0=some (.obj kp)
 l1:L 1=some (.int base)
 l5:L 5=some (.obj ks)
 l6:L 6=some (.obj kr)
 l7:L 7=some (.obj km)
noncomputable def Same (L L':LL):Prop:=∀ x,x ≠ 6→x ≠ 8→L' x=L x
structure H1L (H0 H:MH) (ks kr km:Nat) (s:LS):Prop where
 kp:Kp H0 H
 n1:H0.n≤ks
 n2:H0.n≤kr
 n3:H0.n≤km
 m1:ks<H.n
 m2:kr<H.n
 m3:km<H.n
 d1:ks ≠ kr
 d2:ks ≠ km
 d3:kr ≠ km
 hs:H.o ks=some (.dic (numD s.N))
 hr:H.o kr=some (.lst (s.rows.map Rw.v))
 hm:H.o km=some (.lst (s.marks.map markV))
structure Pts (H0:MH) (kp:Nat) (kps:List Nat) (P:List (List Rw)):Prop where
 hp:H0.o kp=some (.lst (kps.map .obj))
 lt:kp<H0.n
 le:kps.length=P.length
 l5:P.length≤5
 ps:∀ i,i<P.length→H0.o (kps.getD i 0)=some (.lst ((P.getD i []).map Rw.v))∧kps.getD i 0<H0.n∧(P.getD i []).length≤22
section
variable {c:Cx} {d:Nat} {H H0:MH} {kp ks kr km:Nat} {kps:List Nat} {P:List (List Rw)} {s:LS} {L:LL} {base:Int} {o:Nat}
theorem nam (ho:o<5):SubR c H (.sta 759) (.int o) (.str (nameL.getD o t_x)):=by
 refine sub_a (l:=lawNames) ((if_neg fun e=>c.F.2 e.symm).trans (if_pos rfl)) ?_
 rcases (by lia:o=0∨o=1∨o=2∨o=3∨o=4) with rfl | rfl | rfl | rfl | rfl <;> rfl
theorem x_app {x k:Nat} {l:List V} {v:V} {e:E} {H1:MH} (l0:L x=some (.obj k)) (ev:Ev c d e L H v H1) (h:H.o k=some (.lst l)) (h1:H1.o k=some (.lst l)) (hl:l.length≤100000):Ex c d (.exp (.met (.loc x) t_append [e])) L H .next L (H1.put k (.lst (l++[v]))) :=
 x_exp (d_met (d_loc l0) (lk_app h) (a_cons ev a_nil) (mk_bl (mt_app h1 hl)))
theorem map_le {α β:Type} {f:α→β} {l:List α} {n:Nat} (h:l.length≤n):(l.map f).length≤n:=by rw [List.length_map]; exact h
theorem laid_step (p:Pts H0 kp kps P) (ho:o<P.length) (h:H1L H0 H ks kr km s) (l:L1 L kp ks kr km base) (l8:L 8=some (.int o)) (b1:s.rows.length≤1000) (b2:s.marks.length≤1000) (b3:s.N.length≤1000) :
  ∃ kr' H',Rn c 1 laid1 L H .next (L.put 6 (.obj kr')) H'∧H1L H0 H' ks kr' km (lay1 base P s o):=by
 obtain ⟨p1,p2,p3⟩:=p.ps o ho
 have p5:=p.l5
 have sr:small (s.rows.length:Int)=true:=smN (by lia) (by lia)
 have ne (j:Nat) (hj:j<H0.n):j ≠ ks∧j ≠ km:=⟨Nat.ne_of_lt (Nat.lt_of_lt_of_le hj h.n1),Nat.ne_of_lt (Nat.lt_of_lt_of_le hj h.n3)⟩
 have bl:=bl_len (c:=c) h.hr (map_le (Nat.le_trans b1 (by decide)))
 rw [List.length_map] at bl
 have st:=num_set (c:=c) (k:=o) (x:=base+4 * (s.rows.length:Int)) h.hs (Nat.le_trans b3 (by decide))
 have sb:=sub_d (c:=c) (H:=H.put ks (.dic (numD (numPut s.N o (base+4 * (s.rows.length:Int)))))) (y:=.int o) (v:=.int (base+4 * (s.rows.length:Int))) (put_at _ _ _) rfl (by rw [numD_get,numGet_put,if_pos (beq_self_eq_true _)]; rfl)
 have hm:=(put_ne (x:=.dic (numD (numPut s.N o (base+4 * (s.rows.length:Int))))) h.d2.symm).trans h.hm
 have ap:=x_app (c:=c) (d:=1) (e:=.tup [.sub (.loc 5) (.loc 8),.sub (.glo t__law_NAMES) (.loc 8)]) l.l7 (d_tup (a_cons (d_sub (d_loc l.l5) (d_loc l8) sb) (a_cons (d_sub (d_glo (by rfl)) (d_loc l8) (nam (by lia))) a_nil))) hm hm (map_le (Nat.le_trans b2 (by decide)))
 rw [show s.marks.map markV++[.tup [.int (base+4 * (s.rows.length:Int)),.str (nameL.getD o t_x)]]=(lay1 base P s o).marks.map markV from (List.map_append (f:=markV) (l₁:=s.marks) (l₂:=[(base+4 * (s.rows.length:Int),nameL.getD o t_x)])).symm] at ap
 generalize hB:(H.put ks (.dic (numD (numPut s.N o (base+4 * (s.rows.length:Int)))))).put km (.lst ((lay1 base P s o).marks.map markV))=B at *
 have Bn:B.n=H.n:=by rw [← hB]; rfl
 have Bo {j:Nat} (h1:j ≠ ks) (h2:j ≠ km):B.o j=H.o j:=by rw [← hB]; exact (put_ne h2).trans (put_ne h1)
 have B5:B.o (kps.getD o 0)=_:=(Bo (ne _ p2).1 (ne _ p2).2).trans ((h.kp.2 _ p2).trans p1)
 have sp:=sub_l (c:=c) (i:=o) ((Bo (ne _ p.lt).1 (ne _ p.lt).2).trans ((h.kp.2 _ p.lt).trans p.hp)) (v:=.obj (kps.getD o 0)) (idxL (map_le (by rw [p.le]; lia)) (by
  rw [List.getElem?_map,List.getD_eq_getElem?_getD,List.getElem?_eq_getElem (by rw [p.le]; exact ho)]; rfl))
 have ad:=b_lst (c:=c) ((Bo h.d1.symm h.d3).trans h.hr) B5 (by rw [List.length_map,List.length_map]; lia)
 rw [← List.map_append] at ad
 have kB:Kp H0 B:=by rw [← hB]; exact (h.kp.put h.n1).put h.n3
 have y2:=h.m2
 have y0:=h.kp.1
 refine ⟨B.n,_,r_cons (x_sst (d_add (d_loc l.l1) (d_mul d_int (d_cal (d_glo (by rfl)) (a_cons (d_loc l.l6) a_nil) (ck_bl bl)) (by decide) sr)) (d_loc l.l5) (d_loc l8) st) (k_next (r_cons ap (k_next (r_one (x_asg (d_bin (d_loc l.l6) (d_sub (d_loc l.l0) (d_loc l8) sp) ad)))))),?_⟩
 exact ⟨kB.trans .new,h.n1,by lia,h.n3,Nat.lt_of_lt_of_le h.m1 (Bn ▸ Nat.le_succ _),Nat.lt_succ_self _,Nat.lt_of_lt_of_le h.m3 (Bn ▸ Nat.le_succ _),Nat.ne_of_lt (Bn ▸ h.m1),h.d2,Nat.ne_of_gt (Bn ▸ h.m3),
  (new_lt (Bn ▸ h.m1)).trans (by rw [← hB]; exact (put_ne h.d2).trans (put_at _ _ _)),new_at _ _,(new_lt (Bn ▸ h.m3)).trans (by rw [← hB]; exact put_at _ _ _)⟩
theorem laid_loop (p:Pts H0 kp kps P) {ko:Nat} {all:List Nat} (hko:H0.o ko=some (.lst (all.map fun o:Nat=>.int o))) (hk:ko<H0.n) (hal:all.length≤5) (hin:∀ o ∈ all,o<P.length) :
  ∀ {os:List Nat} {i kr:Nat} {s:LS} {L:LL} {H:MH} {f:Nat},all.drop i=os→H1L H0 H ks kr km s→L1 L kp ks kr km base→s.rows.length+22 * os.length≤900→s.marks.length+os.length≤900→s.N.length+os.length≤900→os.length+1≤f →
  ∃ L' kr' H',Fo c 1 false [8] laid1 (.obj ko) f i L H .next L' H'∧Same L L'∧L1 L' kp ks kr' km base∧H1L H0 H' ks kr' km (os.foldl (lay1 base P) s):=by
 intro os
 induction os with
 | nil =>
  intro i kr s L H f ha h l b1 b2 b3 hf
  obtain ⟨f,rfl⟩:=Nat.exists_eq_add_of_le' hf
  have nx:=nextL (i:=i) ((h.kp.2 _ hk).trans hko) (map_le (Nat.le_trans hal (by decide)))
  rw [List.getElem?_map,← Nat.add_zero i,← List.getElem?_drop,ha] at nx
  exact ⟨L,kr,H,f_end nx,fun _ _ _=>rfl,l,h⟩
 | cons o os ih =>
  intro i kr s L H f ha h l b1 b2 b3 hf
  obtain ⟨f,rfl⟩:=Nat.exists_eq_add_of_le' (Nat.le_trans (Nat.le_add_left 1 _) hf)
  rw [List.length_cons] at b1 b2 b3 hf
  have nx:=nextL (i:=i) ((h.kp.2 _ hk).trans hko) (map_le (Nat.le_trans hal (by decide)))
  rw [List.getElem?_map,← Nat.add_zero i,← List.getElem?_drop,ha] at nx
  have hoP:o<P.length:=hin o (List.mem_of_mem_drop (i:=i) (by rw [ha]; exact .head _))
  have ha2:all.drop (i+1)=os:=by rw [← List.drop_drop,ha]; rfl
  obtain ⟨kr',H',r1,r4⟩:=laid_step (c:=c) (L:=L.put 8 (.int o)) p hoP h ⟨l.l0,l.l1,l.l5,l.l6,l.l7⟩ rfl (by lia) (by lia) (by lia)
  have q1:(lay1 base P s o).rows.length≤s.rows.length+22:=by show (s.rows++P.getD o []).length≤_; rw [List.length_append]; exact Nat.add_le_add_left (p.ps o hoP).2.2 _
  have q2:(lay1 base P s o).marks.length=s.marks.length+1:=List.length_append ..
  have q3:(lay1 base P s o).N.length≤s.N.length+1:=numPut_len
  obtain ⟨L2,kr2,H2,t1,t2,t3,t4⟩:=ih (i:=i+1) (f:=f) ha2 r4 (L:=(L.put 8 (.int o)).put 6 (.obj kr')) ⟨l.l0,l.l1,l.l5,rfl,l.l7⟩ (by lia) (by lia) (by lia) (by lia)
  exact ⟨L2,kr2,H2,f_nx nx rfl r1 t1,fun x h1 h2=>(t2 x h1 h2).trans ((if_neg h1).trans (if_neg h2)),t3,t4⟩
end
noncomputable def laid2:List S:=match f_law_laid.body with
 | [_,_,_,_,.fori _ _ _ b,_,_,_,_,_,_]=>b
 | _=>[]
noncomputable def octF (base:Int) (st:Nat→Int):Nat→List Rw→List UInt8
 | _,[]=>[]
 | i,r::rs=>leBytes 4 (r.word (base+4 * (i:Int)) base st).toNat++octF base st (i+1) rs
theorem octF_len {base:Int} {st:Nat→Int}:∀ {rows:List Rw} {i:Nat},(octF base st i rows).length=4 * rows.length
 | [],_=>rfl
 | r::rs,i=>by
  show (leBytes 4 _++octF base st (i+1) rs).length=4 * (rs.length+1)
  rw [List.length_append,leBytes_len,octF_len]
  lia
structure RowG (D:List (V × V)) (base:Int) (st:Nat→Int) (i:Nat) (r:Rw):Prop where
 t:r.fine=true
 w:isW (r.ins (base+4 * (i:Int)) base st) (r.word (base+4 * (i:Int)) base st)
 j:∀ g,r=.jal g→dget D (.int g)=some (.int (st g))
 n:∀ g,r=.near g→dget D (.int g)=some (.int (st g))∧0≤st g - base∧st g - base<2048
section
variable {c:Cx} {H:MH} {ks kr i:Nat} {D:List (V × V)} {base:Int} {st:Nat→Int} {r:Rw} {rows:List Rw}
theorem word_any (hD:H.o ks=some (.dic D)) (g:RowG D base st i r):Cl c 1 799 [r.v,.int (base+4 * (i:Int)),.obj ks,.int base] H (.int (r.word (base+4 * (i:Int)) base st)) H:=by
 rcases Rw.fine_cases g.t with ⟨k,rfl⟩ | rfl | ⟨k,rfl⟩ | ⟨k,rfl⟩ | m
 ·exact word_jal hD (g.j k rfl)
 ·exact word_con (.head _)
 ·exact word_near hD (g.n k rfl).1 (g.n k rfl).2.1 (g.n k rfl).2.2
 ·exact word_jalrc
 ·exact word_con (.tail _ m)
noncomputable def Same2 (L L':LL):Prop:=∀ x,x ≠ 9→x ≠ 10→x ≠ 11→L' x=L x
theorem laid_loop2 (hD:H.o ks=some (.dic D)) (hr:H.o kr=some (.lst (rows.map Rw.v))) (hl:rows.length≤1000) (hg:∀ (i:Nat) (r:Rw),rows[i]?=some r→RowG D base st i r) :
  ∀ {rs:List Rw} {i:Nat} {b:List UInt8} {L:LL} {f:Nat},rows.drop i=rs→L 5=some (.obj ks)→L 1=some (.int base)→L 9=some (.byt b)→b.length+4 * rs.length≤90000→rs.length+1≤f →
  ∃ L',Fo c 1 true [10,11] laid2 (.obj kr) f i L H .next L' H∧L' 9=some (.byt (b++octF base st i rs))∧Same2 L L':=by
 intro rs
 induction rs with
 | nil =>
  intro i b L f ha l5 l1 l9 hb hf
  obtain ⟨f,rfl⟩:=Nat.exists_eq_add_of_le' hf
  have nx:=nextL (i:=i) hr (map_le (Nat.le_trans hl (by decide)))
  rw [List.getElem?_map,← Nat.add_zero i,← List.getElem?_drop,ha] at nx
  exact ⟨L,f_end nx,l9.trans (congrArg (fun b=>some (V.byt b)) (List.append_nil b).symm),fun _ _ _ _=>rfl⟩
 | cons r rs ih =>
  intro i b L f ha l5 l1 l9 hb hf
  obtain ⟨f,rfl⟩:=Nat.exists_eq_add_of_le' (Nat.le_trans (Nat.le_add_left 1 _) hf)
  rw [List.length_cons] at hb hf
  have hd:rows[i]?=some r:=by rw [← Nat.add_zero i,← List.getElem?_drop,ha]; rfl
  have nx:=nextL (i:=i) hr (map_le (Nat.le_trans hl (by decide)))
  rw [List.getElem?_map,hd] at nx
  have ha2:rows.drop (i+1)=rs:=by rw [← List.drop_drop,ha]; rfl
  have il:i<rows.length:=(List.getElem?_eq_some_iff.1 hd).1
  have g:=hg i r hd
  have wd:=word_any (c:=c) hD g
  have w1:=g.w.2.1
  have w2:=g.w.2.2
  have ln:=leBytes_len 4 (r.word (base+4 * (i:Int)) base st).toNat
  have tb:=mt_tob (c:=c) (H:=H) (x:=(r.word (base+4 * (i:Int)) base st).toNat) (n:=4) (by decide) (show _<4294967296 by lia)
  rw [Int.toNat_of_nonneg w1] at tb
  obtain ⟨L',t1,t2,t3⟩:=ih (i:=i+1) (b:=b++leBytes 4 (r.word (base+4 * (i:Int)) base st).toNat) (L:=((L.put 10 (.int i)).put 11 r.v).put 9 (.byt (b++leBytes 4 (r.word (base+4 * (i:Int)) base st).toNat))) (f:=f) ha2 l5 l1 rfl (by rw [List.length_append,ln]; lia) (by lia)
  rw [List.append_assoc] at t2
  refine ⟨L',f_nx nx rfl (r_one (x_asg (d_bin (d_loc l9) (d_met (d_cal (d_glo (by rfl)) (a_cons (d_loc rfl) (a_cons (d_add (d_loc l1) (d_mul d_int (d_loc rfl) (by decide) (smN (by lia) (by lia)))) (a_cons (d_loc l5) (a_cons (d_loc l1) a_nil)))) (ck_fn rfl wd)) lk_tob (a_cons d_int (a_cons d_str a_nil)) (mk_bl tb)) (b_byt ?_)))) t1,t2,fun x h1 h2 h3=>(t3 x h1 h2 h3).trans ((if_neg h1).trans ((if_neg h3).trans (if_neg h2)))⟩
  rw [ln]
  lia
theorem image_of {b:Int} {oct:List UInt8} {ksy:Nat}:Cl c 1 467 [.ins 470 H.n,.int b,.int b,.byt oct,.int 0,.obj ksy] (H.new (.dic [])) .none (mkO H (imgD ⟨b,oct,ksy,H.n+1,H.n+2,H.n+3⟩) [.lst [],.lst [],.lst []]):=by
 show Cl c 1 467 _ (mkO H [] []) .none _
 have s {D:List (V × V)} {l:List MO} {t:Str} {v:V} (h:Nat.ble D.length 1000=true):SetAR c (mkO H D l) (.ins 470 H.n) t v (mkO H (dput D (.str t) v) l):=mkO_set rfl h
 refine c_end (D:=f_Image_init) (L':=argsL 0 [.ins 470 H.n,.int b,.int b,.byt oct,.int 0,.obj ksy]) (by rfl) rfl (r_cons (x_ast (d_loc rfl) (d_loc rfl) (s rfl)) (k_next (r_cons (x_ast (d_loc rfl) (d_loc rfl) (s rfl)) (k_next (r_cons (x_ast (d_loc rfl) (d_loc rfl) (s rfl)) (k_next (r_cons (x_ast (d_loc rfl) (d_loc rfl) (s rfl)) (k_next (r_cons (x_ast (d_loc rfl) (d_loc rfl) (s rfl)) (k_next ?_))))))))))
 exact r_cons (x_ast (d_lst a_nil) (d_loc rfl) (s (l:=[.lst []]) rfl)) (k_next (r_cons (x_ast (d_lst a_nil) (d_loc rfl) (s (l:=[.lst [],.lst []]) rfl)) (k_next (r_one (x_ast (d_lst a_nil) (d_loc rfl) (s (l:=[.lst [],.lst [],.lst []]) rfl))))))
end
noncomputable def ordL (t:Bool) (m:Nat):List Nat:=0::(if t then ((List.range m).map (·+1)).reverse else (List.range m).map (·+1))
noncomputable def finS (base:Int) (P:List (List Rw)) (t:Bool) (m:Nat):LS:=(ordL t m).foldl (lay1 base P) ⟨[],[],[]⟩
noncomputable def ordE:E:=.bin .Add (.lst [.int 0]) (.slc (.call (.glo t_list) [.call (.glo t_range) [.int 1,.call (.glo t_len) [.loc 0]]]) (.abs) (.abs) (.ife (.loc 2) (.neg (.int 1)) (.int 1)))
theorem ordL_len {t:Bool} {m:Nat}:(ordL t m).length=m+1:=by
 cases t
 ·exact congrArg (·+1) ((List.length_map ..).trans List.length_range)
 ·exact congrArg (·+1) ((List.length_reverse ..).trans ((List.length_map ..).trans List.length_range))
theorem ordL_le {t:Bool} {m o:Nat} (h:o ∈ ordL t m):o≤m:=by
 rcases List.mem_cons.1 h with rfl | h
 ·exact Nat.zero_le _
 ·have:o ∈ (List.range m).map (·+1):=by
   cases t
   ·exact h
   ·exact List.mem_reverse.1 h
  obtain ⟨i,hi,rfl⟩:=List.mem_map.1 this
  exact List.mem_range.1 hi
section
variable {c:Cx} {d:Nat} {H:MH} {kp:Nat} {kps:List Nat} {P:List (List Rw)} {m cut:Nat} {t:Bool} {base:Int} {L:LL}
theorem rangeL_eq:rangeL 1 ((m:Int)+1)=((List.range m).map (·+1)).map fun o:Nat=>V.int o:=by
 unfold rangeL
 rw [List.map_map,show ((m:Int)+1 - 1).toNat=m by lia]
 exact List.map_congr_left fun i _=>congrArg V.int (show (1:Int)+i=((i+1:Nat):Int) by lia)
theorem order_of (l0:L 0=some (.obj kp)) (l2:L 2=some (.bool t)) (hp:H.o kp=some (.lst (kps.map .obj))) (hk:kp<H.n) (hl:kps.length=m+1) (hm:m≤10) :
  ∃ ko H',Ev c d ordE L H (.obj ko) H'∧Kp H H'∧ko<H'.n∧H'.o ko=some (.lst ((ordL t m).map fun o:Nat=>.int o)):=by
 have lr:(rangeL 1 ((m:Int)+1)).length=m:=by rw [rangeL_eq,List.length_map,List.length_map,List.length_range]
 have bl:=bl_len (c:=c) ((new_lt (x:=.lst [.int 0]) hk).trans hp) (by rw [List.length_map]; lia)
 rw [List.length_map,hl] at bl
 have ra:Ev c d (.call (.glo t_list) [.call (.glo t_range) [.int 1,.call (.glo t_len) [.loc 0]]]) L (H.new (.lst [.int 0])) (.obj (H.n+1)) ((H.new (.lst [.int 0])).new (.lst (rangeL 1 ((m:Int)+1)))) :=
  d_cal (d_glo (by rfl)) (a_cons (d_cal (d_glo (by rfl)) (a_cons d_int (a_cons (d_cal (d_glo (by rfl)) (a_cons (d_loc l0) a_nil) (ck_bl bl)) a_nil)) (ck_bl bl_rng2)) a_nil) (ck_bl (bl_list (by decide) (by lia) (by lia)))
 have fin {l:List Nat} (sl:Ev c d (.slc (.call (.glo t_list) [.call (.glo t_range) [.int 1,.call (.glo t_len) [.loc 0]]]) (.abs) (.abs) (.ife (.loc 2) (.neg (.int 1)) (.int 1))) L (H.new (.lst [.int 0])) (.obj (H.n+2)) (((H.new (.lst [.int 0])).new (.lst (rangeL 1 ((m:Int)+1)))).new (.lst (l.map fun o:Nat=>V.int o)))) (e:ordL t m=0::l) :
   ∃ ko H',Ev c d ordE L H (.obj ko) H'∧Kp H H'∧ko<H'.n∧H'.o ko=some (.lst ((ordL t m).map fun o:Nat=>.int o)):=by
  have ll:l.length=m:=Nat.succ.inj ((congrArg List.length e).symm.trans ordL_len)
  have q:=b_lst (c:=c) (H:=((H.new (.lst [.int 0])).new (.lst (rangeL 1 ((m:Int)+1)))).new (.lst (l.map fun o:Nat=>V.int o))) (a:=H.n) (b:=H.n+2) (l:=[.int 0]) ((new_lt (Nat.lt_succ_of_lt (Nat.lt_succ_self _))).trans ((new_lt (Nat.lt_succ_self _)).trans (new_at _ _))) (new_at _ _) (by rw [List.length_map,ll,List.length_singleton]; lia)
  refine ⟨_,_,d_bin (d_lst (a_cons d_int a_nil)) sl q,Kp.trans .new (Kp.trans .new (Kp.trans .new .new)),Nat.lt_succ_self _,(new_at _ _).trans ?_⟩
  rw [e]
  rfl
 rw [rangeL_eq] at lr fin ra
 induction t using Bool.casesOn with
 | true=>exact fin (l:=((List.range m).map (·+1)).reverse) (by rw [List.map_reverse]; exact d_slc ra o_abs o_abs (o_of (fun _=>rfl) (d_ife (t_of rfl (d_loc l2) rfl) (e_tt (d_neg d_int)))) (slc_rev (new_at _ _) (by lia))) rfl
 | false=>exact fin (l:=(List.range m).map (·+1)) (d_slc ra o_abs o_abs (o_of (fun _=>rfl) (d_ife (t_of rfl (d_loc l2) rfl) (e_ff d_int))) (slc_all (new_at _ _) (by lia))) rfl
theorem laid_of (p:Pts H kp kps P) (hm:P.length=m+1) (hcut:cut≤m) {st:Nat→Int}
  (hrl:(finS base P t m).rows.length≤100) (hml:(finS base P t m).marks.length=m+1)
  (hg:∀ (i:Nat) (r:Rw),(finS base P t m).rows[i]?=some r→RowG (numD (finS base P t m).N) base st i r) {Gl:Prop} (kG:∀ kr ki im H',(Cl c 2 806 [.obj kp,.int base,.bool t,.int cut] H (.tup [.obj kr,.ins 470 ki]) H')→(Kp H H')→(H'.o kr=some (.lst ((finS base P t m).rows.map Rw.v)))→(kr<H'.n)→(H.n≤kr)→(H.n≤ki)→(IR H' ki im ⟨base,base+4 * ((finS base P t m).rows.length:Int),(finS base P t m).marks,cut⟩)→(im.base=base)→(im.oct=octF base st 0 (finS base P t m).rows)→Gl):Gl:=by
 have p5:=p.l5
 obtain ⟨ko,H1,or1,k1,ko1,oo⟩:=order_of (c:=c) (d:=1) (t:=t) (m:=m) (L:=argsL 0 [.obj kp,.int base,.bool t,.int cut]) rfl rfl p.hp p.lt (p.le.trans hm) (by lia)
 have p1:Pts H1 kp kps P:=⟨(k1.2 _ p.lt).trans p.hp,Nat.lt_of_lt_of_le p.lt k1.1,p.le,p.l5,fun i hi=>by
  obtain ⟨q1,q2,q3⟩:=p.ps i hi
  exact ⟨(k1.2 _ q2).trans q1,Nat.lt_of_lt_of_le q2 k1.1,q3⟩⟩
 have h1:H1L H1 (((H1.new (.dic [])).new (.lst [])).new (.lst [])) H1.n (H1.n+1) (H1.n+2) ⟨[],[],[]⟩ :=
  ⟨Kp.trans .new (Kp.trans .new .new),Nat.le_refl _,Nat.le_succ _,by lia,show H1.n<H1.n+3 by lia,show H1.n+1<H1.n+3 by lia,Nat.lt_succ_self _,by lia,by lia,by lia,
   (new_lt (show H1.n<H1.n+2 by lia)).trans ((new_lt (Nat.lt_succ_self _)).trans (new_at _ _)),(new_lt (show H1.n+1<H1.n+2 by lia)).trans (new_at (H1.new (.dic [])) _),new_at ((H1.new (.dic [])).new (.lst [])) _⟩
 have sw:Ex c 1 (.swp [5,6,7] [.dic [] [],.lst [],.lst []]) ((argsL 0 [.obj kp,.int base,.bool t,.int cut]).put 4 (.obj ko)) H1 .next (((((argsL 0 [.obj kp,.int base,.bool t,.int cut]).put 4 (.obj ko)).put 5 (.obj H1.n)).put 6 (.obj (H1.n+1))).put 7 (.obj (H1.n+2))) (((H1.new (.dic [])).new (.lst [])).new (.lst [])) :=
  x_swp (a_cons d_dic0 (a_cons (d_lst a_nil) (a_cons (d_lst a_nil) a_nil))) rfl
 have ol:=ordL_len (t:=t) (m:=m)
 have nx1:=nextL (i:=0) ((h1.kp.2 _ ko1).trans oo) (map_le (by rw [ol]; lia))
 obtain ⟨L',kr,H3,r1,r2,r3,r4⟩:=laid_loop (c:=c) (os:=ordL t m) (f:=m+2) (i:=0) (base:=base) (L:=((((argsL 0 [.obj kp,.int base,.bool t,.int cut]).put 4 (.obj ko)).put 5 (.obj H1.n)).put 6 (.obj (H1.n+1))).put 7 (.obj (H1.n+2))) p1 oo ko1 (by rw [ol]; lia) (fun o ho=>by rw [hm]; exact Nat.lt_succ_of_le (ordL_le ho)) rfl h1 ⟨rfl,rfl,rfl,rfl,rfl⟩ (by rw [ol]; show 0+_≤_; lia) (by rw [ol]; show 0+_≤_; lia) (by rw [ol]; show 0+_≤_; lia) (by rw [ol]; exact Nat.le_refl _)
 have r4:H1L H1 H3 H1.n kr (H1.n+2) (finS base P t m):=r4
 have nx2:=nextL (i:=0) r4.hr (map_le (Nat.le_trans hrl (by decide)))
 obtain ⟨L2,t1,t2,t3⟩:=laid_loop2 (c:=c) (rs:=(finS base P t m).rows) (i:=0) (b:=[]) (L:=L'.put 9 (.byt [])) (f:=(finS base P t m).rows.length+1) r4.hs r4.hr (Nat.le_trans hrl (by decide)) hg rfl r3.l5 r3.l1 rfl (by show 0+_≤_; lia) (Nat.le_refl _)
 rw [List.nil_append] at t2
 have lo:(octF base st 0 (finS base P t m).rows).length=4 * (finS base P t m).rows.length:=octF_len
 generalize octF base st 0 (finS base P t m).rows=oct at *
 have g1:L2 1=some (.int base):=(t3 1 (by decide) (by decide) (by decide)).trans r3.l1
 have g3:L2 3=some (.int cut):=(t3 3 (by decide) (by decide) (by decide)).trans (r2 3 (by decide) (by decide))
 have g7:L2 7=some (.obj (H1.n+2)):=(t3 7 (by decide) (by decide) (by decide)).trans r3.l7
 have g6:L2 6=some (.obj kr):=(t3 6 (by decide) (by decide) (by decide)).trans r3.l6
 have y3:=r4.m3
 have y2:=r4.m2
 have y1:=r4.n2
 have kk:=k1.trans r4.kp
 generalize hpl:(⟨base,base+4 * ((finS base P t m).rows.length:Int),(finS base P t m).marks,cut⟩:Pl)=pl at *
 have fz:pl.fin=base+oct.length:=by rw [← hpl,lo]; show base+4 * _=_; lia
 have bz:pl.base=base:=by rw [← hpl]
 have cz:pl.cut=cut:=by rw [← hpl]
 have nz:pl.names=(finS base P t m).marks.map markV:=by rw [← hpl]; rfl
 have mz:pl.marks=(finS base P t m).marks:=by rw [← hpl]
 have nm {D:List (V × V)} {l:List MO}:(mkO (H3.new (.dic [])) D l).o (H1.n+2)=some (.lst pl.names):=(mkO_lt (Nat.lt_succ_of_lt y3)).trans ((new_lt y3).trans (r4.hm.trans (by rw [nz])))
 have ln {L:LL} {K:MH} (l9:L 9=some (.byt oct)) (l1:L 1=some (.int base)):Ev c 1 (.bin .Add (.loc 1) (.call (.glo t_len) [.loc 9])) L K (.int pl.fin) K:=by
  rw [fz]
  exact d_add (d_loc l1) (d_cal (d_glo (by rfl)) (a_cons (d_loc l9) a_nil) (ck_bl (bl_lenb (by lia))))
 have bh {K:MH} (hK:K.o (H1.n+2)=some (.lst pl.names)):Ev c 1 (.ife (.cmp .Gt (.loc 3) (.int 0)) (.sub (.sub (.loc 7) (.loc 3)) (.int 0)) (.bin .Add (.loc 1) (.call (.glo t_len) [.loc 9]))) (L2.put 12 (.ins 470 (H3.n+1))) K (.int pl.behind) K:=by
  unfold Pl.behind
  by_cases q:0<cut
  ·rw [cz,if_pos q]
   exact d_ife (t_cmp (d_loc g3) d_int (q_gt (by lia))) (e_tt (d_sub (d_sub (d_loc g7) (d_loc g3) (sub_l hK (idxL (by rw [nz,List.length_map]; lia) (pl.names_at (j:=cut) (by rw [mz]; lia))))) d_int (sub_t rfl)))
  ·rw [cz,if_neg q]
   exact d_ife (t_cmp (d_loc g3) d_int (q_gtf (by lia))) (e_ff (ln t2 g1))
 have pc:∃ L4,Rn c 1 [.ifs (.cmp .Gt (.loc 3) (.int 0)) [.exp (.met (.att (.loc 12) t_pieces) t_append [.tup [.str t_x46_116_101_120_116_46_98,.str t_x98_46_99,.loc 13,.bin .Sub (.bin .Add (.loc 1) (.call (.glo t_len) [.loc 9])) (.loc 13)]])] [],.ret (.tup [.loc 6,.loc 12])]
   ((L2.put 12 (.ins 470 (H3.n+1))).put 13 (.int pl.behind)) (mkO (H3.new (.dic [])) (imgD ⟨base,oct,H3.n,H3.n+1+4,H3.n+1+2,H1.n+2⟩) [.lst [],.lst [],.lst [],.lst [pl.p1]]) (.ret (.tup [.obj kr,.ins 470 (H3.n+1)])) L4 (mkO (H3.new (.dic [])) (imgD ⟨base,oct,H3.n,H3.n+1+4,H3.n+1+2,H1.n+2⟩) [.lst [],.lst [],.lst [],.lst pl.pieces]):=by
  have rt {K:MH}:Rn c 1 [.ret (.tup [.loc 6,.loc 12])] ((L2.put 12 (.ins 470 (H3.n+1))).put 13 (.int pl.behind)) K (.ret (.tup [.obj kr,.ins 470 (H3.n+1)])) ((L2.put 12 (.ins 470 (H3.n+1))).put 13 (.int pl.behind)) K :=
   r_one (x_ret (d_tup (a_cons (d_loc g6) (a_cons (d_loc rfl) a_nil))))
  unfold Pl.pieces
  by_cases q:0<cut
  ·rw [cz,if_pos q]
   have o4:(mkO (H3.new (.dic [])) (imgD ⟨base,oct,H3.n,H3.n+1+4,H3.n+1+2,H1.n+2⟩) [.lst [],.lst [],.lst [],.lst [pl.p1]]).o (H3.n+1+4)=some (.lst [pl.p1]):=new_at _ _
   have ap:=mt_app (c:=c) (v:=pl.p2) o4 (Nat.le_of_ble_eq_true rfl)
   rw [show (mkO (H3.new (.dic [])) (imgD ⟨base,oct,H3.n,H3.n+1+4,H3.n+1+2,H1.n+2⟩) [.lst [],.lst [],.lst [],.lst [pl.p1]]).put (H3.n+1+4) (.lst ([pl.p1]++[pl.p2]))=mkO (H3.new (.dic [])) (imgD ⟨base,oct,H3.n,H3.n+1+4,H3.n+1+2,H1.n+2⟩) [.lst [],.lst [],.lst [],.lst [pl.p1,pl.p2]] from new_put ..] at ap
   exact ⟨_,r_cons (x_ifs (t_cmp (d_loc g3) d_int (q_gt (by lia))) (r_tt (r_one (x_exp (d_met (d_att (d_loc rfl) (at_of mkO_o rfl rfl fun _ q=>by cases q)) (lk_app o4) (a_cons (d_tup (a_cons d_str (a_cons d_str (a_cons (d_loc rfl) (a_cons (d_sbt (ln t2 g1) (d_loc rfl)) a_nil))))) a_nil) (mk_bl ap)))))) (k_next rt)⟩
  ·rw [cz,if_neg q]
   exact ⟨_,r_cons (x_ifs (t_cmp (d_loc g3) d_int (q_gtf (by lia))) (r_ff r_nil)) (k_next rt)⟩
 obtain ⟨L4,pc⟩:=pc
 have ii:=image_of (c:=c) (H:=H3.new (.dic [])) (b:=base) (oct:=oct) (ksy:=H3.n)
 refine kG kr (H3.n+1) ⟨base,oct,H3.n,H3.n+1+4,H3.n+1+2,H1.n+2⟩ (mkO (H3.new (.dic [])) (imgD ⟨base,oct,H3.n,H3.n+1+4,H3.n+1+2,H1.n+2⟩) [.lst [],.lst [],.lst [],.lst pl.pieces]) (c_ret (D:=f_law_laid) (L':=L4) (by rfl) rfl ?_) ((kk.trans .new).trans mkO_kp) ((mkO_lt (Nat.lt_succ_of_lt y2)).trans ((new_lt y2).trans r4.hr)) ?_ (Nat.le_trans k1.1 y1) (Nat.le_trans kk.1 (Nat.le_succ _)) ⟨mkO_o,new_at _ _,nm,?_,Nat.lt_succ_self _,?_⟩ rfl rfl
 ·refine r_cons (x_asg or1) (k_next (r_cons sw (k_next (r_cons (x_fo (d_loc rfl) rfl nx1 rfl r1) (k_next (r_cons (x_asg d_byt) (k_next (r_cons (x_fo (d_loc r3.l6) rfl nx2 rfl t1) (k_next ?_)))))))))
  refine r_cons (x_asg (d_cal (d_glo (by rfl)) (a_cons (d_loc g1) (a_cons (d_loc g1) (a_cons (d_loc t2) (a_cons d_int (a_cons d_dic0 a_nil))))) (ck_cl rfl ii))) (k_next ?_)
  refine r_cons (x_ast (d_loc g7) (d_loc rfl) (mkO_set rfl rfl)) (k_next (r_cons (x_asg (bh nm)) (k_next ?_)))
  refine r_cons (x_ast (d_lst (a_cons (d_tup (a_cons d_str (a_cons d_str (a_cons (d_loc g1) (a_cons (d_sbt (d_loc rfl) (d_loc g1)) a_nil))))) a_nil)) (d_loc rfl) (mkO_set (l:=[.lst [],.lst [],.lst [],.lst [_]]) rfl rfl)) (k_next ?_)
  rw [show (V.tup [.str t_x46_116_101_120_116,.str t_x97_46_99,.int base,.int (pl.behind - base)])=pl.p1 from by unfold Pl.p1; rw [bz]; rfl]
  exact pc
 ·show kr<H3.n+2+4
  lia
 ·show H3.n+1<H3.n+2+4
  lia
 ·show H1.n+2<H3.n+2+4
  lia
end
noncomputable def ln (P:List (List Rw)) (k:Nat):Nat:=(P.getD k []).length
noncomputable def offF (P:List (List Rw)):Nat→List Nat→Nat→Nat
 | n,[],_=>n
 | n,o::os,k=>if o=k then n else offF P (n+ln P o) os k
noncomputable def posF:List Nat→Nat→Nat
 | [],_=>0
 | o::os,k=>if o=k then 0 else posF os k+1
noncomputable def marksF (base:Int) (P:List (List Rw)):Nat→List Nat→List (Int × Str)
 | _,[]=>[]
 | n,o::os=>(base+4 * (n:Int),nameL.getD o t_x)::marksF base P (n+ln P o) os
noncomputable def rowsF (P:List (List Rw)) (os:List Nat):List Rw:=os.flatMap fun o=>P.getD o []
noncomputable def mkN (l:List (Int × Str)) (i:Nat):Int:=(l.getD i (0,t_x)).1
noncomputable def mkS (l:List (Int × Str)) (i:Nat):Str:=(l.getD i (0,t_x)).2
section
variable {base:Int} {P:List (List Rw)}
theorem lay_rows:∀ {os:List Nat} {s:LS},(os.foldl (lay1 base P) s).rows=s.rows++rowsF P os:=by
 intro os
 induction os with
 | nil=>intro s; simp [rowsF]
 | cons o os ih =>
  intro s
  rw [List.foldl_cons,ih]
  simp [lay1,rowsF]
theorem offF_cons {n o k:Nat} {os:List Nat}:offF P n (o::os) k=if o=k then n else offF P (n+ln P o) os k:=rfl
theorem posF_cons {o k:Nat} {os:List Nat}:posF (o::os) k=if o=k then 0 else posF os k+1:=rfl
theorem lay_marks:∀ {os:List Nat} {s:LS},(os.foldl (lay1 base P) s).marks=s.marks++marksF base P s.rows.length os:=by
 intro os
 induction os with
 | nil=>intro s; exact (List.append_nil _).symm
 | cons o os ih =>
  intro s
  rw [List.foldl_cons,ih]
  rw [show (lay1 base P s o).rows.length=s.rows.length+ln P o from List.length_append]
  exact List.append_assoc ..
theorem lay_num:∀ {os:List Nat} {s:LS} {k:Nat},os.Nodup→(k ∈ os→numGet (os.foldl (lay1 base P) s).N k=some (base+4 * (offF P s.rows.length os k:Int)))∧(k ∉ os→numGet (os.foldl (lay1 base P) s).N k=numGet s.N k):=by
 intro os
 induction os with
 | nil=>intro s k _; exact ⟨fun h=>(List.not_mem_nil h).elim,fun _=>rfl⟩
 | cons o os ih =>
  intro s k nd
  rw [List.nodup_cons] at nd
  rw [List.foldl_cons]
  have h:=ih (s:=lay1 base P s o) (k:=k) nd.2
  have e:(lay1 base P s o).N=numPut s.N o (base+4 * (s.rows.length:Int)):=rfl
  have e2:(lay1 base P s o).rows.length=s.rows.length+ln P o:=by simp [lay1,ln]
  refine ⟨fun hk=>?_,fun hk=>?_⟩
  ·rw [offF_cons]
   by_cases q:o=k
   ·subst q
    rw [h.2 nd.1,e,numGet_put,if_pos (beq_self_eq_true _),if_pos rfl]
   ·rw [if_neg q]
    rcases List.mem_cons.1 hk with z | z
    ·exact absurd z.symm q
    ·rw [h.1 z,e2]
  ·rw [List.mem_cons,not_or] at hk
   rw [h.2 hk.2,e,numGet_put,if_neg (show ¬ (((o:Nat):Int) == (k:Nat))=true from fun z=>hk.1 (Int.ofNat.inj (beq_iff_eq.1 z)).symm)]
theorem marksF_len:∀ {os:List Nat} {n:Nat},(marksF base P n os).length=os.length:=by
 intro os
 induction os with
 | nil=>intro n; rfl
 | cons o os ih=>intro n; exact congrArg Nat.succ ih
theorem posF_lt:∀ {os:List Nat} {k:Nat},k ∈ os→posF os k<os.length:=by
 intro os
 induction os with
 | nil=>intro k h; exact (List.not_mem_nil h).elim
 | cons o os ih =>
  intro k h
  rw [posF_cons]
  by_cases q:o=k
  ·rw [if_pos q]; exact Nat.succ_pos _
  ·rw [if_neg q]
   rcases List.mem_cons.1 h with z | z
   ·exact absurd z.symm q
   ·have:=ih z
    simp only [List.length_cons]
    lia
theorem posF_inj:∀ {os:List Nat} {k k':Nat},k ∈ os→k' ∈ os→posF os k=posF os k'→k=k':=by
 intro os
 induction os with
 | nil=>intro k k' h; exact (List.not_mem_nil h).elim
 | cons o os ih =>
  intro k k' h h' e
  rw [posF_cons,posF_cons] at e
  by_cases q:o=k
  ·rw [if_pos q] at e
   by_cases q':o=k'
   ·exact q.symm.trans q'
   ·rw [if_neg q'] at e
    lia
  ·rw [if_neg q] at e
   by_cases q':o=k'
   ·rw [if_pos q'] at e
    lia
   ·rw [if_neg q'] at e
    rcases List.mem_cons.1 h with z | z
    ·exact absurd z.symm q
    ·rcases List.mem_cons.1 h' with z' | z'
     ·exact absurd z'.symm q'
     ·exact ih z z' (by lia)
theorem marksF_at:∀ {os:List Nat} {n k:Nat},k ∈ os→mkN (marksF base P n os) (posF os k)=base+4 * (offF P n os k:Int)∧mkS (marksF base P n os) (posF os k)=nameL.getD k t_x:=by
 intro os
 induction os with
 | nil=>intro n k h; exact (List.not_mem_nil h).elim
 | cons o os ih =>
  intro n k h
  rw [posF_cons,offF_cons]
  by_cases q:o=k
  ·subst q
   rw [if_pos rfl,if_pos rfl]
   exact ⟨rfl,rfl⟩
  ·rw [if_neg q,if_neg q]
   rcases List.mem_cons.1 h with z | z
   ·exact absurd z.symm q
   ·exact ih z
theorem off_row {k j:Nat}:∀ {os:List Nat} {pre:List Rw},k ∈ os→j<ln P k→(pre++rowsF P os)[offF P pre.length os k+j]?=(P.getD k [])[j]?:=by
 intro os
 induction os with
 | nil=>intro pre h; exact (List.not_mem_nil h).elim
 | cons o os ih =>
  intro pre h hj
  rw [offF_cons]
  have e:rowsF P (o::os)=P.getD o []++rowsF P os:=by simp [rowsF]
  rw [e]
  by_cases q:o=k
  ·subst q
   rw [if_pos rfl,List.getElem?_append_right (by lia),Nat.add_sub_cancel_left,List.getElem?_append_left hj]
  ·rw [if_neg q,← List.append_assoc]
   rcases List.mem_cons.1 h with z | z
   ·exact absurd z.symm q
   ·have:=ih (pre:=pre++P.getD o []) z hj
    rw [List.length_append] at this
    exact this
theorem off_tot:∀ {os:List Nat} {n k:Nat},k ∈ os→n≤offF P n os k∧offF P n os k+ln P k≤n+(rowsF P os).length:=by
 intro os
 induction os with
 | nil=>intro n k h; exact (List.not_mem_nil h).elim
 | cons o os ih =>
  intro n k h
  rw [offF_cons]
  have e:(rowsF P (o::os)).length=ln P o+(rowsF P os).length:=by simp [rowsF,ln]
  rw [e]
  by_cases q:o=k
  ·subst q
   rw [if_pos rfl]
   lia
  ·rw [if_neg q]
   rcases List.mem_cons.1 h with z | z
   ·exact absurd z.symm q
   ·have:=ih (n:=n+ln P o) z
    lia
theorem mark_lo:∀ {os:List Nat} {n i:Nat},i<os.length→base+4 * (n:Int)≤mkN (marksF base P n os) i:=by
 intro os
 induction os with
 | nil=>intro n i h; simp at h
 | cons o os ih =>
  intro n i h
  induction i using Nat.casesOn with
  | zero=>exact Int.le_refl _
  | succ i =>
   have:=ih (n:=n+ln P o) (i:=i) (by simpa using h)
   show _≤mkN (marksF base P (n+ln P o) os) i
   lia
theorem mark_sep:∀ {os:List Nat} {n k i:Nat},k ∈ os→posF os k<i→i<os.length→base+4 * ((offF P n os k:Int)+(ln P k:Int))≤mkN (marksF base P n os) i:=by
 intro os
 induction os with
 | nil=>intro n k i h; exact (List.not_mem_nil h).elim
 | cons o os ih =>
  intro n k i h h1 h2
  rw [posF_cons] at h1
  rw [offF_cons]
  induction i using Nat.casesOn with
  | zero=>lia
  | succ i =>
   show _≤mkN (marksF base P (n+ln P o) os) i
   simp only [List.length_cons] at h2
   by_cases q:o=k
   ·subst q
    rw [if_pos rfl]
    have:=mark_lo (base:=base) (P:=P) (n:=n+ln P o) (i:=i) (os:=os) (by lia)
    lia
   ·rw [if_neg q] at h1 ⊢
    rcases List.mem_cons.1 h with z | z
    ·exact absurd z.symm q
    ·exact ih z (by lia) (by lia)
theorem mark_sd:∀ {os:List Nat} {n i j:Nat},(∀ o ∈ os,0<ln P o)→i<j→j<os.length→mkN (marksF base P n os) i<mkN (marksF base P n os) j:=by
 intro os
 induction os with
 | nil=>intro n i j _ _ h; simp at h
 | cons o os ih =>
  intro n i j hp h1 h2
  simp only [List.length_cons] at h2
  induction j using Nat.casesOn with
  | zero=>lia
  | succ j =>
   show _<mkN (marksF base P (n+ln P o) os) j
   induction i using Nat.casesOn with
   | zero =>
    show base+4 * (n:Int)<_
    have:=mark_lo (base:=base) (P:=P) (n:=n+ln P o) (i:=j) (os:=os) (by lia)
    have:=hp o (List.mem_cons_self ..)
    lia
   | succ i=>exact ih (fun x hx=>hp x (List.mem_cons_of_mem _ hx)) (by lia) (by lia)
theorem rowsF_len {c:Nat}:∀ {os:List Nat},(∀ o ∈ os,ln P o≤c)→(rowsF P os).length≤c * os.length:=by
 intro os
 induction os with
 | nil=>intro _; simp [rowsF]
 | cons o os ih =>
  intro h
  have e:(rowsF P (o::os)).length=ln P o+(rowsF P os).length:=by simp [rowsF,ln]
  have:=ih fun x hx=>h x (List.mem_cons_of_mem _ hx)
  have:=h o (List.mem_cons_self ..)
  rw [e,List.length_cons,Nat.mul_add]
  lia
end
theorem ordL_mem {t:Bool} {m k:Nat}:k ∈ ordL t m ↔ k≤m:=by
 unfold ordL
 have h:k ∈ (List.range m).map (·+1) ↔ 1≤k∧k≤m:=by
  rw [List.mem_map]
  constructor
  ·rintro ⟨i,hi,rfl⟩
   have:=List.mem_range.1 hi
   lia
  ·intro hk
   exact ⟨k - 1,List.mem_range.2 (by lia),by lia⟩
 cases t
 ·rw [if_neg (by decide),List.mem_cons,h]; lia
 ·rw [if_pos rfl,List.mem_cons,List.mem_reverse,h]; lia
theorem ordL_nodup {t:Bool} {m:Nat}:(ordL t m).Nodup:=by
 unfold ordL
 have h:((List.range m).map (·+1)).Nodup:=by
  rw [List.Nodup,List.pairwise_map]
  exact List.Pairwise.imp (fun h=>by lia) (List.nodup_range (n:=m))
 have h0:0 ∉ (List.range m).map (·+1):=by simp
 cases t
 ·rw [if_neg (by decide),List.nodup_cons]; exact ⟨h0,h⟩
 ·rw [if_pos rfl,List.nodup_cons]
  refine ⟨by simp,?_⟩
  rw [List.Nodup,List.pairwise_reverse]
  exact List.Pairwise.imp (fun h=>Ne.symm h) h
structure PtOk (m:Nat) (P:List (List Rw)) (es:Nat→RE):Prop where
 len:P.length=m+1
 m1:1≤m∧m≤4
 p0:P0Ok (P.getD 0 [])
 e0:es 0=.z
 pk:∀ k,1≤k→k≤m→POk k (k == m) (es k) (P.getD k [])
 fn:∀ k,k≤m→∀ r ∈ P.getD k [],r.fine=true∧r.tg m=true
noncomputable def lyP (base:Int) (P:List (List Rw)) (es:Nat→RE) (t:Bool) (m cut:Nat):Lay :=
 { base:=base,many:=m,parts:=fun k=>P.getD k [],es:=es,off:=offF P 0 (ordL t m),ord:=posF (ordL t m),pl:=⟨base,base+4 * ((finS base P t m).rows.length:Int),(finS base P t m).marks,cut⟩,total:=(rowsF P (ordL t m)).length }
section
variable {base:Int} {P:List (List Rw)} {es:Nat→RE} {t:Bool} {m cut:Nat}
theorem fin_rows:(finS base P t m).rows=rowsF P (ordL t m):=by unfold finS; rw [lay_rows]; rfl
theorem fin_marks:(finS base P t m).marks=marksF base P 0 (ordL t m):=by unfold finS; rw [lay_marks]; rfl
theorem PtOk.ln (T:PtOk m P es) {k:Nat} (h:k≤m):0<Mine.Q.ln P k∧Mine.Q.ln P k≤22:=by
 by_cases q:k=0
 ·subst q
  have:=T.p0.len
  unfold Mine.Q.ln
  lia
 ·exact (T.pk k (by lia) h).len
theorem PtOk.tot (T:PtOk m P es):(rowsF P (ordL t m)).length≤94:=by
 have h0:=T.p0.len
 have m1:=T.m1
 obtain ⟨xs,hx,hl⟩:∃ xs,ordL t m=0::xs∧xs.length=m:=⟨_,rfl,by cases t <;> simp⟩
 have e:(rowsF P (ordL t m)).length=Mine.Q.ln P 0+(rowsF P xs).length:=by rw [hx]; simp [rowsF,Mine.Q.ln]
 have:=rowsF_len (P:=P) (c:=22) (os:=xs) fun o ho=>(T.ln (ordL_mem (t:=t).1 (by rw [hx]; exact List.mem_cons_of_mem _ ho))).2
 have h1:Mine.Q.ln P 0≤6:=h0.2
 rw [e]
 rw [hl] at this
 lia
theorem lay_ok (T:PtOk m P es) (hb:base=0∨base=4096∨base=8192) (hc:cut≤m):LayOk (lyP base P es t m cut):=by
 have mem {k:Nat} (h:k≤m):k ∈ ordL t m:=ordL_mem.2 h
 have el:(lyP base P es t m cut).pl.marks=marksF base P 0 (ordL t m):=fin_marks
 have en:(lyP base P es t m cut).pl.marks.length=m+1:=by rw [el,marksF_len,ordL_len]
 have em (i:Nat):(lyP base P es t m cut).pl.mk1 i=mkN (marksF base P 0 (ordL t m)) i:=by
  unfold Pl.mk1
  rw [el]
  rfl
 have ef:(lyP base P es t m cut).pl.fin=base+4 * ((rowsF P (ordL t m)).length:Int):=by
  show base+4 * ((finS base P t m).rows.length:Int)=_
  rw [fin_rows]
 have es' (k:Nat):(lyP base P es t m cut).st k=base+4 * (offF P 0 (ordL t m) k:Int):=rfl
 have pos:∀ o ∈ ordL t m,0<Mine.Q.ln P o:=fun o ho=>(T.ln (ordL_mem.1 ho)).1
 have tot:=T.tot (t:=t)
 refine ⟨hb,T.m1,T.p0,T.e0,T.pk,fun k hk=>?_,?_,fun k hk j hj=>?_,fun k hk=>?_,fun k k' hk hk' e=>posF_inj (mem hk) (mem hk') e,fun k hk j g hg=>?_,⟨?_,?_,fun j hj=>?_,fun i j hi hj=>?_⟩,fun i j hi hj=>?_⟩
 ·have:=(off_tot (P:=P) (n:=0) (mem hk)).2
  show offF P 0 (ordL t m) k+Mine.Q.ln P k≤(rowsF P (ordL t m)).length
  lia
 ·show (rowsF P (ordL t m)).length≤100
  lia
 ·have hj:j<Mine.Q.ln P k:=hj
  have o:=off_tot (P:=P) (n:=0) (mem hk)
  refine ⟨?_,?_,fun i h1 h2=>?_,?_⟩
  ·rw [en]
   have:=posF_lt (mem hk)
   rw [ordL_len] at this
   exact this
  ·rw [em,es']
   have:=(marksF_at (base:=base) (P:=P) (n:=0) (mem hk)).1
   show mkN _ (posF (ordL t m) k)≤_
   lia
  ·rw [em,es']
   rw [en] at h2
   have:=mark_sep (base:=base) (P:=P) (n:=0) (mem hk) h1 (by rw [ordL_len]; exact h2)
   lia
  ·rw [ef,es']
   lia
 ·rw [em,es']
  exact (marksF_at (mem hk)).1
 ·have h:=(T.fn k hk _ (List.mem_of_getElem? hg)).2
  exact of_decide_eq_true h
 ·rw [en]
  have:=T.m1
  lia
 ·rw [en]
  show cut<m+1
  lia
 ·rw [em]
  rw [en] at hj
  have:=mark_lo (base:=base) (P:=P) (n:=0) (i:=j) (os:=ordL t m) (by rw [ordL_len]; exact hj)
  show base≤_
  lia
 ·rw [em,em]
  rw [en] at hj
  exact mark_sd pos hi (by rw [ordL_len]; exact hj)
 ·rw [em,em]
  rw [en] at hj
  exact mark_sd pos hi (by rw [ordL_len]; exact hj)
theorem lay_nm {k:Nat} (h:k≤m):(lyP base P es t m cut).pl.mk2 (posF (ordL t m) k)=nameL.getD k t_x:=by
 have:=(marksF_at (base:=base) (P:=P) (n:=0) (os:=ordL t m) (ordL_mem.2 h)).2
 rw [← this]
 show mkS (finS base P t m).marks _=_
 rw [fin_marks]
theorem rows_g (T:PtOk m P es) (hb:base=0∨base=4096∨base=8192) {i:Nat} {r:Rw} (h:(finS base P t m).rows[i]?=some r):RowG (numD (finS base P t m).N) base (lyP base P es t m cut).st i r:=by
 rw [fin_rows] at h
 have tot:=T.tot (t:=t)
 have hi:=(List.getElem?_eq_some_iff.1 h).1
 have hm:=List.mem_of_getElem? h
 obtain ⟨k,hk,hr⟩:=List.mem_flatMap.1 hm
 obtain ⟨f1,f3⟩:=T.fn k (ordL_mem.1 hk) r hr
 have es' (k:Nat):(lyP base P es t m cut).st k=base+4 * (offF P 0 (ordL t m) k:Int):=rfl
 have go (g:Nat) (hg:g≤m):offF P 0 (ordL t m) g<100:=by
  have:=off_tot (P:=P) (n:=0) (ordL_mem (t:=t).2 hg)
  lia
 have gn (g:Nat) (hg:g≤m):dget (numD (finS base P t m).N) (.int g)=some (.int ((lyP base P es t m cut).st g)):=by
  rw [numD_get]
  unfold finS
  rw [(lay_num (ordL_nodup)).1 (ordL_mem.2 hg)]
  rfl
 have wj:∀ g,r=.jal g→g≤m:=by
  rintro g rfl
  exact of_decide_eq_true f3
 have wn:∀ g,r=.near g→g≤m:=by
  rintro g rfl
  exact of_decide_eq_true f3
 refine ⟨f1,word_isW f1 hb (fun g e=>?_) (fun g e=>?_),fun g e=>gn g (wj g e),fun g e=>⟨gn g (wn g e),?_⟩⟩
 ·have:=go g (wj g e)
  rw [es']
  lia
 ·have:=go g (wn g e)
  rw [es']
  lia
 ·have:=go g (wn g e)
  rw [es']
  lia
theorem octF_app {st:Nat→Int}:∀ {xs ys:List Rw} {i:Nat},octF base st i (xs++ys)=octF base st i xs++octF base st (i+xs.length) ys:=by
 intro xs
 induction xs with
 | nil=>intro ys i; rfl
 | cons x xs ih =>
  intro ys i
  show _++octF base st (i+1) (xs++ys)=(_++octF base st (i+1) xs)++octF base st (i+(xs.length+1)) ys
  rw [ih,List.append_assoc,show i+1+xs.length=i+(xs.length+1) by lia]
theorem rd_oct {st:Nat→Int} {rows:List Rw} {z:List UInt8} {i:Nat} {r:Rw} (h:rows[i]?=some r) (hw:0≤r.word (base+4 * (i:Int)) base st∧r.word (base+4 * (i:Int)) base st<4294967296):rd (octF base st 0 rows++z) (4 * i)=r.word (base+4 * (i:Int)) base st:=by
 have hi:=(List.getElem?_eq_some_iff.1 h).1
 have e:rows=rows.take i++(r::rows.drop (i+1)):=by
  have:rows.drop i=r::rows.drop (i+1):=by
   rw [List.drop_eq_getElem_cons hi]
   congr 1
   exact (List.getElem?_eq_some_iff.1 h).2
  rw [← this,List.take_append_drop]
 have lt:(rows.take i).length=i:=by simp; lia
 have e2:octF base st 0 rows=octF base st 0 (rows.take i)++(leBytes 4 (r.word (base+4 * (i:Int)) base st).toNat++octF base st (i+1) (rows.drop (i+1))):=by
  rw [e,octF_app,List.take_left' lt,lt,Nat.zero_add]
  have:(rows.take i++r::rows.drop (i+1)).drop (i+1)=rows.drop (i+1):=by rw [← e]
  rw [this]
  rfl
 rw [e2]
 have:=rd_le (x:=octF base st 0 (rows.take i)) (w:=r.word (base+4 * (i:Int)) base st) (y:=octF base st (i+1) (rows.drop (i+1))++z) hw.1 hw.2
 rw [octF_len,lt] at this
 rw [← List.append_assoc] at this
 rw [← List.append_assoc]
 exact this
theorem code0 (T:PtOk m P es) (hb:base=0∨base=4096∨base=8192):CodeOk (lyP base P es t m cut) (mem0 (octF base (lyP base P es t m cut).st 0 (finS base P t m).rows)):=by
 intro k hk j r hr
 have hk:k≤m:=hk
 have hr:(P.getD k [])[j]?=some r:=hr
 have hj:j<ln P k:=(List.getElem?_eq_some_iff.1 hr).1
 have row:=off_row (P:=P) (pre:=[]) (os:=ordL t m) (k:=k) (j:=j) (ordL_mem.2 hk) hj
 rw [List.nil_append,hr,List.length_nil,← fin_rows (base:=base)] at row
 have g:=rows_g (cut:=cut) T hb row
 have e:(lyP base P es t m cut).st k+4 * (j:Int)=base+4 * ((offF P 0 (ordL t m) k+j:Nat):Int):=by
  show base+4 * (offF P 0 (ordL t m) k:Int)+4 * (j:Int)=_
  lia
 rw [e]
 unfold mem0
 rw [List.take_zero,List.nil_append]
 show (r.ins _ base _).Ok (rd _ (4 * (offF P 0 (ordL t m) k+j)))
 rw [rd_oct row ⟨g.w.2.1,g.w.2.2⟩]
 exact g.w.1
theorem inv0 (T:PtOk m P es) (hb:base=0∨base=4096∨base=8192):Inv (lyP base P es t m cut) 0 0 (base+1536) [] (regs0 base) (mem0 (octF base (lyP base P es t m cut).st 0 (finS base P t m).rows)):=by
 have r2:rg (regs0 base) 2=base+1536:=rfl
 have ro:∀ x,x<32→x ≠ 2→rg (regs0 base) x=0:=by
  intro x h1 h2
  unfold rg regs0
  rw [List.getD_eq_getElem?_getD,List.getElem?_set_ne (Ne.symm h2),List.getElem?_replicate,if_pos h1]
  rfl
 have tot:=T.tot (t:=t)
 have m1:=T.m1
 refine ⟨Nat.zero_le _,T.p0.len.1,⟨rfl,rfl⟩,?_,fun h=>absurd rfl h,fun h=>absurd rfl h,fun v h=>?_,fun h=>?_,fun g h=>?_,?_,fun h=>?_,fun h=>?_,fun _=>.inl (ro 1 (by decide) (by decide)),fun h=>?_,ro 0 (by decide) (by decide),code0 T hb,?_,?_⟩
 ·rw [r2,annAt_zero]
  show _=base+1536 - (0:Int)
  lia
 ·rw [annAt_zero] at h; cases h
 ·rw [annAt_zero] at h; cases h
 ·rw [annAt_zero] at h; cases h
 ·rw [ro 10 (by decide) (by decide)]
  decide
 ·rw [annAt_zero] at h; cases h
 ·have h:0=m:=h
  lia
 ·rw [annAt_zero] at h; cases h
 ·simp [regs0]
 ·unfold mem0
  rw [fin_rows]
  simp only [List.length_append,List.length_drop,List.length_take,List.length_replicate,octF_len]
  lia
end
noncomputable def startR (r:Int) (c:List Rw):List Rw:=(if r > 0 then [Rw.addi 10 0 r] else [])++c++[.addi 17 0 93,.ecall]
noncomputable def startOk (r:Int) (c:List Rw):Bool:=walk0 .z (startR r c) && decide (entR 0 .z 0 (startR r c)=some .z) && (startR r c).all (Rw.ft 1) && decide ((startR r c).length≤6)
theorem start_all:∀ r ∈ [(0:Int),1,2],∀ c ∈ calls 1,startOk r c=true:=by decide +kernel
theorem start_ok {r:Int} {c:List Rw} (hr:0≤r∧r<3) (hc:c ∈ calls 1):P0Ok (startR r c):=by
 have hr:r ∈ [(0:Int),1,2]:=by simp; lia
 have h:=start_all r hr c hc
 simp only [startOk,Bool.and_eq_true,decide_eq_true_eq] at h
 obtain ⟨⟨⟨h1,h2⟩,h3⟩,h4⟩:=h
 refine ⟨h1,⟨(if r > 0 then [Rw.addi 10 0 r] else [])++c++[.addi 17 0 93],by simp [startR]⟩,h2,h3,?_,h4⟩
 simp [startR]
 lia
theorem tg_mono {j m:Nat} (h:j≤m):∀ {x:Rw},x.tg j=true→x.tg m=true
 | .jal _,q=>decide_eq_true (Nat.le_trans (of_decide_eq_true q) h)
 | .near _,q=>decide_eq_true (Nat.le_trans (of_decide_eq_true q) h)
 | .addi ..,_ | .add,_ | .sub,_ | .lui,_ | .sw ..,_ | .lw ..,_ | .high,_ | .jalrc _,_ | .ret,_ | .beq,_ | .ecall,_=>rfl
theorem ft_mono {j m:Nat} (h:j≤m) {x:Rw} (q:x.ft j=true):x.fine=true∧x.tg m=true:=⟨(Bool.and_eq_true_iff.1 q).1,tg_mono h (Bool.and_eq_true_iff.1 q).2⟩
structure DrawnOk (m:Nat) (P:List (List Rw)):Prop where
 len:P.length=m+1
 m1:1≤m∧m≤4
 p0:∃ r c,0≤r∧r<3∧c ∈ calls 1∧P.getD 0 []=startR r c
 pk:∀ k,1≤k→k<m→P.getD k [] ∈ funsN (k+1)
 pm:P.getD m [] ∈ funsL m
theorem pts_ok {m:Nat} {P:List (List Rw)} (D:DrawnOk m P):∃ es,PtOk m P es:=by
 obtain ⟨r,c,r0,r3,hc,e⟩:=D.p0
 have s1:=start_ok ⟨r0,r3⟩ hc
 rw [← e] at s1
 have m1:=D.m1
 have ex:∀ k,1≤k∧k≤m→∃ e,POk k (k == m) e (P.getD k []):=by
  intro k hk
  by_cases q:k=m
  ·subst q
   rw [beq_self_eq_true]
   exact funsL_ok (by simp; lia) D.pm
  ·rw [show (k == m)=false by simpa using q]
   exact funsN_ok (by simp; lia) (D.pk k hk.1 (by lia))
 refine ⟨fun k=>if h:1≤k∧k≤m then (ex k h).choose else .z,D.len,m1,s1,by simp,fun k h1 h2=>?_,fun k hk x hx=>?_⟩
 ·rw [dif_pos ⟨h1,h2⟩]
  exact (ex k ⟨h1,h2⟩).choose_spec
 ·by_cases q0:k=0
  ·subst q0
   exact ft_mono m1.1 (List.all_eq_true.1 s1.t x hx)
  ·obtain ⟨e,pe⟩:=ex k ⟨by lia,hk⟩
   refine ft_mono ?_ (List.all_eq_true.1 pe.t x hx)
   by_cases q:k=m
   ·rw [q,beq_self_eq_true]
    exact Nat.le_refl _
   ·rw [beq_eq_false_iff_ne.2 q]
    show k+1≤m
    lia
structure PA (H:MH) (kw kn kp:Nat) (kps:List Nat) (P:List (List Rw)):Prop where
 h:H.o kp=some (.lst (kps.map .obj))
 l:kp<H.n
 n1:kp ≠ kw
 n2:kp ≠ kn
 len:kps.length=P.length
 ps:∀ i,i<P.length→Lr kw kn H (kps.getD i 0) (P.getD i [])∧kps.getD i 0 ≠ kp
section
variable {c:Cx} {d:Nat} {H H1:MH} {kw kn B:Nat} {L:LL}
theorem comp_map {α:Type} {l:List α} {f g:α→V} {e:E} {kv k:Nat} (hne:k ≠ kv) (hl:l.length≤90000) (hg:∀ x ∈ l,∀ {L H},Ev c d e (LL.put L 0 (f x)) H (g x) H) :
  ∀ {r:List α} {acc:List V} {i:Nat} {L:LL} {H:MH},H.o kv=some (.lst (l.map f))→l.drop i=r→acc.length+r.length≤90000→H.o k=some (.lst acc)→Co c d e [0] false (.obj kv) k (r.length+1) i L H (H.put k (.lst (acc++r.map g))):=by
 intro r
 induction r with
 | nil =>
  intro acc i L H hv hd h2 ho
  have nx:=nextL (i:=i) hv (map_le (Nat.le_trans hl (by decide)))
  rw [List.getElem?_map,← Nat.add_zero i,← List.getElem?_drop,hd] at nx
  rw [show acc++List.map g []=acc from List.append_nil acc,put_self ho]
  exact co_end nx
 | cons x r ih =>
  intro acc i L H hv hd h2 ho
  rw [List.length_cons] at h2
  have nx:=nextL (i:=i) hv (map_le (Nat.le_trans hl (by decide)))
  have hd2:l.drop (i+1)=r:=by rw [← List.drop_drop,hd]; rfl
  have hm:x ∈ l:=List.mem_of_mem_drop (i:=i) (by rw [hd]; exact .head _)
  rw [List.getElem?_map,← Nat.add_zero i,← List.getElem?_drop,hd] at nx
  have q:=ih (acc:=acc++[g x]) (i:=i+1) (L:=L.put 0 (f x)) (H:=H.put k (.lst (acc++[g x]))) ((put_ne hne.symm).trans hv) hd2 (by rw [List.length_append,List.length_singleton]; lia) (put_at _ _ _)
  rw [put_put,List.append_assoc] at q
  exact co_nx nx (L1:=L.put 0 (f x)) rfl (hg x hm) ho (by lia) q
theorem comp_of {α:Type} {l:List α} {f g:α→V} {e t:E} {kv:Nat} {n:Str} (ev:Ev c d t L H (.obj kv) H1) (hv:H1.o kv=some (.lst (l.map f))) (hk:kv<H1.n) (hl:l.length≤90000) (hg:∀ x ∈ l,∀ {L H},Ev c d e (LL.put L 0 (f x)) H (g x) H) :
  Ev c d (.comp false e [n] t) L H (.obj H1.n) (H1.new (.lst (l.map g))):=by
 have q:=comp_map (c:=c) (d:=d) (i:=0) (r:=l) (acc:=[]) (L:=noL) (H:=H1.new (.lst [])) (Nat.ne_of_gt hk) hl hg ((new_lt hk).trans hv) rfl (by rw [List.length_nil]; lia) (new_at _ _)
 rw [new_put] at q
 exact d_comp ev rfl (nextL (i:=0) hv (map_le (Nat.le_trans hl (by decide)))) rfl q
theorem truth_l {k:Nat} {l:List V} (h:H.o k=some (.lst l)) (hl:l.length≤100000):truth H (.obj k)=some (!l.isEmpty):=by
 unfold truth
 dsimp only
 rw [h]
 exact if_pos hl
noncomputable def lw1:S:=.asg 1 (.lst [.bop .Or [.comp false (.bin .Mod (.loc 0) (.int 2147483647)) [t_number] (.slc (.loc 0) (.abs) (.int 60) (.abs)),.lst [.int 3]],.int 0])
theorem s_well (hl:c.ns.length≤63) (l0:L 0=some (.sta c.a)) {Gl:Prop} (kG:∀ kw kn H',(Ex c d lw1 L ⟨0,fun _=>none⟩ .next (L.put 1 (.obj kw)) H')→(Wk H' kw kn 2000)→Gl):Gl:=by
 have sl:=slc_upto (c:=c) (H:=⟨0,fun _=>none⟩) (t:=c.a) (m:=60) (if_pos rfl) (show (c.ns.map V.int).length≤100000 by rw [List.length_map]; lia)
 rw [← List.map_take] at sl
 have nl:(c.ns.take 60).length≤90000:=by rw [List.length_take]; lia
 have ev:=comp_of (c:=c) (d:=d) (n:=t_number) (L:=L) (l:=c.ns.take 60) (g:=fun i=>V.int (i.fmod 2147483647)) (e:=.bin .Mod (.loc 0) (.int 2147483647)) (d_slc (d_loc l0) o_abs (o_of (fun _=>rfl) d_int) o_abs sl) (new_at _ _) (Nat.lt_succ_self _) nl fun x _ {L H}=>d_bin (d_loc rfl) d_int (b_mod (by decide))
 have fm:∀ x ∈ (c.ns.take 60).map fun i=>i.fmod 2147483647,0≤x∧x<2147483648:=fun x hx=>by
  obtain ⟨i,_,rfl⟩:=List.mem_map.1 hx
  rw [fmod_pos (by decide)]
  lia
 rw [show ((c.ns.take 60).map fun i=>V.int (i.fmod 2147483647))=((c.ns.take 60).map fun i=>i.fmod 2147483647).map V.int from (List.map_map ..).symm] at ev
 have ml:((c.ns.take 60).map fun i=>i.fmod 2147483647).length≤60:=map_le (by rw [List.length_take]; lia)
 generalize ((c.ns.take 60).map fun i=>i.fmod 2147483647)=N at *
 have tr:=truth_l (H:=((⟨0,fun _=>none⟩:MH).new (.lst ((c.ns.take 60).map V.int))).new (.lst (N.map V.int))) (k:=1) (new_at _ _) (by rw [List.length_map]; lia)
 induction N using List.casesOn with
 | nil=>exact kG _ 2 _ (x_asg (d_lst (a_cons (d_bop (b_go ev tr rfl (b_one (d_lst (a_cons d_int a_nil))))) (a_cons d_int a_nil)))) ⟨⟨[3],0,new_at _ _,(new_lt (show 2<3 by decide)).trans (new_at _ _),by decide,by decide,by decide,by decide⟩,show 3 ≠ 2 by decide,Nat.lt_succ_self _,show 2<4 by decide⟩
 | cons x N=>exact kG _ 1 _ (x_asg (d_lst (a_cons (d_bop (b_stop ev tr rfl)) (a_cons d_int a_nil)))) ⟨⟨x::N,0,new_at _ _,(new_lt (show 1<2 by decide)).trans (new_at _ _),Nat.succ_pos _,Nat.zero_le _,by lia,fm⟩,show 2 ≠ 1 by decide,Nat.lt_succ_self _,show 1<3 by decide⟩
theorem dr_ev (W:Wk H kw kn (B+1)) (l1:L 1=some (.obj kw)) {e:E} {size:Int} (hs:0<size) (he:Ev c 11 e L H (.int size) H) {Gl:Prop} (kG:∀ (x:Int) (H':MH),(Ev c 11 (.call (.glo t__law_draw) [.loc 1,e]) L H (.int x) H')→(0≤x)→(x<size)→(Wk H' kw kn B)→(Kw kw kn H H')→Gl):Gl:=by
 refine draw_of (c:=c) W hs fun x H1 dr h0 h1 W1 k1 _=>?_
 exact kG x H1 (d_cal (d_glo (by rfl)) (a_cons (d_loc l1) (a_cons he a_nil)) (ck_fn rfl (dr.up 10))) h0 h1 W1 k1
theorem s_many (W:Wk H kw kn (B+1)) (l1:L 1=some (.obj kw)) {Gl:Prop} (kG:∀ (m:Nat) (H':MH),(Ex c 11 (.asg 2 (.bin .Add (.int 1) (.call (.glo t__law_draw) [.loc 1,.int 4]))) L H .next (L.put 2 (.int m)) H')→(1≤m)→(m≤4)→(Wk H' kw kn B)→Gl):Gl:=by
 refine dr_ev (c:=c) (size:=4) W l1 (by decide) d_int fun x H1 dr h0 h1 W1 _=>?_
 refine kG ((1+x).toNat) H1 ?_ (by lia) (by lia) W1
 rw [Int.toNat_of_nonneg (by lia)]
 exact x_asg (d_add d_int dr)
noncomputable def lw3:S:=.swp [3,4,5] [.call (.glo t__law_draw) [.loc 1,.int 3],.bin .Add (.int 1) (.call (.glo t__law_draw) [.loc 1,.int 7]),.call (.glo t__law_draw) [.loc 1,.int 40]]
theorem s_nums (W:Wk H kw kn (B+3)) (l1:L 1=some (.obj kw)) {Gl:Prop} (kG:∀ (r s p:Int) (H':MH),(Ex c 11 lw3 L H .next (((L.put 3 (.int r)).put 4 (.int s)).put 5 (.int p)) H')→(0≤r)→(r<3)→(1≤s)→(Wk H' kw kn B)→Gl):Gl:=by
 refine dr_ev (c:=c) (B:=B+2) (size:=3) W l1 (by decide) d_int fun x H1 dr1 x0 x1 W1 _=>?_
 refine dr_ev (c:=c) (B:=B+1) (size:=7) W1 l1 (by decide) d_int fun y H2 dr2 y0 y1 W2 _=>?_
 refine dr_ev (c:=c) (size:=40) W2 l1 (by decide) d_int fun z H3 dr3 z0 z1 W3 _=>?_
 exact kG x (1+y) z H3 (x_swp (a_cons dr1 (a_cons (d_add d_int dr2) (a_cons dr3 a_nil))) rfl) x0 x1 (by lia) W3
noncomputable def lw4:S:=.swp [6,7,8] [.sub (.lst [.int 4096,.int 0,.int 8192]) (.call (.glo t__law_draw) [.loc 1,.int 3]),.cmp .Eq (.call (.glo t__law_draw) [.loc 1,.int 2]) (.int 1),.call (.glo t__law_draw) [.loc 1,.bin .Add (.loc 2) (.int 1)]]
theorem s_base (W:Wk H kw kn (B+3)) {m:Nat} (l1:L 1=some (.obj kw)) (l2:L 2=some (.int m)) {Gl:Prop} (kG:∀ (b:Int) (t:Bool) (cut:Nat) (H':MH),(Ex c 11 lw4 L H .next (((L.put 6 (.int b)).put 7 (.bool t)).put 8 (.int cut)) H')→(b=0∨b=4096∨b=8192)→(cut≤m)→(Wk H' kw kn B)→Gl):Gl:=by
 refine dr_ev (c:=c) (B:=B+2) (size:=3) (W.keep (Kp.new (x:=.lst [.int 4096,.int 0,.int 8192]))) l1 (by decide) d_int fun x H1 dr1 x0 x1 W1 k1=>?_
 refine dr_ev (c:=c) (B:=B+1) (size:=2) W1 l1 (by decide) d_int fun y H2 dr2 y0 y1 W2 _=>?_
 refine dr_ev (c:=c) (size:=(m:Int)+1) W2 l1 (by lia) (d_add (d_loc l2) d_int) fun z H3 dr3 z0 z1 W3 _=>?_
 have o1:=(k1.2 H.n (Nat.lt_succ_self _) (Nat.ne_of_gt W.l1) (Nat.ne_of_gt W.l2)).trans (new_at _ _)
 have go {b:Int} (h:idx [.int 4096,.int 0,.int 8192] x=some (.int b)) (hb:b=0∨b=4096∨b=8192):Gl:=by
  refine kG b (y == 1) z.toNat H3 ?_ hb (by lia) W3
  rw [Int.toNat_of_nonneg z0]
  exact x_swp (a_cons (d_sub (d_lst (a_cons d_int (a_cons d_int (a_cons d_int a_nil)))) dr1 (sub_l o1 h)) (a_cons (d_cmp dr2 d_int (q_ieq rfl)) (a_cons dr3 a_nil))) rfl
 rcases (by lia:x=0∨x=1∨x=2) with rfl | rfl | rfl
 ·exact go (b:=4096) rfl (by decide)
 ·exact go (b:=0) rfl (by decide)
 ·exact go (b:=8192) rfl (by decide)
theorem s_ahead (W:Wk H kw kn B) {r:Int} (l3:L 3=some (.int r)) {Gl:Prop} (kG:∀ (ka:Nat) (H':MH),(Ex c d (.asg 9 (.ife (.cmp .Gt (.loc 3) (.int 0)) (.lst [.tup [.str t_addi,.int 10,.int 0,.loc 3]]) (.lst []))) L H .next (L.put 9 (.obj ka)) H')→(Lr kw kn H' ka (if r > 0 then [Rw.addi 10 0 r] else []))→(Wk H' kw kn B)→Gl):Gl:=by
 by_cases q:r > 0
 ·rw [if_pos q] at kG
  exact kG H.n _ (x_asg (d_ife (t_cmp (d_loc l3) d_int (q_gt q)) (e_tt (d_lst (a_cons (d_tup (a_cons d_str (a_cons d_int (a_cons d_int (a_cons (d_loc l3) a_nil))))) a_nil))))) (Lr.of (rows:=[Rw.addi 10 0 r]) W) (W.keep .new)
 ·rw [if_neg q] at kG
  exact kG H.n _ (x_asg (d_ife (t_cmp (d_loc l3) d_int (q_gtf q)) (e_ff (d_lst a_nil)))) (Lr.of (rows:=[]) W) (W.keep .new)
noncomputable def lw6:S:=.asg 10 (.lst [.bin .Add (.bin .Add (.loc 9) (.call (.glo t__law_call) [.loc 1,.int 1])) (.lst [.tup [.str t_addi,.int 17,.int 0,.int 93],.tup [.str t_ecall]])])
theorem s_start (W:Wk H kw kn (B+1)) {ka:Nat} {r:Int} (l1:L 1=some (.obj kw)) (l9:L 9=some (.obj ka)) (La:Lr kw kn H ka (if r > 0 then [Rw.addi 10 0 r] else [])) {Gl:Prop} (kG:∀ (kp k0:Nat) (cl:List Rw) (H':MH),(Ex c 11 lw6 L H .next (L.put 10 (.obj kp)) H')→(cl ∈ calls 1)→(PA H' kw kn kp [k0] [startR r cl])→(Wk H' kw kn B)→Gl):Gl:=by
 obtain ⟨k4,H4,e4,b4⟩:=call_of (c:=c) (B:=B) W (g:=1)
 obtain ⟨cl,m4,L4⟩:=b4.lr W
 have l4:=call_len m4
 have la:(if r > 0 then [Rw.addi 10 0 r] else []).length≤1:=by
  by_cases q:r > 0
  ·rw [if_pos q]; exact Nat.le_refl _
  ·rw [if_neg q]; exact Nat.zero_le _
 have q1:=cat (c:=c) (d:=11) (b:=.call (.glo t__law_call) [.loc 1,.int 1]) (d_loc l9) La (d_cal (d_glo (by rfl)) (a_cons (d_loc l1) (a_cons d_int a_nil)) (ck_fn rfl (e4.up 9))) L4 b4.K (by lia)
 have W5:=b4.W.keep (Kp.new (x:=.lst (((if r > 0 then [Rw.addi 10 0 r] else [])++cl).map Rw.v)))
 have q2:=cat (c:=c) (d:=11) q1 (Lr.of b4.W) (d_lst (a_cons (d_tup (a_cons d_str (a_cons d_int (a_cons d_int (a_cons d_int a_nil))))) (a_cons (d_tup (a_cons d_str a_nil)) a_nil))) (Lr.of (rows:=[.addi 17 0 93,.ecall]) W5) (Kp.kw .new) (by rw [List.length_append]; exact Nat.le_trans (Nat.add_le_add_right (Nat.add_le_add la l4) _) (Nat.le_of_ble_eq_true rfl))
 have W6:=W5.keep (Kp.new (x:=.lst (([.addi 17 0 93,.ecall]:List Rw).map Rw.v)))
 have L7:=Lr.of (rows:=startR r cl) W6
 have W7:=W6.keep (Kp.new (x:=.lst ((startR r cl).map Rw.v)))
 exact kG _ _ cl _ (x_asg (d_lst (a_cons q2 a_nil))) m4 ⟨new_at _ _,Nat.lt_succ_self _,Nat.ne_of_gt W7.l1,Nat.ne_of_gt W7.l2,rfl,fun i hi=>by
  have hi:i=0:=Nat.lt_one_iff.1 hi
  subst hi
  exact ⟨L7.kw (Kp.kw .new),Nat.ne_of_lt (Nat.lt_succ_self _)⟩⟩ (W7.keep .new)
theorem getD_app_lt {α:Type} {l r:List α} {i:Nat} {d:α} (h:i<l.length):(l++r).getD i d=l.getD i d:=by
 rw [List.getD_eq_getElem?_getD,List.getD_eq_getElem?_getD,List.getElem?_append_left h]
theorem getD_app_eq {α:Type} {l:List α} {x d:α} {n:Nat} (h:n=l.length):(l++[x]).getD n d=x:=by
 rw [h,List.getD_eq_getElem?_getD,List.getElem?_concat_length]
 rfl
theorem PA.step {kp:Nat} {kps:List Nat} {P:List (List Rw)} (A:PA H kw kn kp kps P) {H':MH} (f:Kw kw kn H H') {k:Nat} {rows:List Rw} (hk:H.n≤k) (Lk:Lr kw kn H' k rows):PA (H'.put kp (.lst (kps.map V.obj++[.obj k]))) kw kn kp (kps++[k]) (P++[rows]):=by
 have pl {j:Nat} {r:List Rw} (h:Lr kw kn H' j r) (hj:j ≠ kp):Lr kw kn (H'.put kp (.lst (kps.map V.obj++[.obj k]))) j r:=⟨(put_ne hj).trans h.o,h.l,h.n1,h.n2⟩
 refine ⟨(put_at _ _ _).trans (by rw [List.map_append]; rfl),Nat.lt_of_lt_of_le A.l f.1,A.n1,A.n2,by rw [List.length_append,List.length_append,A.len]; rfl,fun i hi=>?_⟩
 by_cases q:i<P.length
 ·rw [getD_app_lt q,getD_app_lt (by rw [A.len]; exact q)]
  obtain ⟨p1,p2⟩:=A.ps i q
  exact ⟨pl (p1.kw f) p2,p2⟩
 ·rw [List.length_append,List.length_singleton] at hi
  have hi:i=P.length:=by lia
  rw [getD_app_eq hi,getD_app_eq (hi.trans A.len.symm)]
  have:=Nat.ne_of_gt (Nat.lt_of_lt_of_le A.l hk)
  exact ⟨pl Lk this,this⟩
structure DP (m:Nat) (P:List (List Rw)):Prop where
 p0:∃ r c,0≤r∧r<3∧c ∈ calls 1∧P.getD 0 []=startR r c
 pk:∀ k,1≤k→k<m→k<P.length→P.getD k [] ∈ funsN (k+1)
 pm:m<P.length→P.getD m [] ∈ funsL m
theorem next_1 {m i:Nat} (hm:m≤4):nextV H (.rng 1 ((m:Int)+1)) i=some (if i<m then some (.int ((i+1:Nat):Int)) else none):=by
 unfold nextV
 dsimp only
 rw [if_pos ⟨by decide,by lia⟩]
 by_cases q:i<m
 ·rw [if_pos (by lia),if_pos q,Int.add_comm]
  rfl
 ·rw [if_neg (by lia),if_neg q]
noncomputable def lw7b:List S:=[.exp (.met (.loc 10) t_append [.call (.glo t__law_function) [.loc 1,.loc 11,.loc 2]])]
theorem s_parts {m:Nat} (hm:m≤4) {kp:Nat}:∀ {N i:Nat} {kps:List Nat} {P:List (List Rw)} {L:LL} {H:MH},i+N=m→L 1=some (.obj kw)→L 2=some (.int m)→L 10=some (.obj kp)→Wk H kw kn (20 * N+B)→PA H kw kn kp kps P→P.length=i+1→DP m P →
  ∃ kps' P' L' H',Fo c 11 false [11] lw7b (.rng 1 ((m:Int)+1)) (N+1) i L H .next L' H'∧(∀ x,x ≠ 11→L' x=L x)∧PA H' kw kn kp kps' P'∧P'.length=m+1∧DP m P':=by
 intro N
 induction N with
 | zero =>
  intro i kps P L H hi l1 l2 l10 W A hl D
  exact ⟨kps,P,L,H,f_end ((next_1 hm).trans (by rw [if_neg (by lia)])),fun _ _=>rfl,A,by lia,D⟩
 | succ N ih =>
  intro i kps P L H hi l1 l2 l10 W A hl D
  have W:Wk H kw kn ((20 * N+B)+20):=W.less (by lia)
  have nx:=(next_1 (H:=H) (i:=i) hm).trans (by rw [if_pos (show i<m by lia)])
  have go {k:Nat} {H1:MH} {S:List Rw→Prop} (e1:Cl c 3 792 [.obj kw,.int ((i+1:Nat):Int),.int m] H (.obj k) H1) (b:Built kw kn (20 * N+B) S H k H1) (hS:∀ rows,S rows→(i+1<m→rows ∈ funsN (i+1+1))∧(i+1=m→rows ∈ funsL m)) :
    ∃ kps' P' L' H',Fo c 11 false [11] lw7b (.rng 1 ((m:Int)+1)) (N+1+1) i L H .next L' H'∧(∀ x,x ≠ 11→L' x=L x)∧PA H' kw kn kp kps' P'∧P'.length=m+1∧DP m P':=by
   obtain ⟨rows,sr,Lk⟩:=b.lr W
   obtain ⟨m1,m2⟩:=hS rows sr
   have A1:=A.step b.K b.lo Lk
   have o1:H1.o kp=some (.lst (kps.map .obj)):=(b.K.2 _ A.l A.n1 A.n2).trans A.h
   have al:=A.len
   have ap:=x_app (c:=c) (d:=11) (x:=10) (L:=L.put 11 (.int ((i+1:Nat):Int))) (e:=.call (.glo t__law_function) [.loc 1,.loc 11,.loc 2]) l10 (d_cal (d_glo (by rfl)) (a_cons (d_loc l1) (a_cons (d_loc rfl) (a_cons (d_loc l2) a_nil))) (ck_fn rfl (e1.up 8))) A.h o1 (by rw [List.length_map]; lia)
   have W2:Wk (H1.put kp (.lst (kps.map V.obj++[.obj k]))) kw kn (20 * N+B):=by
    obtain ⟨⟨M,p,q1,q2,q3⟩,q4,q5,q6⟩:=b.W
    exact ⟨⟨M,p,(put_ne A.n1.symm).trans q1,(put_ne A.n2.symm).trans q2,q3⟩,q4,q5,q6⟩
   have lP:(P++[rows]).length=i+1+1:=by rw [List.length_append,hl]; rfl
   have hP:(P++[rows]).getD (i+1) []=rows:=getD_app_eq hl.symm
   have D1:DP m (P++[rows]):=by
    refine ⟨?_,fun k k1 k2 k3=>?_,fun h=>?_⟩
    ·rw [getD_app_lt (by lia)]
     exact D.p0
    ·by_cases q:k<P.length
     ·rw [getD_app_lt q]
      exact D.pk k k1 k2 q
     ·have:k=i+1:=by lia
      subst this
      rw [hP]
      exact m1 k2
    ·have:m=i+1:=by lia
     rw [this,hP,← this]
     exact m2 this.symm
   obtain ⟨kps',P',L',H',t1,t2,t3⟩:=ih (i:=i+1) (by lia) (L:=L.put 11 (.int ((i+1:Nat):Int))) l1 l2 l10 W2 A1 lP D1
   exact ⟨kps',P',L',H',f_nx nx rfl (r_one ap) t1,fun x hx=>(t2 x hx).trans (if_neg hx),t3⟩
  by_cases q:i+1<m
  ·refine fun_lt (c:=c) W q fun k H1 e1 b=>?_
   exact go e1 b fun rows h=>⟨fun _=>h,fun z=>by lia⟩
  ·refine fun_last (c:=c) W (number:=i+1) fun k H1 e1 b=>?_
   have e:i+1=m:=by lia
   rw [e] at b
   exact go (by rw [← e] at *; exact e1) b fun rows h=>⟨fun z=>by lia,fun _=>h⟩
theorem s_parts7 {m:Nat} (m1:1≤m) (m4:m≤4) {kp k0:Nat} {r:Int} {cl:List Rw} (l1:L 1=some (.obj kw)) (l2:L 2=some (.int m)) (l10:L 10=some (.obj kp)) (W:Wk H kw kn 100) (A:PA H kw kn kp [k0] [startR r cl]) (r0:0≤r) (r3:r<3) (hc:cl ∈ calls 1) {Gl:Prop} (kG:∀ kps P L' H',(Ex c 11 (.fori false [11] (.call (.glo t_range) [.int 1,.bin .Add (.loc 2) (.int 1)]) lw7b) L H .next L' H')→(∀ x,x ≠ 11→L' x=L x)→(PA H' kw kn kp kps P)→(DrawnOk m P)→Gl):Gl:=by
 have D:DP m [startR r cl]:=⟨⟨r,cl,r0,r3,hc,rfl⟩,fun k h1 _ h2=>absurd (Nat.lt_one_iff.1 h2) (by lia),fun h=>absurd (Nat.lt_one_iff.1 h) (by lia)⟩
 obtain ⟨kps,P,L',H',t1,t2,t3,t4,t5⟩:=s_parts (c:=c) (N:=m) (i:=0) (B:=20) m4 (Nat.zero_add m) l1 l2 l10 (W.less (by lia)) A rfl D
 exact kG kps P L' H' (x_fo (d_cal (d_glo (by rfl)) (a_cons d_int (a_cons (d_add (d_loc l2) d_int) a_nil)) (ck_bl bl_rng2)) rfl (next_1 m4) rfl t1) t2 t3 ⟨t4,⟨m1,m4⟩,t5.p0,fun k h1 h2=>t5.pk k h1 h2 (by lia),t5.pm (by lia)⟩
end
noncomputable def lwA:S:=.ifs (.bop .And [.cmp .GtE (.loc 17) (.loc 5),.cmp .Eq (.bin .Mod (.bin .Sub (.loc 17) (.loc 5)) (.loc 4)) (.int 0)]) [
   .asg 16 (.bin .Add (.loc 16) (.int 1)),
   .ifs (.cmp .NotEq (.call (.glo t_calls_of) [.loc 14,.loc 13]) (.comp false (.sub (.glo t__law_NAMES) (.loc 0)) [t_number] (.slc (.loc 15) (.abs) (.abs) (.neg (.int 1))))) [
    .ret (.tt false)] [],
   .ifs (.cmp .NotEq (.call (.glo t_function_at) [.loc 13,.att (.loc 14) t_pc]) (.sub (.glo t__law_NAMES) (.sub (.loc 15) (.neg (.int 1))))) [
    .ret (.tt false)] []] []
noncomputable def nmV (x:Nat):V:=.str (nameL.getD x t_x)
noncomputable def natV (x:Nat):V:=.int x
theorem name_eq:∀ {x:Nat},(nameL.getD x t_x == nameL.getD x t_x)=true
 | 0 | 1 | 2 | 3 | 4 | _+5=>rfl
theorem names_eqs:∀ {l:List Nat},flatEqs (l.map nmV) (l.map nmV)=some true
 | []=>rfl
 | x::l=>by
  show (match flatEq (nmV x) (nmV x),flatEqs (l.map nmV) (l.map nmV) with | some a,some b=>some (a && b) | _,_=>none)=_
  rw [names_eqs,show flatEq (nmV x) (nmV x)=some (nameL.getD x t_x == nameL.getD x t_x) from rfl,name_eq]
  rfl
structure HI (H:MH) (L:Lay) (km ki kr ks:Nat) (im:Img) (m:Mac) (R:List Int) (mem:List UInt8) (d:List (V × V)) (rows:List Rw) (stk:List Nat):Prop where
 M:MR H km m R mem d
 I:IR H ki im L.pl
 r:H.o kr=some (.lst (rows.map Rw.v))
 s:H.o ks=some (.lst (stk.map natV))
 lr:kr<H.n
 ls:ks<H.n
 os:Out km ks
 o:∀ k ∈ [kr,ki,im.kp,im.kn],Out km k∧k ≠ ks
structure LI (L:LL) (km ki kr ks:Nat) (base stride phase:Int):Prop where
 l4:L 4=some (.int stride)
 l5:L 5=some (.int phase)
 l6:L 6=some (.int base)
 l12:L 12=some (.obj kr)
 l13:L 13=some (.ins 470 ki)
 l14:L 14=some (.ins 754 km)
 l15:L 15=some (.obj ks)
section
variable {c:Cx} {H:MH} {L:Lay} {km ki kr ks:Nat} {im:Img} {m:Mac} {R:List Int} {mem:List UInt8} {d:List (V × V)} {rows:List Rw} {stk:List Nat}
theorem MR.putL (M:MR H km m R mem d) (o:Out km ks) {l:List V} (hs:H.o ks=some (.lst l)) {x:MO}:MR (H.put ks x) km m R mem d :=
 ⟨(put_ne (o.ne (i:=0) (by decide)).symm).trans M.h,(put_ne (o.ne (by decide)).symm).trans M.hm,(put_ne (o.ne (by decide)).symm).trans M.hr,(put_ne (o.ne (by decide)).symm).trans M.hk,M.nR,M.nM,M.l,fun w i v hi hd=>by
  obtain ⟨j,e,hj,o',ho⟩:=M.kn w i v hi hd
  exact ⟨j,e,hj,o',(put_ne fun q=>by rw [q] at ho; cases hs.symm.trans ho).trans ho⟩⟩
theorem HI.keep (h:HI H L km ki kr ks im m R mem d rows stk) {H':MH} (k:Kp H H'):HI H' L km ki kr ks im m R mem d rows stk :=
 ⟨h.M.keep k,h.I.keep k,(k.2 _ h.lr).trans h.r,(k.2 _ h.ls).trans h.s,Nat.lt_of_lt_of_le h.lr k.1,Nat.lt_of_lt_of_le h.ls k.1,h.os,h.o⟩
theorem HI.go (h:HI H L km ki kr ks im m R mem d rows stk) {H':MH} {m':Mac} {R':List Int} {mem':List UInt8} {d':List (V × V)} (M:MR H' km m' R' mem' d') (f:Fm km H H'):HI H' L km ki kr ks im m' R' mem' d' rows stk :=
 ⟨M,⟨(f.2 _ h.I.l1 (h.o _ (.tail _ (.head _))).1).trans h.I.h,(f.2 _ h.I.l2 (h.o _ (.tail _ (.tail _ (.head _)))).1).trans h.I.hp,(f.2 _ h.I.l3 (h.o _ (.tail _ (.tail _ (.tail _ (.head _))))).1).trans h.I.hn,Nat.lt_of_lt_of_le h.I.l1 f.1,Nat.lt_of_lt_of_le h.I.l2 f.1,Nat.lt_of_lt_of_le h.I.l3 f.1⟩,
  (f.2 _ h.lr (h.o _ (.head _)).1).trans h.r,(f.2 _ h.ls h.os).trans h.s,Nat.lt_of_lt_of_le h.lr f.1,Nat.lt_of_lt_of_le h.ls f.1,h.os,h.o⟩
theorem HI.stack (h:HI H L km ki kr ks im m R mem d rows stk) (stk':List Nat):HI (H.put ks (.lst (stk'.map natV))) L km ki kr ks im m R mem d rows stk' :=
 ⟨h.M.putL h.os h.s,⟨(put_ne (h.o _ (.tail _ (.head _))).2).trans h.I.h,(put_ne (h.o _ (.tail _ (.tail _ (.head _)))).2).trans h.I.hp,(put_ne (h.o _ (.tail _ (.tail _ (.tail _ (.head _))))).2).trans h.I.hn,h.I.l1,h.I.l2,h.I.l3⟩,
  (put_ne (h.o _ (.head _)).2).trans h.r,put_at _ _ _,h.lr,h.ls,h.os,h.o⟩
variable {base stride phase:Int} {E:LL} {k j:Nat} {s:Int} {fs:List Sf}
theorem sus_k {fs:List Sf}:∀ {k:Nat} {s:Int},Sus L mem k s fs→∀ g ∈ fs,g.k≤L.many:=by
 induction fs with
 | nil=>exact fun _ g hg=>(List.not_mem_nil hg).elim
 | cons x fs ih=>exact fun h g hg=>(List.mem_cons.1 hg).elim (fun q=>q ▸ h.2.2.1) fun q=>ih h.2.2.2.2.2.2.2 g q
theorem outs_nm (hn:∀ x,x≤L.many→L.pl.mk2 (L.ord x)=nameL.getD x t_x):∀ {fs:List Sf} {s:Int},(∀ g ∈ fs,g.k≤L.many)→(outs L s fs).map L.pl.nm=(fs.map Sf.k).map nmV∧(outs L s fs).length=fs.length
 | [],_,_=>⟨rfl,rfl⟩
 | x::fs,s,h=>by
  obtain ⟨i1,i2⟩:=outs_nm hn (fs:=fs) (s:=x.s) fun g hg=>h g (List.mem_cons_of_mem _ hg)
  have e:V.str (L.pl.mk2 (L.ord x.k))=nmV x.k:=congrArg V.str (hn _ (h x (.head _)))
  exact ⟨(congr (congrArg List.cons e) i1 :),congrArg (·+1) i2⟩
theorem idx_last {l:List V} {x:V} (hl:l.length≤90000):Mine.idx (l++[x]) (-1)=some x:=by
 have e:(l++[x]).length=l.length+1:=List.length_append ..
 unfold Mine.idx
 rw [e,if_neg (by lia),if_neg (by decide),if_pos (by lia),show (-1+((l.length+1:Nat):Int)).toNat=l.length by lia,List.getElem?_concat_length]
noncomputable def stkF (k:Nat) (fs:List Sf):List Nat:=(k::fs.map Sf.k).reverse
theorem look (G:LayOk L) (hn:∀ x,x≤L.many→L.pl.mk2 (L.ord x)=nameL.getD x t_x) (h:HI H L km ki kr ks im m R mem d rows (stkF k fs)) (hb:m.base=L.base) (hp:m.pc=L.st k+4 * (j:Int)) (I:Inv L k j s fs R mem)
  (l:LI E km ki kr ks base stride phase) {turn z:Int} (l17:E 17=some (.int turn)) (l16:E 16=some (.int z)) (hs:1≤stride) {Gl:Prop} (kG:∀ E' H' z',(Ex c 11 lwA E H .next E' H')→(Kp H H')→(LI E' km ki kr ks base stride phase)→(E' 16=some (.int z'))→Gl):Gl:=by
 by_cases q1:turn ≥ phase
 ·have md:BinR c H .Mod (.int (turn - phase)) (.int stride) (.int ((turn - phase).fmod stride)) H:=b_mod (by lia)
  have a1:Et c 11 (.cmp .GtE (.loc 17) (.loc 5)) E H true H:=t_cmp (d_loc l17) (d_loc l.l5) (q_ge q1)
  have a2 {k:Bool} (q:CmpR c H .Eq (.int ((turn - phase).fmod stride)) (.int 0) k):Et c 11 (.cmp .Eq (.bin .Mod (.bin .Sub (.loc 17) (.loc 5)) (.loc 4)) (.int 0)) E H k H:=t_cmp (d_bin (d_sbt (d_loc l17) (d_loc l.l5)) (d_loc l.l4) md) d_int q
  by_cases q2:(turn - phase).fmod stride=0
  ·obtain ⟨r,hr⟩:∃ r,(L.parts k)[j]?=some r:=⟨_,List.getElem?_eq_getElem I.hj⟩
   have sk:=sus_k I.sus
   have len:=inv_len G I
   obtain ⟨o1,o2⟩:=outs_nm hn (fs:=fs) (s:=s) sk
   refine calls_of_of (c:=c) h.M h.I G.good (by rw [o2]; lia) hp.symm rfl (chain_of (C:=c) G h.M hb I hr) fun k1 H1 c1 c2 c3 c4 c5=>?_
   have c5:H1.o k1=some (.lst ((k::fs.map Sf.k).map nmV)):=c5.trans (congrArg (fun l=>some (MO.lst l)) (congr (congrArg List.cons (congrArg V.str (hn k I.hk))) o1))
   have h1:=h.keep c2
   have m4:=G.m1
   have hk:=I.hk
   have all5:∀ x ∈ k::fs.map Sf.k,x<5:=fun x hx=>by
    rcases List.mem_cons.1 hx with q | q
    ·lia
    ·obtain ⟨g,hg,rfl⟩:=List.mem_map.1 q
     have:=sk g hg
     lia
   have kl:(k::fs.map Sf.k).length≤7:=by rw [List.length_cons,List.length_map]; lia
   have il:Mine.idx ((stkF k fs).map natV) (-1)=some (.int k):=by
    unfold stkF
    rw [List.reverse_cons,List.map_append]
    exact idx_last (by rw [List.length_map,List.length_reverse,List.length_map]; lia)
   have sl:=slc_rev (c:=c) h1.s (by rw [List.length_map]; unfold stkF; rw [List.length_reverse]; lia)
   rw [← List.map_reverse,show (stkF k fs).reverse=_ from List.reverse_reverse _] at sl
   generalize k::fs.map Sf.k=K at *
   have ev:=comp_of (c:=c) (d:=11) (t:=.slc (.loc 15) (.abs) (.abs) (.neg (.int 1))) (L:=E.put 16 (.int (z+1))) (n:=t_number) (g:=nmV) (e:=.sub (.glo t__law_NAMES) (.loc 0)) (d_slc (d_loc l.l15) o_abs o_abs (o_of (fun _=>rfl) (d_neg d_int)) sl) (new_at _ _) (Nat.lt_succ_self _) (by lia) fun x hx {L H}=>d_sub (d_glo (by rfl)) (d_loc rfl) (nam (all5 x hx))
   have K13:Kp H1 ((H1.new (.lst (K.map natV))).new (.lst (K.map nmV))):=Kp.trans .new .new
   have ne:=q_lN (c:=c) (k:=false) ((K13.2 _ c4).trans c5) (new_at _ _) rfl names_eqs
   have h3:=h1.keep K13
   generalize (H1.new (.lst (K.map natV))).new (.lst (K.map nmV))=H3 at *
   have A:=G.at_ k I.hk j I.hj
   rw [← hp] at A
   have fa:=(function_at_of (c:=c) h3.I G.good A).up 8
   rw [hn k I.hk] at fa
   refine kG (E.put 16 (.int (z+1))) H3 (z+1) (x_ifs (t_bop (s_cons a1 (k_at (s_cons (a2 (q_eq q2)) (k_at s_and0))))) (r_tt (r_cons (x_asg (d_add (d_loc l16) d_int)) (k_next (r_cons (x_ifs (t_cmp (d_cal (d_glo (by rfl)) (a_cons (d_loc l.l14) (a_cons (d_loc l.l13) a_nil)) (ck_fn rfl (c1.up 4))) ev ne) (r_ff r_nil)) (k_next (r_one (x_ifs (t_cmp (d_cal (d_glo (by rfl)) (a_cons (d_loc l.l13) (a_cons (d_att (d_loc l.l14) (at_of h3.M.h rfl rfl fun _ q=>by cases q)) a_nil)) (ck_fn rfl fa)) (d_sub (d_glo (by rfl)) (d_sub (d_loc l.l15) (d_neg d_int) (sub_l h3.s il)) (nam (by lia))) (q_sne (k:=false) name_eq)) (r_ff r_nil))))))))) (c2.trans K13) ⟨l.l4,l.l5,l.l6,l.l12,l.l13,l.l14,l.l15⟩ rfl
  ·exact kG E H z (x_ifs (t_bop (s_cons a1 (k_at (s_cons (a2 (q_eqf q2)) k_af)))) (r_ff r_nil)) .refl l l16
 ·exact kG E H z (x_ifs (t_bop (s_cons (t_cmp (d_loc l17) (d_loc l.l5) (q_gef q1)) k_af)) (r_ff r_nil)) .refl l l16
end
noncomputable def lwB:S:=.asg 18 (.sub (.loc 12) (.bin .FloorDiv (.bin .Sub (.att (.loc 14) t_pc) (.loc 6)) (.int 4)))
noncomputable def lwC:S:=.exp (.met (.loc 14) t_step [])
noncomputable def lwD3:S:=.ifs (.cmp .Eq (.sub (.loc 18) (.int 0)) (.str t_ecall)) [
      .ret (.bop .And [.att (.loc 14) t_is_done,.cmp .Eq (.loc 15) (.lst [.int 0]),.cmp .Eq (.sub (.att (.loc 14) t_registers) (.int 2)) (.bin .Add (.loc 6) (.int 1536))])] []
noncomputable def lwD:S:=.ifs (.cmp .Eq (.sub (.loc 18) (.int 0)) (.str t_jal)) [
   .exp (.met (.loc 15) t_append [.sub (.loc 18) (.int 1)])] [
   .ifs (.bop .And [.cmp .Eq (.sub (.loc 18) (.int 0)) (.str t_jalr),.cmp .Eq (.sub (.loc 18) (.int 1)) (.int 1)]) [
    .exp (.met (.loc 15) t_append [.sub (.loc 18) (.int 3)])] [
    .ifs (.cmp .Eq (.sub (.loc 18) (.int 0)) (.str t_jalr)) [
     .exp (.met (.loc 15) t_pop [])] [lwD3]]]
noncomputable def lwE:S:=.ifs (.cmp .Eq (.loc 16) (.int 6)) [.ret (.tt true)] []
noncomputable def turnB:List S:=[lwA,lwB,lwC,lwD,lwE]
noncomputable def stkR (stk:List Nat):Rw→List Nat
 | .jal g=>stk++[g]
 | .jalrc g=>stk++[g]
 | .ret=>stk.dropLast
 | _=>stk
section
variable {c:Cx} {H:MH} {L:Lay} {km ki kr ks:Nat} {im:Img} {m:Mac} {R:List Int} {mem:List UInt8} {d:List (V × V)} {rows:List Rw} {stk:List Nat}
variable {base stride phase:Int} {E:LL} {k j:Nat} {s:Int} {fs:List Sf}
theorem rowB (h:HI H L km ki kr ks im m R mem d rows stk) (l:LI E km ki kr ks L.base stride phase) (hp:m.pc=L.st k+4 * (j:Int)) {r:Rw} (hr:rows[L.off k+j]?=some r) (hl:rows.length≤1000):Ex c 11 lwB E H .next (E.put 18 r.v) H:=by
 have e:m.pc - L.base=4 * ((L.off k+j:Nat):Int):=by rw [hp]; unfold Lay.st; lia
 have f:=b_fdv (c:=c) (H:=H) (i:=m.pc - L.base) (j:=4) (by decide) (by decide)
 rw [fdiv_pos (by decide),e,Int.mul_ediv_cancel_left _ (by decide),← e] at f
 exact x_asg (d_sub (d_loc l.l12) (d_bin (d_sbt (d_att (d_loc l.l14) (at_of h.M.h rfl rfl fun _ q=>by cases q)) (d_loc l.l6)) d_int f) (sub_l h.r (idxL (map_le (Nat.le_trans hl (by decide))) ((List.getElem?_map ..).trans (congrArg _ hr)))))
theorem d0 {d:Nat} {l:List V} {nm:Str} {z:Bool} {t:Str} (l18:E 18=some (.tup l)) (e:idx l 0=some (.str nm)) (h:(nm == t)=z):Et c d (.cmp .Eq (.sub (.loc 18) (.int 0)) (.str t)) E H z H:=t_cmp (d_sub (d_loc l18) d_int (sub_t e)) d_str (q_seq h)
theorem ifsN {l:List V} {nm:Str} (l18:E 18=some (.tup l)) (e:idx l 0=some (.str nm)) (h1:(nm == t_jal)=false) (h2:(nm == t_jalr)=false) (h3:(nm == t_ecall)=false):Ex c 11 lwD E H .next E H :=
 x_ifs (d0 l18 e h1) (r_ff (r_one (x_ifs (t_bop (s_cons (d0 l18 e h2) k_af)) (r_ff (r_one (x_ifs (d0 l18 e h2) (r_ff (r_one (x_ifs (d0 l18 e h3) (r_ff r_nil))))))))))
theorem ifsD (h:HI H L km ki kr ks im m R mem d rows stk) (l15:E 15=some (.obj ks)) {r:Rw} (l18:E 18=some r.v) (h0:0<stk.length) (hl:stk.length≤1000) (he:r ≠ .ecall) :
  Ex c 11 lwD E H .next E (H.put ks (.lst ((stkR stk r).map natV))):=by
 have ap {g:Nat} {e:Mine.E} (ev:Ev c 11 e E H (.int g) H):Ex c 11 (.exp (.met (.loc 15) t_append [e])) E H .next E (H.put ks (.lst ((stk++[g]).map natV))):=by
  rw [List.map_append]
  exact x_app l15 ev h.s h.s (map_le (Nat.le_trans hl (by decide)))
 have s0:H.put ks (.lst (stk.map natV))=H:=put_self h.s
 have no {l:List V} {nm:Str} (l18:E 18=some (.tup l)) (e:idx l 0=some (.str nm)) (h1:(nm == t_jal)=false) (h2:(nm == t_jalr)=false) (h3:(nm == t_ecall)=false):Ex c 11 lwD E H .next E (H.put ks (.lst (stk.map natV))):=by
  rw [s0]
  exact ifsN l18 e h1 h2 h3
 induction r using Rw.casesOn with
 | jal g=>exact x_ifs (d0 l18 rfl rfl) (r_tt (r_one (ap (d_sub (d_loc l18) d_int (sub_t rfl)))))
 | jalrc g=>exact x_ifs (d0 l18 rfl rfl) (r_ff (r_one (x_ifs (t_bop (s_cons (d0 l18 rfl rfl) (k_at (s_cons (t_cmp (d_sub (d_loc l18) d_int (sub_t rfl)) d_int (q_eq rfl)) (k_at s_and0))))) (r_tt (r_one (ap (d_sub (d_loc l18) d_int (sub_t rfl))))))))
 | ret =>
  have mp:=mt_pop (c:=c) h.s (map_le (Nat.le_trans hl (by decide))) (v:=natV (stk.getLast (List.length_pos_iff.1 h0))) (by rw [List.getLast?_map,List.getLast?_eq_some_getLast (List.length_pos_iff.1 h0)]; rfl)
  rw [← List.map_dropLast] at mp
  exact x_ifs (d0 l18 rfl rfl) (r_ff (r_one (x_ifs (t_bop (s_cons (d0 l18 rfl rfl) (k_at (s_cons (t_cmp (d_sub (d_loc l18) d_int (sub_t rfl)) d_int (q_eqf (by decide))) k_af)))) (r_ff (r_one (x_ifs (d0 l18 rfl rfl) (r_tt (r_one (x_exp (d_met (d_loc l15) (lk_pop h.s) a_nil (mk_bl mp)))))))))))
 | ecall=>exact absurd rfl he
 | addi | add | sub | lui | sw | lw | high | near | beq=>exact no l18 rfl rfl rfl rfl
theorem ifsEnd (h:HI H L km ki kr ks im m R mem d rows [0]) (l:LI E km ki kr ks L.base stride phase) (l18:E 18=some (Rw.ecall).v) (hd:m.done=true) (h2:rg R 2=L.base+1536) :
  ∃ H',Ex c 11 lwD E H (.ret (.bool true)) E H':=by
 have K:Kp H (H.new (.lst [.int 0])):=.new
 have q:=q_lL (c:=c) (k:=true) ((K.2 _ h.ls).trans h.s) (new_at _ _) rfl rfl
 have hM:=h.M.keep K
 have i2:Mine.idx (R.map V.int) 2=some (.int (rg R 2)):=hM.idx (j:=2) (by decide)
 have dn:AttR c H (.ins 754 km) t_is_done (.bool true):=at_of h.M.h rfl (congrArg (fun b=>some (V.bool b)) hd) fun _ q=>by cases q
 refine ⟨H.new (.lst [.int 0]),x_ifs (d0 l18 rfl rfl) (r_ff (r_one (x_ifs (t_bop (s_cons (d0 l18 rfl rfl) k_af)) (r_ff (r_one (x_ifs (d0 l18 rfl rfl) (r_ff (r_one (x_ifs (d0 l18 rfl rfl) (r_tt (r_one (x_ret (d_bop ?_)))))))))))))⟩
 exact b_go (d_att (d_loc l.l14) dn) rfl rfl (b_go (d_cmp (d_loc l.l15) (d_lst (a_cons d_int a_nil)) q) rfl rfl (b_one (d_cmp (d_sub (d_att (d_loc l.l14) (at_of hM.h rfl rfl fun _ q=>by cases q)) d_int (sub_l hM.hr i2)) (d_add (d_loc l.l6) d_int) (q_eq h2))))
theorem lastE {z:Int} (l16:E 16=some (.int z)):Ex c 11 lwE E H .next E H∨Ex c 11 lwE E H (.ret (.bool true)) E H:=by
 by_cases q:z=6
 ·exact .inr (x_ifs (t_cmp (d_loc l16) d_int (q_eq q)) (r_tt (r_one (x_ret d_tt))))
 ·exact .inl (x_ifs (t_cmp (d_loc l16) d_int (q_eqf q)) (r_ff r_nil))
theorem next150 {i:Nat}:nextV H (.rng 0 150) i=some (if i<150 then some (.int (i:Int)) else none):=by
 unfold nextV
 dsimp only
 rw [if_pos ⟨by decide,by decide⟩,Int.zero_add]
 by_cases q:i<150
 ·rw [if_pos (by lia),if_pos q]
 ·rw [if_neg (by lia),if_neg q]
end
inductive TX (L:Lay) (km ki kr ks:Nat) (im:Img) (rows:List Rw) (H:MH) (n:Nat):Prop
 | mk (k j:Nat) (s:Int) (fs:List Sf) (m:Mac) (R:List Int) (mem:List UInt8) (d:List (V × V)) (h1:HI H L km ki kr ks im m R mem d rows (stkF k fs)) (h2:m.base=L.base) (h3:m.pc=L.st k+4 * (j:Int)) (h4:m.done=false) (h5:d.length≤n) (h6:Inv L k j s fs R mem):TX L km ki kr ks im rows H n
structure TS (L:Lay) (km ki kr ks:Nat) (im:Img) (rows:List Rw) (stride phase:Int) (E:LL) (H:MH) (n:Nat):Prop where
 l:LI E km ki kr ks L.base stride phase
 ex:TX L km ki kr ks im rows H n
 z:∃ z,E 16=some (.int z)
structure LK (L:Lay) (rows:List Rw):Prop where
 G:LayOk L
 hn:∀ x,x≤L.many→L.pl.mk2 (L.ord x)=nameL.getD x t_x
 row:∀ k,k≤L.many→∀ (j:Nat) (r:Rw),(L.parts k)[j]?=some r→rows[L.off k+j]?=some r
 l:rows.length≤1000
section
variable {c:Cx} {H:MH} {L:Lay} {km ki kr ks:Nat} {im:Img} {rows:List Rw} {stride phase:Int} {E:LL} {n:Nat}
theorem turn (K:LK L rows) (T:TS L km ki kr ks im rows stride phase E H n) (hdl:n≤80000) {t:Int} (l17:E 17=some (.int t)) (hs:1≤stride) :
  (∃ E' H',Rn c 11 turnB E H (.ret (.bool true)) E' H')∨∃ E' H',Rn c 11 turnB E H .next E' H'∧TS L km ki kr ks im rows stride phase E' H' (n+1):=by
 refine hide fun Gl kG=>?_
 obtain ⟨l,⟨k,j,s,fs,m,R,mem,d,h,hb,hp,hd,dl,I⟩,z,l16⟩:=T
 refine look (c:=c) K.G K.hn h hb hp I l l17 l16 hs fun E1 H1 z1 a1 a2 a3 a4=>?_
 have h1:=h.keep a2
 obtain ⟨r,hr⟩:∃ r,(L.parts k)[j]?=some r:=⟨_,List.getElem?_eq_getElem I.hj⟩
 have b1:=rowB (c:=c) h1 a3 hp (K.row k I.hk j r hr) K.l
 have l2:LI (E1.put 18 r.v) km ki kr ks L.base stride phase:=⟨a3.l4,a3.l5,a3.l6,a3.l12,a3.l13,a3.l14,a3.l15⟩
 have len:=inv_len K.G I
 have sl:(stkF k fs).length=fs.length+1:=by unfold stkF; rw [List.length_reverse,List.length_cons,List.length_map]
 have af:=after_any (C:=c) K.G h1.M I hr hb hp hd (by lia)
 have st {H':MH} (n1:Cl c 5 723 [.ins 754 km] H1 .none H'):Ex c 11 lwC (E1.put 18 r.v) H1 .next (E1.put 18 r.v) H':=x_exp (d_met (d_loc l2.l14) (lk_of h1.M.h (by rfl) (by rfl)) a_nil (mk_fn (n1.up 6)))
 have go {k' j':Nat} {s':Int} {fs':List Sf} (he:r ≠ .ecall) (hst:stkR (stkF k fs) r=stkF k' fs') (N:Nx c L H1 km m d k' j' s' fs'):Gl:=by
  obtain ⟨H2,d',m',R',mem',n1,n2,n3,n4,n5,n6,n7,n8⟩:=N
  have h2:=h1.go n2 n3
  have d1:=ifsD (c:=c) (E:=E1.put 18 r.v) h2 l2.l15 rfl (by lia) (by lia) he
  rw [hst] at d1
  have rn {fl:Fl} (e:Ex c 11 lwE (E1.put 18 r.v) (H2.put ks (.lst ((stkF k' fs').map natV))) fl (E1.put 18 r.v) (H2.put ks (.lst ((stkF k' fs').map natV)))) (q:Rk c 11 [] fl (E1.put 18 r.v) (H2.put ks (.lst ((stkF k' fs').map natV))) fl (E1.put 18 r.v) (H2.put ks (.lst ((stkF k' fs').map natV)))):Rn c 11 turnB E H fl (E1.put 18 r.v) (H2.put ks (.lst ((stkF k' fs').map natV))) :=
   r_cons a1 (k_next (r_cons b1 (k_next (r_cons (st n1) (k_next (r_cons d1 (k_next (r_cons e q))))))))
  rcases lastE (c:=c) (E:=E1.put 18 r.v) (H:=H2.put ks (.lst ((stkF k' fs').map natV))) (z:=z1) a4 with e | e
  ·exact kG <| .inr ⟨_,_,rn e (k_next r_nil),l2,⟨k',j',s',fs',m',R',mem',d',h2.stack _,n5.base.trans hb,n7,n6,by lia,n8⟩,z1,a4⟩
  ·exact kG <| .inl ⟨_,_,rn e k_ret⟩
 have push {g j:Nat} {s:Int}:stkF k fs++[g]=stkF g (⟨k,j,s⟩::fs):=(List.reverse_cons ..).symm
 induction r using Rw.casesOn with
 | jal g =>
  obtain ⟨s',N⟩:=af
  exact go (fun q=>nomatch q) push N
 | jalrc g =>
  obtain ⟨s',N⟩:=af
  exact go (fun q=>nomatch q) push N
 | ret =>
  obtain ⟨g,rs,rfl,N⟩:=af
  refine go (fun q=>nomatch q) ?_ N
  show (stkF k (g::rs)).dropLast=stkF g.k rs
  unfold stkF
  rw [List.reverse_cons,List.dropLast_concat]
  rfl
 | ecall =>
  obtain ⟨⟨H2,d',m',n1,n2,n3,n4,n5,n6⟩,rfl,rfl⟩:=af
  obtain ⟨H3,d1⟩:=ifsEnd (c:=c) (E:=E1.put 18 Rw.ecall.v) (h1.go n2 n3) l2 rfl n5 n6
  exact kG <| .inl ⟨_,_,r_cons a1 (k_next (r_cons b1 (k_next (r_cons (st n1) (k_next (r_cons d1 k_ret))))))⟩
 | addi | add | sub | lui | sw | lw | high | near | beq =>
  obtain ⟨j',N⟩:=af
  exact go (fun q=>nomatch q) rfl N
theorem turns (K:LK L rows) (hs:1≤stride):∀ {N i:Nat} {H:MH} {E:LL},i+N=150→TS L km ki kr ks im rows stride phase E H i →
  ∃ fl E' H',Fo c 11 false [17] turnB (.rng 0 150) (N+1) i E H fl E' H'∧(fl=.next∨fl=.ret (.bool true)):=by
 intro N
 induction N with
 | zero =>
  intro i H E hi T
  exact ⟨.next,E,H,f_end (next150.trans (by rw [if_neg (by lia)])),.inl rfl⟩
 | succ N ih =>
  intro i H E hi T
  have nx:=(next150 (H:=H) (i:=i)).trans (by rw [if_pos (show i<150 by lia)])
  have l:=T.l
  rcases turn (c:=c) (E:=E.put 17 (.int i)) K ⟨⟨l.l4,l.l5,l.l6,l.l12,l.l13,l.l14,l.l15⟩,T.ex,T.z⟩ (by lia) rfl hs with ⟨E',H',t1⟩ | ⟨E',H',t1,t2⟩
  ·exact ⟨.ret (.bool true),E',H',f_rt nx rfl t1,.inr rfl⟩
  ·obtain ⟨fl,E2,H2,u1,u2⟩:=ih (by lia) t2
   exact ⟨fl,E2,H2,f_nx nx rfl t1 u1,u2⟩
end
section
variable {c:Cx} {H:MH} {base:Int} {E:LL} {P:List (List Rw)} {es:Nat→RE} {m cut:Nat} {t:Bool} {kw kn kp:Nat} {kps:List Nat}
theorem s_laid (T:PtOk m P es) (A:PA H kw kn kp kps P) (hb:base=0∨base=4096∨base=8192) (hc:cut≤m) (l10:E 10=some (.obj kp)) (l6:E 6=some (.int base)) (l7:E 7=some (.bool t)) (l8:E 8=some (.int cut)) {Gl:Prop} (kG:∀ kr ki im H',(Ex c 11 (.upk [.nam 12,.nam 13] (.call (.glo t__law_laid) [.loc 10,.loc 6,.loc 7,.loc 8])) E H .next ((E.put 12 (.obj kr)).put 13 (.ins 470 ki)) H')→(H'.o kr=some (.lst ((finS base P t m).rows.map Rw.v)))→(kr<H'.n)→(IR H' ki im (lyP base P es t m cut).pl)→(im.base=base)→(im.oct=octF base (lyP base P es t m cut).st 0 (finS base P t m).rows)→Gl):Gl:=by
 have tot:=T.tot (t:=t)
 have m1:=T.m1
 have tl:=T.len
 refine laid_of (c:=c) (H:=H) (kp:=kp) (kps:=kps) (P:=P) (m:=m) (t:=t) (cut:=cut) (base:=base) ⟨A.h,A.l,A.len,by lia,fun i hi=>⟨(A.ps i hi).1.o,(A.ps i hi).1.l,(T.ln (by lia)).2⟩⟩ tl hc
  (st:=(lyP base P es t m cut).st) (by rw [fin_rows]; lia) (by rw [fin_marks,marksF_len,ordL_len]) (fun i r h=>rows_g T hb h) fun kr ki im H' h1 h2 h3 h4 h5 h6 h7 h8 h9=>?_
 exact kG kr ki im H' (x_upk (d_cal (d_glo (by rfl)) (a_cons (d_loc l10) (a_cons (d_loc l6) (a_cons (d_loc l7) (a_cons (d_loc l8) a_nil)))) (ck_fn rfl (h1.up 9))) rfl (g_nam (g_nam g_nil))) h3 h4 h7 h8 h9
theorem s_machine {L:Lay} {ki kr:Nat} {im:Img} {rows:List Rw} (I:IR H ki im L.pl) (r:H.o kr=some (.lst (rows.map Rw.v))) (lr:kr<H.n) (hb:im.base=0∨im.base=4096∨im.base=8192) (hl:im.oct.length≤400) (l13:E 13=some (.ins 470 ki)) {Gl:Prop} (kG:∀ km ks mc H',(Ex c 11 (.asg 14 (.call (.glo t_Machine) [.loc 13,.int 1536])) E H .next (E.put 14 (.ins 754 km)) H')→(ks=H'.n)→(HI (H'.new (.lst [.int 0])) L km ki kr ks im mc (regs0 im.base) (mem0 im.oct) [] rows [0])→(mc.base=im.base)→(mc.pc=im.base)→(mc.done=false)→Gl):Gl:=by
 refine machine_of (c:=c) I.h I.l1 hb hl fun mc H1 c1 M b1 b2 b3 K1=>?_
 have I1:=I.keep K1
 have K:Kp H1 (H1.new (.lst [.int 0])):=.new
 have out {k:Nat} (h:k<H.n):Out H.n k∧k ≠ H1.n:=⟨.inl h,Nat.ne_of_lt (Nat.lt_of_lt_of_le h K1.1)⟩
 refine kG H.n H1.n mc H1 (x_asg (d_cal (d_glo (by rfl)) (a_cons (d_loc l13) (a_cons d_int a_nil)) (ck_cl rfl (c1.up 10)))) rfl ⟨M.keep K,I1.keep K,((K1.trans K).2 _ lr).trans r,new_at _ _,Nat.lt_of_lt_of_le lr (K1.trans K).1,Nat.lt_succ_self _,.inr M.l,fun k hk=>?_⟩ b1 b2 b3
 rcases List.mem_cons.1 hk with rfl | hk
 ·exact out lr
 rcases List.mem_cons.1 hk with rfl | hk
 ·exact out I.l1
 rcases List.mem_cons.1 hk with rfl | hk
 ·exact out I.l2
 ·rw [List.mem_singleton.1 hk]
  exact out I.l3
theorem law_true (c:Cx) (hl:c.ns.length≤63):∃ H,Cl c 12 811 [.sta c.a] ⟨0,fun _=>none⟩ (.bool true) H:=by
 refine s_well (c:=c) (d:=11) hl (L:=argsL 0 [.sta c.a]) rfl fun kw kn H1 e1 W1=>?_
 refine s_many (c:=c) (B:=1999) W1 (L:=(argsL 0 [.sta c.a]).put 1 (.obj kw)) rfl fun m H2 e2 m1 m4 W2=>?_
 refine s_nums (c:=c) (B:=1996) W2 (L:=((argsL 0 [.sta c.a]).put 1 (.obj kw)).put 2 (.int m)) rfl fun r s p H3 e3 r0 r3 s1 W3=>?_
 refine s_base (c:=c) (B:=1993) W3 (L:=(((((argsL 0 [.sta c.a]).put 1 (.obj kw)).put 2 (.int m)).put 3 (.int r)).put 4 (.int s)).put 5 (.int p)) rfl rfl fun b t cut H4 e4 hb hc W4=>?_
 generalize hE:((((((((argsL 0 [.sta c.a]).put 1 (.obj kw)).put 2 (.int m)).put 3 (.int r)).put 4 (.int s)).put 5 (.int p)).put 6 (.int b)).put 7 (.bool t)).put 8 (.int cut)=E at *
 have q1:E 1=some (.obj kw):=by rw [← hE]; rfl
 have q2:E 2=some (.int m):=by rw [← hE]; rfl
 have q3:E 3=some (.int r):=by rw [← hE]; rfl
 have q4:E 4=some (.int s):=by rw [← hE]; rfl
 have q5:E 5=some (.int p):=by rw [← hE]; rfl
 have q6:E 6=some (.int b):=by rw [← hE]; rfl
 have q7:E 7=some (.bool t):=by rw [← hE]; rfl
 have q8:E 8=some (.int cut):=by rw [← hE]; rfl
 refine s_ahead (c:=c) (d:=11) W4 (L:=E) q3 fun ka H5 e5 La W5=>?_
 refine s_start (c:=c) (B:=1992) W5 (L:=E.put 9 (.obj ka)) q1 rfl La fun kp k0 cl H6 e6 hcal A6 W6=>?_
 refine s_parts7 (c:=c) (L:=(E.put 9 (.obj ka)).put 10 (.obj kp)) m1 m4 q1 q2 rfl (W6.less (by decide)) A6 r0 r3 hcal fun kps P E7 H7 e7 k7 A7 D=>?_
 have w (x:Nat) (h:x<9):E7 x=E x:=(k7 x (by lia)).trans ((if_neg (by lia)).trans (if_neg (by lia)))
 obtain ⟨es,T⟩:=pts_ok D
 refine s_laid (c:=c) (es:=es) (cut:=cut) (t:=t) (E:=E7) T A7 hb hc (k7 10 (by decide)) ((w 6 (by decide)).trans q6) ((w 7 (by decide)).trans q7) ((w 8 (by decide)).trans q8) fun kr ki im H8 e8 hr lr I8 ib io=>?_
 have tot:=T.tot (t:=t)
 refine s_machine (c:=c) (E:=(E7.put 12 (.obj kr)).put 13 (.ins 470 ki)) (L:=lyP b P es t m cut) I8 hr lr (by rw [ib]; exact hb) (by rw [io,octF_len,fin_rows]; lia) rfl fun km ks mc H9 e9 er5 h10 mb mp md=>?_
 subst er5
 rw [ib,io] at h10
 rw [ib] at mb mp
 have o0:offF P 0 (ordL t m) 0=0:=if_pos rfl
 have TT:TS (lyP b P es t m cut) km ki kr H9.n im (finS b P t m).rows s p (((((E7.put 12 (.obj kr)).put 13 (.ins 470 ki)).put 14 (.ins 754 km)).put 15 (.obj H9.n)).put 16 (.int 0)) (H9.new (.lst [.int 0])) 0 :=
  ⟨⟨(w 4 (by decide)).trans q4,(w 5 (by decide)).trans q5,(w 6 (by decide)).trans q6,rfl,rfl,rfl,rfl⟩,⟨0,0,b+1536,[],mc,_,_,[],h10,mb,mp.trans (by show b=b+4 * (offF P 0 (ordL t m) 0:Int)+4 * ((0:Nat):Int); rw [o0]; lia),md,Nat.le_refl _,inv0 T hb⟩,0,rfl⟩
 obtain ⟨fl,E11,H11,t1,t2⟩:=turns (c:=c) ⟨lay_ok T hb hc,fun x hx=>lay_nm hx,fun k hk j r hr=>by
   have hr:(P.getD k [])[j]?=some r:=hr
   have:=off_row (P:=P) (pre:=[]) (os:=ordL t m) (k:=k) (j:=j) (ordL_mem.2 hk) (List.getElem?_eq_some_iff.1 hr).1
   rw [List.nil_append,hr,List.length_nil,← fin_rows (base:=b)] at this
   exact this,by rw [fin_rows]; lia⟩ s1 (Nat.zero_add 150) TT
 have e10:Ex c 11 (.swp [15,16] [.lst [.int 0],.int 0]) (((E7.put 12 (.obj kr)).put 13 (.ins 470 ki)).put 14 (.ins 754 km)) H9 .next (((((E7.put 12 (.obj kr)).put 13 (.ins 470 ki)).put 14 (.ins 754 km)).put 15 (.obj H9.n)).put 16 (.int 0)) (H9.new (.lst [.int 0])):=x_swp (a_cons (d_lst (a_cons d_int a_nil)) (a_cons d_int a_nil)) rfl
 have nx (H:MH):nextV H (.rng 0 150) 0=some (some (.int (0:Nat))):=next150.trans (by rw [if_pos (by decide)])
 have e11:Ex c 11 (.fori false [17] (.call (.glo t_range) [.int 150]) turnB) (((((E7.put 12 (.obj kr)).put 13 (.ins 470 ki)).put 14 (.ins 754 km)).put 15 (.obj H9.n)).put 16 (.int 0)) (H9.new (.lst [.int 0])) fl E11 H11 :=
  x_fo (d_cal (d_glo (by rfl)) (a_cons d_int a_nil) (ck_bl bl_rng1)) rfl (nx _) rfl t1
 have fin {fl':Fl} {L':LL} (q:Rk c 11 [.ret (.tt true)] fl E11 H11 (.ret (.bool true)) L' H11):∃ H,Cl c 12 811 [.sta c.a] ⟨0,fun _=>none⟩ (.bool true) H :=
  ⟨H11,c_ret (D:=f_law) (by rfl) rfl (r_cons e1 (k_next (r_cons e2 (k_next (r_cons e3 (k_next (r_cons e4 (k_next (r_cons e5 (k_next (r_cons e6 (k_next (r_cons e7 (k_next (r_cons e8 (k_next (r_cons e9 (k_next (r_cons e10 (k_next (r_cons e11 q)))))))))))))))))))))⟩
 rcases t2 with rfl | rfl
 ·exact fin (fl':=.next) (k_next (r_one (x_ret d_tt)))
 ·exact fin (fl':=.next) k_ret
end
end Mine.Q
end
theorem PySem.Challenge.cw_nm0047_01_holds : PySem.Challenge.rw_nm0047_01.Holds :=
  Mine.holds_of_plain fun c h => Mine.Q.law_true c h
