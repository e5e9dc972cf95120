/- The abstract interpreter of the machine's code, proved sound (a part of it). -/
import Derived.Orders
import Derived.Laws.Sem
import Derived.Laws.Append
import Derived.Laws.AppendOwn
import Derived.Deep.MidRow
import Derived.Laws.BytesString
import Derived.Laws.IdiomStrings
set_option linter.unusedVariables false
namespace Go.Vsi
inductive D where
 |v (x:Value)
 |sl (k:Nat) (rows:List (List D))
 |any
 |lit (x:Value)
 deriving Inhabited
inductive S where
 |d (x:D)
 |arr (id off len:Nat)
 |ptr (id row off:Nat)
 |dp (row:List D) (off:Nat)
 |fn (f:FuncId) (caps:List Nat)
 |junk
 deriving Inhabited
inductive V where
 |c (s:S)
 |agg (l:List S)
 |junk
 deriving Inhabited
inductive W where
 |one (v:V)
 |tup (l:List V)
 deriving Inhabited
inductive O where
 |d (x:D)
 |own (k:Nat) (rows:List (List D))
 deriving Inhabited
def O.flat:O->D
 |.d x=>x
 |.own k rows=>.sl k rows
inductive k7 where
 |var (cells:List S)
 |arr (k:Nat) (rows:List (List D))
 |nar (k:Nat) (rows:List (List O)) (outs:List (Nat×Nat×Nat))
 deriving Inhabited
abbrev Hp:=Nat->Option k7
structure St where
 tm:List W
 h:Hp
 next:Nat
 io:Nat
inductive Pre where
 |up (tmp cell row:Nat) (at':Nat)
 |down (tmp cell row:Nat) (at':Nat)
 |lose (tmp cell row:Nat) (at':Nat)
 |nest (tmp cell:Nat)
structure C0 where
 keep:FuncId->Nat->List Nat
 out:FuncId->Nat->List Nat
 frz:FuncId->Nat->List Nat
 fin:FuncId->Bool
 lend:FuncId->Bool
 ord:FuncId->Nat->List Nat
 on:FuncId->Bool
 pre:FuncId->Nat->List Pre:=fun _ _=>[]
inductive Ex where
 |normal|exit (id:Nat)|ret
def G2:Value->Bool
 |.bool _|.int _ _|.string _|.pointer none|.slice none 0 0|.nilFunc|.nilIface=>true
 |_=>false
def b5u(x:Value):S:=match G2 x with|true=>.d (.v x)|false=>.junk
def G3:Value->V
 |.agg cs=>match cs.all (·.oneCell')with|true=>.agg (cs.toList.map b5u)|false=>.junk
 |.tuple _=>.junk
 |x=>match G2 x with|true=>.c (.d (.v x))|false=>.junk
def W8:S->Option Value
 |.d (.v x)=>some x
 |_=>none
def a6r:List S->Option (List Value)
 |[]=>some []
 |s::r=>match W8 s,a6r r with
  |some v,some vs=>some (v::vs)
  |_,_=>none
def C7:V->Option Value
 |.c s=>W8 s
 |.agg l=>match a6r l with|some vs=>some (.agg vs.toArray)|none=>none
 |.junk=>none
def m9{α:Type}(P:Program):Sem α->Option α
 |.pure a=>some a
 |.program k=>m9 P (k P)
 |_=>none
def c9d:S->List Nat
 |.arr id _ _=>[id]
 |.ptr id _ _=>[id]
 |.fn _ caps=>caps
 |_=>[]
def a1t:V->List Nat
 |.c s=>c9d s
 |.agg l=>l.flatMap c9d
 |.junk=>[]
def a2j:W->List Nat
 |.one v=>a1t v
 |.tup l=>l.flatMap a1t
def d7a:k7->List Nat
 |.var cells=>cells.flatMap c9d
 |.arr _ _=>[]
 |.nar _ _ outs=>outs.map (·.2.2)
def C1(h:Hp):Nat->List Nat->List Nat->List Nat
 |0,_,seen=>seen
 |_+1,[],seen=>seen
 |k+1,id::r,seen=>
  match seen.elem id with
  |true=>C1 h k r seen
  |false=>match h id with
   |some b=>C1 h k (d7a b++r) (seen++[id])
   |none=>C1 h k r seen
def ix:List Nat->Nat->Option Nat
 |[],_=>none
 |x::r,id=>match Nat.beq x id with|true=>some 0|false=>(ix r id).map (· +1)
def a6s(f:Nat->Option Nat):S->S
 |.arr id o l=>match f id with|some j=>.arr j o l|none=>.junk
 |.ptr id r o=>match f id with|some j=>.ptr j r o|none=>.junk
 |.fn g caps=>match caps.mapM f with|some cs=>.fn g cs|none=>.junk
 |s=>s
def b1p(f:Nat->Option Nat):V->V
 |.c s=>.c (a6s f s)
 |.agg l=>.agg (l.map (a6s f))
 |.junk=>.junk
def b4v(f:Nat->Option Nat):W->W
 |.one v=>.one (b1p f v)
 |.tup l=>.tup (l.map (b1p f))
def a3s(rows:List (List O))(i j:Nat)(o:O):List (List O):=match rows[i]? with
 |some r=>rows.set i (r.set j o)
 |none=>rows
def F6(row j:Nat):List (Nat×Nat×Nat)->List (Nat×Nat×Nat)
 |[]=>[]
 |(r,c,id)::os=>match Nat.beq r row&&Nat.beq c j with|true=>F6 row j os|false=>(r,c,id)::F6 row j os
def a2k(f:Nat->Option Nat):List (Nat×Nat×Nat)->List (List O)->List (List O)×List (Nat×Nat×Nat)
 |[],rows=>(rows,[])
 |(i,j,id)::r,rows=>match f id with
  |some id'=>((a2k f r rows).1,(i,j,id')::(a2k f r rows).2)
  |none=>(a3s (a2k f r rows).1 i j (.d .any),F6 i j (a2k f r rows).2)
def Z1(f:Nat->Option Nat):k7->k7
 |.var cells=>.var (cells.map (a6s f))
 |.arr k rows=>.arr k rows
 |.nar k rows outs=>.nar k (a2k f outs rows).1 (a2k f outs rows).2
def c7(bs:List (Option k7)):Hp:=fun i=>match bs[i]? with|some b=>b|none=>none
def m0(h:Hp):List (Nat×Option k7)->Hp
 |[]=>h
 |(i,b)::r=>m0 (fun j=>match Nat.beq j i with|true=>b|false=>h j) r
abbrev Call:=FuncId->List V->List (Option k7)->Option (W×List (Option k7))
abbrev Z2:=W×List (Nat×Option k7)
def toD(h:Hp):S->Option (D×List (Nat×Option k7))
 |.d x=>some (x,[])
 |.arr id off len=>match h id with
  |some (.arr k rows)=>some (.sl k ((rows.drop off).take len),[(id,none)])
  |_=>none
 |_=>none
def Z6(h:Hp):List S->Option (List D×List (Nat×Option k7))
 |[]=>some ([],[])
 |s::r=>match toD h s,Z6 h r with
  |some (x,u),some (xs,us)=>some (x::xs,u++us)
  |_,_=>none
def R9(h:Hp):S->Option (O×List (Nat×Option k7))
 |.d x=>some (.d x,[])
 |.arr id off len=>match h id with
  |some (.arr k rows)=>some (.own k ((rows.drop off).take len),[(id,none)])
  |_=>none
 |_=>none
def C8(h:Hp):List S->Option (List O×List (Nat×Option k7))
 |[]=>some ([],[])
 |s::r=>match R9 h s,C8 h r with
  |some (x,u),some (xs,us)=>some (x::xs,u++us)
  |_,_=>none
def a1a:List Nat->Bool
 |[]=>true
 |x::r=>!r.elem x&&a1a r
def c9e:S->Bool
 |.arr _ _ _=>true
 |.d (.sl _ _)=>true
 |.d (.v (.slice none 0 0))=>true
 |_=>false
def c1u:S->Bool
 |.arr _ _ _=>true
 |_=>false
def b2u(lend:FuncId->Bool):Bool:=lend 1000000
def B3(row j:Nat):List (Nat×Nat×Nat)->Option Nat
 |[]=>none
 |(r,c,id)::os=>match Nat.beq r row&&Nat.beq c j with|true=>some id|false=>B3 row j os
def a2c(h:Hp)(out:Option Nat)(o:O):Option S:=match out with
 |some id=>match h id with|some (.arr _ rs)=>some (.arr id 0 rs.length)|_=>none
 |none=>match o with|.d x=>some (.d x)|.own _ _=>some .junk
def W3(h:Hp)(outs:List (Nat×Nat×Nat))(row:Nat):Nat->List O->Option (List S)
 |_,[]=>some []
 |j,o::r=>match a2c h (B3 row j outs) o,W3 h outs row (j+1) r with
  |some x,some xs=>some (x::xs)
  |_,_=>none
def t7:V->List S
 |.c s=>[s]
 |.agg l=>l
 |.junk=>[]
def S5(P:Program)(t:TypeId):Bool:=
 match P.underlying t with
 |some (.struct _)=>true
 |some (.array _ _)=>true
 |_=>false
def M0(P:Program)(t:TypeId)(l:List S)(off:Nat):Option V:=
 match P.underlying t,P.info? t with
 |some _,some i=>match S5 P t with
  |true=>match Nat.ble (off+i.size) l.length with
   |true=>some (.agg ((l.drop off).take i.size))
   |false=>none
  |false=>match l[off]? with
   |some s=>some (.c s)
   |none=>none
 |_,_=>none
def zeroCells(P:Program)(t:TypeId):Option (List S):=
 match P.info? t with
 |some i=>match i.zero with
  |some z=>match z.cells.all (·.oneCell')with
   |true=>some (z.cells.toList.map b5u)
   |false=>none
  |none=>none
 |none=>none
def Y0(place:Nat->Option (Nat×Nat))(cells:List S):List (Nat×V)->Option (List S)
 |[]=>some cells
 |(_,.junk)::_=>none
 |(i,v)::rest=>
  match place i with
  |none=>none
  |some (off,size)=>
   match Nat.beq (t7 v).length size&&Nat.ble (off+size) cells.length with
   |true=>Y0 place (cells.take off++t7 v++cells.drop (off+size)) rest
   |false=>none
def L7(k:Nat):Nat->List S->List (List S)
 |0,_=>[]
 |n+1,l=>l.take k::L7 k n (l.drop k)
def W4(h:Hp):List (List S)->Option (List (List D)×List (Nat×Option k7))
 |[]=>some ([],[])
 |s::r=>match Z6 h s,W4 h r with
  |some (x,u),some (xs,us)=>some (x::xs,u++us)
  |_,_=>none
def S6(h:Hp):List (List S)->Option (List (List O)×List (Nat×Option k7))
 |[]=>some ([],[])
 |s::r=>match C8 h s,S6 h r with
  |some (x,u),some (xs,us)=>some (x::xs,u++us)
  |_,_=>none
def w8(h:Hp):V->Option (List (List D))
 |.c (.arr id off len)=>match h id with
  |some (.arr _ rows)=>some ((rows.drop off).take len)
  |_=>none
 |.c (.d (.sl _ rows))=>some rows
 |.c (.d (.v (.slice none 0 0)))=>some []
 |.c (.d (.v (.string s)))=>some (s.data.toList.map fun b=>[.v (.int .u8 b.toNat)])
 |_=>none
def A1(h:Hp):V->Option Nat
 |.c (.arr id _ len)=>match h id with|some _=>some len|none=>none
 |.c (.d (.sl _ rows))=>some rows.length
 |.c (.d (.v (.slice none 0 0)))=>some 0
 |_=>none
def a1u:V->Option Int
 |.c (.d (.v (.int _ n)))=>some n
 |_=>none
def D6(P:Program)(t:TypeId):Option TypeId:=
 match P.underlying t with
 |some (.slice e)=>some e
 |_=>none
def room:Nat:=70368744177664
def one(s:S):W:=.one (.c s)
def F7(P:Program)(fr:Nat->Nat)(h:Hp)(t:TypeId)(base x:V):Option Z2:=
 match D6 P t with
 |none=>none
 |some e=>
  match w8 h x,A1 h base with
  |some new,some n=>match zeroCells P e with
   |none=>none
   |some z=>
   match Nat.beq z.length (P.cellsOf e)&&Nat.ble ((n+new.length)*P.bytesOf e) room&&Nat.ble (n+new.length) room&&new.all (fun r=>Nat.beq r.length (P.cellsOf e))with
   |false=>none
   |true=>
    match base with
    |.c (.arr id off len)=>match h id with
     |some (.arr k rows)=>match Nat.beq k (P.cellsOf e)with
      |true=>some (one (.arr (fr 0) 0 (len+new.length)),[(id,none),(fr 0,some (.arr k ((rows.drop off).take len++new)))])
      |false=>none
     |_=>none
    |.c (.d (.v (.slice none 0 0)))=>
     match new with
     |[]=>some (one (.d (.v (.slice none 0 0))),[])
     |_::_=>some (one (.arr (fr 0) 0 new.length),[(fr 0,some (.arr (P.cellsOf e) new))])
    |_=>none
  |_,_=>none
def a2d(P:Program)(fr:Nat->Nat)(h:Hp)(t:TypeId)(base:V)(x5:Nat)(new:List (List O))(len:Nat):Option Z2:=
 match D6 P t with
 |none=>none
 |some e=>match A1 h base,zeroCells P e with
  |some n,some z=>
   match Nat.beq z.length (P.cellsOf e)&&Nat.ble ((n+new.length)*P.bytesOf e) room&&Nat.ble (n+new.length) room&&new.all (fun r=>Nat.beq r.length (P.cellsOf e))&&Nat.beq len new.length with
   |false=>none
   |true=>match base with
    |.c (.arr id 0 m)=>match Nat.beq id x5,h id with
     |false,some (.nar k rows [])=>match Nat.beq k (P.cellsOf e)&&Nat.beq m rows.length with
      |true=>some (one (.arr (fr 0) 0 (m+new.length)),[(x5,none),(id,none),(fr 0,some (.nar k (rows++new) []))])
      |false=>none
     |false,some (.arr k [])=>match Nat.beq k (P.cellsOf e)&&Nat.beq m 0 with
      |true=>some (one (.arr (fr 0) 0 new.length),[(x5,none),(id,none),(fr 0,some (.nar k new []))])
      |false=>none
     |_,_=>none
    |.c (.d (.v (.slice none 0 0)))=>match new with
     |[]=>none
     |_::_=>some (one (.arr (fr 0) 0 new.length),[(x5,none),(fr 0,some (.nar (P.cellsOf e) new []))])
    |_=>none
  |_,_=>none
def a7x(P:Program)(h:Hp)(t:TypeId)(d s:V):Option Z2:=
 match D6 P t with
 |none=>none
 |some e=>match d,s with
  |.c (.arr id off len),.c (.arr id2 off2 len2)=>match h id,h id2 with
   |some (.arr k rows),some (.arr k2 rows2)=>match Nat.beq k (P.cellsOf e)&&Nat.beq k2 k&&(P.info? e).isSome with
    |true=>some (one (.d (.v (.int .i64 (((rows2.drop off2).take len2).take len).length))),[(id,some (.arr k (rows.take off++((rows2.drop off2).take len2).take len++rows.drop (off+(((rows2.drop off2).take len2).take len).length))))])
    |false=>none
   |_,_=>none
  |_,_=>none
def W9(n:Nat)(lo hi:Option V):Option (Nat×Nat):=
 match (match hi with|none=>some (n:Int)|some v=>a1u v)with
 |none=>none
 |some h=>match (match lo with|none=>some (0:Int)|some v=>a1u v)with
  |none=>none
  |some l=>match decide (0<=l)&&decide (l<=h)&&decide (h<=n)with
   |true=>some (l.toNat,h.toNat)
   |false=>none
def a4r(P:Program)(h:Hp)(t:TypeId)(x:V)(lo hi:Option V):Option W:=
 match x with
 |.c (.d (.v (.string s)))=>match P.underlying t with
  |some .string=>match W9 s.size lo hi with
   |some (l,h)=>some (one (.d (.v (.string (s.extract l h)))))
   |none=>none
  |_=>none
 |.c (.arr id off len)=>match D6 P t,h id with
  |some e,some (.arr k _)=>match W9 len lo hi,P.info? e with
   |some (l,h),some i=>match Nat.beq k i.size with
    |true=>some (one (.arr id (off+l) (h-l)))
    |false=>none
   |_,_=>none
  |_,_=>none
 |.c (.d (.sl k rows))=>match D6 P t with
  |some e=>match W9 rows.length lo hi,P.info? e with
   |some (l,h),some i=>match Nat.beq k i.size with
    |true=>some (one (.d (.sl k ((rows.drop l).take (h-l)))))
    |false=>none
   |_,_=>none
  |none=>none
 |.c (.d (.v (.slice none 0 0)))=>match D6 P t with
  |some e=>match W9 0 lo hi,P.info? e with
   |some _,some _=>some (one (.d (.v (.slice none 0 0))))
   |_,_=>none
  |none=>none
 |_=>none
def a4s:V->Option Nat
 |.c (.ptr id 0 0)=>some id
 |_=>none
def a4t(seen:List Nat)(fr:Nat->Nat)(j:Nat):Option Nat:=match seen[j]? with|some id=>some id|none=>some (fr (j-seen.length))
def X0(call:Call)(fr:Nat->Nat)(h:Hp)(f:FuncId)(args:List V):Option Z2:=
 let seen:=C1 h 400 (args.flatMap a1t) []
 let m:=seen.length
 match call f (args.map (b1p (ix seen))) (seen.map fun id=>(h id).map (Z1 (ix seen)))with
 |none=>none
 |some (v,bs)=>
  match Nat.ble m bs.length&&Nat.ble bs.length (m+64)with
  |false=>none
  |true=>
   some (b4v (a4t seen fr) v,bs.zipIdx.map fun(b,j)=>(((a4t seen fr) j).getD 0,b.map (Z1 (a4t seen fr))))
def S2(h:Hp):S->Option S
 |.d x=>some (.d x)
 |.arr id off len=>match h id with
  |some (.arr k rows)=>some (.d (.sl k ((rows.drop off).take len)))
  |some (.nar k rows [])=>some (.d (.sl k (((rows.drop off).take len).map (List.map O.flat))))
  |_=>none
 |.ptr id row off=>match h id with
  |some (.var cells)=>match row,Z6 h cells with
   |0,some (ds,_)=>some (.dp ds off)
   |_,_=>none
  |some (.arr _ rows)=>match rows[row]? with
   |some r=>some (.dp r off)
   |none=>none
  |some (.nar _ _ _)=>none
  |none=>none
 |.dp r o=>some (.dp r o)
 |.fn f []=>some (.fn f [])
 |.fn _ _=>none
 |.junk=>some .junk
def a2l(h:Hp):List S->Option (List S)
 |[]=>some []
 |s::r=>match S2 h s,a2l h r with
  |some x,some xs=>some (x::xs)
  |_,_=>none
def a2m(h:Hp):V->Option V
 |.c s=>match S2 h s with|some x=>some (.c x)|none=>none
 |.agg l=>match a2l h l with|some xs=>some (.agg xs)|none=>none
 |.junk=>some .junk
def a2n(h:Hp):List V->Option (List V)
 |[]=>some []
 |s::r=>match a2m h s,a2n h r with
  |some x,some xs=>some (x::xs)
  |_,_=>none
def a1b:S->Bool
 |.d (.v _)=>true
 |.junk=>true
 |_=>false
def b5v:V->Bool
 |.c s=>a1b s
 |.agg l=>l.all a1b
 |.junk=>true
def c1v:W->Bool
 |.one v=>b5v v
 |.tup l=>l.all b5v
def a6t:D->Bool
 |.v _=>true
 |_=>false
def d2a:O->Bool
 |.d x=>a6t x
 |.own _ rows=>rows.all fun r=>r.all a6t
def a6u:Option k7->Bool
 |none=>true
 |some (.var _)=>false
 |some (.arr _ rows)=>rows.all fun r=>r.all a6t
 |some (.nar _ rows outs)=>outs.isEmpty&&rows.all fun r=>r.all d2a
def b1q:S->Bool
 |.arr _ _ _=>true
 |s=>a1b s
def b5w:V->Bool
 |.c s=>b1q s
 |.agg l=>l.all b1q
 |.junk=>true
def d2b:W->Bool
 |.one v=>b5w v
 |.tup l=>l.all b5w
def Z7(call:Call)(fr:Nat->Nat)(h:Hp)(f:FuncId)(args:List V):Option Z2:=
 match a2n h args with
 |none=>none
 |some as=>match call f as []with
  |none=>none
  |some (r,bs)=>match c1v r with
   |true=>some (r,[])
   |false=>match d2b r&&bs.all a6u&&Nat.ble bs.length 64 with
    |true=>some (b4v (fun j=>some (fr j)) r,bs.zipIdx.map fun(b,j)=>(fr j,b))
    |false=>none
def S3(lend:FuncId->Bool)(call:Call)(fr:Nat->Nat)(h:Hp)(f:FuncId)(args:List V):Option Z2:=
 match lend f with
 |true=>Z7 call fr h f args
 |false=>X0 call fr h f args
def i8(P:Program)(s:Sem Value):Option W:=
 match m9 P s with
 |some (.tuple _)=>none
 |some x=>some (.one (G3 x))
 |none=>none
def a6a(P:Program)(g:FuncId):Bool:=match P.funcs[g]? with|some fn=>fn.body.isSome|none=>false
def n5:W->V
 |.one v=>v
 |.tup _=>.junk
def U0:Option W->Option Z2
 |some w=>some (w,[])
 |none=>none
def B8(P:Program)(lend:FuncId->Bool)(call:Call)(fr:Nat->Nat)(ev:Operand->W)(h:Hp)(o:Op):Option Z2:=
 match o with
 |.move x=>some (ev x,[])
 |.assign x=>some (ev x,[])
 |.pick c a b=>match n5 (ev c)with
  |.c (.d (.v (.bool true)))=>some (ev a,[])
  |.c (.d (.v (.bool false)))=>some (ev b,[])
  |_=>none
 |.extract x i=>match ev x with
  |.tup l=>match l[i]? with|some v=>some (.one v,[])|none=>none
  |.one _=>none
 |.nilCheck x=>match n5 (ev x)with
  |.c (.ptr id r o)=>match h id with|some _=>some (one (.ptr id r o),[])|none=>none
  |.c (.dp r o)=>some (one (.dp r o),[])
  |.c (.fn f cs)=>some (one (.fn f cs),[])
  |_=>none
 |.unOp op _ x=>match C7 (n5 (ev x))with
  |some a=>U0 (i8 P (Op.unary op a))
  |none=>none
 |.binOp op t x y _=>match C7 (n5 (ev x)),C7 (n5 (ev y))with
  |some a,some b=>U0 (i8 P (do eqGuard op t x y a b;binOp op t a b))
  |_,_=>none
 |.convert src dst x=>match P.underlying src,P.underlying dst,n5 (ev x)with
  |some (.slice e),some .string,v=>match P.underlying e,w8 h v,v with
   |some (.int .u8),some _,.c (.d (.v (.string _)))=>none
   |some (.int .u8),some rows,_=>
    match rows.mapM (fun r=>match r with|[.v (.int .u8 n)]=>some (UInt8.ofNat n.toNat)|_=>none)with
    |some bs=>some (one (.d (.v (.string ⟨bs.toArray⟩))),[])
    |none=>none
   |_,_,_=>none
  |some .string,some (.slice e),.c (.d (.v (.string s)))=>match P.underlying e with
   |some (.int .u8)=>some (one (.arr (fr 0) 0 s.size),[(fr 0,some (.arr 1 (s.data.toList.map fun b=>[.v (.int .u8 b.toNat)])))])
   |_=>none
  |some (.slice _),some (.slice _),_=>none
  |_,_,v=>match C7 v with
   |some a=>U0 (i8 P (convert src dst a))
   |none=>none
 |.index t x i=>match C7 (n5 (ev x)),C7 (n5 (ev i))with
  |some a,some b=>U0 (i8 P (Instr.index t a b))
  |_,_=>none
 |.field t x i=>match n5 (ev x),P.underlying t with
  |.agg l,some (.struct fs)=>match fs[i]? with
   |some f=>match M0 P f.type l f.offset with|some v=>some (.one v,[])|none=>none
   |none=>none
  |_,_=>none
 |.alloc t=>match zeroCells P t with
  |some cells=>some (one (.ptr (fr 0) 0 0),[(fr 0,some (.var cells))])
  |none=>none
 |.box _ x=>match n5 (ev x)with
  |.junk=>none
  |v=>some (one (.ptr (fr 0) 0 0),[(fr 0,some (.var (t7 v)))])
 |.build t parts=>match P.underlying t,zeroCells P t with
  |some (.struct fs),some z=>match fs.all fun f=>(P.info? f.type).isSome with
   |false=>none
   |true=>
   match Y0 (fun i=>(fs[i]?).map fun f=>(f.offset,P.cellsOf f.type)) z (parts.toList.map fun(i,x)=>(i,n5 (ev x)))with
   |some l=>some (.one (.agg l),[])
   |none=>none
  |_,_=>none
 |.buildSlice t n parts=>match D6 P t with
  |none=>none
  |some e=>
   let k:=P.cellsOf e
   match zeroCells P e with
   |none=>none
   |some z=>
   match Nat.beq z.length k&&Nat.ble (n*k) 16777216 with
   |false=>none
   |true=>
    match Y0 (fun i=>some (i*k,k)) ((List.replicate n z).flatten) (parts.toList.map fun(i,x)=>(i,n5 (ev x)))with
    |some l=>match b2u lend&&l.any c9e with
     |false=>match W4 h (L7 k n l)with
      |some (rows,kills)=>some (one (.arr (fr 0) 0 n),kills++[(fr 0,some (.arr k rows))])
      |none=>none
     |true=>match S6 h (L7 k n l)with
      |some (rows,kills)=>match a1a (kills.map (·.1))with
       |true=>some (one (.arr (fr 0) 0 n),kills++[(fr 0,some (.nar k rows []))])
       |false=>none
      |none=>none
    |none=>none
 |.makeSlice t len cap=>match D6 P t,a1u (n5 (ev len)),a1u (n5 (ev cap))with
  |some e,some n,some c=>
   match zeroCells P e,decide (0<=n)&&decide (n<=c)&&decide (c*P.bytesOf e<=room)&&decide (c<=room)with
   |some z,true=>match Nat.beq z.length (P.cellsOf e),Z6 h z with
    |true,some (row,[])=>some (one (.arr (fr 0) 0 n.toNat),[(fr 0,some (.arr (P.cellsOf e) (List.replicate n.toNat row)))])
    |_,_=>none
   |_,_=>none
  |_,_,_=>none
 |.load t a=>match n5 (ev a)with
  |.c (.ptr id row off)=>match h id with
   |some (.var cells)=>match row with
    |0=>match M0 P t cells off with|some v=>some (.one v,[])|none=>none
    |_=>none
   |some (.arr _ rows)=>match rows[row]? with
    |some r=>match M0 P t (r.map .d) off with|some v=>some (.one v,[])|none=>none
    |none=>none
   |some (.nar _ rows outs)=>match rows[row]? with
    |some r=>match W3 h outs row 0 r with
     |some l=>match M0 P t l off with|some v=>some (.one v,[])|none=>none
     |none=>none
    |none=>none
   |none=>none
  |.c (.dp r off)=>match M0 P t (r.map .d) off with|some v=>some (.one v,[])|none=>none
  |_=>none
 |.store t a x=>match n5 (ev a),n5 (ev x)with
  |_,.junk=>none
  |.c (.ptr id row off),v=>
   let l:=t7 v
   match (match P.info? t with|some i=>Nat.beq l.length i.size|none=>false)with
   |false=>none
   |true=>match h id with
    |some (.var cells)=>match row,Nat.ble (off+l.length) cells.length with
     |0,true=>some (.one .junk,[(id,some (.var (cells.take off++l++cells.drop (off+l.length))))])
     |_,_=>none
    |some (.arr k rows)=>match b2u lend&&l.any c1u with
     |false=>match rows[row]?,Z6 h l with
      |some r,some (ds,kills)=>match Nat.ble (off+l.length) r.length&&!(kills.any fun u=>Nat.beq u.1 id)with
       |true=>some (.one .junk,kills++[(id,some (.arr k (rows.set row (r.take off++ds++r.drop (off+l.length)))))])
       |false=>none
      |_,_=>none
     |true=>match rows[row]?,C8 h l with
      |some r,some (ds,kills)=>match Nat.ble (off+l.length) r.length&&!(kills.any fun u=>Nat.beq u.1 id)&&a1a (kills.map (·.1))with
       |true=>some (.one .junk,kills++[(id,some (.nar k ((rows.map (List.map O.d)).set row ((r.map O.d).take off++ds++(r.map O.d).drop (off+l.length))) []))])
       |false=>none
      |_,_=>none
    |some (.nar k rows [])=>match rows[row]?,C8 h l with
     |some r,some (ds,kills)=>match Nat.ble (off+l.length) r.length&&!(kills.any fun u=>Nat.beq u.1 id)&&a1a (kills.map (·.1))with
      |true=>some (.one .junk,kills++[(id,some (.nar k (rows.set row (r.take off++ds++r.drop (off+l.length))) []))])
      |false=>none
     |_,_=>none
    |some (.nar _ _ (_::_))=>none
    |none=>none
  |_,_=>none
 |.fieldAddr t x i=>match P.underlying t with
  |some (.struct fs)=>match fs[i]? with
   |some f=>match Nat.ble 1 (P.cellsOf f.type),n5 (ev x)with
    |true,.c (.ptr id r o)=>match h id with|some _=>some (one (.ptr id r (o+f.offset)),[])|none=>none
    |true,.c (.dp r o)=>some (one (.dp r (o+f.offset)),[])
    |_,_=>none
   |none=>none
  |_=>none
 |.indexAddr t x i=>match D6 P t,a1u (n5 (ev i))with
  |some e,some n=>match P.info? e with
   |none=>none
   |some _=>match n5 (ev x)with
   |.c (.arr id off len)=>match decide (0<=n)&&decide (n<len),h id with
    |true,some (.arr k _)=>match Nat.beq k (P.cellsOf e)with
     |true=>some (one (.ptr id (off+n.toNat) 0),[])
     |false=>none
    |true,some (.nar k _ _)=>match Nat.beq k (P.cellsOf e)with
     |true=>some (one (.ptr id (off+n.toNat) 0),[])
     |false=>none
    |_,_=>none
   |.c (.d (.sl k rows))=>match decide (0<=n),rows[n.toNat]?,Nat.beq k (P.cellsOf e)with
    |true,some r,true=>some (one (.dp r 0),[])
    |_,_,_=>none
   |_=>none
  |_,_=>none
 |.slice t x lo hi none=>U0 (a4r P h t (n5 (ev x)) (lo.map fun x=>n5 (ev x)) (hi.map fun x=>n5 (ev x)))
 |.makeFunc (.func f) first captured=>match first.toList,(captured.toList.map fun x=>n5 (ev x)).mapM a4s with
  |[],some ids=>some (one (.fn f ids),[])
  |_,_=>none
 |.call {callee:=.builtin b,args,argTypes}=>
  match b,(args.toList.map fun x=>n5 (ev x))with
  |.len,[x]=>match A1 h x with
   |some n=>match (argTypes[0]?).bind (D6 P)with
    |some _=>some (one (.d (.v (.int .i64 n))),[])
    |none=>none
   |none=>match C7 x with
    |some a=>U0 (i8 P (Builtin.len_ argTypes 0 #[a]))
    |none=>none
  |.append,[s,x]=>match argTypes[0]?,argTypes[1]? with
   |some t,some u=>match P.underlying u with
    |some (.slice _)=>match x with
     |.c (.arr x5 0 len)=>match h x5 with
      |some (.nar _ new [])=>a2d P fr h t s x5 new len
      |_=>F7 P fr h t s x
     |_=>F7 P fr h t s x
    |some .string=>F7 P fr h t s x
    |_=>none
   |_,_=>none
  |.copy,[d,s]=>match argTypes[0]? with
   |some t=>a7x P h t d s
   |none=>none
  |.min,[x,y]=>match C7 x,C7 y with
   |some a,some b=>U0 (i8 P (Builtin.min_ argTypes 0 #[a,b]))
   |_,_=>none
  |.max,[x,y]=>match C7 x,C7 y with
   |some a,some b=>U0 (i8 P (Builtin.max_ argTypes 0 #[a,b]))
   |_,_=>none
  |_,_=>none
 |.call {callee:=.value f,args,..}=>match n5 (ev f)with
  |.c (.fn g caps)=>match a6a P g,caps.all (fun id=>(h id).isSome)with
   |true,true=>S3 lend call fr h g ((args.toList.map fun x=>n5 (ev x))++caps.map fun id=>.c (.ptr id 0 0))
   |_,_=>none
  |_=>none
 |_=>none
def d2c(v:Value):W:=.one (G3 v)
def evA(tm:List W):Operand->W
 |.tmp t=>match tm[t]? with|some w=>w|none=>.one .junk
 |.const v=>d2c v
 |.global _=>.one .junk
 |.func f=>one (.fn f [])
def C9(tm:List W)(dst:Option Tmp)(w:W):List W:=
 match dst with
 |some d=>tm.set d w
 |none=>tm
def G7(ops:List Oper)(tm:List W)(o:Oper):Option Bool:=
 match o.guard with
 |none=>some true
 |some (j,want)=>match (ops[j]?).bind (·.dst)with
  |none=>none
  |some d=>match tm[d]? with
   |some (.one (.c (.d (.v (.bool b)))))=>some (match want with|true=>b|false=>!b)
   |some (.tup [])=>some false
   |_=>none
def a5j(P:Program)(lend:FuncId->Bool)(call:Call)(ops:List Oper)(n0:Nat)(i:Nat)(o:Oper)(tm:List W)(h:Hp):Option (List W×Hp):=
 match G7 ops tm o with
 |none=>none
 |some false=>some (C9 tm o.dst (.tup []),h)
 |some true=>
  match B8 P lend call (fun k=>n0+i+ops.length*k) (evA tm) h o.op with
  |some (w,up)=>some (C9 tm o.dst w,m0 h up)
  |none=>none
def E5(P:Program)(lend:FuncId->Bool)(call:Call)(ops:List Oper)(n0:Nat):Nat->List Oper->List W->Hp->Option (List W×Hp)
 |_,[],tm,h=>some (tm,h)
 |i,o::r,tm,h=>match a5j P lend call ops n0 i o tm h with
  |some (tm',h')=>E5 P lend call ops n0 (i+1) r tm' h'
  |none=>none
def A3(o:Op):List Nat:=o.operands.toList.filterMap fun|.tmp t=>some t|_=>none
def O6(ts:List Nat)(tm:List W):Operand->W
 |.tmp t=>match ts.elem t with|true=>evA tm (.tmp t)|false=>.one .junk
 |x=>evA tm x
def b2v(h:Hp)(i:Nat):List Nat:=match h i with|some b=>d7a b|none=>[]
def c6s(h:Hp)(i:Nat):List Nat:=match h i with|some (.nar _ _ outs)=>outs.map (·.2.2)|_=>[]
def Y1(ev:Operand->W)(h:Hp)(o:Op):List Nat:=
 match o with
 |.call {callee:=.value _,..}=>C1 h 400 (o.operands.toList.flatMap fun x=>a2j (ev x)) []
 |.load _ a=>a2j (ev a)++(a2j (ev a)).flatMap (c6s h)
 |_=>o.operands.toList.flatMap fun x=>a2j (ev x)
def cut(ft:List Nat)(h:Hp):Hp:=fun id=>match ft.elem id with|true=>h id|false=>none
def b2w(h:Hp)(ids:List Nat):Bool:=(ids++(C1 h 400 ids []).flatMap (b2v h)).all fun x=>(C1 h 400 ids []).elem x
def a4u(lend:FuncId->Bool)(ev:Operand->W)(h:Hp):Op->Bool
 |.call {callee:=.value f,args,..}=>match n5 (ev f)with
  |.c (.fn g caps)=>lend g||b2w h (((args.toList.map fun x=>n5 (ev x))++caps.map fun id=>V.c (.ptr id 0 0)).flatMap a1t)
  |_=>false
 |_=>true
structure K6 where
 i:Nat
 foot:List Nat
 keys:List Nat
def z0(P:Program)(lend:FuncId->Bool)(call:Call)(ops:List Oper)(n0:Nat):List Nat->List W->Hp->List K6->Option (List W×Hp×List K6)
 |[],tm,h,rs=>some (tm,h,rs)
 |i::r,tm,h,rs=>match ops[i]? with
  |none=>none
  |some o=>match G7 ops tm o with
   |none=>none
   |some false=>z0 P lend call ops n0 r (C9 tm o.dst (.tup [])) h rs
   |some true=>
    let ev:=O6 (A3 o.op) tm
    let ft:=Y1 ev h o.op
    match B8 P lend call (fun k=>n0+i+ops.length*k) ev (cut ft h) o.op,a4u lend ev (cut ft h) o.op with
    |some (w,up),true=>z0 P lend call ops n0 r (C9 tm o.dst w) (m0 h up) (⟨i,ft,up.map (·.1)⟩::rs)
    |_,_=>none
def a0j(ops:List Oper)(i:Nat):List Nat:=
 match ops[i]? with
 |some o=>o.after.toList.filterMap fun e=>match Region.binds .any e with|true=>some e.on|false=>none
 |none=>[]
def c1n(l m:List Nat):List Nat:=l++m.filter fun x=>!l.elem x
def a5k:List (Nat×List Nat)->Nat->List Nat
 |[],_=>[]
 |(j,l)::r,i=>match Nat.beq j i with|true=>l|false=>a5k r i
def a0w(ops:List Oper):List Nat->List (Nat×List Nat)->List (Nat×List Nat)
 |[],acc=>acc
 |i::r,acc=>a0w ops r ((i,(a0j ops i).foldl (fun l e=>c1n l (a5k acc e)) (a0j ops i))::acc)
def K7(A:List (Nat×List Nat))(i j:Nat):Bool:=(a5k A i).elem j||(a5k A j).elem i
def b0j(l m:List Nat):Bool:=l.all fun x=>!m.elem x
def z9(ops:List Oper)(ord:List Nat)(rs:List K6):Bool:=
 rs.all fun p=>p.keys.isEmpty||rs.all fun q=>Nat.beq p.i q.i||(b0j p.keys q.foot&&b0j p.keys q.keys)||K7 (a0w ops ord []) p.i q.i
def a9d(ops:List Oper):List Nat->List Nat->Bool
 |_,[]=>true
 |done,i::r=>(a0j ops i).all (fun e=>done.elem e)&&!done.elem i&&a9d ops (i::done) r
def b5x(ops:List Oper)(i j:Nat):Bool:=
 match ops[i]?,ops[j]? with
 |some x,some y=>x.apart ops.toArray y
 |_,_=>false
def b4w(ops:List Oper)(ord:List Nat):Bool:=
 let A:=a0w ops ord []
 Nat.beq ord.length ops.length&&a9d ops [] ord&&Region.noSelect ops.toArray&&(List.range ops.length).all (fun i=>ord.elem i)&&
  ord.all fun i=>ord.all fun j=>Nat.beq i j||b5x ops i j||K7 A i j
def b2x(P:Program)(lend:FuncId->Bool)(call:Call)(ops:List Oper)(ord:List Nat)(st:St):Option St:=
 match z0 P lend call ops st.next ord st.tm st.h []with
 |none=>none
 |some (tm,h,rs)=>
  if z9 ops ord rs=true then some {st with tm,h,next:=st.next+ops.length*64}else none
def a3t(h:Hp)(F:List Nat):S->S
 |.arr id off len=>match F.elem id,h id with
  |true,some (.arr k rows)=>.d (.sl k ((rows.drop off).take len))
  |true,some (.nar k rows [])=>.d (.sl k (((rows.drop off).take len).map (List.map O.flat)))
  |_,_=>.arr id off len
 |s=>s
def c1w(h:Hp)(F:List Nat):V->V
 |.c s=>.c (a3t h F s)
 |.agg l=>.agg (l.map (a3t h F))
 |.junk=>.junk
def b4x(h:Hp)(F:List Nat):W->W
 |.one v=>.one (c1w h F v)
 |.tup l=>.tup (l.map (c1w h F))
def b0k(h:Hp)(F:List Nat):Hp:=fun id=>
 match h id with
 |some (.var cells)=>some (.var (cells.map (a3t h F)))
 |some (.arr k rows)=>match F.elem id with|true=>none|false=>some (.arr k rows)
 |some (.nar k rows [])=>match F.elem id with|true=>none|false=>some (.nar k rows [])
 |some (.nar k rows (o::os))=>some (.nar k rows (o::os))
 |none=>none
def a1p(ts:List Nat)(st:St):St:=
 match ts with
 |[]=>st
 |_=>
  let F:=C1 st.h 400 (ts.flatMap fun t=>match st.tm[t]? with|some w=>a2j w|none=>[]) []
  {st with tm:=st.tm.map (b4x st.h F),h:=b0k st.h F}
def b5y(st:St)(t c:Nat):Option (Nat×Nat):=match st.tm[t]? with
 |some (.one (.c (.arr id off _)))=>some (id,off)
 |some (.one (.agg l))=>match l[c]? with|some (.arr id off _)=>some (id,off)|_=>none
 |some (.one (.c (.ptr id 0 0)))=>match st.h id with
  |some (.var cells)=>match cells[c]? with|some (.arr id' off _)=>some (id',off)|_=>none
  |_=>none
 |_=>none
def b5z(st:St)(r:Nat):Option Nat:=match st.tm[r]? with
 |some (.one (.c (.d (.v (.int _ n)))))=>match decide (0<=n)with|true=>some n.toNat|false=>none
 |_=>none
def b0l:Pre->St->Option St
 |.up t c r j,st=>match b5y st t c,b5z st r with
  |some (id,off),some i=>match st.h id with
   |some (.nar k rows outs)=>match rows[off+i]?,B3 (off+i) j outs with
    |some row,none=>match row[j]? with
     |some (.own k' rs)=>some {st with h:=m0 st.h [(id,some (.nar k rows ((off+i,j,st.next)::outs))),(st.next,some (.arr k' rs))],next:=st.next+1}
     |some (.d _)=>some st
     |none=>none
    |_,_=>none
   |_=>none
  |_,_=>none
 |.down t c r j,st=>match b5y st t c,b5z st r with
  |some (id,off),some i=>match st.h id with
   |some (.nar k rows outs)=>match B3 (off+i) j outs with
    |some id'=>match st.h id' with
     |some (.arr k' rs)=>some {st with h:=m0 st.h [(id',none),(id,some (.nar k (a3s rows (off+i) j (.own k' rs)) (F6 (off+i) j outs)))]}
     |_=>none
    |none=>some st
   |_=>none
  |_,_=>none
 |.lose t c r j,st=>match b5y st t c,b5z st r with
  |some (id,off),some i=>match st.h id with
   |some (.nar k rows outs)=>some {st with h:=m0 st.h [(id,some (.nar k (a3s rows (off+i) j (.d .any)) (F6 (off+i) j outs)))]}
   |_=>none
  |_,_=>none
 |.nest t c,st=>match b5y st t c with
  |some (id,_)=>match st.h id with
   |some (.arr k rows)=>some {st with h:=m0 st.h [(id,some (.nar k (rows.map (List.map O.d)) []))]}
   |_=>none
  |none=>none
def X7:List Pre->St->Option St
 |[],st=>some st
 |p::ps,st=>match b0l p st with|some st'=>X7 ps st'|none=>none
def a5l(ord:List Nat)(n:Nat):List Nat:=match ord with|[]=>List.range n|l=>l
def a5i(P:Program)(T:C0)(call:Call)(f:FuncId)(id:Nat)(ops:List Oper)(draw:Bool)(st0:St):Option St:=
 match X7 (T.pre f id) (a1p (T.frz f id) st0)with
 |none=>none
 |some st=>
 match draw with
 |false=>match E5 P T.lend call ops st.next 0 ops st.tm st.h with
  |some (tm,h)=>some {st with tm,h,next:=st.next+ops.length*64}
  |none=>none
 |true=>b2x P T.lend call ops (a5l (T.ord f id) ops.length) st
def K8(T:C0)(f:FuncId):Code->Bool
 |.region id ops true=>b4w ops.toList (a5l (T.ord f id) ops.toList.length)
 |.seq a b=>K8 T f a&&K8 T f b
 |.cond _ a b=>K8 T f a&&K8 T f b
 |.block _ b=>K8 T f b
 |.loop b=>K8 T f b
 |_=>true
def S7(keep:List Nat):Nat->List W->List W
 |_,[]=>[]
 |i,w::r=>(match keep.elem i with|true=>w|false=>.one .junk)::S7 keep (i+1) r
def a4v(st:St)(roots:List Nat):List Nat:=
 C1 st.h 400 ((List.range st.io).flatMap (b2v st.h)++roots) (List.range st.io)
def a6v(seen:List Nat)(h:Hp):List (Option k7):=seen.map fun id=>(h id).map (Z1 (ix seen))
def G4(keep:List Nat)(st:St):St:=
 let tm:=S7 keep 0 st.tm
 let seen:=a4v st (tm.flatMap a2j)
 {tm:=tm.map (b4v (ix seen)),h:=c7 (a6v seen st.h),next:=seen.length,io:=st.io}
def J7(body:St->Option (Ex×St))(keep:List Nat):Nat->St->Option (Ex×St)
 |0,_=>none
 |k+1,st=>match body (G4 keep st)with
  |some (.normal,st')=>J7 body keep k st'
  |r=>r
def e7:Code->Nat
 |.region id _ _=>id
 |.seq a _=>e7 a
 |.block _ b=>e7 b
 |.cond _ a _=>e7 a
 |.loop b=>e7 b
 |_=>0
abbrev a7y:=(St->Option (Ex×St))->List Nat->St->Option (Ex×St)
def o5(P:Program)(T:C0)(lp:a7y)(call:Call)(f:FuncId):Code->St->Option (Ex×St)
 |.skip,st=>some (.normal,st)
 |.region id ops draw,st=>match a5i P T call f id ops.toList draw st with|some st'=>some (.normal,st')|none=>none
 |.seq a b,st=>match o5 P T lp call f a st with
  |some (.normal,st')=>o5 P T lp call f b st'
  |r=>r
 |.cond c a b,st=>match evA st.tm c with
  |.one (.c (.d (.v (.bool t))))=>match t with|true=>o5 P T lp call f a st|false=>o5 P T lp call f b st
  |_=>none
 |.block id b,st=>match o5 P T lp call f b st with
  |some (.exit j,st')=>match Nat.beq j id with|true=>some (.normal,st')|false=>some (.exit j,st')
  |r=>r
 |.loop b,st=>match lp (fun s=>o5 P T lp call f b s) (T.keep f (e7 b)) st with
  |some (ex,st')=>some (ex,G4 (T.out f (e7 b)) st')
  |none=>none
 |.exit id,st=>some (.exit id,st)
 |.ret,st=>some (.ret,st)
 |_,_=>none
def a9e(P:Program)(st:St):ResultVar->Option V
 |.tmp t=>match st.tm[t]? with|some (.one v)=>some v|_=>none
 |.cell t ty=>match st.tm[t]? with
  |some (.one (.c (.ptr id 0 off)))=>match st.h id with
   |some (.var cells)=>M0 P ty cells off
   |_=>none
  |_=>none
def u5(P:Program)(st:St):List ResultVar->Option (List V)
 |[]=>some []
 |r::rs=>match a9e P st r,u5 P st rs with
  |some x,some xs=>some (x::xs)
  |_,_=>none
def c9f(P:Program)(st:St)(rs:List ResultVar):Option W:=
 match rs with
 |[r]=>match a9e P st r with|some v=>some (.one v)|none=>none
 |rs=>match u5 P st rs with|some l=>some (.tup l)|none=>none
def a1c(n:Nat)(args:List V)(bs:List (Option k7)):St:=
 {tm:=args.map .one++List.replicate (n-args.length) (.one .junk),h:=c7 bs,next:=bs.length,io:=bs.length}
def b6a(st:St)(w:W):W×List (Option k7):=
 let seen:=a4v st (a2j w)
 (b4v (ix seen) w,a6v seen st.h)
def b0m(P:Program)(fin:Bool)(fn:Func)(st:St):Option (W×List (Option k7)):=
 match c9f P st fn.results.toList with
 |none=>none
 |some w=>match fin with
  |false=>some (b6a st w)
  |true=>
   let F:=(C1 st.h 400 (a2j w) []).filter fun id=>Nat.ble st.io id
   some (b6a {st with h:=b0k st.h F} (b4x st.h F w))
def a2o(P:Program)(T:C0)(lp:a7y)(call:Call)(f:FuncId)(fn:Func)(c:Code)(args:List V)(bs:List (Option k7)):Option (W×List (Option k7)):=
 match o5 P T lp call f c (a1c fn.ntmps args bs)with
 |some (.normal,st)=>b0m P (T.fin f) fn st
 |some (.ret,st)=>b0m P (T.fin f) fn st
 |_=>none
def fnA(P:Program)(T:C0)(lp:Nat->a7y)(lib:Call):Nat->Call
 |0,_,_,_=>none
 |k+1,f,args,bs=>
  match lib f args bs with
  |some r=>some r
  |none=>
   match T.on f,P.funcs[f]? with
   |true,some fn=>match fn.body with
    |none=>none
    |some c=>a2o P T (lp k) (fnA P T lp lib k) f fn c args bs
   |_,_=>none
noncomputable def lim{α:Type}(f:Nat->Option α):Option α:=open Classical in if h: ∃k r,f k=some r then f (Classical.choose h)else none
noncomputable def r7:a7y:=fun body keep st=>lim fun k=>J7 body keep k st
noncomputable def c6(P:Program)(T:C0)(lib:Call):Call:=fun f args bs=>lim fun k=>fnA P T (fun _=>r7) lib k f args bs
end Go.Vsi
namespace Go.Vsi
def l0{α:Type}(R:α->Value->Prop)(cs:Array Value)(o:Nat)(l:List α):Prop:=
 ∀j s,l[j]?=some s-> ∃v,cs[o+j]?=some v∧R s v
inductive t8(w:World)(N:Nat->Prop):D->Value->Prop
 |v {x:Value}:G2 x=true->t8 w N (.v x) x
 |nil {k:Nat} {a:Option Addr} {c:Nat}:t8 w N (.sl k []) (.slice a 0 c)
 |sl {k:Nat} {rows:List (List D)} {b o c:Nat} (val:Nat->Nat->Value):rows.length<=c->N b->
   (∀i r,rows[i]?=some r->r.length=k∧ ∀j,j<k->w.cell? ⟨b,o+i*k+j,none⟩=some (val i j))->
   (∀i r j d,rows[i]?=some r->r[j]?=some d->t8 w N d (val i j))->
   t8 w N (.sl k rows) (.slice (some ⟨b,o,none⟩) rows.length c)
 |any {x:Value}:x.oneCell'=true->t8 w N .any x
 |lit {x:Value}:x.oneCell'=true->t8 w N (.lit x) x
structure Loc where
 blk:Nat
 off:Nat
 room:Nat
 deriving Inhabited
structure Emb where
 loc:Nat->Loc
 own:Nat->Option (Nat×Nat)
instance:CoeFun Emb (fun _=>Nat->Loc):=⟨Emb.loc⟩
def k7.stride:k7->Nat
 |.var _=>0
 |.arr k _=>k
 |.nar k _ _=>k
def k7.arrOf:k7->Option (Nat×Nat)
 |.var _=>none
 |.arr k rows=>some (k,rows.length)
 |.nar k rows _=>some (k,rows.length)
structure Cx where
 w:World
 N:Nat->Prop
 E:Emb
 U:Nat->Prop
 h:Hp
def r8(c:Cx):S->Value->Prop
 |.d x,v=>t8 c.w c.N x v
 |.arr id off len,v=>v.oneCell'=true∧c.U id∧ ∀b,c.h id=some b-> ∃k n,b.arrOf=some (k,n)∧off+len<=n∧ ∃a cap,v=.slice a len cap∧len<=cap∧off+cap<=(c.E id).room∧(cap=0∨a=some ⟨(c.E id).blk,(c.E id).off+off*k,none⟩)
 |.ptr id row off,v=>v.oneCell'=true∧c.U id∧ ∀b,c.h id=some b->v=.pointer (some ⟨(c.E id).blk,(c.E id).off+row*b.stride+off,none⟩)
 |.dp r off,v=> ∃b o,v=.pointer (some ⟨b,o+off,none⟩)∧c.N b∧ ∀j d,r[j]?=some d-> ∃x,c.w.cell? ⟨b,o+j,none⟩=some x∧t8 c.w c.N d x
 |.fn f caps,v=> ∃cs:Array Value,v=.func (.func f) #[] cs∧cs.size=caps.length∧ ∀(i id:Nat),caps[i]?=some id->c.U id∧ ∃x:Value,cs[i]?=some x∧x.oneCell'=true∧ ∀b,c.h id=some b->x=.pointer (some ⟨(c.E id).blk,(c.E id).off,none⟩)
 |.junk,v=>v.oneCell'=true
def r9(c:Cx):V->Value->Prop
 |.c s,v=>r8 c s v
 |.agg l,v=> ∃cs:Array Value,v=.agg cs∧cs.size=l.length∧l0 (r8 c) cs 0 l
 |.junk,_=>True
def x7(c:Cx):W->Value->Prop
 |.one v,x=>r9 c v x
 |.tup l,x=> ∃vs:Array Value,x=.tuple vs∧vs.size=l.length∧l0 (r9 c) vs 0 l
def b0n(c:Cx)(k:Nat)(rows:List (List D))(p:Loc):Prop:=
 ∃cs ty fz,c.w.heap[p.blk]?=some (.cells cs ty fz)∧(∀i,i<cs.size-> ¬(fz.1<=i∧i<fz.2))∧
  rows.length<=p.room∧p.off+p.room*k<=cs.size∧ ∀i r,rows[i]?=some r->r.length=k∧l0 (t8 c.w c.N) cs (p.off+i*k) r
def X8(c:Cx)(g a:Nat):Option Nat->O->Value->Prop
 |some id,_,v=>v.oneCell'=true∧c.U id∧ ∀b,c.h id=some b-> ∃k n,b.arrOf=some (k,n)∧n<=(c.E id).room∧ ∃a0,v=.slice a0 n (c.E id).room∧((c.E id).room=0∨a0=some ⟨(c.E id).blk,(c.E id).off,none⟩)
 |none,.d x,v=>t8 c.w c.N x v
 |none,.own k rows,v=> ∃p:Loc,(∃a0,v=.slice a0 rows.length p.room∧(p.room=0∨a0=some ⟨p.blk,p.off,none⟩))∧c.E.own p.blk=some (g,a)∧b0n c k rows p
def I6(c:Cx)(b:k7)(p:Loc):Prop:=
 ∃cs ty fz,c.w.heap[p.blk]?=some (.cells cs ty fz)∧(∀i,i<cs.size-> ¬(fz.1<=i∧i<fz.2))∧
  match b with
  |.var cells=>p.off+cells.length<=cs.size∧l0 (r8 c) cs p.off cells
  |.arr k rows=>rows.length<=p.room∧p.off+p.room*k<=cs.size∧ ∀i r,rows[i]?=some r->r.length=k∧l0 (t8 c.w c.N) cs (p.off+i*k) r
  |.nar k rows outs=>rows.length<=p.room∧p.off+p.room*k<=cs.size∧ ∀i r,rows[i]?=some r->r.length=k∧ ∀j o,r[j]?=some o-> ∃v,cs[p.off+i*k+j]?=some v∧X8 c p.blk (p.off+i*k+j) (B3 i j outs) o v
structure o6(c:Cx):Prop where
 blk: ∀id b,c.h id=some b->I6 c b (c.E id)
 used: ∀id b,c.h id=some b->c.U id
 inj: ∀id id' b b',c.h id=some b->c.h id'=some b'->id≠id'->(c.E id).blk≠(c.E id').blk
 apart: ∀id b,c.h id=some b-> ¬c.N (c.E id).blk
 low: ∀g,c.N g->g<c.w.heap.size
 nest: ∀g a id b,c.E.own g=some a->c.h id=some b->(c.E id).blk=a.1-> ¬c.N g∧ ∀id' b',c.h id'=some b'->(c.E id').blk≠g
 olow: ∀g a,c.E.own g=some a->g<c.w.heap.size∧a.1<c.w.heap.size
theorem t8.one{w:World}{N:Nat->Prop}{d:D}{v:Value}(h:t8 w N d v):v.oneCell'=true:=by
 cases h with
 |v hp=>revert hp;cases v<;>simp[G2,Value.oneCell']
 |nil=>rfl
 |sl=>rfl
 |any h=>exact h
 |lit h=>exact h
theorem r8.one{c:Cx}{s:S}{v:Value}(h:r8 c s v):v.oneCell'=true:=by
 cases s with
 |d x=>exact t8.one h
 |arr id off len=>exact h.1
 |ptr id row off=>exact h.1
 |dp r off=>obtain⟨b,o,rfl,_⟩:=h;rfl
 |fn f caps=>obtain⟨cs,rfl,_⟩:=h;rfl
 |junk=>exact h
def n9:k7->k7->Prop
 |.var l,.var l'=>l.length=l'.length
 |.var _,_=>False
 |_,.var _=>False
 |a,b=>a.arrOf=b.arrOf
theorem n9.refl(b:k7):n9 b b:=by cases b<;>simp[n9]
theorem n9.trans{a b c:k7}(h:n9 a b)(k:n9 b c):n9 a c:=by
 cases a<;>cases b<;>cases c<;>simp_all[n9]
theorem n9.stride{a b:k7}(h:n9 a b):a.stride=b.stride:=by
 cases a<;>cases b<;>simp_all[n9,k7.stride,k7.arrOf]
theorem n9.arrOf{a b:k7}(h:n9 a b):a.arrOf=b.arrOf:=by
 cases a<;>cases b<;>simp_all[n9,k7.arrOf]
structure A4(c c':Cx):Prop where
 use: ∀id,c.U id->c'.U id
 emb: ∀id,c.U id->c'.E id=c.E id
 old: ∀id b',c.U id->c'.h id=some b'-> ∃b,c.h id=some b∧n9 b b'
 n: ∀g,c.N g->c'.N g∧c'.w.heap[g]?=c.w.heap[g]?
theorem A4.refl(c:Cx):A4 c c:=⟨fun _ h=>h,fun _ _=>rfl,fun _ b _ h=>⟨b,h,n9.refl b⟩,fun _ h=>⟨h,rfl⟩⟩
theorem A4.trans{a b c:Cx}(h:A4 a b)(k:A4 b c):A4 a c:=
 ⟨fun id hu=>k.use id (h.use id hu),fun id hu=>(k.emb id (h.use id hu)).trans (h.emb id hu),
  fun id b' hu hb=>by
   obtain⟨b1,h1,c1⟩:=k.old id b' (h.use id hu) hb
   obtain⟨b2,h2,c2⟩:=h.old id b1 hu h1
   exact⟨b2,h2,c2.trans c1⟩,
  fun g hg=>⟨(k.n g (h.n g hg).1).1,(k.n g (h.n g hg).1).2.trans (h.n g hg).2⟩⟩
theorem a4w{w w':World}{g:Nat}(h:w'.heap[g]?=w.heap[g]?)(o:Nat):w'.cell? ⟨g,o,none⟩=w.cell? ⟨g,o,none⟩:=by
 simp only[World.cell?,h]
theorem t8.mono{w w':World}{N N':Nat->Prop}(hn: ∀g,N g->N' g∧w'.heap[g]?=w.heap[g]?){d:D}{v:Value}(h:t8 w N d v):t8 w' N' d v:=by
 induction h with
 |v hp=>exact .v hp
 |nil=>exact .nil
 |any h=>exact .any h
 |lit h=>exact .lit h
 |sl val hl hb hc _ ih=>
  refine .sl val hl (hn _ hb).1 (fun i r hr=>⟨(hc i r hr).1,fun j hj=>?_⟩) (fun i r j d hr hd=>ih i r j d hr hd)
  rw[a4w (hn _ hb).2]
  exact(hc i r hr).2 j hj
theorem r8.mono{c c':Cx}(k:A4 c c'){s:S}{v:Value}(h:r8 c s v):r8 c' s v:=by
 cases s with
 |d x=>exact t8.mono k.n h
 |arr id off len=>
  obtain⟨h1,h2,h3⟩:=h
  refine⟨h1,k.use _ h2,fun b' hb'=>?_⟩
  obtain⟨b,hb,hc⟩:=k.old _ _ h2 hb'
  obtain⟨q,n,hq,hl,a,cap,hv,hlc,hr,ha⟩:=h3 b hb
  refine⟨q,n,hc.arrOf▸hq,by omega,a,cap,hv,hlc,?_,?_⟩
  ·rw[k.emb _ h2];exact hr
  ·rw[k.emb _ h2];exact ha
 |ptr id row off=>
  obtain⟨h1,h2,h3⟩:=h
  refine⟨h1,k.use _ h2,fun b' hb'=>?_⟩
  obtain⟨b,hb,hc⟩:=k.old _ _ h2 hb'
  rw[k.emb _ h2,<-hc.stride]
  exact h3 b hb
 |dp r off=>
  obtain⟨b,o,rfl,hb,hc⟩:=h
  refine⟨b,o,rfl,(k.n _ hb).1,fun j d hj=>?_⟩
  obtain⟨x,hx,hd⟩:=hc j d hj
  exact⟨x,by rw[a4w (k.n _ hb).2];exact hx,t8.mono k.n hd⟩
 |fn f caps=>
  obtain⟨cs,rfl,hs,hc⟩:=h
  refine⟨cs,rfl,hs,fun i id hi=>?_⟩
  obtain⟨hu,x,hx,ho,hb⟩:=hc i id hi
  refine⟨k.use _ hu,x,hx,ho,fun b' hb'=>?_⟩
  obtain⟨b,hb1,_⟩:=k.old _ _ hu hb'
  rw[k.emb _ hu]
  exact hb b hb1
 |junk=>exact h
theorem l0.imp{α:Type}{R R':α->Value->Prop}(hr: ∀s v,R s v->R' s v){cs:Array Value}{o:Nat}{l:List α}(h:l0 R cs o l):l0 R' cs o l:=
 fun j s hj=>let⟨v,hv,hs⟩:=h j s hj;⟨v,hv,hr _ _ hs⟩
theorem r9.mono{c c':Cx}(k:A4 c c'){s:V}{v:Value}(h:r9 c s v):r9 c' s v:=by
 cases s with
 |c s=>exact r8.mono k h
 |agg l=>obtain⟨cs,rfl,hs,hc⟩:=h;exact⟨cs,rfl,hs,hc.imp fun _ _=>r8.mono k⟩
 |junk=>trivial
theorem x7.mono{c c':Cx}(k:A4 c c'){s:W}{v:Value}(h:x7 c s v):x7 c' s v:=by
 cases s with
 |one s=>exact r9.mono k h
 |tup l=>obtain⟨cs,rfl,hs,hc⟩:=h;exact⟨cs,rfl,hs,hc.imp fun _ _=>r9.mono k⟩
theorem b0n.mono{c c':Cx}(k:A4 c c'){q:Nat}{rows:List (List D)}{p:Loc}(h:b0n c q rows p)(hw:c'.w.heap[p.blk]?=c.w.heap[p.blk]?):b0n c' q rows p:=by
 obtain⟨cs,ty,fz,h1,h2,h3⟩:=h
 exact⟨cs,ty,fz,hw.trans h1,h2,h3.1,h3.2.1,fun i r hr=>⟨(h3.2.2 i r hr).1,(h3.2.2 i r hr).2.imp fun _ _=>t8.mono k.n⟩⟩
def c9g(c c':Cx)(g:Nat):Prop:= ∀x o,c.E.own x=some (g,o)->c'.E.own x=some (g,o)∧c'.w.heap[x]?=c.w.heap[x]?
theorem X8.mono{c c':Cx}(k:A4 c c'){g a:Nat}{i:Option Nat}{o:O}{v:Value}(h:X8 c g a i o v)(hn:c9g c c' g):X8 c' g a i o v:=by
 cases i with
 |some id=>
  obtain⟨h1,h2,h3⟩:=h
  refine⟨h1,k.use _ h2,fun b' hb'=>?_⟩
  obtain⟨b,hb,hc⟩:=k.old _ _ h2 hb'
  obtain⟨q,n,hq,hl,hv⟩:=h3 b hb
  refine⟨q,n,hc.arrOf▸hq,?_,?_⟩
  ·rw[k.emb _ h2];exact hl
  ·rw[k.emb _ h2];exact hv
 |none=>
  cases o with
  |d x=>exact t8.mono k.n h
  |own q rows=>
   obtain⟨p,h1,h2,h3⟩:=h
   exact⟨p,h1,(hn _ _ h2).1,h3.mono k (hn _ _ h2).2⟩
theorem I6.mono{c c':Cx}(k:A4 c c'){b:k7}{p:Loc}(h:I6 c b p)(hw:c'.w.heap[p.blk]?=c.w.heap[p.blk]?)(hn:c9g c c' p.blk):I6 c' b p:=by
 obtain⟨cs,ty,fz,h1,h2,h3⟩:=h
 refine⟨cs,ty,fz,hw.trans h1,h2,?_⟩
 cases b with
 |var cells=>exact⟨h3.1,h3.2.imp fun _ _=>r8.mono k⟩
 |arr q rows=>
  refine⟨h3.1,h3.2.1,fun i r hr=>⟨(h3.2.2 i r hr).1,(h3.2.2 i r hr).2.imp fun _ _=>t8.mono k.n⟩⟩
 |nar q rows outs=>
  refine⟨h3.1,h3.2.1,fun i r hr=>⟨(h3.2.2 i r hr).1,fun j o ho=>?_⟩⟩
  obtain⟨v,hv,hr2⟩:=(h3.2.2 i r hr).2 j o ho
  exact⟨v,hv,hr2.mono k hn⟩
theorem I6.arr{c:Cx}{k:Nat}{rows:List (List D)}{p:Loc}:I6 c (.arr k rows) p↔b0n c k rows p:=Iff.rfl
theorem l0.nil{α:Type}{R:α->Value->Prop}{cs:Array Value}{o:Nat}:l0 R cs o []:=fun j s h=>by simp at h
theorem l0.cons{α:Type}{R:α->Value->Prop}{cs:Array Value}{o:Nat}{x:α}{l:List α}{v:Value}(h:cs[o]?=some v)(hx:R x v)(hl:l0 R cs (o+1) l):l0 R cs o (x::l):=by
 intro j s hj
 cases j with
 |zero=>simp at hj;subst hj;exact⟨v,by simpa using h,hx⟩
 |succ j=>
  obtain⟨v',hv',hs⟩:=hl j s (by simpa using hj)
  exact⟨v',by rw[show o+(j+1)=o+1+j by omega];exact hv',hs⟩
theorem l0.drop{α:Type}{R:α->Value->Prop}{cs:Array Value}{o:Nat}{l:List α}(h:l0 R cs o l)(n:Nat):l0 R cs (o+n) (l.drop n):=by
 intro j s hj
 obtain⟨v,hv,hs⟩:=h (n+j) s (by simpa using hj)
 exact⟨v,by rw[Nat.add_assoc];exact hv,hs⟩
theorem l0.take{α:Type}{R:α->Value->Prop}{cs:Array Value}{o:Nat}{l:List α}(h:l0 R cs o l)(n:Nat):l0 R cs o (l.take n):=by
 intro j s hj
 rw[List.getElem?_take]at hj
 split at hj
 ·exact h j s hj
 ·cases hj
theorem l0.append{α:Type}{R:α->Value->Prop}{cs:Array Value}{o:Nat}{l l':List α}(h:l0 R cs o l)(h':l0 R cs (o+l.length) l'):l0 R cs o (l++l'):=by
 intro j s hj
 by_cases hl:j<l.length
 ·rw[List.getElem?_append_left hl]at hj;exact h j s hj
 ·rw[List.getElem?_append_right (by omega)]at hj
  obtain⟨v,hv,hs⟩:=h' _ s hj
  exact⟨v,by rw[<-hv];congr 1;omega,hs⟩
end Go.Vsi
namespace Go.Vsi
def own(c:Cx)(g:Nat):Prop:=(∃id b,c.h id=some b∧(c.E id).blk=g)∨ ∃a id b,c.E.own g=some a∧c.h id=some b∧(c.E id).blk=a.1
theorem a3u{c:Cx}(h:o6 c){x o id:Nat}{b:k7}(hx:c.E.own x=some ((c.E id).blk,o))(hb:c.h id=some b){id':Nat}{b':k7}(hb':c.h id'=some b'):(c.E id').blk≠x:=
 (h.nest x _ id b hx hb rfl).2 id' b' hb'
structure u7(c c':Cx):Prop where
 step:A4 c c'
 relh:o6 c'
 os:c'.w.os=c.w.os
 tape:c'.w.tape=c.w.tape
 output:c'.w.output=c.w.output
 size:c.w.heap.size<=c'.w.heap.size
 keep: ∀g,g<c.w.heap.size-> ¬own c g->c'.w.heap[g]?=c.w.heap[g]?
 news: ∀g,c'.N g->c.N g∨c.w.heap.size<=g∨own c g
 owns: ∀g,own c' g->own c g∨c.w.heap.size<=g
 ownk: ∀g,g<c.w.heap.size-> ¬own c g->(∀a,c.E.own g=some a-> ¬own c a.1∧a.1<c.w.heap.size)->c'.E.own g=c.E.own g
 ownr: ∀g a,c'.E.own g=some a->c.E.own g=some a∨own c a.1∨c.w.heap.size<=a.1
theorem u7.refl{c:Cx}(h:o6 c):u7 c c:=
 ⟨A4.refl c,h,rfl,rfl,rfl,Nat.le_refl _,fun _ _ _=>rfl,fun _ h=>.inl h,fun _ h=>.inl h,fun _ _ _ _=>rfl,fun _ _ h=>.inl h⟩
theorem u7.trans{a b c:Cx}(h:u7 a b)(k:u7 b c):u7 a c where
 step:=h.step.trans k.step
 relh:=k.relh
 os:=k.os.trans h.os
 tape:=k.tape.trans h.tape
 output:=k.output.trans h.output
 size:=Nat.le_trans h.size k.size
 keep:=fun g hg ho=>by
  have h1:=h.keep g hg ho
  have h2: ¬own b g:=fun hb=>(h.owns g hb).elim ho fun hs=>by omega
  exact(k.keep g (Nat.lt_of_lt_of_le hg h.size) h2).trans h1
 news:=fun g hg=>by
  rcases k.news g hg with h1|h1|h1
  ·exact h.news g h1
  ·exact .inr (.inl (Nat.le_trans h.size h1))
  ·rcases h.owns g h1 with h2|h2
   ·exact .inr (.inr h2)
   ·exact .inr (.inl h2)
 owns:=fun g hg=>by
  rcases k.owns g hg with h1|h1
  ·exact h.owns g h1
  ·exact .inr (Nat.le_trans h.size h1)
 ownk:=fun g hg ho ha=>by
  have h2: ¬own b g:=fun hb=>(h.owns g hb).elim ho fun hs=>by omega
  have h1:=h.ownk g hg ho ha
  have h3:=h.size
  refine(k.ownk g (Nat.lt_of_lt_of_le hg h.size) h2 fun x hx=>?_).trans h1
  rw[h1]at hx
  obtain⟨y1,y2⟩:=ha x hx
  exact⟨fun h'=>(h.owns _ h').elim y1 (fun hs=>by omega),by omega⟩
 ownr:=fun g a hg=>by
  rcases k.ownr g a hg with h1|h1|h1
  ·exact h.ownr g a h1
  ·rcases h.owns _ h1 with h2|h2
   ·exact .inr (.inl h2)
   ·exact .inr (.inr h2)
  ·exact .inr (.inr (Nat.le_trans h.size h1))
theorem e1s(h:Hp):m0 h []=h:=rfl
theorem E6(h:Hp)(i:Nat)(b:Option k7)(r:List (Nat×Option k7)):m0 h ((i,b)::r)=m0 (m0 h [(i,b)]) r:=rfl
theorem U1(h:Hp)(r s:List (Nat×Option k7)):m0 h (r++s)=m0 (m0 h r) s:=by
 induction r generalizing h with
 |nil=>rfl
 |cons x r ih=>obtain⟨i,b⟩:=x;simp only[List.cons_append];rw[E6,ih,<-E6]
theorem l6(h:Hp)(i:Nat)(b:Option k7)(j:Nat):m0 h [(i,b)] j=if j=i then b else h j:=by
 show(match Nat.beq j i with|true=>b|false=>h j)=_
 by_cases e:j=i
 ·subst e;simp
 ·rw[if_neg e]
  have:Nat.beq j i=false:=by
   cases hq:Nat.beq j i with
   |false=>rfl
   |true=>exact absurd (Nat.eq_of_beq_eq_true hq) e
  rw[this]
theorem b9k{c:Cx}(h:o6 c)(w':World)(hh:w'.heap=c.w.heap)(ho:w'.os=c.w.os)(ht:w'.tape=c.w.tape)(hp:w'.output=c.w.output):u7 c {c with w:=w'}:=by
 have st:A4 c {c with w:=w'}:=⟨fun _ h=>h,fun _ _=>rfl,fun _ b _ h=>⟨b,h,n9.refl b⟩,fun g hg=>⟨hg,by simp only[hh]⟩⟩
 refine⟨st,⟨fun id b hb=>(h.blk id b hb).mono st (by simp only[hh]) (fun x o hx=>⟨hx,by simp only[hh]⟩),h.used,h.inj,h.apart,fun g hg=>?_,h.nest,fun g a hg=>by simp only[hh];exact h.olow g a hg⟩,ho,ht,hp,by simp only[hh];omega,fun g _ _=>by simp only[hh],fun g hg=>.inl hg,fun g hg=>.inl hg,fun _ _ _ _=>rfl,fun _ _ h=>.inl h⟩
 have:=h.low g hg
 simp only[hh]
 exact this
def a8v(E:Emb)(i:Nat)(p:Loc):Emb:=⟨fun j=>if j=i then p else E j,E.own⟩
theorem d2d{c:Cx}(h:o6 c)(cs:Array Value)(ty:TypeId)(fz:Nat×Nat)(i:Nat)(hi: ¬c.U i)(b:k7)(p:Loc)(hp:p.blk=c.w.heap.size)
 (c':Cx)(hc':c'=⟨{c.w with heap:=c.w.heap.push (.cells cs ty fz)},c.N,a8v c.E i p,fun j=>c.U j∨j=i,m0 c.h [(i,some b)]⟩)
 (hb:A4 c c'->I6 c' b p):u7 c c':=by
 have hE: ∀id,c.U id->c'.E id=c.E id:=fun id hu=>by
  subst hc';show(if id=i then p else c.E id)=_;rw[if_neg];rintro rfl;exact hi hu
 have hEi:c'.E i=p:=by subst hc';show(if i=i then p else c.E i)=p;rw[if_pos rfl]
 have hO: ∀x,c'.E.own x=c.E.own x:=fun x=>by subst hc';rfl
 have hh: ∀id,c'.h id=if id=i then some b else c.h id:=fun id=>by subst hc';exact l6 _ _ _ _
 have hold: ∀g,g<c.w.heap.size->c'.w.heap[g]?=c.w.heap[g]?:=fun g hg=>by
  subst hc';show(c.w.heap.push _)[g]?=_;rw[Array.getElem?_push];rw[if_neg (by omega)]
 have hsz:c'.w.heap.size=c.w.heap.size+1:=by subst hc';simp
 have hN:c'.N=c.N:=by subst hc';rfl
 have hU: ∀j,c'.U j↔(c.U j∨j=i):=fun j=>by subst hc';exact Iff.rfl
 have st:A4 c c':=by
  refine⟨fun id hu=>(hU id).2 (.inl hu),hE,fun id b' hu hb'=>?_,fun g hg=>⟨by rw[hN];exact hg,hold g (h.low g hg)⟩⟩
  rw[hh]at hb'
  split at hb'
  ·rename_i e;subst e;exact absurd hu hi
  ·exact⟨b',hb',n9.refl _⟩
 have lt: ∀id b',c.h id=some b'->(c.E id).blk<c.w.heap.size:=fun id b' hb'=>by
  obtain⟨cs,ty,fz,h1,_⟩:=h.blk id b' hb'
  exact(Array.getElem?_eq_some_iff.1 h1).1
 have old: ∀id b',c'.h id=some b'->id≠i->c.h id=some b'∧c'.E id=c.E id:=fun id b' hb' hne=>by
  rw[hh,if_neg hne]at hb'
  exact⟨hb',hE id (h.used id b' hb')⟩
 refine⟨st,⟨?_,?_,?_,?_,?_,?_,?_⟩,by subst hc';rfl,by subst hc';rfl,by subst hc';rfl,by omega,fun g hg _=>hold g hg,fun g hg=>.inl (by rw[<-hN];exact hg),?_,fun g _ _ _=>hO g,fun g a hg=>.inl (by rw[<-hO];exact hg)⟩
 ·intro id b' hb'
  by_cases e:id=i
  ·subst e
   rw[hh,if_pos rfl]at hb'
   obtain rfl:=Option.some.inj hb'
   rw[hEi]
   exact hb st
  ·obtain⟨h1,h2⟩:=old id b' hb' e
   rw[h2]
   exact(h.blk id b' h1).mono st (hold _ (lt id b' h1)) (fun x o hx=>⟨by rw[hO];exact hx,hold _ (h.olow _ _ hx).1⟩)
 ·intro id b' hb'
  by_cases e:id=i
  ·exact(hU id).2 (.inr e)
  ·exact(hU id).2 (.inl (h.used id b' (old id b' hb' e).1))
 ·intro id id' b1 b2 h1 h2 hne
  by_cases e:id=i
  ·subst e
   have e':id'≠id:=fun e=>hne e.symm
   obtain⟨h3,h4⟩:=old id' b2 h2 e'
   rw[hEi,h4,hp]
   have:=lt id' b2 h3
   omega
  ·obtain⟨h3,h4⟩:=old id b1 h1 e
   by_cases e':id'=i
   ·subst e'
    rw[hEi,h4,hp]
    have:=lt id b1 h3
    omega
   ·obtain⟨h5,h6⟩:=old id' b2 h2 e'
    rw[h4,h6]
    exact h.inj id id' b1 b2 h3 h5 hne
 ·intro id b' hb' hn
  rw[hN]at hn
  by_cases e:id=i
  ·subst e
   rw[hEi,hp]at hn
   have:=h.low _ hn
   omega
  ·obtain⟨h1,h2⟩:=old id b' hb' e
   rw[h2]at hn
   exact h.apart id b' h1 hn
 ·intro g hg
  rw[hN]at hg
  have:=h.low g hg
  omega
 ·intro g a id b' ho hb' ha
  rw[hO]at ho
  have hl:=h.olow g a ho
  by_cases e:id=i
  ·subst e
   rw[hEi,hp]at ha
   omega
  ·obtain⟨h1,h2⟩:=old id b' hb' e
   rw[h2]at ha
   obtain⟨n1,n2⟩:=h.nest g a id b' ho h1 ha
   refine⟨by rw[hN];exact n1,fun id' b2 hb2=>?_⟩
   by_cases e':id'=i
   ·subst e'
    rw[hEi,hp]
    omega
   ·obtain⟨h3,h4⟩:=old id' b2 hb2 e'
    rw[h4]
    exact n2 id' b2 h3
 ·intro g a ho
  rw[hO]at ho
  have:=h.olow g a ho
  omega
 ·rintro g (⟨id,b',hb',hg⟩|⟨a,id,b',ho,hb',hg⟩)
  ·by_cases e:id=i
   ·subst e
    rw[hEi,hp]at hg
    exact .inr (by omega)
   ·obtain⟨h1,h2⟩:=old id b' hb' e
    rw[h2]at hg
    exact .inl (.inl ⟨id,b',h1,hg⟩)
  ·rw[hO]at ho
   have hl:=h.olow g a ho
   by_cases e:id=i
   ·subst e
    rw[hEi,hp]at hg
    omega
   ·obtain⟨h1,h2⟩:=old id b' hb' e
    rw[h2]at hg
    exact .inl (.inr ⟨a,id,b',ho,h1,hg⟩)
theorem c1x{c:Cx}(h:o6 c)(i:Nat)(b:k7)(hb:c.h i=some b):u7 c {c with h:=m0 c.h [(i,none)],N:=fun g=>c.N g∨g=(c.E i).blk}:=by
 have old: ∀id b',m0 c.h [(i,none)] id=some b'->c.h id=some b'∧id≠i:=fun id b' hb'=>by
  rw[l6]at hb'
  split at hb'
  ·cases hb'
  ·rename_i e;exact⟨hb',e⟩
 have st:A4 c {c with h:=m0 c.h [(i,none)],N:=fun g=>c.N g∨g=(c.E i).blk}:=
  ⟨fun _ h=>h,fun _ _=>rfl,fun id b' _ hb'=>⟨b',(old id b' hb').1,n9.refl _⟩,fun g hg=>⟨.inl hg,rfl⟩⟩
 refine⟨st,⟨fun id b' hb'=>(h.blk id b' (old id b' hb').1).mono st rfl (fun x o hx=>⟨hx,rfl⟩),fun id b' hb'=>h.used id b' (old id b' hb').1,fun id id' b1 b2 h1 h2 hne=>h.inj id id' b1 b2 (old id b1 h1).1 (old id' b2 h2).1 hne,?_,?_,?_,h.olow⟩,rfl,rfl,rfl,Nat.le_refl _,fun _ _ _=>rfl,?_,?_,fun _ _ _ _=>rfl,fun _ _ h=>.inl h⟩
 ·rintro id b' hb' (hn|hn)
  ·exact h.apart id b' (old id b' hb').1 hn
  ·exact h.inj id i b' b (old id b' hb').1 hb (old id b' hb').2 hn
 ·rintro g (hn|hn)
  ·exact h.low g hn
  ·subst hn
   obtain⟨cs,ty,fz,h1,_⟩:=h.blk i b hb
   exact(Array.getElem?_eq_some_iff.1 h1).1
 ·intro g a id b' ho hb' ha
  obtain⟨n1,n2⟩:=h.nest g a id b' ho (old id b' hb').1 ha
  refine⟨?_,fun id' b2 hb2=>n2 id' b2 (old id' b2 hb2).1⟩
  rintro(hn|hn)
  ·exact n1 hn
  ·exact n2 i b hb hn.symm
 ·rintro g (hn|hn)
  ·exact .inl hn
  ·exact .inr (.inr (.inl ⟨i,b,hb,hn.symm⟩))
 ·rintro g (⟨id,b',hb',hg⟩|⟨a,id,b',ho,hb',hg⟩)
  ·exact .inl (.inl ⟨id,b',(old id b' hb').1,hg⟩)
  ·exact .inl (.inr ⟨a,id,b',ho,(old id b' hb').1,hg⟩)
theorem a4x{c:Cx}(h:o6 c)(i:Nat)(b0:k7)(hb0:c.h i=some b0)(j:Nat)(hj:j=i∨ ¬c.U j)(b:k7)(p:Loc)(hp:p.blk=(c.E i).blk)(hcm:j=i->n9 b0 b∧p=c.E i)
 (w':World)(hs:w'.heap.size=c.w.heap.size)(hw: ∀g,g≠(c.E i).blk->w'.heap[g]?=c.w.heap[g]?)(ho:w'.os=c.w.os)(ht:w'.tape=c.w.tape)(hpt:w'.output=c.w.output)
 (c':Cx)(hc':c'=⟨w',c.N,a8v c.E j p,fun x=>c.U x∨x=j,m0 (m0 c.h [(i,none)]) [(j,some b)]⟩)
 (hb:A4 c c'->I6 c' b p):u7 c c':=by
 have hE: ∀id,c.U id->c'.E id=c.E id:=fun id hu=>by
  subst hc';show(if id=j then p else c.E id)=_
  split
  ·rename_i e
   subst e
   rcases hj with rfl|hj
   ·exact(hcm rfl).2
   ·exact absurd hu hj
  ·rfl
 have hEj:c'.E j=p:=by subst hc';show(if j=j then p else c.E j)=p;rw[if_pos rfl]
 have hO: ∀x,c'.E.own x=c.E.own x:=fun x=>by subst hc';rfl
 have hh: ∀id,c'.h id=if id=j then some b else if id=i then none else c.h id:=fun id=>by subst hc';show m0 (m0 c.h [(i,none)]) [(j,some b)] id=_;rw[l6,l6]
 have hN:c'.N=c.N:=by subst hc';rfl
 have hU: ∀x,c'.U x↔(c.U x∨x=j):=fun x=>by subst hc';exact Iff.rfl
 have hW:c'.w=w':=by subst hc';rfl
 have old: ∀id b',c'.h id=some b'->id≠j->c.h id=some b'∧id≠i∧c'.E id=c.E id:=fun id b' hb' hne=>by
  rw[hh,if_neg hne]at hb'
  split at hb'
  ·cases hb'
  ·rename_i e;exact⟨hb',e,hE id (h.used id b' hb')⟩
 have st:A4 c c':=by
  refine⟨fun id hu=>(hU id).2 (.inl hu),hE,fun id b' hu hb'=>?_,fun g hg=>⟨by rw[hN];exact hg,by rw[hW];exact hw g fun e=>h.apart i b0 hb0 (e▸hg)⟩⟩
  by_cases e:id=j
  ·subst e
   rw[hh,if_pos rfl]at hb'
   obtain rfl:=Option.some.inj hb'
   rcases hj with rfl|hj
   ·exact⟨b0,hb0,(hcm rfl).1⟩
   ·exact absurd hu hj
  ·exact⟨b',(old id b' hb' e).1,n9.refl _⟩
 refine⟨st,⟨?_,?_,?_,?_,?_,?_,?_⟩,by rw[hW,ho],by rw[hW,ht],by rw[hW,hpt],by rw[hW,hs];omega,fun g _ hno=>by rw[hW];exact hw g fun e=>hno (.inl ⟨i,b0,hb0,e.symm⟩),fun g hg=>.inl (by rw[<-hN];exact hg),?_,fun g _ _ _=>hO g,fun g a hg=>.inl (by rw[<-hO];exact hg)⟩
 ·intro id b' hb'
  by_cases e:id=j
  ·subst e
   rw[hh,if_pos rfl]at hb'
   obtain rfl:=Option.some.inj hb'
   rw[hEj]
   exact hb st
  ·obtain⟨h1,h2,h3⟩:=old id b' hb' e
   rw[h3]
   exact(h.blk id b' h1).mono st (by rw[hW];exact hw _ (h.inj id i b' b0 h1 hb0 h2)) (fun x o hx=>⟨by rw[hO];exact hx,by rw[hW];exact hw _ (a3u h hx h1 hb0).symm⟩)
 ·intro id b' hb'
  by_cases e:id=j
  ·exact(hU id).2 (.inr e)
  ·exact(hU id).2 (.inl (h.used id b' (old id b' hb' e).1))
 ·intro id id' b1 b2 h1 h2 hne
  by_cases e:id=j
  ·subst e
   obtain⟨h3,h4,h5⟩:=old id' b2 h2 (fun e=>hne e.symm)
   rw[hEj,h5,hp]
   exact h.inj i id' b0 b2 hb0 h3 (fun e=>h4 e.symm)
  ·obtain⟨h3,h4,h5⟩:=old id b1 h1 e
   by_cases e':id'=j
   ·subst e'
    rw[hEj,h5,hp]
    exact h.inj id i b1 b0 h3 hb0 h4
   ·obtain⟨h6,h7,h8⟩:=old id' b2 h2 e'
    rw[h5,h8]
    exact h.inj id id' b1 b2 h3 h6 hne
 ·intro id b' hb' hn
  rw[hN]at hn
  by_cases e:id=j
  ·subst e
   rw[hEj,hp]at hn
   exact h.apart i b0 hb0 hn
  ·obtain⟨h1,h2,h3⟩:=old id b' hb' e
   rw[h3]at hn
   exact h.apart id b' h1 hn
 ·intro g hg
  rw[hN]at hg
  have:=h.low g hg
  rw[hW]
  omega
 ·intro g a id b' ho hb' ha
  rw[hO]at ho
  have key: ¬c.N g∧ ∀id' b2,c.h id'=some b2->(c.E id').blk≠g:=by
   by_cases e:id=j
   ·subst e
    rw[hEj,hp]at ha
    exact h.nest g a i b0 ho hb0 ha
   ·obtain⟨h1,h2,h3⟩:=old id b' hb' e
    rw[h3]at ha
    exact h.nest g a id b' ho h1 ha
  refine⟨by rw[hN];exact key.1,fun id' b2 hb2=>?_⟩
  by_cases e':id'=j
  ·subst e'
   rw[hEj,hp]
   exact key.2 i b0 hb0
  ·obtain⟨h1,h2,h3⟩:=old id' b2 hb2 e'
   rw[h3]
   exact key.2 id' b2 h1
 ·intro g a ho
  rw[hO]at ho
  have:=h.olow g a ho
  rw[hW]
  omega
 ·rintro g (⟨id,b',hb',hg⟩|⟨a,id,b',ho,hb',hg⟩)
  ·by_cases e:id=j
   ·subst e
    rw[hEj,hp]at hg
    exact .inl (.inl ⟨i,b0,hb0,hg⟩)
   ·obtain⟨h1,h2,h3⟩:=old id b' hb' e
    rw[h3]at hg
    exact .inl (.inl ⟨id,b',h1,hg⟩)
  ·rw[hO]at ho
   by_cases e:id=j
   ·subst e
    rw[hEj,hp]at hg
    exact .inl (.inr ⟨a,i,b0,ho,hb0,hg⟩)
   ·obtain⟨h1,h2,h3⟩:=old id b' hb' e
    rw[h3]at hg
    exact .inl (.inr ⟨a,id,b',ho,h1,hg⟩)
end Go.Vsi
namespace Go.Vsi
theorem c4s{α:Type}{P:Program}(s:Sem α){a:α}(h:m9 P s=some a)(w:World):s.run P w=.ok a w:=by
 induction s with
 |pure x=>simp[m9]at h;subst h;rfl
 |program k ih=>exact ih P h
 |_=>simp[m9]at h
theorem b0o{P:Program}{o:Oper}{a:Act}{w w':World}{K:Act->World->Prop}{Q:Exit->Act->World->Prop}{s:Sem Value}{v:Value}
 (ho:execOp a.eval o=(do pure (.value (<-s))))(hr:s.run P w=.ok v w')(hK:K (a.put o.dst v) w'):o.wp P a w K Q:=by
 unfold Oper.wp
 rw[ho]
 simp only[Sem.run_bind,hr,Result.andThen_ok,Sem.run_pure,Oper.upon_value]
 exact hK
theorem wp_skip{P:Program}{o:Oper}{a:Act}{w w':World}{K:Act->World->Prop}{Q:Exit->Act->World->Prop}{s:Sem Unit}
 (ho:execOp a.eval o=(do s;pure .skip))(hr:s.run P w=.ok () w')(hK:K (a.put o.dst undef) w'):o.wp P a w K Q:=by
 unfold Oper.wp
 rw[ho]
 simp only[Sem.run_bind,hr,Result.andThen_ok,Sem.run_pure,Oper.upon_skip]
 exact hK
theorem b6b{c:Cx}{s:S}{v x:Value}(h:W8 s=some x)(hr:r8 c s v):v=x:=by
 cases s with
 |d d=>
  cases d with
  |v y=>simp[W8]at h;subst h;cases hr;rfl
  |sl=>simp[W8]at h
  |any=>simp[W8]at h
  |lit=>simp[W8]at h
 |_=>simp[W8]at h
theorem b3r{c:Cx}: ∀(l:List S){vs:List Value}{cs:Array Value}{o:Nat},a6r l=some vs->l0 (r8 c) cs o l->vs.length=l.length∧ ∀j x,vs[j]?=some x->cs[o+j]?=some x
 |[],vs,cs,o,h,_=>by simp[a6r]at h;subst h;simp
 |s::r,vs,cs,o,h,hc=>by
  simp only[a6r]at h
  split at h
  ·rename_i v vs' hv hvs
   obtain rfl:=Option.some.inj h
   have hc':l0 (r8 c) cs (o+1) r:=by simpa using hc.drop 1
   obtain⟨h1,h2⟩:=b3r r hvs hc'
   refine⟨by simp[h1],fun j x hx=>?_⟩
   cases j with
   |zero=>
    simp at hx;subst hx
    obtain⟨y,hy,hs⟩:=hc 0 s (by simp)
    rw[hy,b6b hv hs]
   |succ j=>
    have:=h2 j x (by simpa using hx)
    rw[<-this];congr 1;omega
  ·cases h
theorem A2{c:Cx}{s:V}{v x:Value}(h:C7 s=some x)(hr:r9 c s v):v=x:=by
 cases s with
 |c s=>exact b6b h hr
 |agg l=>
  obtain⟨cs,rfl,hs,hc⟩:=hr
  simp only[C7]at h
  split at h
  ·rename_i vs hvs
   obtain rfl:=Option.some.inj h
   obtain⟨h1,h2⟩:=b3r l hvs hc
   congr 1
   apply Array.ext_getElem?
   intro i
   by_cases hi:i<vs.length
   ·have:=h2 i vs[i] (by simp[hi])
    simp only[Nat.zero_add]at this
    rw[this];simp[hi]
   ·rw[Array.getElem?_eq_none (by omega),Array.getElem?_eq_none (by simpa using hi)]
  ·cases h
 |junk=>simp[C7]at h
theorem b6c(c:Cx){x:Value}(h:x.oneCell'=true):r8 c (b5u x) x:=by
 unfold b5u
 split
 ·rename_i hp;exact t8.v hp
 ·exact h
theorem b9l(c:Cx)(x:Value):r9 c (G3 x) x:=by
 unfold G3
 split
 ·rename_i cs
  split
  ·rename_i hall
   refine⟨cs,rfl,by simp,fun j s hj=>?_⟩
   rw[List.getElem?_map]at hj
   cases hq:cs.toList[j]? with
   |none=>simp[hq]at hj
   |some y=>
    simp[hq]at hj
    subst hj
    have hy:cs[j]?=some y:=by simpa using hq
    have hm:y∈cs:=Array.mem_of_getElem? hy
    exact⟨y,by simpa using hy,b6c c ((Array.all_eq_true_iff_forall_mem.1 hall) y hm)⟩
  ·trivial
 ·trivial
 ·split
  ·rename_i hp;exact t8.v hp
  ·trivial
theorem d2e{P:Program}{s:Sem Value}{r:W}(h:i8 P s=some r)(c:Cx): ∃v,(∀w,s.run P w=.ok v w)∧x7 c r v:=by
 unfold i8 at h
 split at h
 ·cases h
 ·rename_i x _ hx
  obtain rfl:=Option.some.inj h
  exact⟨x,fun w=>c4s s hx w,b9l c x⟩
 ·cases h
theorem c9h{P:Program}{t:TypeId}{n:Nat}(h:P.cellsOf t=n)(h0:0<n): ∃i,P.info? t=some i∧i.size=n:=by
 unfold Program.cellsOf at h
 cases hi:P.info? t with
 |none=>simp[hi]at h;omega
 |some i=>simp[hi]at h;exact⟨i,rfl,h⟩
theorem b1r{P:Program}{t:TypeId}{d:TypeDesc}(hu:P.underlying t=some d)(w:World):(isAgg t).run P w=.ok (S5 P t) w:=by
 unfold isAgg S5
 rw[Sem.run_bind,run_underlying hu w,hu]
 cases d<;>rfl
def b2y(c:Cx)(b o:Nat)(l:List S):Prop:= ∀j s,l[j]?=some s-> ∃v,c.w.cell? ⟨b,o+j,none⟩=some v∧r8 c s v
theorem c1y{c:Cx}{b o:Nat}: ∀(l:List S),b2y c b o l-> ∃vs:List Value,vs.length=l.length∧ ∀j s,l[j]?=some s-> ∃v,vs[j]?=some v∧c.w.cell? ⟨b,o+j,none⟩=some v∧r8 c s v
 |[],_=>⟨[],rfl,fun j s h=>by simp at h⟩
 |s::r,h=>by
  obtain⟨v,hv,hs⟩:=h 0 s (by simp)
  have h':b2y c b (o+1) r:=fun j x hj=>by
   obtain⟨y,hy,hx⟩:=h (j+1) x (by simpa using hj)
   exact⟨y,by rw[show o+1+j=o+(j+1) by omega];exact hy,hx⟩
  obtain⟨vs,hl,hvs⟩:=c1y r h'
  refine⟨v::vs,by simp[hl],fun j x hj=>?_⟩
  cases j with
  |zero=>simp at hj;subst hj;exact⟨v,by simp,hv,hs⟩
  |succ j=>
   obtain⟨y,h1,h2,h3⟩:=hvs j x (by simpa using hj)
   exact⟨y,by simpa using h1,by rw[show o+(j+1)=o+1+j by omega];exact h2,h3⟩
theorem b9m{P:Program}{c:Cx}{t:TypeId}{l:List S}{off:Nat}{r:V}{b o:Nat}(h:M0 P t l off=some r)(hr:b2y c b o l):
 ∃v,(loadVar t ⟨b,o+off,none⟩).run P c.w=.ok v c.w∧r9 c r v:=by
 unfold M0 at h
 split at h
 ·rename_i d i hu hi
  split at h
  ·rename_i hagg
   split at h
   ·rename_i hle
    obtain rfl:=Option.some.inj h
    have hle:=Nat.le_of_ble_eq_true hle
    have hrow:b2y c b (o+off) ((l.drop off).take i.size):=fun j s hj=>by
     rw[List.getElem?_take]at hj
     split at hj
     ·rw[List.getElem?_drop]at hj
      obtain⟨v,hv,hs⟩:=hr _ s hj
      exact⟨v,by rw[Nat.add_assoc];exact hv,hs⟩
     ·cases hj
    obtain⟨vs,hl,hvs⟩:=c1y _ hrow
    have hlen:((l.drop off).take i.size).length=i.size:=by simp;omega
    have hsz:(P.info? t).map (·.size)=some vs.length:=by
     rw[hi];simp only[Option.map_some,Option.some.injEq]
     rw[hl,hlen]
    have hd:d.isRow=true:=by
     unfold S5 at hagg;rw[hu]at hagg;cases d<;>simp_all
    have hrange:c.w.rangeAt b (o+off) vs:=fun j v hj=>by
     have hjl:j<((l.drop off).take i.size).length:=by
      rw[<-hl];exact(List.getElem?_eq_some_iff.1 hj).1
     obtain⟨v',h1,h2,_⟩:=hvs j _ (List.getElem?_eq_getElem hjl)
     rw[hj]at h1
     obtain rfl:=Option.some.inj h1
     exact h2
    refine⟨_,run_loadVar_mid c.w b (o+off) t vs d hrange hu hd hsz,vs.toArray,rfl,by simp[hl],fun j s hj=>?_⟩
    obtain⟨v',h1,_,h3⟩:=hvs j s hj
    exact⟨v',by simpa using h1,h3⟩
   ·cases h
  ·rename_i hagg
   split at h
   ·rename_i s hs
    obtain rfl:=Option.some.inj h
    obtain⟨v,hv,hrel⟩:=hr off s hs
    refine⟨v,?_,hrel⟩
    unfold loadVar
    rw[Sem.run_bind,b1r hu,hagg]
    simp[hv]
   ·cases h
 ·cases h
def setRange(cs:Array Value):Nat->List Value->Array Value
 |_,[]=>cs
 |o,v::r=>setRange (cs.setIfInBounds o v) (o+1) r
theorem A6: ∀(vs:List Value)(cs:Array Value)(o:Nat),(setRange cs o vs).size=cs.size
 |[],_,_=>rfl
 |v::r,cs,o=>by rw[setRange,A6 r];simp
theorem D0: ∀(vs:List Value)(cs:Array Value)(o j:Nat),(j<o∨o+vs.length<=j)->(setRange cs o vs)[j]?=cs[j]?
 |[],_,_,_,_=>rfl
 |v::r,cs,o,j,h=>by
  rw[setRange,D0 r _ _ _ (by simp at h;omega)]
  rw[Array.getElem?_setIfInBounds]
  rw[if_neg (by simp at h;omega)]
theorem a1d: ∀(vs:List Value)(cs:Array Value)(o j:Nat)(v:Value),o+vs.length<=cs.size->vs[j]?=some v->(setRange cs o vs)[o+j]?=some v
 |[],_,_,_,_,_,h=>by simp at h
 |x::r,cs,o,0,v,hl,h=>by
  simp at h;subst h
  rw[setRange,D0 r _ _ _ (by omega)]
  simp at hl
  rw[Nat.add_zero,Array.getElem?_setIfInBounds_self]
  simp;omega
 |x::r,cs,o,j+1,v,hl,h=>by
  rw[setRange,show o+(j+1)=o+1+j by omega]
  exact a1d r _ _ _ _ (by simp at hl⊢;omega) (by simpa using h)
theorem W5(b:Nat)(ty:TypeId)(fz:Nat×Nat): ∀(vs:List Value)(o:Nat)(cs:Array Value)(w:World),w.heap[b]?=some (.cells cs ty fz)->
 (w.setCells b o vs).heap[b]?=some (.cells (setRange cs o vs) ty fz)∧(w.setCells b o vs).heap.size=w.heap.size∧(∀g,g≠b->(w.setCells b o vs).heap[g]?=w.heap[g]?)∧
   (w.setCells b o vs).os=w.os∧(w.setCells b o vs).tape=w.tape∧(w.setCells b o vs).output=w.output
 |[],o,cs,w,h=>⟨h,rfl,fun _ _=>rfl,rfl,rfl,rfl⟩
 |v::r,o,cs,w,h=>by
  have h1:(w.setCell ⟨b,o,none⟩ v).heap[b]?=some (.cells (cs.setIfInBounds o v) ty fz):=by
   have hlt:b<w.heap.size:=(Array.getElem?_eq_some_iff.1 h).1
   have hv:w.heap[b]=.cells cs ty fz:=(Array.getElem?_eq_some_iff.1 h).2
   unfold World.setCell
   rw[Array.getElem?_eq_getElem (by simpa using hlt),Array.getElem_modify]
   simp[hv]
  have h2: ∀g,g≠b->(w.setCell ⟨b,o,none⟩ v).heap[g]?=w.heap[g]?:=fun g hg=>by
   simp[World.setCell,Array.getElem?_modify,Ne.symm hg]
  obtain⟨k1,k2,k3,k4,k5,k6⟩:=W5 b ty fz r (o+1) _ _ h1
  exact⟨k1,by rw[World.setCells,k2];simp[World.setCell],fun g hg=>(k3 g hg).trans (h2 g hg),k4,k5,k6⟩
theorem b1s{P:Program}{w:World}{b o:Nat}{cs:Array Value}{ty t:TypeId}{fz:Nat×Nat}{v:Value}(hb:w.heap[b]?=some (.cells cs ty fz))(hf: ∀i,i<cs.size-> ¬(fz.1<=i∧i<fz.2))
 (hs:P.cellsOf t=v.cells.size)(hi: ∃i,P.info? t=some i)(hl:o+v.cells.size<=cs.size)(h1: ∀x∈v.cells,x.oneCell'=true):
 (storeVar t ⟨b,o,none⟩ v).run P w=.ok () (w.setCells b o v.cells.toList):=by
 obtain⟨i,hi⟩:=hi
 have hcell: ∀j,w.cell? ⟨b,j,none⟩=cs[j]?:=fun j=>cell_of_row w b j cs ty fz hb
 have hfz: ∀j,j<cs.size->w.frozen? ⟨b,j,none⟩=false:=fun j hj=>by
  have:=hf j hj
  simp only[World.frozen?,hb]
  simp only[Bool.and_eq_false_iff,decide_eq_false_iff_not]
  omega
 have:=run_storeCells_cells (P:=P) b o v.cells.toList 0 w
  (fun j hj=>by rw[hcell];simp at hj;simp;omega)
  (fun j hj=>hfz _ (by simp at hj;omega))
  (fun x hx=>h1 x (by simpa using hx))
 have hsz:i.size=v.cells.size:=by rw[<-hs];simp[Program.cellsOf,hi]
 simp only[Nat.add_zero]at this
 simp[storeVar,sizeOf,typeInfo,hi,hsz,this]
end Go.Vsi
namespace Go.Vsi
def O3(c:Cx)(tm:List W)(tmps:Array Value):Prop:=tmps.size=tm.length∧l0 (x7 c) tmps 0 tm
theorem O3.mono{c c':Cx}(k:A4 c c'){tm:List W}{tmps:Array Value}(h:O3 c tm tmps):O3 c' tm tmps:=
 ⟨h.1,h.2.imp fun _ _=>x7.mono k⟩
theorem a9f{c:Cx}{tm:List W}{a:Act}(h:O3 c tm a.tmps)(x:Operand):x7 c (evA tm x) (a.eval x):=by
 cases x with
 |tmp t=>
  simp only[evA]
  split
  ·rename_i w hw
   obtain⟨v,hv,hr⟩:=h.2 t w hw
   have:a.eval (.tmp t)=v:=by
    show a.tmps.getD t undef=v
    rw[Nat.zero_add]at hv
    simp[Array.getD_eq_getD_getElem?,hv]
   rw[this];exact hr
  ·trivial
 |const v=>exact b9l c v
 |global g=>trivial
 |func f=>exact⟨#[],rfl,rfl,fun i id hi=>by simp at hi⟩
abbrev B4:=List (Nat×Option k7)
def u6(P:Program)(o:Oper)(fr:Nat->Nat)(c:Cx)(a:Act)(r:W)(up:B4):Prop:=
 ∀(K:Act->World->Prop)(Q:Exit->Act->World->Prop),
  (∀v c',u7 c c'->c'.h=m0 c.h up->(∀id,c'.U id->c.U id∨ ∃k,k<64∧id=fr k)->x7 c' r v->K (a.put o.dst v) c'.w)->o.wp P a c.w K Q
section
variable{P:Program}{o:Oper}{fr:Nat->Nat}{c:Cx}{a:Act}{r:W}
theorem w9(hc:o6 c){s:Sem Value}{v:Value}(ho:execOp a.eval o=(do pure (.value (<-s))))(hs:s.run P c.w=.ok v c.w)(hv:x7 c r v):u6 P o fr c a r []:=
 fun _ _ hK=>b0o ho hs (hK v c (u7.refl hc) rfl (fun _ h=>.inl h) hv)
theorem b6d(hc:o6 c){x:Operand}(ho:o.op=.move x∨o.op=.assign x)(hv:x7 c r (a.eval x)):u6 P o fr c a r []:=by
 refine w9 hc (s:=pure (a.eval x)) ?_ rfl hv
 unfold execOp
 rcases ho with ho|ho<;>rw[ho]<;>rfl
theorem b6e(hc:o6 c){x y z:Operand}{b:Bool}(ho:o.op=.pick x y z)(hb:a.eval x=.bool b)(hv:x7 c r (if b then a.eval y else a.eval z)):u6 P o fr c a r []:=by
 refine w9 hc (s:=pure (if b then a.eval y else a.eval z)) ?_ rfl hv
 unfold execOp
 rw[ho]
 simp only[hb,asBool]
 rfl
theorem U2(hc:o6 c){s:Sem Value}(ho:execOp a.eval o=(do pure (.value (<-s))))(h:i8 P s=some r):u6 P o fr c a r []:=by
 obtain⟨v,hr,hv⟩:=d2e h c
 exact w9 hc ho (hr c.w) hv
theorem c1b(hc:o6 c){x:Operand}{i:Nat}{l:List V}{v:V}(ho:o.op=.extract x i)(hx:x7 c (.tup l) (a.eval x))(hl:l[i]?=some v):u6 P o fr c a (.one v) []:=by
 obtain⟨vs,hvs,hs,hcell⟩:=hx
 obtain⟨y,hy,hr⟩:=hcell i v hl
 rw[Nat.zero_add]at hy
 refine w9 hc (s:=Instr.extract (a.eval x) i) (by unfold execOp;rw[ho]) ?_ hr
 rw[hvs]
 simp[Instr.extract,hy]
theorem a3v(hc:o6 c){x:Operand}(ho:o.op=.nilCheck x)(hp:(∃p,a.eval x=.pointer (some p))∨ ∃f cs,a.eval x=.func (.func f) #[] cs)(hv:x7 c r (a.eval x)):u6 P o fr c a r []:=by
 refine w9 hc (s:=pure (a.eval x)) ?_ rfl hv
 unfold execOp
 rw[ho]
 rcases hp with⟨p,hp⟩|⟨f,cs,hp⟩<;>simp only[hp]<;>rfl
theorem d7b{t:TypeId}{l:List S}{off:Nat}{v:V}{cs:Array Value}(h:M0 P t l off=some v)(hl:cs.size=l.length)(hr:l0 (r8 c) cs 0 l)(w:World):
 ∃x,(part t cs off).run P w=.ok x w∧r9 c v x:=by
 unfold M0 at h
 split at h
 ·rename_i d i hu hi
  split at h
  ·rename_i hagg
   split at h
   ·rename_i hle
    obtain rfl:=Option.some.inj h
    have hle:=Nat.le_of_ble_eq_true hle
    refine⟨.agg (cs.extract off (off+i.size)),?_,_,rfl,?_,?_⟩
    ·unfold part
     rw[Sem.run_bind,b1r hu,hagg]
     simp[sizeOf,typeInfo,hi]
    ·simp;omega
    ·intro j s hj
     rw[List.getElem?_take]at hj
     split at hj
     ·rename_i hlt
      rw[List.getElem?_drop]at hj
      obtain⟨x,hx,hs⟩:=hr _ s hj
      refine⟨x,?_,hs⟩
      rw[Nat.zero_add]at hx⊢
      rw[Array.getElem?_extract,if_pos (by omega)]
      exact hx
     ·cases hj
   ·cases h
  ·rename_i hagg
   split at h
   ·rename_i s hs
    obtain rfl:=Option.some.inj h
    obtain⟨x,hx,hrel⟩:=hr off s hs
    rw[Nat.zero_add]at hx
    refine⟨x,?_,hrel⟩
    unfold part
    rw[Sem.run_bind,b1r hu,hagg]
    simp[hx]
   ·cases h
 ·cases h
theorem c4t(hc:o6 c){x:Operand}{t:TypeId}{i:Nat}{l:List S}{v:V}{fs:Array Field}{f:Field}(ho:o.op=.field t x i)(hx:r9 c (.agg l) (a.eval x))(hu:P.underlying t=some (.struct fs))(hf:fs[i]?=some f)
 (hp:M0 P f.type l f.offset=some v):u6 P o fr c a (.one v) []:=by
 obtain⟨cs,hcs,hs,hcell⟩:=hx
 obtain⟨y,hy,hr⟩:=d7b hp hs hcell c.w
 refine w9 hc (s:=Instr.field t (a.eval x) i) (by unfold execOp;rw[ho]) ?_ hr
 rw[hcs]
 simp[Instr.field,run_underlying hu,hf,asAgg,hy]
theorem R5(b o n:Nat):(⟨b,o,none⟩:Addr).add n=⟨b,o+n,none⟩:=Addr.add_mid b o n
theorem a7z(hc:o6 c){x:Operand}{t:TypeId}{i:Nat}{fs:Array Field}{f:Field}(ho:o.op=.fieldAddr t x i)(hu:P.underlying t=some (.struct fs))(hf:fs[i]?=some f)(h1:1<=P.cellsOf f.type)
 {b q:Nat}(hx:a.eval x=.pointer (some ⟨b,q,none⟩))(hr:x7 c r (.pointer (some ⟨b,q+f.offset,none⟩))):u6 P o fr c a r []:=by
 obtain⟨j,hj,hsz⟩:=c9h (P:=P) (t:=f.type) rfl h1
 refine w9 hc (s:=Instr.fieldAt t (a.eval x) i) (by unfold execOp;rw[ho]) ?_ hr
 rw[hx]
 have hne: ¬j.size=0:=by omega
 simp[Instr.fieldAt,run_underlying hu,hf,Instr.sureAddr,fieldPlace,sizeOf,typeInfo,hj,hne,R5]
theorem a2p(hc:o6 c){x y:Operand}{t e:TypeId}{k:IntKind}{n:Int}(ho:o.op=.indexAddr t x y)(hu:P.underlying t=some (.slice e))(hi: ∃i,P.info? e=some i)
 {b q len cap:Nat}(hx:a.eval x=.slice (some ⟨b,q,none⟩) len cap)(hy:a.eval y=.int k n)(h0:0<=n)(hn:n<len)(hr:x7 c r (.pointer (some ⟨b,q+n.toNat*P.cellsOf e,none⟩))):u6 P o fr c a r []:=by
 obtain⟨i,hi⟩:=hi
 refine w9 hc (s:=Instr.indexAt t (a.eval x) (a.eval y)) (by unfold execOp;rw[ho]) ?_ hr
 rw[hx,hy]
 have hsz:P.cellsOf e=i.size:=by simp[Program.cellsOf,hi]
 simp[Instr.indexAt,asIntOf,run_underlying hu,h0,hn,sizeOf,typeInfo,hi,R5,hsz]
theorem a5m(hc:o6 c){x:Operand}{t:TypeId}{l:List S}{off:Nat}{v:V}{b q:Nat}(ho:o.op=.load t x)(hx:a.eval x=.pointer (some ⟨b,q+off,none⟩))(hp:M0 P t l off=some v)(hrow:b2y c b q l):
 u6 P o fr c a (.one v) []:=by
 obtain⟨y,hy,hr⟩:=b9m hp hrow
 refine w9 hc (s:=Instr.loadAt t (a.eval x)) (by unfold execOp;rw[ho]) ?_ hr
 rw[hx]
 simp[Instr.loadAt,Instr.sureAddr,hy]
end
end Go.Vsi
namespace Go.Vsi
theorem d7c(h:Hp)(i:Nat)(hi:h i=none):m0 h [(i,none)]=h:=by
 funext j
 rw[l6]
 split
 ·rename_i e;subst e;exact hi.symm
 ·rfl
theorem a8a: ∀(u:B4)(c:Cx),o6 c->(∀x∈u,x.2=none)-> ∃c',u7 c c'∧c'.w=c.w∧c'.E=c.E∧c'.U=c.U∧c'.h=m0 c.h u∧ ∀x∈u,∀b,c.h x.1=some b->c'.N (c.E x.1).blk
 |[],c,hc,_=>⟨c,u7.refl hc,rfl,rfl,rfl,rfl,fun x hx=>by simp at hx⟩
 |(i,b)::r,c,hc,hu=>by
  obtain rfl:b=none:=hu (i,b) (by simp)
  have hr: ∀x∈r,x.2=none:=fun x hx=>hu x (by simp[hx])
  cases hi:c.h i with
  |none=>
   obtain⟨c',h1,h2,h3,h4,h5,h6⟩:=a8a r c hc hr
   refine⟨c',h1,h2,h3,h4,by rw[E6,d7c _ _ hi];exact h5,fun x hx b hb=>?_⟩
   rcases List.mem_cons.1 hx with rfl|hx
   ·rw[hi]at hb;cases hb
   ·exact h6 x hx b hb
  |some b=>
   have e1:=c1x hc i b hi
   obtain⟨c',h1,h2,h3,h4,h5,h6⟩:=a8a r _ e1.relh hr
   refine⟨c',e1.trans h1,h2,h3,h4,by rw[E6];exact h5,fun x hx b' hb'=>?_⟩
   by_cases e:x.1=i
   ·rw[e]
    exact(h1.step.n _ (.inr rfl)).1
   ·rcases List.mem_cons.1 hx with rfl|hx
    ·exact absurd rfl e
    ·refine h6 x hx b' ?_
     show m0 c.h [(i,none)] x.1=_
     rw[l6,if_neg e]
     exact hb'
theorem d7d{h:Hp}{s:S}{x:D}{u:B4}(hs:toD h s=some (x,u)): ∀y∈u,y.2=none:=by
 cases s with
 |d d=>simp[toD]at hs;obtain⟨_,rfl⟩:=hs;simp
 |arr id off len=>
  simp only[toD]at hs
  split at hs
  ·simp at hs;obtain⟨_,rfl⟩:=hs;simp
  ·cases hs
 |_=>simp[toD]at hs
theorem a9g{c:Cx}(hc:o6 c){w':World}{N':Nat->Prop}(hw: ∀g,c.N g∨(∃id b,c.h id=some b∧g=(c.E id).blk)->w'.heap[g]?=c.w.heap[g]?)(hn: ∀g,c.N g->N' g){s:S}{x:D}{u:B4}{v:Value}(hs:toD c.h s=some (x,u))(hv:r8 c s v)
 (hu: ∀y∈u,∀b,c.h y.1=some b->N' (c.E y.1).blk):t8 w' N' x v:=by
 cases s with
 |d d=>
  simp[toD]at hs
  obtain⟨rfl,rfl⟩:=hs
  exact t8.mono (fun g hg=>⟨hn g hg,hw g (.inl hg)⟩) hv
 |arr id off len=>
  simp only[toD]at hs
  split at hs
  ·rename_i k rows hid
   simp at hs
   obtain⟨rfl,rfl⟩:=hs
   obtain⟨_,_,h3⟩:=hv
   obtain⟨k',rows',he,hle,a,cap,rfl,hlc,hroom,ha⟩:=h3 _ hid
   simp only[k7.arrOf,Option.some.injEq,Prod.mk.injEq]at he
   obtain⟨rfl,rfl⟩:=he
   by_cases h0:len=0
   ·subst h0
    simp only[List.take_zero]
    exact .nil
   ·have hcap: ¬cap=0:=by omega
    obtain rfl:=ha.resolve_left hcap
    obtain⟨cs,ty,fz,hb,_,hrl,hsz,hcell⟩:=hc.blk id _ hid
    have hlen:((rows.drop off).take len).length=len:=by simp;omega
    have hN:=hu (id,none) (by simp) _ hid
    have hcl: ∀j,w'.cell? ⟨(c.E id).blk,j,none⟩=cs[j]?:=fun j=>by
     rw[a4w (hw _ (.inr ⟨id,_,hid,rfl⟩))]
     exact cell_of_row c.w _ j cs ty fz hb
    have hget: ∀i r,((rows.drop off).take len)[i]?=some r->rows[off+i]?=some r:=fun i r hi=>by
     rw[List.getElem?_take]at hi
     split at hi
     ·rwa[List.getElem?_drop]at hi
     ·cases hi
    have key:t8 w' N' (.sl k ((rows.drop off).take len)) (.slice (some ⟨(c.E id).blk,(c.E id).off+off*k,none⟩) ((rows.drop off).take len).length cap):=by
     refine .sl (fun i j=>(cs[(c.E id).off+off*k+i*k+j]?).getD undef) (by omega) hN (fun i r hi=>?_) (fun i r j d hi hd=>?_)
     ·obtain⟨hrk,hcr⟩:=hcell _ r (hget i r hi)
      refine⟨hrk,fun j hj=>?_⟩
      rw[hcl]
      obtain⟨y,hy,_⟩:=hcr j r[j] (by simp)
      have e:(c.E id).off+(off+i)*k+j=(c.E id).off+off*k+i*k+j:=by rw[Nat.add_mul];omega
      rw[e]at hy
      rw[hy];rfl
     ·obtain⟨hrk,hcr⟩:=hcell _ r (hget i r hi)
      obtain⟨y,hy,hd'⟩:=hcr j d hd
      have e:(c.E id).off+(off+i)*k+j=(c.E id).off+off*k+i*k+j:=by rw[Nat.add_mul];omega
      rw[e]at hy
      rw[hy]
      exact t8.mono (fun g hg=>⟨hn g hg,hw g (.inl hg)⟩) hd'
    rw[hlen]at key
    exact key
  ·cases hs
 |_=>simp[toD]at hs
theorem a3w{h:Hp}: ∀(l:List S){xs:List D}{u:B4},Z6 h l=some (xs,u)->xs.length=l.length∧(∀y∈u,y.2=none)∧ ∀(j:Nat)(s:S),l[j]?=some s-> ∃x u',xs[j]?=some x∧toD h s=some (x,u')∧ ∀y∈u',y∈u
 |[],xs,u,h=>by simp[Z6]at h;obtain⟨rfl,rfl⟩:=h;simp
 |s::r,xs,u,hd=>by
  simp only[Z6]at hd
  split at hd
  ·rename_i x u1 xs1 us1 h1 h2
   simp at hd
   obtain⟨rfl,rfl⟩:=hd
   obtain⟨k1,k2,k3⟩:=a3w r h2
   refine⟨by simp[k1],fun y hy=>?_,fun j s' hj=>?_⟩
   ·rcases List.mem_append.1 hy with hy|hy
    ·exact d7d h1 y hy
    ·exact k2 y hy
   ·cases j with
    |zero=>simp at hj;subst hj;exact⟨x,u1,by simp,h1,fun y hy=>List.mem_append.2 (.inl hy)⟩
    |succ j=>
     obtain⟨x',u',e1,e2,e3⟩:=k3 j s' (by simpa using hj)
     exact⟨x',u',by simpa using e1,e2,fun y hy=>List.mem_append.2 (.inr (e3 y hy))⟩
  ·cases hd
theorem a5n{h:Hp}: ∀(l:List (List S)){xs:List (List D)}{u:B4},W4 h l=some (xs,u)->xs.length=l.length∧(∀y∈u,y.2=none)∧ ∀(j:Nat)(s:List S),l[j]?=some s-> ∃x u',xs[j]?=some x∧Z6 h s=some (x,u')∧ ∀y∈u',y∈u
 |[],xs,u,h=>by simp[W4]at h;obtain⟨rfl,rfl⟩:=h;simp
 |s::r,xs,u,hd=>by
  simp only[W4]at hd
  split at hd
  ·rename_i x u1 xs1 us1 h1 h2
   simp at hd
   obtain⟨rfl,rfl⟩:=hd
   obtain⟨k1,k2,k3⟩:=a5n r h2
   refine⟨by simp[k1],fun y hy=>?_,fun j s' hj=>?_⟩
   ·rcases List.mem_append.1 hy with hy|hy
    ·exact(a3w s h1).2.1 y hy
    ·exact k2 y hy
   ·cases j with
    |zero=>simp at hj;subst hj;exact⟨x,u1,by simp,h1,fun y hy=>List.mem_append.2 (.inl hy)⟩
    |succ j=>
     obtain⟨x',u',e1,e2,e3⟩:=k3 j s' (by simpa using hj)
     exact⟨x',u',by simpa using e1,e2,fun y hy=>List.mem_append.2 (.inr (e3 y hy))⟩
  ·cases hd
theorem a5o(k:Nat): ∀(n:Nat)(l:List S),(L7 k n l).length=n
 |0,_=>rfl
 |n+1,l=>by simp[L7,a5o k n]
theorem b0p(k:Nat): ∀(n:Nat)(l:List S)(i:Nat),i<n->(L7 k n l)[i]?=some ((l.drop (i*k)).take k)
 |n+1,l,0,_=>by simp[L7]
 |n+1,l,i+1,h=>by
  simp only[L7,List.getElem?_cons_succ]
  rw[b0p k n (l.drop k) i (by omega),List.drop_drop,Nat.succ_mul,Nat.add_comm]
theorem e1t{c:Cx}(h:o6 c)(cs:Array Value)(ty:TypeId)(fz:Nat×Nat)(w':World)(hw:w'.heap=c.w.heap.push (.cells cs ty fz))(ho:w'.os=c.w.os)(ht:w'.tape=c.w.tape)(hp:w'.output=c.w.output)
 (i:Nat)(hi: ¬c.U i)(b:k7)(p:Loc)(hpb:p.blk=c.w.heap.size)(c':Cx)(hc':c'=⟨w',c.N,a8v c.E i p,fun j=>c.U j∨j=i,m0 c.h [(i,some b)]⟩)(hb:A4 c c'->I6 c' b p):u7 c c':=by
 have e1:=b9k h {w' with heap:=c.w.heap} rfl ho ht hp
 have e:c'=⟨{({w' with heap:=c.w.heap}:World)with heap:=c.w.heap.push (.cells cs ty fz)},c.N,a8v c.E i p,fun j=>c.U j∨j=i,m0 c.h [(i,some b)]⟩:=by
  rw[hc',<-hw]
 refine e1.trans (d2d e1.relh cs ty fz i hi b p hpb c' e fun st=>hb (e1.step.trans st))
section
variable{P:Program}{o:Oper}{fr:Nat->Nat}{c:Cx}{a:Act}{r:W}
theorem T6(hc:o6 c)(hfr: ¬c.U (fr 0)){s:Sem Value}{v:Value}{w':World}(ho:execOp a.eval o=(do pure (.value (<-s))))(hs:s.run P c.w=.ok v w')
 {cs:Array Value}{ty:TypeId}{fz:Nat×Nat}(hw:w'.heap=c.w.heap.push (.cells cs ty fz))(h1:w'.os=c.w.os)(h2:w'.tape=c.w.tape)(h3:w'.output=c.w.output)
 (kills:B4)(hk: ∀x∈kills,x.2=none)(b:k7)(p:Loc)(hp:p.blk=c.w.heap.size)
 (hb: ∀c',c'.w=w'->A4 c c'->(∀x∈kills,∀b,c.h x.1=some b->c'.N (c.E x.1).blk)->(∀g,(c.N g∨ ∃id b,c.h id=some b∧g=(c.E id).blk)->c'.w.heap[g]?=c.w.heap[g]?)->I6 c' b p)
 (hr: ∀c',A4 c c'->c'.w=w'->c'.h (fr 0)=some b->c'.E (fr 0)=p->c'.U (fr 0)->x7 c' r v):u6 P o fr c a r (kills++[(fr 0,some b)]):=by
 intro K Q hK
 obtain⟨c1,e1,f1,f2,f3,f4,f5⟩:=a8a kills c hc hk
 have hfr1: ¬c1.U (fr 0):=by rw[f3];exact hfr
 let c2:Cx:=⟨w',c1.N,a8v c1.E (fr 0) p,fun j=>c1.U j∨j=fr 0,m0 c1.h [(fr 0,some b)]⟩
 have e2:u7 c1 c2:=e1t e1.relh cs ty fz w' (by rw[f1];exact hw) (by rw[f1];exact h1) (by rw[f1];exact h2) (by rw[f1];exact h3) (fr 0) hfr1 b p (by rw[f1];exact hp) c2 rfl fun st=>
  hb c2 rfl (e1.step.trans st) (fun x hx b hb=>(st.n _ (f5 x hx b hb)).1) (fun g hg=>by
   show w'.heap[g]?=_
   rw[hw,Array.getElem?_push,if_neg]
   rcases hg with hg|⟨id,b,hid,rfl⟩
   ·have:=hc.low g hg;omega
   ·obtain⟨cs,ty,fz,hb,_⟩:=hc.blk id b hid
    have:=(Array.getElem?_eq_some_iff.1 hb).1
    omega)
 have eh:c2.h=m0 c.h (kills++[(fr 0,some b)]):=by
  show m0 c1.h [(fr 0,some b)]=_
  rw[f4,<-U1]
 refine b0o ho hs (hK v c2 (e1.trans e2) eh (fun id hid=>?_) (hr c2 (e1.trans e2).step rfl ?_ ?_ (.inr rfl)))
 ·rcases hid with hid|hid
  ·exact .inl (by rw[<-f3];exact hid)
  ·exact .inr ⟨0,by omega,hid⟩
 ·show m0 c1.h [(fr 0,some b)] (fr 0)=_
  rw[l6,if_pos rfl]
 ·show(if fr 0=fr 0 then p else c1.E (fr 0))=p
  rw[if_pos rfl]
theorem N5{t:TypeId}{z:List S}(h:zeroCells P t=some z): ∃i v,P.info? t=some i∧i.zero=some v∧z.length=v.cells.size∧ ∀c:Cx,l0 (r8 c) v.cells 0 z:=by
 unfold zeroCells at h
 split at h
 ·rename_i i hi
  split at h
  ·rename_i v hz
   split at h
   ·rename_i hall
    obtain rfl:=Option.some.inj h
    refine⟨i,v,hi,hz,by simp,fun c j s hj=>?_⟩
    rw[List.getElem?_map]at hj
    cases hq:v.cells.toList[j]? with
    |none=>simp[hq]at hj
    |some y=>
     simp[hq]at hj
     subst hj
     have hy:v.cells[j]?=some y:=by simpa using hq
     exact⟨y,by simpa using hy,b6c c ((Array.all_eq_true_iff_forall_mem.1 hall) y (Array.mem_of_getElem? hy))⟩
   ·cases h
  ·cases h
 ·cases h
theorem c6t{c:Cx}{id:Nat}{cells:List S}{p:Loc}(hh:c.h id=some (.var cells))(hE:c.E id=p)(hU:c.U id)(h0:p.off=0):x7 c (one (.ptr id 0 0)) (.pointer (some ⟨p.blk,0,none⟩)):=by
 refine⟨rfl,hU,fun b hb=>?_⟩
 rw[hh]at hb
 obtain rfl:=Option.some.inj hb
 rw[hE,h0]
 simp
theorem a6b{c:Cx}{id n cap:Nat}{k:Nat}{rows:List (List D)}{p:Loc}(hh:c.h id=some (.arr k rows))(hE:c.E id=p)(hU:c.U id)(hn:n<=rows.length)(hc1:n<=cap)(hc2:cap<=p.room)(h0:p.off=0):x7 c (one (.arr id 0 n)) (.slice (some ⟨p.blk,0,none⟩) n cap):=by
 refine⟨rfl,hU,fun b hb=>?_⟩
 rw[hh]at hb
 obtain rfl:=Option.some.inj hb
 refine⟨k,rows.length,rfl,by omega,_,cap,rfl,hc1,by rw[hE];omega,.inr ?_⟩
 rw[hE,h0]
 simp
theorem a2e(n:Nat): ∀i,i<n-> ¬((0,0).1<=i∧i<(0,0).2):=fun i _ h=>by simp at h
theorem c4u(hc:o6 c)(hfr: ¬c.U (fr 0)){t:TypeId}{z:List S}(ho:o.op=.alloc t)(hz:zeroCells P t=some z):u6 P o fr c a (one (.ptr (fr 0) 0 0)) [(fr 0,some (.var z))]:=by
 obtain⟨i,v,hi,hv,hl,hcell⟩:=N5 hz
 refine T6 (kills:=[]) hc hfr (s:=Instr.alloc t true (.tuple #[])) (by unfold execOp;rw[ho]) (v:=.pointer (some ⟨c.w.heap.size,0,none⟩)) (w':={c.w with heap:=c.w.heap.push (.cells v.cells t)}) ?_ rfl rfl rfl rfl (by simp) (.var z) ⟨c.w.heap.size,0,0⟩ rfl ?_ ?_
 ·simp[Instr.alloc,zeroValue,typeInfo,hi,hv,newVar,newRow]
 ·intro c' hw _ _ _
  refine⟨v.cells,t,(0,0),by rw[hw];simp,a2e _,by simp[hl],hcell c'⟩
 ·intro c' _ _ hh hE hU
  exact c6t hh hE hU rfl
theorem d2f{x:Value}(h:x.oneCell'=true):x.cells= #[x]:=by cases x<;>simp_all[Value.oneCell',Value.cells]
theorem a4y{c:Cx}{v:V}{x:Value}(h:r9 c v x)(hj:v≠.junk):x.cells.size=(t7 v).length∧l0 (r8 c) x.cells 0 (t7 v):=by
 cases v with
 |c s=>
  rw[d2f (r8.one h)]
  refine⟨by simp[t7],fun j s' hj=>?_⟩
  cases j with
  |zero=>simp[t7]at hj;subst hj;exact⟨x,by simp,h⟩
  |succ j=>simp[t7]at hj
 |agg l=>
  obtain⟨cs,rfl,hs,hcell⟩:=h
  exact⟨hs,hcell⟩
 |junk=>exact absurd rfl hj
theorem d2g(hc:o6 c)(hfr: ¬c.U (fr 0)){t:TypeId}{x:Operand}{v:V}(ho:o.op=.box t x)(hv:r9 c v (a.eval x))(hj:v≠.junk):u6 P o fr c a (one (.ptr (fr 0) 0 0)) [(fr 0,some (.var (t7 v)))]:=by
 obtain⟨hl,hcell⟩:=a4y hv hj
 refine T6 (kills:=[]) hc hfr (s:=Instr.box t (a.eval x)) (by unfold execOp;rw[ho]) (v:=.pointer (some ⟨c.w.heap.size,0,none⟩)) (w':={c.w with heap:=c.w.heap.push (.cells (a.eval x).cells t)}) ?_ rfl rfl rfl rfl (by simp) (.var (t7 v)) ⟨c.w.heap.size,0,0⟩ rfl ?_ ?_
 ·simp[Instr.box,newVar,newRow]
 ·intro c' hw st _ _
  refine⟨(a.eval x).cells,t,(0,0),by rw[hw];simp,a2e _,by simp[hl],hcell.imp fun _ _=>r8.mono st⟩
 ·intro c' _ _ hh hE hU
  exact c6t hh hE hU rfl
end
end Go.Vsi
namespace Go.Vsi
theorem l0.setRange{α:Type}{R:α->Value->Prop}{cs:Array Value}{o off:Nat}{l new:List α}{vs:List Value}(h:l0 R cs o l)(hl:vs.length=new.length)
 (hv: ∀(j:Nat)(s:α),new[j]?=some s-> ∃v,vs[j]?=some v∧R s v)(hle:off+new.length<=l.length)(hs:o+l.length<=cs.size):
 l0 R (setRange cs (o+off) vs) o (l.take off++new++l.drop (off+new.length)):=by
 intro j s hj
 have h1:(l.take off).length=off:=by simp;omega
 by_cases hj1:j<off
 ·rw[List.append_assoc,List.getElem?_append_left (by omega),List.getElem?_take,if_pos hj1]at hj
  obtain⟨v,hv',hr⟩:=h j s hj
  exact⟨v,by rw[D0 _ _ _ _ (by omega)];exact hv',hr⟩
 ·by_cases hj2:j<off+new.length
  ·rw[List.getElem?_append_left (by simp;omega),List.getElem?_append_right (by omega),h1]at hj
   obtain⟨v,hv',hr⟩:=hv _ s hj
   have:=a1d vs cs (o+off) (j-off) v (by omega) hv'
   rw[show o+off+(j-off)=o+j by omega]at this
   exact⟨v,this,hr⟩
  ·rw[List.getElem?_append_right (by simp;omega)]at hj
   have e:(l.take off++new).length=off+new.length:=by simp;omega
   rw[e,List.getElem?_drop]at hj
   obtain⟨v,hv',hr⟩:=h _ s hj
   refine⟨v,?_,hr⟩
   rw[D0 _ _ _ _ (by omega),<-hv']
   congr 1;omega
theorem a9h(off:Nat): ∀(vs:List Value)(k:Nat)(cs:Array Value),(vs.zipIdx k).foldl (fun(cs:Array Value)(p:Value×Nat)=>cs.setIfInBounds (off+p.2) p.1) cs=setRange cs (off+k) vs
 |[],_,_=>rfl
 |v::r,k,cs=>by
  simp only[List.zipIdx_cons,List.foldl_cons]
  rw[a9h off r (k+1)]
  rfl
inductive b6f(c:Cx):List (Nat×V)->List (Nat×Value)->Prop
 |nil:b6f c [] []
 |cons {i:Nat} {v:V} {x:Value} {l:List (Nat×V)} {m:List (Nat×Value)}:r9 c v x->b6f c l m->b6f c ((i,v)::l) ((i,x)::m)
theorem c9i{place:Nat->Option (Nat×Nat)}{l:List S}{i:Nat}{v:V}{r:List (Nat×V)}(h:v≠.junk):Y0 place l ((i,v)::r)=match place i with
 |none=>none
 |some (off,size)=>match Nat.beq (t7 v).length size&&Nat.ble (off+size) l.length with
  |true=>Y0 place (l.take off++t7 v++l.drop (off+size)) r
  |false=>none:=by cases v<;>first|rfl|exact absurd rfl h
theorem b4y{c:Cx}{place:Nat->Option (Nat×Nat)}{l:List S}{parts:List (Nat×V)}{vparts:List (Nat×Value)}{l':List S}{cs:Array Value}(hp:b6f c parts vparts):
 Y0 place l parts=some l'->cs.size=l.length->l0 (r8 c) cs 0 l-> ∃cs',Instr.fill place cs vparts=some cs'∧cs'.size=l'.length∧l'.length=l.length∧l0 (r8 c) cs' 0 l':=by
 induction hp generalizing l cs with
 |nil=>
  intro h hs hc
  simp[Y0]at h
  subst h
  exact⟨cs,rfl,hs,rfl,hc⟩
 | @cons i v x r m hv _ ih=>
   intro h hs hc
   by_cases hv0:v=.junk
   ·subst hv0;simp[Y0]at h
   ·rw[c9i hv0]at h
    split at h
    ·cases h
    ·rename_i off size hpl
     split at h
     ·rename_i hb
      simp only[Bool.and_eq_true]at hb
      have hb1:=Nat.eq_of_beq_eq_true hb.1
      have hb2:=Nat.le_of_ble_eq_true hb.2
      obtain⟨hl,hcell⟩:=a4y hv hv0
      have hset:=hc.setRange (off:=off) (new:=t7 v) (vs:=x.cells.toList) (by simpa using hl) (fun j s hj=>by
       obtain⟨y,hy,hr⟩:=hcell j s hj
       exact⟨y,by simpa using hy,hr⟩) (by omega) (by omega)
      rw[hb1]at hset
      have hlen:((l.take off)++t7 v++l.drop (off+size)).length=l.length:=by simp[hb1];omega
      obtain⟨cs',k1,k2,k3,k4⟩:=ih (cs:=setRange cs off x.cells.toList) h (by rw[A6,hs];exact hlen.symm) (by simpa using hset)
      refine⟨cs',?_,k2,by rw[k3,hlen],k4⟩
      simp only[Instr.fill,hpl]
      rw[if_neg (by simp[hs,hl,hb1];omega)]
      have hf:(Array.foldl (fun(cs:Array Value)(p:Value×Nat)=>cs.setIfInBounds (off+p.2) p.1) cs x.cells.zipIdx)=setRange cs off x.cells.toList:=by
       rw[<-Array.foldl_toList,Array.toList_zipIdx]
       exact a9h off _ 0 cs
      rw[<-k1,<-hf]
     ·cases h
theorem b0q{c:Cx}{ev:Operand->W}{a:Act}(hev: ∀x,x7 c (ev x) (a.eval x)): ∀(l:List (Nat×Operand)),b6f c (l.map fun(i,x)=>(i,match ev x with|.one v=>v|.tup _=>.junk)) (l.map fun(i,x)=>(i,a.eval x))
 |[]=>.nil
 |(i,x)::r=>by
  refine .cons ?_ (b0q hev r)
  have:=hev x
  cases h:ev x with
  |one v=>rw[h]at this;exact this
  |tup l=>trivial
section
variable{P:Program}{o:Oper}{fr:Nat->Nat}{c:Cx}{a:Act}{r:W}
theorem c4v{fs:List Field}(h: ∀f∈fs,(P.info? f.type).isSome=true)(w:World):
 (fs.mapM (fun f=>(do pure (f.offset,<-sizeOf f.type):Sem (Nat×Nat)))).run P w=.ok (fs.map fun f=>(f.offset,P.cellsOf f.type)) w:=by
 induction fs with
 |nil=>rfl
 |cons f r ih=>
  obtain⟨i,hi⟩:=Option.isSome_iff_exists.1 (h f (by simp))
  have:=ih fun g hg=>h g (by simp[hg])
  simp only[List.mapM_cons,Sem.run_bind,sizeOf,typeInfo,run_program,Result.andThen_ok,hi,Sem.run_pure,List.map_cons]
  simp only[sizeOf,typeInfo]at this
  rw[this]
  simp[Program.cellsOf,hi]
theorem c4w(hc:o6 c){ev:Operand->W}(hev: ∀x,x7 c (ev x) (a.eval x)){t:TypeId}{parts:Array (Nat×Operand)}{fs:Array Field}{z l:List S}(ho:o.op=.build t parts)
 (hu:P.underlying t=some (.struct fs))(hz:zeroCells P t=some z)(hfs:(fs.all fun f=>(P.info? f.type).isSome)=true)
 (hf:Y0 (fun i=>(fs[i]?).map fun f=>(f.offset,P.cellsOf f.type)) z (parts.toList.map fun(i,x)=>(i,match ev x with|.one v=>v|.tup _=>.junk))=some l):u6 P o fr c a (.one (.agg l)) []:=by
 obtain⟨i,v,hi,hv,hl,hcell⟩:=N5 hz
 obtain⟨cs',k1,k2,_,k4⟩:=b4y (b0q hev parts.toList) hf hl.symm (hcell c)
 refine w9 hc (s:=Instr.build t (parts.map fun(i,x)=>(i,a.eval x))) (by unfold execOp;rw[ho]) (v:=.agg cs') ?_ ⟨cs',rfl,k2,k4⟩
 have hpl:(fs.mapM (fun f=>(do pure (f.offset,<-sizeOf f.type):Sem (Nat×Nat)))).run P c.w=.ok (fs.map fun f=>(f.offset,P.cellsOf f.type)) c.w:=by
  have hm:=c4v (P:=P) (fs:=fs.toList) (fun f hf=>(Array.all_eq_true_iff_forall_mem.1 hfs) f (by simpa using hf)) c.w
  have e:fs.mapM (fun f=>(do pure (f.offset,<-sizeOf f.type):Sem (Nat×Nat)))=(List.toArray<$>fs.toList.mapM (fun f=>(do pure (f.offset,<-sizeOf f.type):Sem (Nat×Nat)))):=by
   rw[Array.mapM_eq_mapM_toList]
  rw[e,Sem.run_map,hm]
  simp
  apply Array.ext'
  simp
 have hk:Instr.fill (fun x=>(fs.map fun f=>(f.offset,P.cellsOf f.type))[x]?) v.cells (parts.map fun(i,x)=>(i,a.eval x)).toList=some cs':=by
  rw[Array.toList_map,<-k1]
  congr 1
  funext x
  rw[Array.getElem?_map]
 unfold Instr.build
 simp only[Sem.run_bind,zeroValue,typeInfo,run_program,Result.andThen_ok,hi,hv,Sem.run_pure,run_underlying hu,hpl,hk]
end
theorem b4z(z:List S): ∀(n j:Nat),0<z.length->((List.replicate n z).flatten)[j]?=if j<n*z.length then z[j%z.length]? else none
 |0,j,_=>by simp
 |n+1,j,h=>by
  rw[List.replicate_succ,List.flatten_cons]
  by_cases hj:j<z.length
  ·rw[List.getElem?_append_left hj,if_pos (by rw[Nat.succ_mul];omega),Nat.mod_eq_of_lt hj]
  ·rw[List.getElem?_append_right (by omega),b4z z n _ h]
   have e:(j-z.length)%z.length=j%z.length:=by
    conv=>rhs;rw[show j=j-z.length+z.length by omega,Nat.add_mod_right]
   rw[e]
   by_cases h2:j<(n+1)*z.length
   ·rw[if_pos h2,if_pos (by rw[Nat.succ_mul]at h2;omega)]
   ·rw[if_neg h2,if_neg (by rw[Nat.succ_mul]at h2;omega)]
theorem b0r(z:List S)(n:Nat):((List.replicate n z).flatten).length=n*z.length:=by simp
theorem b1t{c:Cx}{z:List S}{v:Value}{k:Nat}(hk:z.length=k)(hl:z.length=v.cells.size)(hcell:l0 (r8 c) v.cells 0 z)(n:Nat)(cs:Array Value)
 (hcs:cs=(Array.range (n*k)).map (v.cells[· %v.cells.size]!)):cs.size=((List.replicate n z).flatten).length∧l0 (r8 c) cs 0 ((List.replicate n z).flatten):=by
 subst hcs
 refine⟨by rw[b0r,hk];simp,fun j s hj=>?_⟩
 by_cases h0:z.length=0
 ·have:(List.replicate n z).flatten=[]:=by rw[List.eq_nil_iff_length_eq_zero,b0r,h0];rfl
  rw[this]at hj;simp at hj
 ·rw[b4z z n j (by omega)]at hj
  split at hj
  ·rename_i hlt
   obtain⟨y,hy,hr⟩:=hcell _ s hj
   rw[Nat.zero_add]at hy
   refine⟨y,?_,hr⟩
   rw[Nat.zero_add,Array.getElem?_map,Array.getElem?_range,if_pos (by rw[<-hk];omega)]
   simp only[Option.map_some,Option.some.injEq]
   rw[<-hl]
   rw[hl]at hy⊢
   simp[getElem!_def,hy]
  ·cases hj
theorem d7e{c:Cx}{w':World}{N':Nat->Prop}{k n:Nat}{l:List S}{rows:List (List D)}{kills:B4}{cs:Array Value}(hl:l.length=n*k)(hrows:W4 c.h (L7 k n l)=some (rows,kills))(hcell:l0 (r8 c) cs 0 l)
 (hd: ∀s x u v,toD c.h s=some (x,u)->r8 c s v->(∀y∈u,y∈kills)->t8 w' N' x v):
 rows.length=n∧ ∀i r,rows[i]?=some r->r.length=k∧l0 (t8 w' N') cs (0+i*k) r:=by
 obtain⟨h1,h2,h3⟩:=a5n _ hrows
 rw[a5o]at h1
 refine⟨h1,fun i r hi=>?_⟩
 have hin:i<n:=by rw[<-h1];exact(List.getElem?_eq_some_iff.1 hi).1
 obtain⟨x,u',e1,e2,e3⟩:=h3 i _ (b0p k n l i hin)
 rw[hi]at e1
 obtain rfl:=Option.some.inj e1
 obtain⟨g1,g2,g3⟩:=a3w _ e2
 have hlt:i*k+k<=n*k:=by
  have:=Nat.mul_le_mul_right k (show i+1<=n from hin)
  rw[Nat.succ_mul]at this;exact this
 have hlen:((l.drop (i*k)).take k).length=k:=by simp;omega
 refine⟨by rw[g1,hlen],fun j d hj=>?_⟩
 have hjk:j<k:=by rw[<-hlen,<-g1];exact(List.getElem?_eq_some_iff.1 hj).1
 obtain⟨d',u2,f1,f2,f3⟩:=g3 j _ (List.getElem?_eq_getElem (by omega))
 rw[hj]at f1
 obtain rfl:=Option.some.inj f1
 have hs:l[i*k+j]?=some ((l.drop (i*k)).take k)[j]:=by
  rw[<-List.getElem?_eq_getElem (by omega),List.getElem?_take,if_pos hjk,List.getElem?_drop]
 obtain⟨v,hv,hr⟩:=hcell _ _ hs
 exact⟨v,by rw[Nat.zero_add]at hv⊢;exact hv,hd _ _ _ _ f2 hr fun y hy=>e3 y (f3 y hy)⟩
section
variable{P:Program}{o:Oper}{fr:Nat->Nat}{c:Cx}{a:Act}{r:W}
theorem b5a(hc:o6 c)(hfr: ¬c.U (fr 0)){ev:Operand->W}(hev: ∀x,x7 c (ev x) (a.eval x)){t e:TypeId}{n k:Nat}{parts:Array (Nat×Operand)}{z l:List S}{rows:List (List D)}{kills:B4}(ho:o.op=.buildSlice t n parts)
 (hu:P.underlying t=some (.slice e))(hk:k=P.cellsOf e)(hz:zeroCells P e=some z)(hzk:z.length=k)(h24:n*k<=16777216)
 (hf:Y0 (fun i=>some (i*k,k)) ((List.replicate n z).flatten) (parts.toList.map fun(i,x)=>(i,match ev x with|.one v=>v|.tup _=>.junk))=some l)(hrows:W4 c.h (L7 k n l)=some (rows,kills)):
 u6 P o fr c a (one (.arr (fr 0) 0 n)) (kills++[(fr 0,some (.arr k rows))]):=by
 obtain⟨i,v,hi,hv,hl,hcell⟩:=N5 hz
 have hik:i.size=k:=by rw[hk];simp[Program.cellsOf,hi]
 obtain⟨q1,q2⟩:=b1t hzk hl (hcell c) n _ rfl
 obtain⟨cs',k1,k2,k3,k4⟩:=b4y (b0q hev parts.toList) hf q1 q2
 have hll:l.length=n*k:=by rw[k3,b0r,hzk]
 refine T6 hc hfr (s:=Instr.buildSlice t n (parts.map fun(i,x)=>(i,a.eval x))) (by unfold execOp;rw[ho]) (v:=.slice (some ⟨c.w.heap.size,0,none⟩) n n) (w':={c.w with heap:=c.w.heap.push (.cells cs' e)}) ?_ rfl rfl rfl rfl kills (a5n _ hrows).2.1 (.arr k rows) ⟨c.w.heap.size,0,n⟩ rfl ?_ ?_
 ·have hfill:Instr.fill (fun i=>some (i*k,k)) ((Array.range (n*k)).map (v.cells[· %v.cells.size]!)) (parts.map fun(i,x)=>(i,a.eval x)).toList=some cs':=by
   rw[Array.toList_map];exact k1
  unfold Instr.buildSlice
  simp only[Sem.run_bind,run_underlying hu,Result.andThen_ok,sizeOf,typeInfo,run_program,hi,Sem.run_pure,hik]
  rw[if_neg (by omega)]
  by_cases h0:n*k=0
  ·rw[if_pos h0]
   have e0:(Array.map (fun x=>(#[]:Array Value)[x%(#[]:Array Value).size]!) (Array.range (n*k)))=(Array.range (n*k)).map (v.cells[· %v.cells.size]!):=by rw[h0];simp
   simp only[Sem.run_pure,Result.andThen_ok,e0,hfill,Sem.run_bind,newRow,run_newObj]
  ·rw[if_neg h0]
   simp only[Sem.run_bind,zeroValue,typeInfo,run_program,Result.andThen_ok,hi,hv,Sem.run_pure,hfill,newRow,run_newObj]
 ·intro c' hw st hkn hsame
  obtain⟨r1,r2⟩:=d7e (w':=c'.w) (N':=c'.N) hll hrows k4 (fun s x u y hs hy hu=>a9g hc hsame (fun g hg=>(st.n g hg).1) hs hy fun y hy b hb=>hkn y (hu y hy) b hb)
  refine⟨cs',e,(0,0),by rw[hw];simp,a2e _,by simp[r1],by simp[k2,hll],r2⟩
 ·intro c' _ _ hh hE hU
  refine a6b hh hE hU ?_ (Nat.le_refl _) (Nat.le_refl _) rfl
  have h1:=(a5n _ hrows).1
  rw[a5o]at h1
  omega
end
end Go.Vsi
namespace Go.Vsi
theorem b8b(h:Hp)(i:Nat)(b:Option k7):m0 (m0 h [(i,none)]) [(i,b)]=m0 h [(i,b)]:=by
 funext j
 rw[l6,l6,l6]
 split<;>rfl
theorem P5{id:Nat}: ∀(r:B4)(h:Hp),(∀x∈r,x.1≠id)->m0 h r id=h id
 |[],_,_=>rfl
 |(i,y)::r,h,hk=>by
  rw[E6,P5 r _ (fun x hx=>hk x (by simp[hx])),l6,if_neg]
  intro e
  exact hk (i,y) (by simp) e.symm
theorem b9n{c:Cx}(hc:o6 c)(kills:B4)(hk: ∀x∈kills,x.2=none){id:Nat}(hk2: ∀x∈kills,x.1≠id){b0 b:k7}(hid:c.h id=some b0)(hcm:n9 b0 b)
 {cs:Array Value}{ty:TypeId}{fz:Nat×Nat}(hcs:c.w.heap[(c.E id).blk]?=some (.cells cs ty fz))(q:Nat)(vs:List Value)
 (hb: ∀c1 c2,c1.w=c.w->A4 c c1->(∀x∈kills,∀b,c.h x.1=some b->c1.N (c.E x.1).blk)->A4 c1 c2->c2.w.heap[(c.E id).blk]?=some (.cells (setRange cs q vs) ty fz)->I6 c2 b (c.E id)):
 ∃c',u7 c c'∧c'.w=c.w.setCells (c.E id).blk q vs∧c'.h=m0 c.h (kills++[(id,some b)])∧ ∀x,c'.U x->c.U x:=by
 obtain⟨c1,e1,f1,f2,f3,f4,f5⟩:=a8a kills c hc hk
 have hid1:c1.h id=some b0:=by
  rw[f4,P5 kills c.h hk2]
  exact hid
 have hE1:c1.E id=c.E id:=by rw[f2]
 obtain⟨k1,k2,k3,k4,k5,k6⟩:=W5 (c.E id).blk ty fz vs q cs c.w hcs
 let c2:Cx:=⟨c.w.setCells (c.E id).blk q vs,c1.N,a8v c1.E id (c.E id),fun x=>c1.U x∨x=id,m0 (m0 c1.h [(id,none)]) [(id,some b)]⟩
 have e2:u7 c1 c2:=a4x e1.relh id b0 hid1 id (.inl rfl) b (c.E id) (by rw[hE1]) (fun _=>⟨hcm,hE1.symm⟩) (c.w.setCells (c.E id).blk q vs) (by rw[f1];exact k2) (fun g hg=>by rw[f1];exact k3 g (by rw[hE1]at hg;exact hg)) (by rw[f1];exact k4) (by rw[f1];exact k5) (by rw[f1];exact k6) c2 rfl
  fun st=>hb c1 c2 f1 e1.step f5 st k1
 refine⟨c2,e1.trans e2,rfl,?_,fun x hx=>?_⟩
 ·show m0 (m0 c1.h [(id,none)]) [(id,some b)]=_
  rw[b8b,f4,<-U1]
 ·rcases hx with hx|rfl
  ·rw[<-f3];exact hx
  ·exact hc.used _ _ hid
section
variable{P:Program}{o:Oper}{fr:Nat->Nat}{c:Cx}{a:Act}{r:W}
theorem b6g(hc:o6 c){x y:Operand}{t:TypeId}{v:V}{id off:Nat}{cells:List S}(ho:o.op=.store t x y)(hx:r8 c (.ptr id 0 off) (a.eval x))(hv:r9 c v (a.eval y))(hj:v≠.junk)
 {i:TypeInfo}(hi:P.info? t=some i)(hl:(t7 v).length=i.size)(hid:c.h id=some (.var cells))(hle:off+(t7 v).length<=cells.length):
 u6 P o fr c a (.one .junk) [(id,some (.var (cells.take off++t7 v++cells.drop (off+(t7 v).length))))]:=by
 intro K Q hK
 obtain⟨cs,ty,fz,hcs,hfz,hsz,hcell⟩:=hc.blk id _ hid
 obtain⟨g1,g2⟩:=a4y hv hj
 obtain⟨c',e,hw,hh,hU⟩:=b9n (c:=c) hc [] (by simp) (by simp) hid (b:=.var (cells.take off++t7 v++cells.drop (off+(t7 v).length))) (by simp only[n9];simp;omega) hcs ((c.E id).off+off) (a.eval y).cells.toList
  (fun c1 c2 f1 st1 _ st2 hb=>by
    refine⟨_,ty,fz,hb,by rw[A6];exact hfz,by rw[A6];simp;omega,?_⟩
    refine(hcell.imp fun _ _=>r8.mono (st1.trans st2)).setRange (by simpa using g1) (fun j s hj=>?_) hle hsz
    obtain⟨u,hu,hr⟩:=g2 j s hj
    exact⟨u,by simpa using hu,r8.mono (st1.trans st2) hr⟩)
 have hp:a.eval x=.pointer (some ⟨(c.E id).blk,(c.E id).off+off,none⟩):=by
  have:=hx.2.2 _ hid
  rw[this]
  simp
 have hone: ∀u∈(a.eval y).cells,u.oneCell'=true:=fun u hu=>by
  obtain⟨j,hj⟩:=Array.getElem?_of_mem hu
  have hlt:j<(t7 v).length:=by rw[<-g1];exact(Array.getElem?_eq_some_iff.1 hj).1
  obtain⟨u',hu',hr⟩:=g2 j _ (List.getElem?_eq_getElem hlt)
  rw[Nat.zero_add,hj]at hu'
  obtain rfl:=Option.some.inj hu'
  exact hr.one
 refine wp_skip (s:=Instr.storeAt t (a.eval x) (a.eval y)) (by unfold execOp;rw[ho]) ?_ (hK undef c' e (by simpa using hh) (fun u hu=>.inl (hU u hu)) trivial)
 rw[hw,hp]
 simp only[Instr.storeAt,Instr.sureAddr,Sem.run_bind,Sem.run_pure,Result.andThen_ok]
 exact b1s hcs hfz (by simp[Program.cellsOf,hi,g1,hl]) ⟨i,hi⟩ (by rw[g1];omega) hone
theorem b6h(hc:o6 c){x y:Operand}{t:TypeId}{v:V}{id row off k:Nat}{rows:List (List D)}{rr:List D}{ds:List D}{kills:B4}(ho:o.op=.store t x y)(hx:r8 c (.ptr id row off) (a.eval x))(hv:r9 c v (a.eval y))(hj:v≠.junk)
 {i:TypeInfo}(hi:P.info? t=some i)(hl:(t7 v).length=i.size)(hid:c.h id=some (.arr k rows))(hrow:rows[row]?=some rr)(hle:off+(t7 v).length<=rr.length)(hds:Z6 c.h (t7 v)=some (ds,kills))(hkn: ∀x∈kills,x.1≠id):
 u6 P o fr c a (.one .junk) (kills++[(id,some (.arr k (rows.set row (rr.take off++ds++rr.drop (off+(t7 v).length)))))]):=by
 intro K Q hK
 obtain⟨cs,ty,fz,hcs,hfz,hrl,hsz,hcell⟩:=hc.blk id _ hid
 obtain⟨g1,g2⟩:=a4y hv hj
 obtain⟨d1,d2,d3⟩:=a3w _ hds
 have hrowlt:row<rows.length:=(List.getElem?_eq_some_iff.1 hrow).1
 obtain⟨hrk,hrc⟩:=hcell row rr hrow
 have hq:row*k+k<=(c.E id).room*k:=by
  have:=Nat.mul_le_mul_right k (show row+1<=(c.E id).room by omega)
  rw[Nat.succ_mul]at this;exact this
 obtain⟨c',e,hw,hh,hU⟩:=b9n (c:=c) hc kills d2 hkn hid (b:=.arr k (rows.set row (rr.take off++ds++rr.drop (off+(t7 v).length)))) (by simp[n9,k7.arrOf]) hcs ((c.E id).off+row*k+off) (a.eval y).cells.toList
  (fun c1 c2 f1 st1 hkN st2 hb=>by
    refine⟨_,ty,fz,hb,by rw[A6];exact hfz,by simpa using hrl,by rw[A6];exact hsz,fun j r hj=>?_⟩
    by_cases hjr:j=row
    ·subst hjr
     rw[List.getElem?_set_self hrowlt]at hj
     obtain rfl:=Option.some.inj hj
     refine⟨by simp;omega,?_⟩
     have base:l0 (t8 c2.w c2.N) cs ((c.E id).off+j*k) rr:=hrc.imp fun _ _ hd=>t8.mono (st1.trans st2).n hd
     rw[<-d1]at hle⊢
     refine base.setRange (by simp;omega) (fun m d hm=>?_) hle (by omega)
     have hml:m<(t7 v).length:=by rw[<-d1];exact(List.getElem?_eq_some_iff.1 hm).1
     obtain⟨d',u',q1,q2,q3⟩:=d3 m _ (List.getElem?_eq_getElem hml)
     rw[hm]at q1
     obtain rfl:=Option.some.inj q1
     obtain⟨z,hz,hr⟩:=g2 m _ (List.getElem?_eq_getElem hml)
     rw[Nat.zero_add]at hz
     refine⟨z,by simpa using hz,?_⟩
     refine t8.mono st2.n (a9g (w':=c1.w) (N':=c1.N) hc (fun g _=>by rw[f1]) (fun g hg=>(st1.n g hg).1) q2 hr fun y hy b hb=>hkN y (q3 y hy) b hb)
    ·rw[List.getElem?_set_ne (Ne.symm hjr)]at hj
     obtain⟨h1,h2⟩:=hcell j r hj
     refine⟨h1,fun m d hm=>?_⟩
     obtain⟨z,hz,hr⟩:=h2 m d hm
     refine⟨z,?_,t8.mono (st1.trans st2).n hr⟩
     rw[D0,hz]
     have hmk:m<k:=by rw[<-h1];exact(List.getElem?_eq_some_iff.1 hm).1
     simp only[Array.length_toList,g1]
     rcases Nat.lt_or_gt_of_ne hjr with hlt|hgt
     ·left
      have:=Nat.mul_le_mul_right k (show j+1<=row from hlt)
      rw[Nat.succ_mul]at this;omega
     ·right
      have:=Nat.mul_le_mul_right k (show row+1<=j from hgt)
      rw[Nat.succ_mul]at this;omega)
 have hp:a.eval x=.pointer (some ⟨(c.E id).blk,(c.E id).off+row*k+off,none⟩):=hx.2.2 _ hid
 have hone: ∀u∈(a.eval y).cells,u.oneCell'=true:=fun u hu=>by
  obtain⟨j,hj⟩:=Array.getElem?_of_mem hu
  have hlt:j<(t7 v).length:=by rw[<-g1];exact(Array.getElem?_eq_some_iff.1 hj).1
  obtain⟨u',hu',hr⟩:=g2 j _ (List.getElem?_eq_getElem hlt)
  rw[Nat.zero_add,hj]at hu'
  obtain rfl:=Option.some.inj hu'
  exact hr.one
 refine wp_skip (s:=Instr.storeAt t (a.eval x) (a.eval y)) (by unfold execOp;rw[ho]) ?_ (hK undef c' e hh (fun u hu=>.inl (hU u hu)) trivial)
 rw[hw,hp]
 simp only[Instr.storeAt,Instr.sureAddr,Sem.run_bind,Sem.run_pure,Result.andThen_ok]
 exact b1s hcs hfz (by simp[Program.cellsOf,hi,g1,hl]) ⟨i,hi⟩ (by rw[g1];omega) hone
end
end Go.Vsi
namespace Go.Vsi
theorem a9i{c:Cx}{v:V}{x:Value}{n:Int}(h:a1u v=some n)(hr:r9 c v x): ∃k,x=.int k n:=by
 unfold a1u at h
 split at h
 ·rename_i k m
  obtain rfl:=Option.some.inj h
  cases hr with
  |v hp=>exact⟨k,rfl⟩
 ·cases h
theorem J1{P:Program}{t e:TypeId}(h:D6 P t=some e):P.underlying t=some (.slice e):=by
 unfold D6 at h
 split at h
 ·rename_i e' hu
  obtain rfl:=Option.some.inj h
  exact hu
 ·cases h
theorem c6u(n:Int)(h0:0<=n)(h1:n<=70368744177664):IntKind.i64.wrap n=n:=by
 have e1:n%18446744073709551616=n:=Int.emod_eq_of_lt h0 (by omega)
 show(if(IntKind.i64.signed&&decide (n%2^IntKind.i64.bits≥2^(IntKind.i64.bits-1)))=true then _ else _)=n
 have e2:(2:Int)^IntKind.i64.bits=18446744073709551616:=rfl
 have e3:(2:Int)^(IntKind.i64.bits-1)=9223372036854775808:=rfl
 rw[e2,e3,e1,if_neg]
 simp
 omega
section
variable{P:Program}{o:Oper}{fr:Nat->Nat}{c:Cx}{a:Act}{r:W}
theorem b6i(hc:o6 c)(hfr: ¬c.U (fr 0)){x y:Operand}{t e:TypeId}{vx vy:V}{n m:Int}{z:List S}{row:List D}(ho:o.op=.makeSlice t x y)(hu:D6 P t=some e)
 (hx:r9 c vx (a.eval x))(hxn:a1u vx=some n)(hy:r9 c vy (a.eval y))(hyn:a1u vy=some m)(hz:zeroCells P e=some z)(h0:0<=n)(h1:n<=m)(h2:m*P.bytesOf e<=room)(h3:m<=room)
 (hzk:z.length=P.cellsOf e)(hrow:Z6 c.h z=some (row,[])):
 u6 P o fr c a (one (.arr (fr 0) 0 n.toNat)) [(fr 0,some (.arr (P.cellsOf e) (List.replicate n.toNat row)))]:=by
 obtain⟨i,v,hi,hv,hl,hcell⟩:=N5 hz
 have hik:i.size=P.cellsOf e:=by simp[Program.cellsOf,hi]
 have hib:P.bytesOf e=i.bytes:=by simp[Program.bytesOf,hi]
 obtain⟨kx,ex⟩:=a9i hxn hx
 obtain⟨ky,ey⟩:=a9i hyn hy
 obtain⟨q1,q2⟩:=b1t (c:=c) hzk hl (hcell c) m.toNat _ rfl
 refine T6 (kills:=[]) hc hfr (s:=Instr.makeSlice t (a.eval x) (a.eval y)) (by unfold execOp;rw[ho]) (v:=.slice (some ⟨c.w.heap.size,0,none⟩) n.toNat m.toNat)
  (w':={c.w with heap:=c.w.heap.push (.cells ((Array.range (m.toNat*P.cellsOf e)).map (v.cells[· %v.cells.size]!)) e)}) ?_ rfl rfl rfl rfl (by simp) (.arr (P.cellsOf e) (List.replicate n.toNat row)) ⟨c.w.heap.size,0,m.toNat⟩ rfl ?_ ?_
 ·rw[ex,ey]
  have w1:=c6u n h0 (by simp only[room]at h3;omega)
  have w2:=c6u m (by omega) (by simp only[room]at h3;omega)
  rw[hib]at h2
  have h2': ¬(281474976710656<(i.bytes:Int)*m):=by
   rw[Int.mul_comm];simp only[room]at h2;omega
  have hm0: ¬m<0:=by omega
  have hn0: ¬n<0:=by omega
  have hnm: ¬m<n:=by omega
  unfold Instr.makeSlice
  simp only[Sem.run_bind,run_underlying (J1 hu),Result.andThen_ok,asInt,asIntOf,Sem.run_pure,typeInfo,run_program,hi,w1,w2]
  by_cases hz0:m.toNat*i.size=0
  ·have e0:(Array.map (fun x=>(#[]:Array Value)[x%(#[]:Array Value).size]!) (Array.range (m.toNat*i.size)))=(Array.range (m.toNat*P.cellsOf e)).map (v.cells[· %v.cells.size]!):=by rw[<-hik,hz0];simp
   simp[h2',hm0,hn0,hnm,sizeOf,typeInfo,hi,hz0,newRow,<-hik]
   congr 2
   simp
  ·simp[h2',hm0,hn0,hnm,sizeOf,typeInfo,hi,hz0,newRow,zeroValue,hv,<-hik]
 ·intro c' hw st _ _
  obtain⟨d1,d2,d3⟩:=a3w _ hrow
  refine⟨(Array.range (m.toNat*P.cellsOf e)).map (v.cells[· %v.cells.size]!),e,(0,0),by rw[hw];simp,a2e _,by simp;omega,by simp,fun j r hj=>?_⟩
  have hjn:j<n.toNat:=by
   have:=(List.getElem?_eq_some_iff.1 hj).1
   simpa using this
  obtain rfl:row=r:=by
   rw[List.getElem?_replicate,if_pos hjn]at hj
   exact Option.some.inj hj
  refine⟨by rw[d1,hzk],fun k d hk=>?_⟩
  have hkl:k<z.length:=by rw[<-d1];exact(List.getElem?_eq_some_iff.1 hk).1
  obtain⟨d',u',g1,g2,g3⟩:=d3 k _ (List.getElem?_eq_getElem hkl)
  rw[hk]at g1
  obtain rfl:=Option.some.inj g1
  have hlt:j*P.cellsOf e+k<m.toNat*P.cellsOf e:=by
   have:=Nat.mul_le_mul_right (P.cellsOf e) (show j+1<=m.toNat by omega)
   rw[Nat.succ_mul]at this
   omega
  have hf:((List.replicate m.toNat z).flatten)[j*P.cellsOf e+k]?=some z[k]:=by
   rw[b4z z _ _ (by omega),hzk,if_pos hlt,Nat.mul_comm,Nat.mul_add_mod,Nat.mod_eq_of_lt (by omega)]
   simp[hkl]
  obtain⟨u,hu',hr⟩:=q2 _ _ hf
  refine⟨u,by rw[<-hu'];congr 1;show 0+_+_=_;omega,?_⟩
  exact a9g (w':=c'.w) (N':=c'.N) hc (fun g hg=>by
   rw[hw]
   show(c.w.heap.push _)[g]?=_
   rw[Array.getElem?_push,if_neg]
   rcases hg with hg|⟨id,b,hid,rfl⟩
   ·have:=hc.low g hg;omega
   ·obtain⟨cs,ty,fz,hb,_⟩:=hc.blk id b hid
    have:=(Array.getElem?_eq_some_iff.1 hb).1
    omega) (fun g hg=>(st.n g hg).1) g2 hr (fun y hy=>by
     have:=g3 y hy
     simp at this)
 ·intro c' _ _ hh hE hU
  refine a6b hh hE hU (by simp) (by omega) (Nat.le_refl _) rfl
theorem a2q{n:Nat}{lo hi:Option V}{l h:Nat}(hb:W9 n lo hi=some (l,h)):l<=h∧h<=n∧(∀v,lo=some v->a1u v=some (l:Int))∧(lo=none->l=0)∧(∀v,hi=some v->a1u v=some (h:Int))∧(hi=none->h=n):=by
 unfold W9 at hb
 split at hb
 ·cases hb
 ·rename_i H hH
  split at hb
  ·cases hb
  ·rename_i L hL
   split at hb
   ·rename_i hd
    simp only[Bool.and_eq_true,decide_eq_true_eq]at hd
    obtain⟨rfl,rfl⟩:=Prod.mk.inj (Option.some.inj hb)
    refine⟨by omega,by omega,?_,?_,?_,?_⟩
    ·rintro v rfl;simp only at hL;rw[hL];congr 1;omega
    ·rintro rfl;simp at hL;omega
    ·rintro v rfl;simp only at hH;rw[hH];congr 1;omega
    ·rintro rfl;simp at hH;omega
   ·cases hb
theorem a2r{c:Cx}{a:Act}{isSl:Bool}{n cap:Nat}{lo hi:Option Operand}{ev:Operand->V}(hev: ∀x,r9 c (ev x) (a.eval x)){l h:Nat}(hb:W9 n (lo.map ev) (hi.map ev)=some (l,h))(hn:n<=cap)(w:World):
 (Instr.sliceBounds isSl n cap (lo.map a.eval) (hi.map a.eval) none).run P w=.ok (l,h,cap) w:=by
 obtain⟨h1,h2,h3,h4,h5,h6⟩:=a2q hb
 have hlo: ∀v,lo=some v-> ∃k,a.eval v=.int k l:=fun v hv=>a9i (h3 _ (by rw[hv];rfl)) (hev v)
 have hhi: ∀v,hi=some v-> ∃k,a.eval v=.int k h:=fun v hv=>a9i (h5 _ (by rw[hv];rfl)) (hev v)
 cases lo with
 |none=>
  obtain rfl:=h4 rfl
  cases hi with
  |none=>
   obtain rfl:=h6 rfl
   simp[Instr.sliceBounds]
  |some y=>
   obtain⟨k,hk⟩:=hhi y rfl
   simp[Instr.sliceBounds,Instr.sliceBound,asIntOf,hk,show h<=cap by omega]
 |some x=>
  obtain⟨k,hk⟩:=hlo x rfl
  cases hi with
  |none=>
   obtain rfl:=h6 rfl
   simp[Instr.sliceBounds,Instr.sliceBound,asIntOf,hk,h1]
  |some y=>
   obtain⟨k',hk'⟩:=hhi y rfl
   simp[Instr.sliceBounds,Instr.sliceBound,asIntOf,hk,hk',show h<=cap by omega,h1]
theorem c4x(hc:o6 c){x:Operand}{lo hi:Option Operand}{t:TypeId}{ev:Operand->V}(hev: ∀x,r9 c (ev x) (a.eval x))(ho:o.op=.slice t x lo hi none)(h:a4r P c.h t (ev x) (lo.map ev) (hi.map ev)=some r):u6 P o fr c a r []:=by
 have hx:=hev x
 have hex:execOp a.eval o=(do pure (.value (<-Instr.sliceAt t (a.eval x) (lo.map a.eval) (hi.map a.eval) none))):=by unfold execOp;rw[ho];rfl
 unfold a4r at h
 split at h
 ·rename_i s hs
  rw[hs]at hx
  have hx':=A2 (c:=c) (s:=.c (.d (.v (.string s)))) (v:=a.eval x) rfl hx
  split at h
  ·rename_i hu
   split at h
   ·rename_i l m hb
    obtain rfl:=Option.some.inj h
    refine w9 hc hex (v:=.string (s.extract l m)) ?_ (.v rfl)
    have:=a2r (P:=P) (isSl:=false) (cap:=s.size) hev hb (Nat.le_refl _) c.w
    rw[hx']
    simp[Instr.sliceAt,Instr.slice,run_underlying hu,this]
   ·cases h
  ·cases h
 ·rename_i id off len hs
  rw[hs]at hx
  split at h
  ·rename_i e k rows he hid
   split at h
   ·rename_i l m i hb hi
    split at h
    ·rename_i hk
     have hk:=Nat.eq_of_beq_eq_true hk
     obtain rfl:=Option.some.inj h
     obtain⟨_,hU,hx3⟩:=hx
     obtain⟨k',rows',heq,hle,ad,cap,hv,hlc,hrm,had⟩:=hx3 _ hid
     simp only[k7.arrOf,Option.some.injEq,Prod.mk.injEq]at heq
     obtain⟨rfl,rfl⟩:=heq
     obtain⟨b1,b2,_⟩:=a2q hb
     have:=a2r (P:=P) (isSl:=true) (cap:=cap) hev hb hlc c.w
     refine w9 hc hex (v:=.slice (if cap=l then ad else ad.map (·.add (l*i.size))) (m-l) (cap-l)) ?_ ⟨rfl,hU,fun b hb'=>?_⟩
     ·rw[hv]
      simp[Instr.sliceAt,Instr.slice,run_underlying (J1 he),this,sizeOf,typeInfo,hi]
     ·rw[hid]at hb'
      obtain rfl:=Option.some.inj hb'
      refine⟨k,rows.length,rfl,by omega,_,_,rfl,by omega,by omega,?_⟩
      by_cases hcl:cap=l
      ·left;omega
      ·right
       have hcap: ¬cap=0:=by omega
       rw[had.resolve_left hcap,if_neg hcl]
       simp only[Option.map_some,R5,Option.some.injEq,Addr.mk.injEq,and_true,true_and]
       rw[<-hk,Nat.add_mul]
       omega
    ·cases h
   ·cases h
  ·cases h
 ·rename_i k rows hs
  rw[hs]at hx
  split at h
  ·rename_i e he
   split at h
   ·rename_i l m i hb hi
    split at h
    ·rename_i hk
     have hk:=Nat.eq_of_beq_eq_true hk
     obtain rfl:=Option.some.inj h
     obtain⟨b1,b2,_⟩:=a2q hb
     have hx':t8 c.w c.N (.sl k rows) (a.eval x):=hx
     generalize hq:a.eval x=vx at hx'
     cases hx' with
     | @nil _ ad cp=>
       simp at b2
       obtain rfl:m=0:=b2
       obtain rfl:l=0:=by omega
       have:=a2r (P:=P) (isSl:=true) (cap:=cp) hev hb (by simp) c.w
       refine w9 hc hex (v:=.slice (if cp=0 then ad else ad.map (·.add 0)) 0 cp) ?_ ?_
       ·rw[hq]
        simp at this
        simp[Instr.sliceAt,Instr.slice,run_underlying (J1 he),this,sizeOf,typeInfo,hi]
       ·simp only[List.drop_nil,List.take_nil]
        exact t8.nil
     | @sl _ _ b q cp val hlc hN hcell hval=>
       have:=a2r (P:=P) (isSl:=true) (cap:=cp) hev hb hlc c.w
       refine w9 hc hex (v:=.slice (if cp=l then some ⟨b,q,none⟩else some ⟨b,q+l*k,none⟩) (m-l) (cp-l)) ?_ ?_
       ·rw[hq]
        simp[Instr.sliceAt,Instr.slice,run_underlying (J1 he),this,sizeOf,typeInfo,hi,hk,R5]
       ·have hlen:((rows.drop l).take (m-l)).length=m-l:=by simp;omega
        by_cases hcl:cp=l
        ·have e0:(rows.drop l).take (m-l)=[]:=by rw[List.eq_nil_iff_length_eq_zero,hlen];omega
         have e1:m-l=0:=by omega
         rw[e0,e1]
         exact t8.nil
        ·rw[if_neg hcl]
         have hget: ∀j r,((rows.drop l).take (m-l))[j]?=some r->rows[l+j]?=some r:=fun j r hj=>by
          rw[List.getElem?_take]at hj
          split at hj
          ·rwa[List.getElem?_drop]at hj
          ·cases hj
         have key:t8 c.w c.N (.sl k ((rows.drop l).take (m-l))) (.slice (some ⟨b,q+l*k,none⟩) ((rows.drop l).take (m-l)).length (cp-l)):=by
          refine .sl (fun j u=>val (l+j) u) (by omega) hN (fun j r hj=>?_) (fun j r u d hj hd=>hval _ r u d (hget j r hj) hd)
          obtain⟨g1,g2⟩:=hcell _ r (hget j r hj)
          refine⟨g1,fun u hu=>?_⟩
          rw[<-g2 u hu]
          congr 2
          rw[Nat.add_mul]
          omega
         rw[hlen]at key
         exact key
    ·cases h
   ·cases h
  ·cases h
 ·rename_i hs
  rw[hs]at hx
  have hx':=A2 (c:=c) (s:=.c (.d (.v (.slice none 0 0)))) (v:=a.eval x) rfl hx
  split at h
  ·rename_i e he
   split at h
   ·rename_i lm i hb hi
    obtain⟨l,m⟩:=lm
    obtain rfl:=Option.some.inj h
    obtain⟨b1,b2,_⟩:=a2q hb
    obtain rfl:m=0:=by omega
    obtain rfl:l=0:=by omega
    have:=a2r (P:=P) (isSl:=true) (cap:=0) hev hb (Nat.le_refl _) c.w
    refine w9 hc hex (v:=.slice none 0 0) ?_ (.v rfl)
    rw[hx']
    simp[Instr.sliceAt,Instr.slice,run_underlying (J1 he),this,sizeOf,typeInfo,hi]
   ·cases h
  ·cases h
 ·cases h
theorem b8c(hc:o6 c){f:FuncId}{cap:Array Operand}{ids:List Nat}{ev:Operand->V}(hev: ∀x,r9 c (ev x) (a.eval x))(ho:o.op=.makeFunc (.func f) #[] cap)(h:(cap.toList.map ev).mapM a4s=some ids):u6 P o fr c a (one (.fn f ids)) []:=by
 refine w9 hc (s:=Instr.makeFunc (.func f) #[] (cap.map a.eval)) (v:=.func (.func f) #[] (cap.map a.eval)) (by unfold execOp;rw[ho];simp) rfl ?_
 have key: ∀(l:List Operand)(ids:List Nat),(l.map ev).mapM a4s=some ids->l.length=ids.length∧ ∀(i id:Nat),ids[i]?=some id-> ∃x,l[i]?=some x∧ev x=.c (.ptr id 0 0):=by
  intro l
  induction l with
  |nil=>intro ids h;simp at h;subst h;simp
  |cons x r ih=>
   intro ids h
   simp only[List.map_cons,List.mapM_cons]at h
   cases hx:a4s (ev x)with
   |none=>simp[hx]at h
   |some id=>
    cases hr:(r.map ev).mapM a4s with
    |none=>simp[hx,hr]at h
    |some ids'=>
     simp[hx,hr]at h
     subst h
     obtain⟨h1,h2⟩:=ih ids' hr
     refine⟨by simp[h1],fun i j hj=>?_⟩
     cases i with
     |zero=>
      simp at hj;subst hj
      refine⟨x,rfl,?_⟩
      unfold a4s at hx
      split at hx
      ·rename_i id' he;obtain rfl:=Option.some.inj hx;exact he
      ·cases hx
     |succ i=>exact h2 i j (by simpa using hj)
 obtain⟨k1,k2⟩:=key _ _ h
 refine⟨_,rfl,by simp[<-k1],fun i id hi=>?_⟩
 obtain⟨x,hx,he⟩:=k2 i id hi
 have hr:=hev x
 rw[he]at hr
 obtain⟨h1,h2,h3⟩:=hr
 refine⟨h2,a.eval x,?_,h1,fun b hb=>?_⟩
 ·rw[Array.getElem?_map]
  have:cap[i]?=some x:=by simpa using hx
  rw[this];rfl
 ·rw[h3 b hb];simp
theorem S8{b:Builtin}{args:Array Operand}{ts:Array TypeId}{s:Sem Value}{c0:Go.Call}(ho:o.op=.call c0)(hb:c0.callee=.builtin b)(ha:c0.args=args)(ht:c0.argTypes=ts)(hs: ∀consts,builtin b ts o.type consts (args.map a.eval)=(do pure (.value (<-s)))):
 execOp a.eval o=(do pure (.value (<-s))):=by
 unfold execOp
 rw[ho]
 simp only[resolve,hb,ha,ht]
 exact hs _
theorem c1z{c:Cx}{v:V}{x:Value}{n:Nat}(h:A1 c.h v=some n)(hr:r9 c v x): ∃ad cp,x=.slice ad n cp:=by
 unfold A1 at h
 split at h
 ·rename_i id off len
  split at h
  ·rename_i b hb
   obtain rfl:=Option.some.inj h
   obtain⟨_,_,h3⟩:=hr
   obtain⟨_,_,_,_,ad,cp,hv,_⟩:=h3 _ hb
   exact⟨ad,cp,hv⟩
  ·cases h
 ·obtain rfl:=Option.some.inj h
  cases hr with
  |nil=>exact⟨_,_,rfl⟩
  |sl=>exact⟨_,_,rfl⟩
 ·obtain rfl:=Option.some.inj h
  cases hr
  exact⟨_,_,rfl⟩
 ·cases h
theorem d2h(hc:o6 c){x:Operand}{v:V}{n:Nat}{t e:TypeId}{ts:Array TypeId}{c0:Go.Call}(ho:o.op=.call c0)(hb:c0.callee=.builtin .len)(ha:c0.args.toList=[x])(ht:c0.argTypes=ts)(ht0:ts[0]?=some t)(he:D6 P t=some e)
 (hv:r9 c v (a.eval x))(hn:A1 c.h v=some n):u6 P o fr c a (one (.d (.v (.int .i64 n)))) []:=by
 obtain⟨ad,cp,hx⟩:=c1z hn hv
 have ha':c0.args= #[x]:=by apply Array.ext';simpa using ha
 refine w9 hc (s:=Builtin.len_ ts o.type (#[x].map a.eval)) (v:=.int .i64 n) (S8 ho hb ha' ht fun _=>rfl) ?_ (.v rfl)
 simp[Builtin.len_,ht0,hx,run_underlying (J1 he),goInt]
end
end Go.Vsi
namespace Go.Vsi
def P6(c:Cx)(k:Nat)(rows:List (List D))(vs:List Value):Prop:=
 vs.length=rows.length*k∧ ∀i r,rows[i]?=some r->r.length=k∧ ∀j d,r[j]?=some d-> ∃u,vs[i*k+j]?=some u∧t8 c.w c.N d u
theorem b9o{c:Cx}{k:Nat}{rows:List (List D)}(get:Nat->Value)(h: ∀i r,rows[i]?=some r->r.length=k∧ ∀j d,r[j]?=some d->t8 c.w c.N d (get (i*k+j))):
 P6 c k rows ((List.range (rows.length*k)).map get):=by
 refine⟨by simp,fun i r hr=>⟨(h i r hr).1,fun j d hj=>⟨get (i*k+j),?_,(h i r hr).2 j d hj⟩⟩⟩
 have h1:j<k:=by rw[<-(h i r hr).1];exact(List.getElem?_eq_some_iff.1 hj).1
 have h2:i<rows.length:=(List.getElem?_eq_some_iff.1 hr).1
 have h3:=Nat.mul_le_mul_right k (show i+1<=rows.length from h2)
 rw[Nat.succ_mul]at h3
 rw[List.getElem?_map,List.getElem?_range (by omega)]
 rfl
section
variable{P:Program}{o:Oper}{fr:Nat->Nat}{c:Cx}{a:Act}{r:W}
theorem a8b(hc:o6 c){v:V}{x:Value}{rows:List (List D)}{k:Nat}(h:w8 c.h v=some rows)(hr:r9 c v x)(hk: ∀r∈rows,r.length=k):
 ∃vs,P6 c k rows vs∧(∀w,(Builtin.lenOf x).run P w=.ok rows.length w)∧(∀w':World,w'.heap=c.w.heap->(Builtin.firstCells k rows.length x).run P w'=.ok vs.toArray w'):=by
 have hkk: ∀(i:Nat)(r:List D),rows[i]?=some r->r.length=k:=fun i r hr=>hk r (List.mem_of_getElem? hr)
 have split_ix: ∀(n j:Nat),j<n*k->j/k<n∧j%k<k∧j/k*k+j%k=j:=fun n j hj=>by
  have h0:0<k:=by
   rcases Nat.eq_zero_or_pos k with e|e
   ·rw[e]at hj;simp at hj
   ·exact e
  refine⟨Nat.div_lt_of_lt_mul (by rw[Nat.mul_comm];exact hj),Nat.mod_lt _ h0,?_⟩
  rw[Nat.mul_comm]
  exact Nat.div_add_mod j k
 have from_cells: ∀(n b q cap:Nat)(get:Nat->Value),n=rows.length->(∀i r,rows[i]?=some r-> ∀j,j<k->c.w.cell? ⟨b,q+i*k+j,none⟩=some (get (i*k+j)))-> ∀w':World,w'.heap=c.w.heap->
  (Builtin.firstCells k rows.length (.slice (some ⟨b,q,none⟩) n cap)).run P w'=.ok ((List.range (rows.length*k)).map get).toArray w':=by
  intro n b q cap get hn hg w' hw
  refine run_firstCells_some (P:=P) w' k rows.length ⟨b,q,none⟩ n cap _ (by simp) fun j u hj=>?_
  have hlt:j<rows.length*k:=by
   have:=(List.getElem?_eq_some_iff.1 hj).1
   simpa using this
  rw[List.getElem?_map,List.getElem?_range hlt]at hj
  obtain rfl:=Option.some.inj hj
  obtain⟨g1,g2,g3⟩:=split_ix _ _ hlt
  have:=hg (j/k) _ (List.getElem?_eq_getElem g1) (j%k) g2
  rw[g3]at this
  rw[R5,show q+j=q+j/k*k+j%k by omega,a4w (w:=c.w) (by rw[hw])]
  exact this
 unfold w8 at h
 split at h
 ·rename_i id off len
  split at h
  ·rename_i k' R hid
   obtain rfl:=Option.some.inj h
   obtain⟨_,_,h3⟩:=hr
   obtain⟨_,_,heq,hle,ad,cap,hv,hlc,hrm,had⟩:=h3 _ hid
   simp only[k7.arrOf,Option.some.injEq,Prod.mk.injEq]at heq
   obtain⟨rfl,rfl⟩:=heq
   obtain⟨cs,ty,fz,hcs,_,hrl,hsz,hcell⟩:=hc.blk id _ hid
   have hlen:((R.drop off).take len).length=len:=by simp;omega
   have hget: ∀i r,((R.drop off).take len)[i]?=some r->R[off+i]?=some r:=fun i r hi=>by
    rw[List.getElem?_take]at hi
    split at hi
    ·rwa[List.getElem?_drop]at hi
    ·cases hi
   have hkeq: ∀i r,((R.drop off).take len)[i]?=some r->k=k':=fun i r hi=>by
    rw[<-hkk i r hi,(hcell _ r (hget i r hi)).1]
   have hmain:=b9o (c:=c) (rows:=(R.drop off).take len) (k:=k) (fun m=>(cs[(c.E id).off+off*k'+m]?).getD undef) (fun i r hi=>⟨hkk i r hi,fun j d hd=>by
    obtain⟨_,h2⟩:=hcell _ r (hget i r hi)
    obtain⟨u,hu,hrel⟩:=h2 j d hd
    have e:(c.E id).off+(off+i)*k'+j=(c.E id).off+off*k'+(i*k+j):=by rw[hkeq i r hi,Nat.add_mul];omega
    rw[e]at hu
    show t8 c.w c.N d ((cs[(c.E id).off+off*k'+(i*k+j)]?).getD undef)
    rw[hu];exact hrel⟩)
   refine⟨_,hmain,fun w=>by rw[hv,hlen];simp[Builtin.lenOf],fun w' hw=>?_⟩
   rw[hv]
   by_cases h0:cap=0
   ·have hl0:((R.drop off).take len).length=0:=by rw[hlen];omega
    rw[hl0]
    cases ad with
    |none=>simp[Builtin.firstCells]
    |some ad=>simp[Builtin.firstCells,loadCells,loadCellsFrom]
   ·rw[had.resolve_left h0]
    refine from_cells _ _ _ _ _ hlen.symm (fun i r hi j hj=>?_) w' hw
    obtain⟨h1,h2⟩:=hcell _ r (hget i r hi)
    have hjr:j<r.length:=by rw[hkk i r hi];exact hj
    obtain⟨u,hu,_⟩:=h2 j _ (List.getElem?_eq_getElem hjr)
    have e:(c.E id).off+(off+i)*k'+j=(c.E id).off+off*k'+(i*k+j):=by rw[hkeq i r hi,Nat.add_mul];omega
    rw[e]at hu
    rw[cell_of_row c.w _ _ cs ty fz hcs,Nat.add_assoc,hu]
    rfl
  ·cases h
 ·rename_i k' R
  obtain rfl:=Option.some.inj h
  have hr':t8 c.w c.N (.sl k' R) x:=hr
  cases hr' with
  | @nil _ ad cp=>
    refine⟨[],⟨by simp,by simp⟩,fun w=>by simp[Builtin.lenOf],fun w' _=>?_⟩
    cases ad with
    |none=>simp[Builtin.firstCells]
    |some ad=>simp[Builtin.firstCells,loadCells,loadCellsFrom]
  | @sl _ _ b q cp val hlc hN hcell hval=>
    have hkeq: ∀i r,R[i]?=some r->k=k':=fun i r hi=>by rw[<-hkk i r hi,(hcell i r hi).1]
    have hval': ∀i r,R[i]?=some r-> ∀j,j<k->val ((i*k+j)/k) ((i*k+j)%k)=val i j:=fun i r _ j hj=>by
     rw[Nat.mul_comm,Nat.mul_add_div (by omega),Nat.mul_add_mod,Nat.mod_eq_of_lt hj,Nat.div_eq_of_lt hj,Nat.add_zero]
    refine⟨_,b9o (fun m=>val (m/k) (m%k)) (fun i r hi=>⟨hkk i r hi,fun j d hd=>?_⟩),fun w=>by simp[Builtin.lenOf],fun w' hw=>from_cells _ _ _ _ _ rfl (fun i r hi j hj=>?_) w' hw⟩
    ·have hjk:j<k:=by rw[<-hkk i r hi];exact(List.getElem?_eq_some_iff.1 hd).1
     rw[hval' i r hi j hjk]
     exact hval i r j d hi hd
    ·rw[hval' i r hi j hj]
     have:=(hcell i r hi).2 j (by rw[<-hkeq i r hi];exact hj)
     rw[<-hkeq i r hi]at this
     exact this
 ·obtain rfl:=Option.some.inj h
  cases hr
  exact⟨[],⟨by simp,by simp⟩,fun w=>by simp[Builtin.lenOf],fun w' _=>by simp[Builtin.firstCells]⟩
 ·rename_i s
  obtain rfl:=Option.some.inj h
  have hx:=A2 (c:=c) (s:=.c (.d (.v (.string s)))) (v:=x) rfl hr
  subst hx
  have hsz:s.data.toList.length=s.size:=rfl
  refine⟨s.data.toList.map fun b=>.int .u8 b.toNat,⟨?_,?_⟩,fun w=>?_,fun w' _=>?_⟩
  ·by_cases h0:s.data.toList=[]
   ·simp[h0]
   ·obtain⟨b,rest,hb⟩:=List.exists_cons_of_ne_nil h0
    have:k=1:=by
     have:=hk [.v (.int .u8 b.toNat)] (by rw[hb];simp)
     simpa using this.symm
    subst this
    simp
  ·intro i r hi
   rw[List.getElem?_map]at hi
   cases hq:s.data.toList[i]? with
   |none=>simp[hq]at hi
   |some b=>
    have hmem:[D.v (.int .u8 b.toNat)]∈s.data.toList.map fun b=>[D.v (.int .u8 b.toNat)]:=List.mem_map.2 ⟨b,List.mem_of_getElem? hq,rfl⟩
    have hk1:k=1:=by have:=hk _ hmem;simpa using this.symm
    subst hk1
    simp only[hq,Option.map_some,Option.some.injEq]at hi
    subst hi
    refine⟨rfl,fun j d hj=>?_⟩
    cases j with
    |succ j=>simp at hj
    |zero=>
     simp at hj
     subst hj
     exact⟨.int .u8 b.toNat,by simp[hq],.v rfl⟩
  ·simp only[List.length_map,hsz]
   simp[Builtin.lenOf]
  ·simp only[List.length_map,hsz,Builtin.firstCells]
   have:s.extract 0 s.size=s:=by
    have:=ByteArray.extract_zero_size (b:=s)
    exact this
   rw[this,Sem.run_pure]
   congr 1
   apply Array.ext'
   simp
 ·cases h
theorem b3s{ts:Array TypeId}{ty t u e:TypeId}{i:TypeInfo}{d:TypeDesc}{base:Option Addr}{n cap m:Nat}{x:Value}{news:List Value}{w w':World}(h0:ts[0]?=some t)(h1:ts[1]?=some u)(ht:P.underlying t=some (.slice e))(hu:P.underlying u=some d)(hd:(∃q,d=.slice q)∨d=.string)(hi:P.info? e=some i)
 (hl:(Builtin.lenOf x).run P w=.ok m w)(hf:(Builtin.firstCells i.size m x).run P w=.ok news.toArray w)(hfit:n+m<=cap)
 (hst:match base with|some ad=>(storeCells (ad.add (n*i.size)) news).run P w=.ok () w'|none=>w'=w):
 (Builtin.append_ ts ty #[.slice base n cap,x]).run P w=.ok (.slice base (n+m) cap) w':=by
 cases base with
 |none=>
  subst hst
  rcases hd with⟨q,rfl⟩|rfl<;>simp[Builtin.append_,h0,h1,run_underlying ht,run_underlying hu,sizeOf,typeInfo,hi,hl,hf,hfit]
 |some ad=>
  simp only at hst
  rcases hd with⟨q,rfl⟩|rfl<;>simp[Builtin.append_,h0,h1,run_underlying ht,run_underlying hu,sizeOf,typeInfo,hi,hl,hf,hfit,hst]
theorem b3t{ts:Array TypeId}{ty t u e:TypeId}{i:TypeInfo}{z:Value}{d:TypeDesc}{base:Option Addr}{n cap m:Nat}{x:Value}{olds news:List Value}{w:World}(h0:ts[0]?=some t)(h1:ts[1]?=some u)(ht:P.underlying t=some (.slice e))(hu:P.underlying u=some d)(hd:(∃q,d=.slice q)∨d=.string)(hi:P.info? e=some i)(hz:i.zero=some z)
 (hl:(Builtin.lenOf x).run P w=.ok m w)(ho:(Builtin.firstCells i.size n (.slice base n cap)).run P w.drew=.ok olds.toArray w.drew)(hf:(Builtin.firstCells i.size m x).run P w.drew=.ok news.toArray w.drew)(hg:cap<n+m)(h63:n+m<=room)(h48:(n+m)*i.bytes<=room):
 (Builtin.append_ ts ty #[.slice base n cap,x]).run P w=.ok (.slice (some ⟨w.heap.size,0,none⟩) (n+m) (grownCap w (n+m) cap e)) (w.drew.alloc (.cells (olds.toArray++news.toArray++Builtin.zeroCells z.cells (grownCap w (n+m) cap e-(n+m))) e)):=by
 have hn: ¬(n+m<=cap):=by omega
 have h63': ¬(9223372036854775807<((n:Int)+(m:Int))):=by simp only[room]at h63;omega
 have h48': ¬(281474976710656<Builtin.nextslicecap (n+m) cap*i.bytes):=by
  have:=growslice_fits (old:=cap) (need:=n+m) (bytes:=i.bytes) hg (by simp only[room]at h48;omega)
  omega
 rcases hd with⟨q,rfl⟩|rfl
 all_goals
  simp[Builtin.append_,h0,h1,run_underlying ht,run_underlying hu,sizeOf,typeInfo,zeroValue,hi,hz,hl,hn,h63',h48',Question.forced,hf,ho,newRow,grownCap]
  congr 2
  apply Array.ext'
  simp[List.append_assoc]
theorem P6.get{k:Nat}{rows:List (List D)}{vs:List Value}(h:P6 c k rows vs): ∀i r,rows[i]?=some r->r.length=k∧l0 (t8 c.w c.N) vs.toArray (i*k) r:=
 fun i r hi=>⟨(h.2 i r hi).1,fun j d hj=>by
  obtain⟨u,hu,hr⟩:=(h.2 i r hi).2 j d hj
  exact⟨u,by simpa using hu,hr⟩⟩
theorem P6.app{k:Nat}{rows rows':List (List D)}{vs vs':List Value}(h:P6 c k rows vs)(h':P6 c k rows' vs'):P6 c k (rows++rows') (vs++vs'):=by
 refine⟨by rw[List.length_append,List.length_append,h.1,h'.1,Nat.add_mul],fun i r hi=>?_⟩
 by_cases hl:i<rows.length
 ·rw[List.getElem?_append_left hl]at hi
  refine⟨(h.2 i r hi).1,fun j d hj=>?_⟩
  obtain⟨u,hu,hr⟩:=(h.2 i r hi).2 j d hj
  exact⟨u,by rw[List.getElem?_append_left (List.getElem?_eq_some_iff.1 hu).1];exact hu,hr⟩
 ·rw[List.getElem?_append_right (by omega)]at hi
  refine⟨(h'.2 _ r hi).1,fun j d hj=>?_⟩
  obtain⟨u,hu,hr⟩:=(h'.2 _ r hi).2 j d hj
  refine⟨u,?_,hr⟩
  have e:i*k+j=vs.length+((i-rows.length)*k+j):=by
   rw[h.1,<-Nat.add_assoc,<-Nat.add_mul]
   congr 2
   omega
  rw[e,List.getElem?_append_right (by omega)]
  rw[Nat.add_sub_cancel_left]
  exact hu
theorem P6.mono{c':Cx}(st:A4 c c'){k:Nat}{rows:List (List D)}{vs:List Value}(h:P6 c k rows vs):P6 c' k rows vs:=
 ⟨h.1,fun i r hi=>⟨(h.2 i r hi).1,fun j d hj=>let⟨u,hu,hr⟩:=(h.2 i r hi).2 j d hj;⟨u,hu,t8.mono st.n hr⟩⟩⟩
theorem P6.one{k:Nat}{rows:List (List D)}{vs:List Value}(h:P6 c k rows vs): ∀u∈vs,u.oneCell'=true:=by
 intro u hu
 obtain⟨j,hj⟩:=List.getElem?_of_mem hu
 have hlt:j<rows.length*k:=by rw[<-h.1];exact(List.getElem?_eq_some_iff.1 hj).1
 have h0:0<k:=by
  rcases Nat.eq_zero_or_pos k with e|e
  ·rw[e]at hlt;simp at hlt
  ·exact e
 have g1:j/k<rows.length:=Nat.div_lt_of_lt_mul (by rw[Nat.mul_comm];exact hlt)
 have g3:j/k*k+j%k=j:=by rw[Nat.mul_comm];exact Nat.div_add_mod j k
 obtain⟨q1,q2⟩:=h.2 _ _ (List.getElem?_eq_getElem g1)
 have g4:j%k<(rows[j/k]).length:=by rw[q1];exact Nat.mod_lt _ h0
 obtain⟨v,hv,hr⟩:=q2 _ _ (List.getElem?_eq_getElem g4)
 rw[g3,hj]at hv
 obtain rfl:=Option.some.inj hv
 exact hr.one
theorem b1g{c':Cx}{k n cap:Nat}{rows:List (List D)}{vs:List Value}(zs:Array Value)(h:P6 c' k rows vs)(hn:rows.length=n)(hcap:n<=cap)(hz:zs.size=(cap-n)*k)(ty:TypeId)(g:Nat)(hh:c'.w.heap[g]?=some (.cells (vs.toArray++zs) ty (0,0))):
 I6 c' (.arr k rows) ⟨g,0,cap⟩:=by
 refine⟨_,ty,(0,0),hh,a2e _,by simp only;omega,?_,fun i r hi=>?_⟩
 ·simp only[Array.size_append,hz,List.size_toArray,h.1,hn,<-Nat.add_mul]
  have:n+(cap-n)=cap:=by omega
  rw[this];omega
 ·obtain⟨g1,g2⟩:=h.get i r hi
  refine⟨g1,fun j d hj=>?_⟩
  obtain⟨u,hu,hr⟩:=g2 j d hj
  refine⟨u,?_,hr⟩
  simp only[Nat.zero_add]
  rw[Array.getElem?_append_left (Array.getElem?_eq_some_iff.1 hu).1]
  exact hu
theorem a2s(hc:o6 c)(hfr: ¬c.U (fr 0)){ev:Operand->V}(hev: ∀x,r9 c (ev x) (a.eval x)){x y:Operand}{t u:TypeId}{ts:Array TypeId}{d:TypeDesc}{c0:Go.Call}{e:W×B4}(ho:o.op=.call c0)(hb:c0.callee=.builtin .append)(ha:c0.args.toList=[x,y])(ht:c0.argTypes=ts)
 (h0:ts[0]?=some t)(h1:ts[1]?=some u)(hu:P.underlying u=some d)(hd:(∃q,d=.slice q)∨d=.string)(h:F7 P fr c.h t (ev x) (ev y)=some e):u6 P o fr c a e.1 e.2:=by
 have ha':c0.args= #[x,y]:=by apply Array.ext';simpa using ha
 have hex:execOp a.eval o=(do pure (.value (<-Builtin.append_ ts o.type #[a.eval x,a.eval y]))):=S8 ho hb ha' ht fun _=>by simp[builtin]
 have hx:=hev x
 have hy:=hev y
 unfold F7 at h
 split at h
 ·cases h
 rename_i el hel
 have hu':=J1 hel
 split at h
 case h_2=>cases h
 rename_i new n hnew hlen
 split at h
 ·cases h
 rename_i z hz
 obtain⟨i,zv,hi,hzv,hl,hcell⟩:=N5 hz
 have hik:P.cellsOf el=i.size:=by simp[Program.cellsOf,hi]
 have hib:P.bytesOf el=i.bytes:=by simp[Program.bytesOf,hi]
 split at h
 ·cases h
 rename_i hcond
 simp only[Bool.and_eq_true]at hcond
 obtain⟨⟨⟨c1,c2⟩,c3⟩,c4⟩:=hcond
 have c1:=Nat.eq_of_beq_eq_true c1
 have c2:=Nat.le_of_ble_eq_true c2
 have c3:=Nat.le_of_ble_eq_true c3
 rw[hib]at c2
 have hnk: ∀r∈new,r.length=i.size:=fun r hr=>by
  have:=List.all_eq_true.1 c4 r hr
  rw[<-hik]
  exact Nat.eq_of_beq_eq_true this
 obtain⟨news,r1,r2,r3⟩:=a8b (P:=P) hc hnew hy hnk
 split at h
 ·
  rename_i id off len hbase
  split at h
  case h_2=>cases h
  rename_i k rows hid
  split at h
  case h_2=>cases h
  rename_i hk
  have hk:=Nat.eq_of_beq_eq_true hk
  obtain rfl:=Option.some.inj h
  rw[hik]at hk
  subst hk
  rw[hbase]at hx hlen
  obtain⟨_,hU,hx3⟩:=hx
  obtain⟨_,_,heq,hle,ad,cap,hv,hlc,hrm,had⟩:=hx3 _ hid
  simp only[k7.arrOf,Option.some.injEq,Prod.mk.injEq]at heq
  obtain⟨rfl,rfl⟩:=heq
  have hn:n=len:=by
   simp only[A1,hid]at hlen
   exact(Option.some.inj hlen).symm
  subst hn
  obtain⟨cs,ty,fz,hcs,hfz,hrl,hsz,hcl⟩:=hc.blk id _ hid
  have holdlen:((rows.drop off).take n).length=n:=by simp;omega
  have hget: ∀j r,((rows.drop off).take n)[j]?=some r->rows[off+j]?=some r:=fun j r hj=>by
   rw[List.getElem?_take]at hj
   split at hj
   ·rwa[List.getElem?_drop]at hj
   ·cases hj
  by_cases hfit:n+new.length<=cap
  ·
   have hroomsz:(c.E id).off+(off+cap)*i.size<=cs.size:=by
    have:=Nat.mul_le_mul_right i.size hrm
    omega
   have hq:(off+n)*i.size+new.length*i.size<=(off+cap)*i.size:=by
    rw[<-Nat.add_mul];exact Nat.mul_le_mul_right _ (by omega)
   let q:=(c.E id).off+(off+n)*i.size
   have hstore:(storeCells ⟨(c.E id).blk,q,none⟩ news).run P c.w=.ok () (c.w.setCells (c.E id).blk q news):=by
    have:=run_storeCells_cells (P:=P) (c.E id).blk q news 0 c.w
     (fun j hj=>by rw[cell_of_row c.w _ _ cs ty fz hcs];rw[r1.1]at hj;simp[q];omega)
     (fun j hj=>by
       have hlt:q+0+j<cs.size:=by rw[r1.1]at hj;simp only[q];omega
       have:=hfz _ hlt
       simp only[World.frozen?,hcs]
       simp only[Bool.and_eq_false_iff,decide_eq_false_iff_not]
       omega)
     r1.one
    simpa using this
   obtain⟨k1,k2,k3,k4,k5,k6⟩:=W5 (c.E id).blk ty fz news q cs c.w hcs
   let p:Loc:=⟨(c.E id).blk,(c.E id).off+off*i.size,cap⟩
   let b:k7:=.arr i.size ((rows.drop off).take n++new)
   let c':Cx:=⟨c.w.setCells (c.E id).blk q news,c.N,a8v c.E (fr 0) p,fun x=>c.U x∨x=fr 0,m0 (m0 c.h [(id,none)]) [(fr 0,some b)]⟩
   have eff:u7 c c':=a4x hc id _ hid (fr 0) (.inr hfr) b p rfl (fun e=>absurd (e▸hU) hfr) _ k2 k3 k4 k5 k6 c' rfl fun st=>by
    refine⟨_,ty,fz,k1,by rw[A6];exact hfz,by simp only[p];simp;omega,by rw[A6];simp only[p];rw[Nat.add_mul]at hroomsz;omega,fun j r hj=>?_⟩
    by_cases hjn:j<n
    ·rw[List.getElem?_append_left (by omega)]at hj
     obtain⟨g1,g2⟩:=hcl _ r (hget j r hj)
     refine⟨g1,fun m d hm=>?_⟩
     obtain⟨v,hv,hr⟩:=g2 m d hm
     have hmk:m<i.size:=by rw[<-g1];exact(List.getElem?_eq_some_iff.1 hm).1
     have e1:(c.E id).off+(off+j)*i.size+m=(c.E id).off+off*i.size+j*i.size+m:=by rw[Nat.add_mul];omega
     refine⟨v,?_,t8.mono st.n hr⟩
     rw[D0,<-hv,e1]
     left
     have:=Nat.mul_le_mul_right i.size (show off+j+1<=off+n by omega)
     rw[Nat.succ_mul]at this
     simp only[p,q]
     omega
    ·rw[List.getElem?_append_right (by omega),holdlen]at hj
     obtain⟨g1,g2⟩:=r1.get _ r hj
     refine⟨g1,fun m d hm=>?_⟩
     obtain⟨v,hv,hr⟩:=g2 m d hm
     refine⟨v,?_,t8.mono st.n hr⟩
     have hmk:m<i.size:=by rw[<-g1];exact(List.getElem?_eq_some_iff.1 hm).1
     have e1:p.off+j*i.size+m=q+((j-n)*i.size+m):=by
      have:j*i.size=(j-n)*i.size+n*i.size:=by rw[<-Nat.add_mul];congr 1;omega
      simp only[p,q]
      rw[Nat.add_mul]
      omega
     rw[e1]
     refine a1d news cs q _ v ?_ (by simpa using hv)
     rw[r1.1]
     simp only[q]
     omega
   intro K Q hK
   refine b0o hex (v:=.slice ad (n+new.length) cap) (w':=c'.w) ?_ (hK _ c' eff rfl (fun x hx=>hx.elim .inl fun e=>.inr ⟨0,by omega,e⟩) ⟨rfl,.inr rfl,fun b' hb'=>?_⟩)
   ·rw[hv]
    refine b3s h0 h1 hu' hu hd hi (r2 _) (r3 _ rfl) hfit ?_
    cases ad with
    |none=>
     have hc0:cap=0:=by
      rcases had with h|h
      ·exact h
      ·cases h
     have hn0:news=[]:=by
      apply List.eq_nil_of_length_eq_zero
      rw[r1.1,show new.length=0 by omega];simp
     show c.w.setCells (c.E id).blk q news=c.w
     rw[hn0];rfl
    |some ad=>
     by_cases hc0:cap=0
     ·have hn0:news=[]:=by
       apply List.eq_nil_of_length_eq_zero
       rw[r1.1,show new.length=0 by omega];simp
      show _=Result.ok () (c.w.setCells (c.E id).blk q news)
      rw[hn0];rfl
     ·obtain rfl:=Option.some.inj (had.resolve_left hc0)
      show(storeCells _ _).run P c.w=_
      rw[R5]
      have:(c.E id).off+off*i.size+n*i.size=q:=by simp only[q];rw[Nat.add_mul];omega
      rw[this]
      exact hstore
   ·have e1:c'.h (fr 0)=some b:=by show m0 (m0 c.h [(id,none)]) [(fr 0,some b)] (fr 0)=_;rw[l6,if_pos rfl]
    rw[e1]at hb'
    obtain rfl:=Option.some.inj hb'
    have e2:c'.E (fr 0)=p:=by show(if fr 0=fr 0 then p else c.E (fr 0))=p;rw[if_pos rfl]
    refine⟨_,_,rfl,by simp;omega,ad,cap,rfl,hfit,by rw[e2];simp[p],?_⟩
    rcases had with h|h
    ·exact .inl h
    ·right;rw[h,e2];simp[p]
  ·
   have hfit:cap<n+new.length:=by omega
   have hold:w8 c.h (.c (.arr id off n))=some ((rows.drop off).take n):=by simp only[w8,hid]
   have hxr:r9 c (.c (.arr id off n)) (a.eval x):=⟨by rw[hv];rfl,hU,hx3⟩
   obtain⟨olds,o1,o2,o3⟩:=a8b (P:=P) hc hold hxr (k:=i.size) (fun r hr=>by
    obtain⟨j,hj⟩:=List.getElem?_of_mem hr
    exact(hcl _ r (hget j r hj)).1)
   rw[holdlen]at o3
   have hall:=o1.app r1
   rw[hv]at o3
   have hge:=grownCap_ge c.w (n+new.length) cap el
   refine T6 hc hfr hex (v:=.slice (some ⟨c.w.heap.size,0,none⟩) (n+new.length) (grownCap c.w (n+new.length) cap el)) (w':=c.w.drew.alloc (.cells (olds.toArray++news.toArray++Builtin.zeroCells zv.cells (grownCap c.w (n+new.length) cap el-(n+new.length))) el)) (by rw[hv];exact b3t h0 h1 hu' hu hd hi hzv (r2 _) (o3 _ rfl) (r3 _ rfl) hfit c3 c2) rfl rfl rfl rfl [(id,none)] (by simp) (.arr i.size ((rows.drop off).take n++new)) ⟨c.w.heap.size,0,grownCap c.w (n+new.length) cap el⟩ rfl ?_ ?_
   ·intro c' hw st _ _
    have:=b1g (c':=c') (n:=n+new.length) (cap:=grownCap c.w (n+new.length) cap el) (Builtin.zeroCells zv.cells (grownCap c.w (n+new.length) cap el-(n+new.length))) (hall.mono st) (by simp;omega) hge (by rw[size_zeroCells,<-hl,c1,hik]) el c.w.heap.size (by rw[hw];refine(heap_alloc_new c.w.drew _).trans ?_;simp)
    exact this
   ·intro c' _ _ hh hE hU'
    exact a6b hh hE hU' (by simp;omega) hge (Nat.le_refl _) rfl
 ·
  rename_i hbase
  have hxv:=A2 (c:=c) (s:=.c (.d (.v (.slice none 0 0)))) (v:=a.eval x) rfl (hbase▸hx)
  have hn:n=0:=by
   rw[hbase]at hlen
   exact(Option.some.inj hlen).symm
  subst hn
  cases new with
  |nil=>
   obtain rfl:=Option.some.inj h
   refine w9 hc hex (v:=.slice none 0 0) ?_ (.v rfl)
   rw[hxv]
   exact b3s (base:=none) h0 h1 hu' hu hd hi (r2 _) (r3 _ rfl) (by simp) rfl
  |cons hd1 tl1=>
   obtain rfl:=Option.some.inj h
   simp only[Nat.zero_add]at c2 c3
   have hge:=grownCap_ge c.w (0+(hd1::tl1).length) 0 el
   refine T6 (kills:=[]) hc hfr hex (v:=.slice (some ⟨c.w.heap.size,0,none⟩) (0+(hd1::tl1).length) (grownCap c.w (0+(hd1::tl1).length) 0 el)) (w':=c.w.drew.alloc (.cells (([]:List Value).toArray++news.toArray++Builtin.zeroCells zv.cells (grownCap c.w (0+(hd1::tl1).length) 0 el-(0+(hd1::tl1).length))) el))
    (by rw[hxv];exact b3t (olds:=[]) h0 h1 hu' hu hd hi hzv (r2 _) (run_firstCells_none _ _ _ _ _) (r3 _ rfl) (by simp) (by rw[Nat.zero_add];exact c3) (by rw[Nat.zero_add];exact c2)) rfl rfl rfl rfl (by simp) (.arr (P.cellsOf el) (hd1::tl1)) ⟨c.w.heap.size,0,grownCap c.w (0+(hd1::tl1).length) 0 el⟩ rfl ?_ ?_
   ·intro c' hw st _ _
    rw[hik]
    have:=b1g (c':=c') (n:=0+(hd1::tl1).length) (cap:=grownCap c.w (0+(hd1::tl1).length) 0 el) (Builtin.zeroCells zv.cells (grownCap c.w (0+(hd1::tl1).length) 0 el-(0+(hd1::tl1).length))) (r1.mono st) (by simp) hge (by rw[size_zeroCells,<-hl,c1,hik]) el c.w.heap.size (by rw[hw];refine(heap_alloc_new c.w.drew _).trans ?_;simp)
    exact this
   ·intro c' _ _ hh hE hU'
    have:=a6b (n:=0+(hd1::tl1).length) hh hE hU' (by simp) hge (Nat.le_refl _) rfl
    rw[Nat.zero_add]at this⊢
    exact this
 ·cases h
end
end Go.Vsi
namespace Go.Vsi
theorem b6j: ∀(rows:List (List D))(bs:List UInt8),rows.mapM (fun r=>match r with|[.v (.int .u8 n)]=>some (UInt8.ofNat n.toNat)|_=>none)=some bs->
 ∃ns:List Int,rows=ns.map (fun n=>[D.v (.int .u8 n)])∧bs=ns.map fun n=>UInt8.ofNat n.toNat
 |[],bs,h=>by simp at h;subst h;exact⟨[],rfl,rfl⟩
 |r::rest,bs,h=>by
  simp only[List.mapM_cons]at h
  split at h
  ·rename_i n
   cases hr:rest.mapM (fun r=>match r with|[D.v (.int .u8 n)]=>some (UInt8.ofNat n.toNat)|_=>none)with
   |none=>simp[hr]at h
   |some bs'=>
    simp[hr]at h
    subst h
    obtain⟨ns,h1,h2⟩:=b6j rest bs' hr
    exact⟨n::ns,by rw[h1];rfl,by rw[h2];rfl⟩
  ·simp at h
theorem a8c: ∀(l:List Int)(r:ByteArray),l.foldl (fun r n=>r.push (UInt8.ofNat n.toNat)) r=⟨r.data++(l.map fun n=>UInt8.ofNat n.toNat).toArray⟩
 |[],r=>by simp
 |b::l,r=>by
  simp only[List.foldl_cons]
  rw[a8c l]
  simp[ByteArray.push]
theorem c1c{c:Cx}{v:V}{x:Value}{rows:List (List D)}(h:w8 c.h v=some rows)(hr:r9 c v x)(hs: ∀s,v≠.c (.d (.v (.string s)))): ∃ad cp,x=.slice ad rows.length cp:=by
 unfold w8 at h
 split at h
 ·rename_i id off len
  split at h
  ·rename_i k R hid
   obtain rfl:=Option.some.inj h
   obtain⟨_,_,h3⟩:=hr
   obtain⟨_,_,heq,hle,ad,cap,hv,_⟩:=h3 _ hid
   simp only[k7.arrOf,Option.some.injEq,Prod.mk.injEq]at heq
   obtain⟨rfl,rfl⟩:=heq
   refine⟨ad,cap,?_⟩
   rw[hv]
   congr 1
   simp
   omega
  ·cases h
 ·obtain rfl:=Option.some.inj h
  have hr':t8 c.w c.N (.sl _ _) x:=hr
  cases hr' with
  |nil=>exact⟨_,_,rfl⟩
  |sl=>exact⟨_,_,rfl⟩
 ·obtain rfl:=Option.some.inj h
  cases hr
  exact⟨_,_,rfl⟩
 ·rename_i s
  exact absurd rfl (hs s)
 ·cases h
section
variable{P:Program}{o:Oper}{fr:Nat->Nat}{c:Cx}{a:Act}{r:W}
theorem b1u(hc:o6 c){x:Operand}{src dst e:TypeId}{v:V}{rows:List (List D)}{bs:List UInt8}(ho:o.op=.convert src dst x)(hs:P.underlying src=some (.slice e))(hd:P.underlying dst=some .string)(he:P.underlying e=some (.int .u8))
 (hv:r9 c v (a.eval x))(hr:w8 c.h v=some rows)(hns: ∀s,v≠.c (.d (.v (.string s))))(hb:rows.mapM (fun r=>match r with|[.v (.int .u8 n)]=>some (UInt8.ofNat n.toNat)|_=>none)=some bs):
 u6 P o fr c a (one (.d (.v (.string ⟨bs.toArray⟩)))) []:=by
 obtain⟨ns,h1,h2⟩:=b6j _ _ hb
 obtain⟨vs,⟨g1,g2⟩,g3,g4⟩:=a8b (P:=P) (k:=1) hc hr hv (fun r hr=>by
  rw[h1]at hr
  obtain⟨n,_,rfl⟩:=List.mem_map.1 hr
  rfl)
 have hvs:vs=ns.map (Value.int .u8):=by
  apply List.ext_getElem?
  intro i
  rw[h1]at g1 g2
  simp only[List.length_map,Nat.mul_one]at g1
  by_cases hi:i<ns.length
  ·obtain⟨_,q⟩:=g2 i [D.v (.int .u8 ns[i])] (by simp[hi])
   obtain⟨u,hu,hrel⟩:=q 0 _ rfl
   simp only[Nat.mul_one,Nat.add_zero]at hu
   cases hrel
   rw[hu];simp[hi]
  ·rw[List.getElem?_eq_none (by omega),List.getElem?_eq_none (by simp;omega)]
 obtain⟨ad,cp,hx⟩:=c1c hr hv hns
 refine w9 hc (s:=convert src dst (a.eval x)) (v:=.string ⟨bs.toArray⟩) (by unfold execOp;rw[ho]) ?_ (.v rfl)
 rw[hx,run_convert_bytes_string c.w src dst e ad _ _ hs he hd]
 have hf:=g4 c.w rfl
 rw[hx]at hf
 cases ad with
 |none=>
  rw[run_firstCells_none]at hf
  have:vs=[]:=by
   have:=(Result.ok.inj hf).1
   have:=congrArg Array.toList this
   simpa using this.symm
  rw[this]at hvs
  have hn0:ns=[]:=by simpa using hvs.symm
  subst hn0
  subst h2
  simp[Conv.bytesToString]
  rfl
 |some ad=>
  simp only[Builtin.firstCells,Nat.mul_one]at hf
  rw[run_bytesToString c.w ad rows.length cp ns (by rw[hf,hvs]),a8c,h2]
  have he0:ByteArray.empty.data= #[]:=rfl
  rw[he0]
  simp
theorem b1v(hc:o6 c)(hfr: ¬c.U (fr 0)){x:Operand}{src dst e:TypeId}{s:ByteArray}(ho:o.op=.convert src dst x)(hs:P.underlying src=some .string)(hd:P.underlying dst=some (.slice e))(he:P.underlying e=some (.int .u8))(hx:a.eval x=.string s):
 u6 P o fr c a (one (.arr (fr 0) 0 s.size)) [(fr 0,some (.arr 1 (s.data.toList.map fun b=>[.v (.int .u8 b.toNat)])))]:=by
 have hge:=grownCap_ge c.w s.size 0 e
 refine T6 (kills:=[]) hc hfr (s:=convert src dst (a.eval x)) (by unfold execOp;rw[ho]) (w':=c.w.drew.alloc (.cells (bytesRow s (grownCap c.w s.size 0 e)) e ((bytesRow s (grownCap c.w s.size 0 e)).size,(bytesRow s (grownCap c.w s.size 0 e)).size+1))) (P:=P) (by rw[hx];exact run_bytes_of_string c.w src dst e s hs hd he) rfl rfl rfl rfl (by simp) (.arr 1 (s.data.toList.map fun b=>[.v (.int .u8 b.toNat)])) ⟨c.w.heap.size,0,grownCap c.w s.size 0 e⟩ rfl ?_ ?_
 ·intro c' hw st _ _
  have hsz:s.data.size=s.size:=rfl
  refine⟨_,e,_,by rw[hw];exact heap_alloc_new c.w.drew _,fun i hi h=>by simp only at h;omega,by simp;omega,?_,fun i r hi=>?_⟩
  ·simp[bytesRow,hsz];omega
  ·rw[List.getElem?_map]at hi
   cases hq:s.data.toList[i]? with
   |none=>simp[hq]at hi
   |some b=>
    simp only[hq,Option.map_some,Option.some.injEq]at hi
    subst hi
    refine⟨rfl,fun j d hj=>?_⟩
    cases j with
    |succ j=>simp at hj
    |zero=>
     simp at hj
     subst hj
     refine⟨.int .u8 b.toNat,?_,.v rfl⟩
     simp only[Nat.zero_add,Nat.mul_one,Nat.add_zero,bytesRow]
     have hlt:i<s.data.size:=by
      have:=(List.getElem?_eq_some_iff.1 hq).1
      simpa using this
     rw[Array.getElem?_append_left (by simpa using hlt),Array.getElem?_map]
     have:s.data[i]?=some b:=by simpa using hq
     rw[this];rfl
 ·intro c' _ _ hh hE hU
  exact a6b hh hE hU (by simp) hge (Nat.le_refl _) rfl
end
end Go.Vsi
namespace Go.Vsi
structure Tr(c c':Cx)(f:Nat->Option Nat):Prop where
 n: ∀g,c.N g->c'.N g∧c'.w.heap[g]?=c.w.heap[g]?
 ren: ∀id j,f id=some j->c.U id->c'.U j∧c'.E j=c.E id∧ ∀b',c'.h j=some b'-> ∃b,c.h id=some b∧n9 b b'
theorem Tr.s{c c':Cx}{f:Nat->Option Nat}(t:Tr c c' f){s:S}{v:Value}(h:r8 c s v):r8 c' (a6s f s) v:=by
 have h1:=h.one
 cases s with
 |d x=>exact t8.mono t.n h
 |arr id off len=>
  simp only[a6s]
  cases hf:f id with
  |none=>exact h1
  |some j=>
   obtain⟨g1,g2,g3⟩:=h
   obtain⟨t1,t2,t3⟩:=t.ren id j hf g2
   refine⟨g1,t1,fun b' hb'=>?_⟩
   obtain⟨b,hb,hc⟩:=t3 b' hb'
   obtain⟨k,n,hk,hl,a,cap,hv,hlc,hr,ha⟩:=g3 b hb
   exact⟨k,n,hc.arrOf▸hk,hl,a,cap,hv,hlc,by rw[t2];exact hr,by rw[t2];exact ha⟩
 |ptr id row off=>
  simp only[a6s]
  cases hf:f id with
  |none=>exact h1
  |some j=>
   obtain⟨g1,g2,g3⟩:=h
   obtain⟨t1,t2,t3⟩:=t.ren id j hf g2
   refine⟨g1,t1,fun b' hb'=>?_⟩
   obtain⟨b,hb,hc⟩:=t3 b' hb'
   rw[t2,<-hc.stride]
   exact g3 b hb
 |dp r off=>
  obtain⟨b,o,rfl,hb,hc⟩:=h
  refine⟨b,o,rfl,(t.n _ hb).1,fun j d hj=>?_⟩
  obtain⟨x,hx,hd⟩:=hc j d hj
  exact⟨x,by rw[a4w (t.n _ hb).2];exact hx,t8.mono t.n hd⟩
 |fn g caps=>
  simp only[a6s]
  cases hf:caps.mapM f with
  |none=>exact h1
  |some ids=>
   obtain⟨cs,rfl,hs,hc⟩:=h
   have key: ∀(l m:List Nat),l.mapM f=some m->l.length=m.length∧ ∀(i j:Nat),m[i]?=some j-> ∃id,l[i]?=some id∧f id=some j:=by
    intro l
    induction l with
    |nil=>intro m h;simp at h;subst h;simp
    |cons x r ih=>
     intro m h
     simp only[List.mapM_cons]at h
     cases hx:f x with
     |none=>simp[hx]at h
     |some y=>
      cases hr:r.mapM f with
      |none=>simp[hx,hr]at h
      |some m'=>
       simp[hx,hr]at h
       subst h
       obtain⟨k1,k2⟩:=ih m' hr
       refine⟨by simp[k1],fun i j hj=>?_⟩
       cases i with
       |zero=>simp at hj;subst hj;exact⟨x,rfl,hx⟩
       |succ i=>exact k2 i j (by simpa using hj)
   obtain⟨k1,k2⟩:=key _ _ hf
   refine⟨cs,rfl,by omega,fun i j hj=>?_⟩
   obtain⟨id,hid,hfid⟩:=k2 i j hj
   obtain⟨hu,x,hx,ho,hb⟩:=hc i id hid
   obtain⟨t1,t2,t3⟩:=t.ren id j hfid hu
   refine⟨t1,x,hx,ho,fun b' hb'=>?_⟩
   obtain⟨b,hb1,_⟩:=t3 b' hb'
   rw[t2]
   exact hb b hb1
 |junk=>exact h
theorem l0.map{α β:Type}{R:α->Value->Prop}{R':β->Value->Prop}(f:α->β)(hr: ∀s v,R s v->R' (f s) v){cs:Array Value}{o:Nat}{l:List α}(h:l0 R cs o l):l0 R' cs o (l.map f):=by
 intro j s hj
 rw[List.getElem?_map]at hj
 cases hl:l[j]? with
 |none=>simp[hl]at hj
 |some x=>
  simp only[hl,Option.map_some,Option.some.injEq]at hj
  subst hj
  obtain⟨v,hv,hs⟩:=h j x hl
  exact⟨v,hv,hr _ _ hs⟩
theorem Tr.v{c c':Cx}{f:Nat->Option Nat}(t:Tr c c' f){s:V}{v:Value}(h:r9 c s v):r9 c' (b1p f s) v:=by
 cases s with
 |c s=>exact t.s h
 |agg l=>obtain⟨cs,rfl,hs,hc⟩:=h;exact⟨cs,rfl,by simp[hs],hc.map (a6s f) fun _ _=>t.s⟩
 |junk=>trivial
theorem Tr.w{c c':Cx}{f:Nat->Option Nat}(t:Tr c c' f){s:W}{v:Value}(h:x7 c s v):x7 c' (b4v f s) v:=by
 cases s with
 |one s=>exact t.v h
 |tup l=>obtain⟨cs,rfl,hs,hc⟩:=h;exact⟨cs,rfl,by simp[hs],hc.map (b1p f) fun _ _=>t.v⟩
theorem a0k{x y z w:Nat}(h: ¬(x=y∧z=w)):(Nat.beq x y&&Nat.beq z w)=false:=by
 cases h1:Nat.beq x y with
 |false=>rfl
 |true=>
  cases h2:Nat.beq z w with
  |false=>rfl
  |true=>exact absurd ⟨Nat.eq_of_beq_eq_true h1,Nat.eq_of_beq_eq_true h2⟩ h
theorem a2t{i j a b:Nat}: ∀(l:List (Nat×Nat×Nat)),B3 i j (F6 a b l)=if i=a∧j=b then none else B3 i j l
 |[]=>by simp[F6,B3]
 |(r,c,id)::l=>by
  have ih:=a2t (i:=i) (j:=j) (a:=a) (b:=b) l
  by_cases h1:r=a∧c=b
  ·obtain⟨rfl,rfl⟩:=h1
   have e1:F6 r c ((r,c,id)::l)=F6 r c l:=by simp[F6]
   rw[e1,ih]
   by_cases h2:i=r∧j=c
   ·rw[if_pos h2,if_pos h2]
   ·rw[if_neg h2,if_neg h2]
    have:(Nat.beq r i&&Nat.beq c j)=false:=by
     exact a0k (by omega)
    simp only[B3,this]
  ·have hf:(Nat.beq r a&&Nat.beq c b)=false:=by
    exact a0k (by omega)
   have e1:F6 a b ((r,c,id)::l)=(r,c,id)::F6 a b l:=by simp only[F6,hf]
   rw[e1]
   by_cases h3:r=i∧c=j
   ·obtain⟨rfl,rfl⟩:=h3
    rw[if_neg h1]
    simp[B3]
   ·have hf2:(Nat.beq r i&&Nat.beq c j)=false:=by
     exact a0k (by omega)
    simp only[B3,hf2,ih]
theorem b5b{rows:List (List O)}{a b:Nat}{x:O}{i:Nat}{r':List O}(h:(a3s rows a b x)[i]?=some r'):
 ∃r,rows[i]?=some r∧r'.length=r.length∧ ∀j o,r'[j]?=some o-> ∃o0,r[j]?=some o0∧(if i=a∧j=b then o=x else o=o0):=by
 unfold a3s at h
 split at h
 ·rename_i ra hra
  by_cases hi:a=i
  ·subst hi
   rw[List.getElem?_set_self (List.getElem?_eq_some_iff.1 hra).1]at h
   obtain rfl:=Option.some.inj h
   refine⟨ra,hra,by simp,fun j o ho=>?_⟩
   by_cases hj:b=j
   ·subst hj
    have hlt:b<ra.length:=by
     have:=(List.getElem?_eq_some_iff.1 ho).1
     simpa using this
    rw[List.getElem?_set_self hlt]at ho
    obtain rfl:=Option.some.inj ho
    exact⟨_,List.getElem?_eq_getElem hlt,by simp⟩
   ·rw[List.getElem?_set_ne hj]at ho
    exact⟨o,ho,by rw[if_neg (by omega)]⟩
  ·rw[List.getElem?_set_ne hi]at h
   exact⟨r',h,rfl,fun j o ho=>⟨o,ho,by rw[if_neg (by omega)]⟩⟩
 ·exact⟨r',h,rfl,fun j o ho=>by
   by_cases hc:i=a∧j=b
   ·rename_i hn
    rw[hc.1]at h
    rw[h]at hn
    cases hn
   ·exact⟨o,ho,by rw[if_neg hc]⟩⟩
theorem a6w(rows:List (List O))(a b:Nat)(x:O):(a3s rows a b x).length=rows.length:=by
 unfold a3s
 split<;>simp
theorem b0s(f:Nat->Option Nat): ∀(outs:List (Nat×Nat×Nat))(rows:List (List O)),(a2k f outs rows).1.length=rows.length
 |[],_=>rfl
 |(i,j,id)::r,rows=>by
  simp only[a2k]
  split
  ·exact b0s f r rows
  ·show(a3s _ _ _ _).length=_
   rw[a6w,b0s f r rows]
theorem c2a(f:Nat->Option Nat): ∀(outs:List (Nat×Nat×Nat))(rows:List (List O))(i:Nat)(r':List O),(a2k f outs rows).1[i]?=some r'->
 ∃r,rows[i]?=some r∧r'.length=r.length∧ ∀j o',r'[j]?=some o'-> ∃o,r[j]?=some o∧match B3 i j outs with
  |none=>B3 i j (a2k f outs rows).2=none∧o'=o
  |some id=>match f id with
   |some id'=>B3 i j (a2k f outs rows).2=some id'
   |none=>B3 i j (a2k f outs rows).2=none∧o'=.d .any
 |[],rows,i,r',h=>⟨r',h,rfl,fun j o' ho=>⟨o',ho,rfl,rfl⟩⟩
 |(a,b,id)::t,rows,i,r',h=>by
  have ih:=c2a f t rows i
  simp only[a2k]at h⊢
  cases hf:f id with
  |some id'=>
   simp only[hf]at h⊢
   obtain⟨r,h1,h2,h3⟩:=ih r' h
   refine⟨r,h1,h2,fun j o' ho=>?_⟩
   obtain⟨o,k1,k2⟩:=h3 j o' ho
   refine⟨o,k1,?_⟩
   by_cases hc:a=i∧b=j
   ·obtain⟨rfl,rfl⟩:=hc
    simp[B3,hf]
   ·have hx:(Nat.beq a i&&Nat.beq b j)=false:=by
     exact a0k (by omega)
    simp only[B3,hx]
    exact k2
  |none=>
   simp only[hf]at h⊢
   obtain⟨r1,g1,g2,g3⟩:=b5b h
   obtain⟨r,h1,h2,h3⟩:=ih r1 g1
   refine⟨r,h1,by omega,fun j o' ho=>?_⟩
   obtain⟨o1,g4,g5⟩:=g3 j o' ho
   obtain⟨o,k1,k2⟩:=h3 j o1 g4
   refine⟨o,k1,?_⟩
   by_cases hc:i=a∧j=b
   ·obtain⟨rfl,rfl⟩:=hc
    rw[if_pos ⟨rfl,rfl⟩]at g5
    subst g5
    simp[B3,hf,a2t]
   ·rw[if_neg hc]at g5
    subst g5
    have hx:(Nat.beq a i&&Nat.beq b j)=false:=by
     exact a0k (by omega)
    simp only[B3,hx,a2t,if_neg hc]
    exact k2
theorem Tr.b{c c':Cx}{f:Nat->Option Nat}(t:Tr c c' f){b:k7}{p:Loc}(h:I6 c b p)(hw:c'.w.heap[p.blk]?=c.w.heap[p.blk]?)(hn:c9g c c' p.blk):I6 c' (Z1 f b) p:=by
 obtain⟨cs,ty,fz,h1,h2,h3⟩:=h
 refine⟨cs,ty,fz,hw.trans h1,h2,?_⟩
 cases b with
 |var cells=>exact⟨by simpa using h3.1,h3.2.map (a6s f) fun _ _=>t.s⟩
 |arr q rows=>exact⟨h3.1,h3.2.1,fun i r hr=>⟨(h3.2.2 i r hr).1,(h3.2.2 i r hr).2.imp fun _ _=>t8.mono t.n⟩⟩
 |nar q rows outs=>
  refine⟨by rw[b0s];exact h3.1,h3.2.1,fun i r' hr'=>?_⟩
  obtain⟨r,g1,g2,g3⟩:=c2a f outs rows i r' hr'
  obtain⟨k1,k2⟩:=h3.2.2 i r g1
  refine⟨by omega,fun j o' ho'=>?_⟩
  obtain⟨o,q1,q2⟩:=g3 j o' ho'
  obtain⟨v,hv,hr⟩:=k2 j o q1
  refine⟨v,hv,?_⟩
  cases ho:B3 i j outs with
  |none=>
   rw[ho]at q2 hr
   obtain⟨q2,rfl⟩:=q2
   rw[q2]
   cases o' with
   |d x=>exact t8.mono t.n hr
   |own k2 rs=>
    obtain⟨p2,z1,z2,cs2,ty2,fz2,z3,z4,z5,z6,z7⟩:=hr
    exact⟨p2,z1,(hn _ _ z2).1,cs2,ty2,fz2,(hn _ _ z2).2.trans z3,z4,z5,z6,fun i r hr=>⟨(z7 i r hr).1,(z7 i r hr).2.imp fun _ _=>t8.mono t.n⟩⟩
  |some id=>
   rw[ho]at q2 hr
   obtain⟨z1,z2,z3⟩:=hr
   cases hf:f id with
   |none=>
    simp only[hf]at q2
    obtain⟨q2,rfl⟩:=q2
    rw[q2]
    exact .any z1
   |some id'=>
    simp only[hf]at q2
    rw[q2]
    obtain⟨t1,t2,t3⟩:=t.ren id id' hf z2
    refine⟨z1,t1,fun b' hb'=>?_⟩
    obtain⟨b,hb,hcm⟩:=t3 b' hb'
    obtain⟨k0,n,y1,y2,y3⟩:=z3 b hb
    exact⟨k0,n,hcm.arrOf▸y1,by rw[t2];exact y2,by rw[t2];exact y3⟩
theorem a2u(f:Nat->Option Nat)(b:k7):n9 b (Z1 f b):=by
 cases b with
 |var l=>simp[n9,Z1]
 |arr k rows=>simp[n9,Z1]
 |nar k rows outs=>simp[n9,Z1,k7.arrOf,b0s]
theorem c6v: ∀(l:List Nat)(id j:Nat),ix l id=some j->l[j]?=some id
 |[],_,_,h=>by simp[ix]at h
 |x::r,id,j,h=>by
  simp only[ix]at h
  split at h
  ·rename_i hb
   obtain rfl:=Nat.eq_of_beq_eq_true hb
   simp at h;subst h;rfl
  ·cases hr:ix r id with
   |none=>simp[hr]at h
   |some i=>
    simp[hr]at h
    subst h
    simpa using c6v r id i hr
theorem b6k: ∀(l:List Nat)(id j:Nat),l.Nodup->l[j]?=some id->ix l id=some j
 |[],_,_,_,h=>by simp at h
 |x::r,id,0,_,h=>by simp at h;subst h;simp[ix]
 |x::r,id,j+1,hn,h=>by
  have h':r[j]?=some id:=by simpa using h
  have hne:x≠id:=by
   rintro rfl
   exact(List.nodup_cons.1 hn).1 (List.mem_of_getElem? h')
  simp only[ix]
  have hb:Nat.beq x id=false:=by
   cases hq:Nat.beq x id with
   |false=>rfl
   |true=>exact absurd (Nat.eq_of_beq_eq_true hq) hne
  rw[hb,b6k r id j (List.nodup_cons.1 hn).2 h']
  rfl
def b5c(seen:List Nat)(c:Cx):Cx:=⟨c.w,c.N,⟨fun j=>c.E (seen.getD j 0),c.E.own⟩,fun j=>j<seen.length,c7 (a6v seen c.h)⟩
theorem D1{seen:List Nat}{h:Hp}{j:Nat}{b:k7}(hb:c7 (a6v seen h) j=some b): ∃id b0,seen[j]?=some id∧h id=some b0∧b=Z1 (ix seen) b0:=by
 unfold c7 a6v at hb
 rw[List.getElem?_map]at hb
 cases hs:seen[j]? with
 |none=>simp[hs]at hb
 |some id=>
  simp only[hs,Option.map_some]at hb
  cases hh:h id with
  |none=>simp[hh]at hb
  |some b0=>
   simp only[hh,Option.map_some,Option.some.injEq]at hb
   exact⟨id,b0,rfl,hh,hb.symm⟩
theorem K9{l:List Nat}{j x:Nat}(h:l[j]?=some x):l.getD j 0=x:=by
 rw[List.getD_eq_getElem?_getD,h];rfl
theorem b6l(seen:List Nat)(c:Cx):Tr c (b5c seen c) (ix seen) where
 n:=fun g hg=>⟨hg,rfl⟩
 ren:=fun id j hf _=>by
  have hj:=c6v _ _ _ hf
  refine⟨(List.getElem?_eq_some_iff.1 hj).1,by show c.E (seen.getD j 0)=_;rw[K9 hj],fun b' hb'=>?_⟩
  obtain⟨id',b0,h1,h2,rfl⟩:=D1 hb'
  rw[hj]at h1
  obtain rfl:=Option.some.inj h1
  exact⟨b0,h2,a2u _ _⟩
theorem c2b{seen:List Nat}{c:Cx}(hc:o6 c)(hn:seen.Nodup):o6 (b5c seen c) where
 blk:=fun j b hb=>by
  obtain⟨id,b0,h1,h2,rfl⟩:=D1 hb
  show I6 _ _ (c.E (seen.getD j 0))
  rw[K9 h1]
  exact(b6l seen c).b (hc.blk id b0 h2) rfl (fun x o hx=>⟨hx,rfl⟩)
 used:=fun j b hb=>by
  obtain⟨id,b0,h1,h2,rfl⟩:=D1 hb
  exact(List.getElem?_eq_some_iff.1 h1).1
 inj:=fun j j' b b' hb hb' hne=>by
  obtain⟨id,b0,h1,h2,rfl⟩:=D1 hb
  obtain⟨id',b0',h1',h2',rfl⟩:=D1 hb'
  show(c.E (seen.getD j 0)).blk≠(c.E (seen.getD j' 0)).blk
  rw[K9 h1,K9 h1']
  refine hc.inj id id' b0 b0' h2 h2' ?_
  rintro rfl
  have e1:=b6k seen id j hn h1
  have e2:=b6k seen id j' hn h1'
  rw[e1]at e2
  exact hne (Option.some.inj e2)
 apart:=fun j b hb=>by
  obtain⟨id,b0,h1,h2,rfl⟩:=D1 hb
  show¬c.N (c.E (seen.getD j 0)).blk
  rw[K9 h1]
  exact hc.apart id b0 h2
 low:=hc.low
 nest:=fun g a j b ho hb ha=>by
  obtain⟨id,b0,h1,h2,rfl⟩:=D1 hb
  have ha':(c.E (seen.getD j 0)).blk=a.1:=ha
  rw[K9 h1]at ha'
  obtain⟨n1,n2⟩:=hc.nest g a id b0 ho h2 ha'
  refine⟨n1,fun j' b' hb'=>?_⟩
  obtain⟨id',b0',h1',h2',rfl⟩:=D1 hb'
  show(c.E (seen.getD j' 0)).blk≠g
  rw[K9 h1']
  exact n2 id' b0' h2'
 olow:=hc.olow
theorem e1u{seen:List Nat}{c:Cx}{g:Nat}(h:own (b5c seen c) g):own c g:=by
 rcases h with⟨j,b,hb,hg⟩|⟨a,j,b,ho,hb,hg⟩
 ·obtain⟨id,b0,h1,h2,rfl⟩:=D1 hb
  refine .inl ⟨id,b0,h2,?_⟩
  rw[<-hg]
  show _=(c.E (seen.getD j 0)).blk
  rw[K9 h1]
 ·obtain⟨id,b0,h1,h2,rfl⟩:=D1 hb
  refine .inr ⟨a,id,b0,ho,h2,?_⟩
  rw[<-hg]
  show _=(c.E (seen.getD j 0)).blk
  rw[K9 h1]
theorem c6w{c0 c:Cx}(e:u7 c0 c){seen:List Nat}(hn:seen.Nodup)(hio: ∀id,c0.U id->seen[id]?=some id):u7 c0 (b5c seen c) where
 step:=
  {use:=fun id hu=>(List.getElem?_eq_some_iff.1 (hio id hu)).1
   emb:=fun id hu=>by
    show c.E (seen.getD id 0)=_
    rw[K9 (hio id hu)]
    exact e.step.emb id hu
   old:=fun id b' hu hb'=>by
    obtain⟨id',b0,h1,h2,rfl⟩:=D1 hb'
    rw[hio id hu]at h1
    obtain rfl:=Option.some.inj h1
    obtain⟨b,hb,hc⟩:=e.step.old id b0 hu h2
    exact⟨b,hb,hc.trans (a2u _ _)⟩
   n:=e.step.n}
 relh:=c2b e.relh hn
 os:=e.os
 tape:=e.tape
 output:=e.output
 size:=e.size
 keep:=e.keep
 news:=e.news
 owns:=fun g hg=>e.owns g (e1u hg)
 ownk:=e.ownk
 ownr:=e.ownr
theorem a1e(h:Hp): ∀(k:Nat)(ids seen:List Nat),seen.Nodup->(C1 h k ids seen).Nodup
 |0,_,_,hn=>hn
 |k+1,[],_,hn=>hn
 |k+1,id::r,seen,hn=>by
  simp only[C1]
  split
  ·exact a1e h k _ _ hn
  ·rename_i hel
   split
   ·refine a1e h k _ _ ?_
    rw[List.nodup_append]
    refine⟨hn,by simp,fun a ha b hb=>?_⟩
    simp only[List.mem_singleton]at hb
    subst hb
    rintro rfl
    have:seen.elem a=true:=List.elem_eq_true_of_mem ha
    rw[this]at hel
    cases hel
   ·exact a1e h k _ _ hn
theorem a4g(h:Hp): ∀(k:Nat)(ids seen:List Nat)(j x:Nat),seen[j]?=some x->(C1 h k ids seen)[j]?=some x
 |0,_,_,_,_,hx=>hx
 |k+1,[],_,_,_,hx=>hx
 |k+1,id::r,seen,j,x,hx=>by
  simp only[C1]
  split
  ·exact a4g h k _ _ j x hx
  ·split
   ·refine a4g h k _ _ j x ?_
    rw[List.getElem?_append_left (List.getElem?_eq_some_iff.1 hx).1]
    exact hx
   ·exact a4g h k _ _ j x hx
theorem b1w(st:St)(roots:List Nat):(a4v st roots).Nodup:=a1e _ _ _ _ List.nodup_range
theorem b9p(st:St)(roots:List Nat)(i:Nat)(hi:i<st.io):(a4v st roots)[i]?=some i:=a4g _ _ _ _ _ _ (by rw[List.getElem?_range hi])
theorem d7f{c d d' c':Cx}(β:Nat->Nat)(hc:o6 c)(hw:d.w=c.w)(hN:d.N=c.N)(hO:d.E.own=c.E.own)(ho0: ∀j b,d.h j=some b-> ∃id b',c.h id=some b'∧(c.E id).blk=(d.E j).blk)(e:u7 d d')
 (hw':c'.w=d'.w)(hN':c'.N=d'.N)(hO':c'.E.own=d'.E.own)(hU: ∀id,c.U id->c'.U id∧c'.E id=c.E id)(hu: ∀id b,c'.h id=some b->c'.U id)
 (hold: ∀id b',c.U id->c'.h id=some b'-> ∃b,c.h id=some b∧n9 b b')
 (hcase: ∀id b',c'.h id=some b'->(c.h id=some b'∧c.U id∧ ¬own d (c.E id).blk)∨ ∃j b,d'.h j=some b∧(c'.E id).blk=(d'.E j).blk∧(A4 c c'->I6 c' b' (c'.E id))∧id=β j):u7 c c':=by
 have st:A4 c c':=by
  refine⟨fun id h=>(hU id h).1,fun id h=>(hU id h).2,hold,fun g hg=>?_⟩
  rw[hw',hN',<-hw]
  rw[<-hN]at hg
  exact e.step.n g hg
 have lt: ∀id b',c.h id=some b'->(c.E id).blk<c.w.heap.size:=fun id b' hb'=>by
  obtain⟨cs,ty,fz,h1,_⟩:=hc.blk id b' hb'
  exact(Array.getElem?_eq_some_iff.1 h1).1
 have kept: ∀g,g<c.w.heap.size-> ¬own d g->c'.w.heap[g]?=c.w.heap[g]?:=fun g hg hno=>by
  rw[hw',<-hw];exact e.keep g (by rw[hw];exact hg) hno
 have ho: ∀g,own d g->own c g:=fun g hg=>by
  rcases hg with⟨j,b,hb,hg⟩|⟨a,j,b,hoa,hb,hg⟩
  ·obtain⟨id,b',h1,h2⟩:=ho0 j b hb
   exact .inl ⟨id,b',h1,by rw[h2,hg]⟩
  ·obtain⟨id,b',h1,h2⟩:=ho0 j b hb
   exact .inr ⟨a,id,b',by rw[<-hO];exact hoa,h1,by rw[h2,hg]⟩
 have far: ∀id b',c.h id=some b'-> ¬own d (c.E id).blk-> ∀x o,c.E.own x=some ((c.E id).blk,o)-> ¬own d x:=fun id b' hb' hno x o hx hox=>by
  rcases hox with⟨j,b,hb,hg⟩|⟨a,j,b,hoa,hb,hg⟩
  ·obtain⟨id2,b2,h1,h2⟩:=ho0 j b hb
   exact a3u hc hx hb' h1 (by rw[h2,hg])
  ·rw[hO,hx]at hoa
   obtain rfl:=Option.some.inj hoa
   exact hno (.inl ⟨j,b,hb,hg⟩)
 have same: ∀g,g<c.w.heap.size-> ¬own d g->(∀a,c.E.own g=some a-> ¬own d a.1∧a.1<c.w.heap.size)->c'.E.own g=c.E.own g:=fun g hg hno ha=>by
  rw[hO',<-hO]
  exact e.ownk g (by rw[hw];exact hg) hno (fun a hx=>by rw[hO]at hx;rw[hw];exact ha a hx)
 have oldnot: ∀id b',c.h id=some b'-> ¬own d (c.E id).blk-> ¬own d' (c.E id).blk:=fun id b' hb' hno hyes=>by
  rcases e.owns _ hyes with h|h
  ·exact hno h
  ·have:=lt id b' hb';rw[hw]at h;omega
 refine⟨st,⟨?_,hu,?_,?_,?_,?_,?_⟩,by rw[hw',e.os,hw],by rw[hw',e.tape,hw],by rw[hw',e.output,hw],by rw[hw',<-hw];exact e.size,fun g hg hno=>kept g hg fun h=>hno (ho g h),?_,?_,fun g hg hno hpa=>same g hg (fun h=>hno (ho g h)) (fun a hx=>⟨fun h=>(hpa a hx).1 (ho _ h),(hpa a hx).2⟩),?_⟩
 ·intro id b' hb'
  rcases hcase id b' hb' with⟨h1,h2,h3⟩|⟨j,b,h1,h2,h3,_⟩
  ·rw[(hU id h2).2]
   exact(hc.blk id b' h1).mono st (kept _ (lt id b' h1) h3) (fun x o hx=>⟨by rw[same x (hc.olow _ _ hx).1 (far id b' h1 h3 x o hx) (fun a hxa=>by rw[hx]at hxa;obtain rfl:=Option.some.inj hxa;exact⟨h3,lt id b' h1⟩)];exact hx,kept x (hc.olow _ _ hx).1 (far id b' h1 h3 x o hx)⟩)
  ·exact h3 st
 ·intro id id' b b' hb hb' hne
  rcases hcase id b hb with⟨h1,h2,h3⟩|⟨j,b0,h1,h2,h3,h4⟩
  ·rw[(hU id h2).2]
   rcases hcase id' b' hb' with⟨k1,k2,k3⟩|⟨j',b0',k1,k2,k3,k4⟩
   ·rw[(hU id' k2).2]
    exact hc.inj id id' b b' h1 k1 hne
   ·rw[k2]
    intro heq
    exact oldnot id b h1 h3 (.inl ⟨j',b0',k1,heq.symm⟩)
  ·rcases hcase id' b' hb' with⟨k1,k2,k3⟩|⟨j',b0',k1,k2,k3,k4⟩
   ·rw[h2,(hU id' k2).2]
    intro heq
    exact oldnot id' b' k1 k3 (.inl ⟨j,b0,h1,heq⟩)
   ·rw[h2,k2]
    exact e.relh.inj j j' b0 b0' h1 k1 (fun e=>hne (by rw[h4,k4,e]))
 ·intro id b' hb' hn
  rw[hN']at hn
  rcases hcase id b' hb' with⟨h1,h2,h3⟩|⟨j,b,h1,h2,_,_⟩
  ·rw[(hU id h2).2]at hn
   rcases e.news _ hn with h|h|h
   ·rw[hN]at h;exact hc.apart id b' h1 h
   ·have:=lt id b' h1;rw[hw]at h;omega
   ·exact h3 h
  ·rw[h2]at hn
   exact e.relh.apart j b h1 hn
 ·intro g hg
  rw[hN']at hg
  rw[hw']
  exact e.relh.low g hg
 ·intro g a id b' hoa hb' ha
  rcases hcase id b' hb' with⟨h1,h2,h3⟩|⟨j,b,h1,h2,_,_⟩
  ·rw[(hU id h2).2]at ha
   have hca:c.E.own g=some a:=by
    rw[hO']at hoa
    rcases e.ownr g a hoa with k|k|k
    ·rw[<-hO];exact k
    ·rw[<-ha]at k
     exact absurd k h3
    ·have:=lt id b' h1
     rw[hw]at k
     omega
   have hx:c.E.own g=some ((c.E id).blk,a.2):=by rw[hca,ha]
   have hfar:=far id b' h1 h3 g a.2 hx
   obtain⟨n1,n2⟩:=hc.nest g a id b' hca h1 ha
   have hlt:=(hc.olow g a hca).1
   refine⟨fun hn=>?_,fun id' b2 hb2=>?_⟩
   ·rw[hN']at hn
    rcases e.news g hn with k|k|k
    ·rw[hN]at k;exact n1 k
    ·rw[hw]at k;omega
    ·exact hfar k
   ·rcases hcase id' b2 hb2 with⟨k1,k2,k3⟩|⟨j',b3,k1,k2,_,_⟩
    ·rw[(hU id' k2).2]
     exact n2 id' b2 k1
    ·intro heq
     rw[k2]at heq
     rcases e.owns g (.inl ⟨j',b3,k1,heq⟩)with k|k
     ·exact hfar k
     ·rw[hw]at k;omega
  ·rw[h2]at ha
   rw[hO']at hoa
   obtain⟨n1,n2⟩:=e.relh.nest g a j b hoa h1 ha
   refine⟨by rw[hN'];exact n1,fun id' b2 hb2=>?_⟩
   rcases hcase id' b2 hb2 with⟨k1,k2,k3⟩|⟨j',b3,k1,k2,_,_⟩
   ·rw[(hU id' k2).2]
    intro heq
    have hog:own d' (c.E id').blk:=.inr ⟨a,j,b,by rw[heq];exact hoa,h1,ha⟩
    exact oldnot id' b2 k1 k3 hog
   ·rw[k2]
    exact n2 j' b3 k1
 ·intro g a hoa
  rw[hO']at hoa
  rw[hw']
  exact e.relh.olow g a hoa
 ·intro g hg
  rw[hN']at hg
  rcases e.news g hg with h|h|h
  ·exact .inl (by rw[<-hN];exact h)
  ·exact .inr (.inl (by rw[<-hw];exact h))
  ·exact .inr (.inr (ho g h))
 ·rintro g (⟨id,b',hb',hg⟩|⟨a,id,b',hoa,hb',hg⟩)
  ·rcases hcase id b' hb' with⟨h1,h2,h3⟩|⟨j,b,h1,h2,_,_⟩
   ·rw[(hU id h2).2]at hg
    exact .inl (.inl ⟨id,b',h1,hg⟩)
   ·rw[h2]at hg
    rcases e.owns g (.inl ⟨j,b,h1,hg⟩)with h|h
    ·exact .inl (ho g h)
    ·exact .inr (by rw[<-hw];exact h)
  ·rcases hcase id b' hb' with⟨h1,h2,h3⟩|⟨j,b,h1,h2,_,_⟩
   ·rw[(hU id h2).2]at hg
    rw[hO']at hoa
    rcases e.ownr g a hoa with k|k|k
    ·exact .inl (.inr ⟨a,id,b',by rw[<-hO];exact k,h1,hg⟩)
    ·rw[<-hg]at k
     exact absurd k h3
    ·have:=lt id b' h1
     rw[hw]at k
     omega
   ·rw[h2]at hg
    rw[hO']at hoa
    rcases e.owns g (.inr ⟨a,j,b,hoa,h1,hg⟩)with h|h
    ·exact .inl (ho g h)
    ·exact .inr (by rw[<-hw];exact h)
 ·intro g a hoa
  rw[hO']at hoa
  rcases e.ownr g a hoa with k|k|k
  ·exact .inl (by rw[<-hO];exact k)
  ·exact .inr (.inl (ho _ k))
  ·exact .inr (.inr (by rw[<-hw];exact k))
end Go.Vsi
namespace Go.Vsi
def J8(P:Program)(call:Call):Prop:=
 ∀f args bs r bs',call f args bs=some (r,bs')-> ∀(c:Cx)(vs:Array Value),o6 c->c.h=c7 bs->(∀i,c.U i↔i<bs.length)->vs.size=args.length->l0 (r9 c) vs 0 args->
  Calls P f vs c.w fun e w'=> ∃v c',e=.returned v∧c'.w=w'∧c'.h=c7 bs'∧(∀i,c'.U i->i<bs'.length)∧x7 c' r v∧u7 c c'
theorem b8d{id:Nat}{b:Option k7}: ∀(l:B4)(h:Hp),(l.map (·.1)).Nodup->(id,b)∈l->m0 h l id=b
 |[],_,_,hm=>by simp at hm
 |(i,y)::r,h,hn,hm=>by
  simp only[List.map_cons,List.nodup_cons]at hn
  rw[E6]
  rcases List.mem_cons.1 hm with he|hm
  ·obtain⟨rfl,rfl⟩:=Prod.mk.inj he
   rw[P5 r _ (fun x hx e=>hn.1 (List.mem_map.2 ⟨x,hx,e⟩)),l6,if_pos rfl]
  ·exact b8d r _ hn.2 hm
theorem a2v{h:Hp}: ∀(k:Nat)(ids seen:List Nat)(x:Nat),x∈C1 h k ids seen->x∈seen∨ ∃b,h x=some b
 |0,_,_,_,hx=>.inl hx
 |k+1,[],_,_,hx=>.inl hx
 |k+1,id::r,seen,x,hx=>by
  simp only[C1]at hx
  split at hx
  ·exact a2v k _ _ x hx
  ·split at hx
   ·rename_i b hb
    rcases a2v k _ _ x hx with h1|h1
    ·rcases List.mem_append.1 h1 with h2|h2
     ·exact .inl h2
     ·simp only[List.mem_singleton]at h2
      subst h2
      exact .inr ⟨b,hb⟩
    ·exact .inr h1
   ·exact a2v k _ _ x hx
theorem b0t{bs:List (Option k7)}{j:Nat}{b:k7}:c7 bs j=some b↔bs[j]?=some (some b):=by
 unfold c7
 cases h:bs[j]? with
 |none=>simp
 |some x=>simp
theorem b3u{α:Type}(β:Nat->Nat)(g:α->Option k7)(bs:List α):(bs.zipIdx.map fun x=>(β x.2,g x.1)).map (·.1)=(List.range bs.length).map β:=by
 rw[List.map_map]
 apply List.ext_getElem?
 intro i
 simp only[List.getElem?_map,List.getElem?_zipIdx]
 by_cases hi:i<bs.length
 ·simp[List.getElem?_range hi,List.getElem?_eq_getElem hi]
 ·rw[List.getElem?_eq_none (by omega),List.getElem?_eq_none (l:=List.range bs.length) (by simp;omega)]
  rfl
section
variable{P:Program}{o:Oper}{fr:Nat->Nat}{c:Cx}{a:Act}
theorem e1v{g:FuncId}{fn:Func}{body:Code}{c0:Go.Call}{f:Operand}{caps:Array Value}{r:W}{up:B4}(hname:(fn.name== "runtime.NumGoroutine")=false)(ho:o.op=.call c0)(hcal:c0.callee=.value f)
 (hf:a.eval f=.func (.func g) #[] caps)(hg:P.funcs[g]?=some fn)(hb:fn.body=some body)
 (h:Calls P g (c0.args.map a.eval++caps) c.w fun e w'=> ∃v c',e=.returned v∧c'.w=w'∧c'.h=m0 c.h up∧(∀id,c'.U id->c.U id∨ ∃k,k<64∧id=fr k)∧x7 c' r v∧u7 c c'):u6 P o fr c a r up:=by
 intro K Q hK
 unfold Oper.wp
 have hex:(execOp a.eval o).run P c.w=.ok (.enter g (c0.args.map a.eval++caps)) c.w:=by
  unfold execOp
  rw[ho]
  simp only[resolve,hcal,hf,Deferred.ofValue,Sem.run_bind,Sem.run_pure,Result.andThen_ok,invoke,callFunc,run_program,hg,hname,hb]
  simp
 rw[hex,Oper.upon_enter]
 refine Calls.mono h fun e w' he=>?_
 obtain⟨v,c',rfl,rfl,h1,h2,h3,h4⟩:=he
 exact hK v c' h4 h1 h2 h3
theorem d7g{call:Call}(hcall:J8 P call)(hc:o6 c)(hfr: ∀k,k<64-> ¬c.U (fr k))(hinj: ∀k k',k<64->k'<64->fr k=fr k'->k=k'){g:FuncId}{args:List V}{vs:Array Value}{r:W}{up:B4}
 (h:X0 call fr c.h g args=some (r,up))(hs:vs.size=args.length)(hv:l0 (r9 c) vs 0 args):
 Calls P g vs c.w fun e w'=> ∃v c',e=.returned v∧c'.w=w'∧c'.h=m0 c.h up∧(∀id,c'.U id->c.U id∨ ∃k,k<64∧id=fr k)∧x7 c' r v∧u7 c c':=by
 unfold X0 at h
 simp only at h
 generalize hseen:C1 c.h 400 (args.flatMap a1t) []=seen at h
 have hn:seen.Nodup:=by rw[<-hseen];exact a1e _ _ _ _ List.nodup_nil
 have husd: ∀x∈seen,c.U x:=fun x hx=>by
  rw[<-hseen]at hx
  rcases a2v _ _ _ _ hx with h1|⟨b,h1⟩
  ·simp at h1
  ·exact hc.used x b h1
 split at h
 ·cases h
 rename_i rv bs' hcl
 split at h
 ·cases h
 rename_i hlen
 simp only[Bool.and_eq_true]at hlen
 have hm:=Nat.le_of_ble_eq_true hlen.1
 have hM:=Nat.le_of_ble_eq_true hlen.2
 generalize hback:a4t seen fr=back at h
 obtain⟨rfl,rfl⟩:=Prod.mk.inj (Option.some.inj h)
 let β:Nat->Nat:=fun j=>(back j).getD 0
 have hβ: ∀j,back j=some (β j):=fun j=>by
  show back j=some ((back j).getD 0)
  rw[<-hback]
  unfold a4t
  split<;>rfl
 have hβlo: ∀j x,seen[j]?=some x->β j=x:=fun j x hx=>by
  show(back j).getD 0=x
  rw[<-hback]
  simp only[a4t,hx]
  rfl
 have hβhi: ∀j,seen.length<=j->β j=fr (j-seen.length):=fun j hj=>by
  show(back j).getD 0=_
  rw[<-hback]
  simp only[a4t,List.getElem?_eq_none hj]
  rfl
 have hβinj: ∀i j,i<bs'.length->j<bs'.length->β i=β j->i=j:=by
  intro i j hi hj he
  by_cases hi':i<seen.length
  ·by_cases hj':j<seen.length
   ·rw[hβlo i _ (List.getElem?_eq_getElem hi'),hβlo j _ (List.getElem?_eq_getElem hj')]at he
    have e1:=b6k seen _ i hn (List.getElem?_eq_getElem hi')
    have e2:=b6k seen _ j hn (List.getElem?_eq_getElem hj')
    rw[he,e2]at e1
    exact(Option.some.inj e1).symm
   ·rw[hβlo i _ (List.getElem?_eq_getElem hi'),hβhi j (by omega)]at he
    exact absurd (he▸husd _ (List.getElem_mem hi')) (hfr _ (by omega))
  ·by_cases hj':j<seen.length
   ·rw[hβlo j _ (List.getElem?_eq_getElem hj'),hβhi i (by omega)]at he
    exact absurd (he▸husd _ (List.getElem_mem hj')) (hfr _ (by omega))
   ·rw[hβhi i (by omega),hβhi j (by omega)]at he
    have:=hinj _ _ (by omega) (by omega) he
    omega
 let d:=b5c seen c
 have hd:o6 d:=c2b hc hn
 have hcalls:=hcall g _ _ rv bs' hcl d vs hd rfl (fun i=>by show i<seen.length↔_;simp) (by simpa using hs) (hv.map (b1p (ix seen)) fun _ _=>(b6l seen c).v)
 refine Calls.mono hcalls fun e w' he=>?_
 obtain⟨v,d',rfl,rfl,h1,h2,h3,h4⟩:=he
 let ups:B4:=bs'.zipIdx.map fun(b,j)=>(β j,b.map (Z1 back))
 have hkeys:(ups.map (·.1)).Nodup:=by
  show((bs'.zipIdx.map fun x=>(β x.2,x.1.map (Z1 back))).map (·.1)).Nodup
  rw[b3u β (fun b:Option k7=>b.map (Z1 back)) bs']
  refine List.pairwise_iff_getElem.2 fun i j hi hj hij=>?_
  simp only[List.length_map,List.length_range]at hi hj
  simp only[List.getElem_map,List.getElem_range]
  intro he
  have:=hβinj i j hi hj he
  omega
 have hin: ∀j b,bs'[j]?=some b->m0 c.h ups (β j)=b.map (Z1 back):=fun j b hj=>by
  refine b8d ups c.h hkeys (List.mem_map.2 ⟨(b,j),?_,rfl⟩)
  rw[List.mem_iff_getElem?]
  exact⟨j,by simp[List.getElem?_zipIdx,hj]⟩
 have hout: ∀id,(∀j,j<bs'.length->β j≠id)->m0 c.h ups id=c.h id:=fun id hid=>by
  refine P5 ups c.h fun x hx=>?_
  obtain⟨⟨b,j⟩,hm,rfl⟩:=List.mem_map.1 hx
  rw[List.mem_iff_getElem?]at hm
  obtain⟨i,hi⟩:=hm
  simp only[List.getElem?_zipIdx]at hi
  cases hb:bs'[i]? with
  |none=>simp[hb]at hi
  |some b'=>
   simp[hb]at hi
   obtain⟨_,rfl⟩:=hi
   exact hid _ (List.getElem?_eq_some_iff.1 hb).1
 open Classical in
 let E':Emb:=⟨fun id=>if hx: ∃k,k<64∧id=fr k then d'.E (seen.length+Classical.choose hx)else c.E id,d'.E.own⟩
 let c':Cx:=⟨d'.w,d'.N,E',fun id=>c.U id∨ ∃k,seen.length+k<bs'.length∧id=fr k,m0 c.h ups⟩
 have hEU: ∀id,c.U id->E' id=c.E id:=fun id hid=>by
  show(if hx: ∃k,k<64∧id=fr k then _ else _)=_
  rw[dif_neg]
  rintro⟨k,hk,rfl⟩
  exact hfr k hk hid
 have hEfr: ∀k,k<64->E' (fr k)=d'.E (seen.length+k):=fun k hk=>by
  show(if hx: ∃k',k'<64∧fr k=fr k' then _ else _)=_
  have hx: ∃k',k'<64∧fr k=fr k':=⟨k,hk,rfl⟩
  rw[dif_pos hx]
  have hs:=Classical.choose_spec hx
  rw[hinj _ _ hs.1 hk hs.2.symm]
 have hEβ: ∀j,j<bs'.length->E' (β j)=d'.E j:=fun j hj=>by
  by_cases hj':j<seen.length
  ·have hx:=List.getElem?_eq_getElem hj'
   rw[hβlo j _ hx,hEU _ (husd _ (List.getElem_mem hj')),h4.step.emb j hj']
   show _=c.E (seen.getD j 0)
   rw[K9 hx]
  ·rw[hβhi j (by omega),hEfr _ (by omega)]
   congr 1;omega
 have hUβ: ∀j,j<bs'.length->c'.U (β j):=fun j hj=>by
  by_cases hj':j<seen.length
  ·rw[hβlo j _ (List.getElem?_eq_getElem hj')]
   exact .inl (husd _ (List.getElem_mem hj'))
  ·rw[hβhi j (by omega)]
   exact .inr ⟨j-seen.length,by omega,rfl⟩
 have htr:Tr d' c' back:=by
  refine⟨fun g hg=>⟨hg,rfl⟩,fun j id hj hu=>?_⟩
  rw[hβ j]at hj
  obtain rfl:=Option.some.inj hj
  have hlt:=h2 j hu
  refine⟨hUβ j hlt,hEβ j hlt,fun b' hb'=>?_⟩
  have hb':m0 c.h ups (β j)=some b':=hb'
  rw[hin j _ (List.getElem?_eq_getElem hlt)]at hb'
  cases hq:bs'[j]with
  |none=>rw[hq]at hb';cases hb'
  |some b0=>
   rw[hq]at hb'
   obtain rfl:=Option.some.inj hb'
   refine⟨b0,?_,a2u _ _⟩
   rw[h1,b0t,List.getElem?_eq_getElem hlt,hq]
 have split: ∀id b',m0 c.h ups id=some b'->(∃j b0,j<bs'.length∧id=β j∧d'.h j=some b0∧b'=Z1 back b0)∨((∀j,j<bs'.length->β j≠id)∧c.h id=some b'):=fun id b' hb'=>by
  by_cases hx: ∃j,j<bs'.length∧β j=id
  ·obtain⟨j,hj,rfl⟩:=hx
   left
   rw[hin j _ (List.getElem?_eq_getElem hj)]at hb'
   cases hq:bs'[j]with
   |none=>rw[hq]at hb';cases hb'
   |some b0=>
    rw[hq]at hb'
    obtain rfl:=Option.some.inj hb'
    exact⟨j,b0,hj,rfl,by rw[h1,b0t,List.getElem?_eq_getElem hj,hq],rfl⟩
  ·right
   have hno: ∀j,j<bs'.length->β j≠id:=fun j hj he=>hx ⟨j,hj,he⟩
   exact⟨hno,by rw[<-hout id hno];exact hb'⟩
 have heff:u7 c c':=by
  refine d7f (d:=d) (d':=d') (c':=c') β hc rfl rfl rfl (fun j b hb=>by
   obtain⟨id',b2,e1,e2,rfl⟩:=D1 hb
   exact⟨id',b2,e2,by show _=(c.E (seen.getD j 0)).blk;rw[K9 e1]⟩) h4 rfl rfl rfl (fun id hid=>⟨.inl hid,hEU id hid⟩) ?_ ?_ ?_
  ·intro id b hb
   rcases split id b hb with⟨j,b0,hj,rfl,_⟩|⟨_,h⟩
   ·exact hUβ j hj
   ·exact .inl (hc.used id b h)
  ·intro id b' hu hb'
   rcases split id b' hb' with⟨j,b0,hj,rfl,hdj,rfl⟩|⟨_,h⟩
   ·have hj':j<seen.length:=by
     rcases Nat.lt_or_ge j seen.length with h|h
     ·exact h
     ·rw[hβhi j h]at hu
      exact absurd hu (hfr _ (by omega))
    obtain⟨b1,hb1,hcm⟩:=h4.step.old j b0 hj' hdj
    obtain⟨id',b2,e1,e2,rfl⟩:=D1 hb1
    rw[hβlo j _ e1]
    exact⟨b2,e2,((a2u _ _).trans hcm).trans (a2u _ _)⟩
   ·exact⟨b',h,n9.refl _⟩
  ·intro id b' hb'
   rcases split id b' hb' with⟨j,b0,hj,rfl,hdj,rfl⟩|⟨hno,h⟩
   ·refine .inr ⟨j,b0,hdj,by show(E' (β j)).blk=_;rw[hEβ j hj],fun _=>?_,rfl⟩
    show I6 c' _ (E' (β j))
    rw[hEβ j hj]
    exact htr.b (h4.relh.blk j b0 hdj) rfl (fun x o hx=>⟨hx,rfl⟩)
   ·refine .inl ⟨h,hc.used id b' h,?_⟩
    rintro(⟨j,b1,hb1,hblk⟩|⟨a',j,b1,hoa,hb1,hblk⟩)
    case inr=>
     obtain⟨id',b2,e1,e2,rfl⟩:=D1 hb1
     have hE:d.E j=c.E id':=by show c.E (seen.getD j 0)=_;rw[K9 e1]
     rw[hE]at hblk
     exact(hc.nest _ a' id' b2 hoa e2 hblk).2 id b' h rfl
    obtain⟨id',b2,e1,e2,rfl⟩:=D1 hb1
    have hE:d.E j=c.E id':=by show c.E (seen.getD j 0)=_;rw[K9 e1]
    rw[hE]at hblk
    by_cases hne:id=id'
    ·subst hne
     have hj:j<seen.length:=(List.getElem?_eq_some_iff.1 e1).1
     exact hno j (by omega) (hβlo j _ e1)
    ·exact hc.inj id id' b' b2 h e2 hne hblk.symm
 refine⟨v,c',rfl,rfl,rfl,fun id hid=>?_,htr.w h3,heff⟩
 rcases hid with h|⟨k,hk,rfl⟩
 ·exact .inl h
 ·exact .inr ⟨k,by omega,rfl⟩
def b0u(c:Cx):Cx:=⟨c.w,fun g=>c.N g∨own c g,c.E,fun _=>False,c7 []⟩
theorem O0(j:Nat):c7 [] j=none:=by simp[c7]
theorem b0v(c:Cx)(g:Nat): ¬own (b0u c) g:=by
 rintro(⟨id,b,hb,_⟩|⟨_,id,b,_,hb,_⟩)
 all_goals
  have:c7 [] id=some b:=hb
  rw[O0]at this
  cases this
theorem d2i(hc:o6 c):o6 (b0u c) where
 blk:=fun id b hb=>by have:c7 [] id=some b:=hb;rw[O0]at this;cases this
 used:=fun id b hb=>by have:c7 [] id=some b:=hb;rw[O0]at this;cases this
 inj:=fun id id' b b' hb=>by have:c7 [] id=some b:=hb;rw[O0]at this;cases this
 apart:=fun id b hb=>by have:c7 [] id=some b:=hb;rw[O0]at this;cases this
 low:=fun g hg=>by
  rcases hg with h|⟨id,b,hb,rfl⟩|⟨a,id,b,hoa,_⟩
  ·exact hc.low g h
  ·obtain⟨cs,ty,fz,h1,_⟩:=hc.blk id b hb
   exact(Array.getElem?_eq_some_iff.1 h1).1
  ·exact(hc.olow g a hoa).1
 nest:=fun g a id b _ hb=>by have:c7 [] id=some b:=hb;rw[O0]at this;cases this
 olow:=hc.olow
theorem c6x{w:World}{N:Nat->Prop}{g o k cap:Nat}{R:List (List D)}{cs:Array Value}{ty:TypeId}{fz:Nat×Nat}(hg:w.heap[g]?=some (.cells cs ty fz))(hN:N g)(hcap:R.length<=cap)
 (h: ∀i r,R[i]?=some r->r.length=k∧ ∀j d,r[j]?=some d-> ∃v,cs[o+i*k+j]?=some v∧t8 w N d v):t8 w N (.sl k R) (.slice (some ⟨g,o,none⟩) R.length cap):=by
 refine .sl (fun i j=>(cs[o+i*k+j]?).getD undef) hcap hN (fun i r hi=>?_) (fun i r j d hi hd=>?_)
 ·obtain⟨hrk,hcr⟩:=h i r hi
  refine⟨hrk,fun j hj=>?_⟩
  rw[cell_of_row w g _ cs ty fz hg]
  obtain⟨y,hy,_⟩:=hcr j r[j] (by simp)
  rw[hy];rfl
 ·obtain⟨y,hy,hd'⟩:=(h i r hi).2 j d hd
  rw[hy]
  exact hd'
theorem d7h{c:Cx}{N':Nat->Prop}{w':World}{g a:Nat}{o:O}{v:Value}(h:X8 c g a none o v)(hn: ∀x,c.N x->N' x∧w'.heap[x]?=c.w.heap[x]?)(ho: ∀x,c.E.own x=some (g,a)->N' x∧w'.heap[x]?=c.w.heap[x]?):t8 w' N' o.flat v:=by
 cases o with
 |d x=>exact t8.mono hn h
 |own k rows=>
  obtain⟨p,⟨a0,rfl,h1⟩,h2,cs,ty,fz,h3,_,h5,_,h7⟩:=h
  by_cases h0:p.room=0
  ·have:rows=[]:=List.length_eq_zero_iff.1 (by omega)
   subst this
   exact .nil
  obtain rfl:=h1.resolve_left h0
  exact c6x ((ho _ h2).2.trans h3) (ho _ h2).1 h5 fun i r hr=>⟨(h7 i r hr).1,fun j d hd=>let⟨v,hv,hr⟩:=(h7 i r hr).2 j d hd;⟨v,hv,t8.mono hn hr⟩⟩
theorem b9q{c:Cx}(hc:o6 c){N':Nat->Prop}{w':World}{id off len k:Nat}{rows:List (List O)}{v:Value}(hid:c.h id=some (.nar k rows []))(hr:r8 c (.arr id off len) v)
 (hn: ∀x,c.N x->N' x∧w'.heap[x]?=c.w.heap[x]?)(hi:N' (c.E id).blk∧w'.heap[(c.E id).blk]?=c.w.heap[(c.E id).blk]?)(ho: ∀x o,c.E.own x=some ((c.E id).blk,o)->N' x∧w'.heap[x]?=c.w.heap[x]?):
 t8 w' N' (.sl k (((rows.drop off).take len).map (List.map O.flat))) v:=by
 obtain⟨_,_,h3⟩:=hr
 obtain⟨k',n,he,hle,a,cap,rfl,hlc,hroom,ha⟩:=h3 _ hid
 simp only[k7.arrOf,Option.some.injEq,Prod.mk.injEq]at he
 obtain⟨rfl,rfl⟩:=he
 by_cases h0:len=0
 ·subst h0
  simp only[List.take_zero,List.map_nil]
  exact .nil
 ·have hcap: ¬cap=0:=by omega
  obtain rfl:=ha.resolve_left hcap
  obtain⟨cs,ty,fz,hb,_,hrl,hsz,hcell⟩:=hc.blk id _ hid
  have hlen:(((rows.drop off).take len).map (List.map O.flat)).length=len:=by simp;omega
  have key:=c6x (w:=w') (N:=N') (k:=k) (o:=(c.E id).off+off*k) (cap:=cap) (R:=((rows.drop off).take len).map (List.map O.flat)) (hi.2.trans hb) hi.1 (by omega) (fun i r hir=>by
   rw[List.getElem?_map]at hir
   cases hq:((rows.drop off).take len)[i]? with
   |none=>rw[hq]at hir;cases hir
   |some r0=>
    rw[hq]at hir
    simp only[Option.map_some,Option.some.injEq]at hir
    subst hir
    have hq2:rows[off+i]?=some r0:=by
     rw[List.getElem?_take]at hq
     split at hq
     ·rwa[List.getElem?_drop]at hq
     ·cases hq
    obtain⟨g1,g2⟩:=hcell _ r0 hq2
    refine⟨by simpa using g1,fun j d hd=>?_⟩
    rw[List.getElem?_map]at hd
    cases hj:r0[j]? with
    |none=>rw[hj]at hd;cases hd
    |some o=>
     rw[hj]at hd
     simp only[Option.map_some,Option.some.injEq]at hd
     subst hd
     obtain⟨v,hv,hrel⟩:=g2 j o hj
     have e:(c.E id).off+(off+i)*k+j=(c.E id).off+off*k+i*k+j:=by rw[Nat.add_mul];omega
     refine⟨v,by rw[<-e];exact hv,d7h hrel hn fun x hx=>ho x _ hx⟩)
  rw[hlen]at key
  exact key
theorem b9r(hc:o6 c){s s':S}{v:Value}(h:S2 c.h s=some s')(hr:r8 c s v):r8 (b0u c) s' v:=by
 have hone:=hr.one
 have hD: ∀{s d u},toD c.h s=some (d,u)-> ∀{v},r8 c s v->t8 (b0u c).w (b0u c).N d v:=fun hs _ hr=>
  a9g hc (fun _ _=>rfl) (fun g hg=>.inl hg) hs hr fun y _ b hb=>.inr (.inl ⟨y.1,b,hb,rfl⟩)
 cases s with
 |d x=>
  simp only[S2,Option.some.injEq]at h
  subst h
  exact t8.mono (fun g hg=>⟨.inl hg,rfl⟩) hr
 |arr id off len=>
  simp only[S2]at h
  split at h
  ·rename_i k rows hid
   obtain rfl:=Option.some.inj h
   exact hD (s:=.arr id off len) (u:=[(id,none)]) (by simp only[toD,hid]) hr
  ·rename_i k rows hid
   obtain rfl:=Option.some.inj h
   exact b9q hc hid hr (fun x hx=>⟨.inl hx,rfl⟩) ⟨.inr (.inl ⟨id,_,hid,rfl⟩),rfl⟩ (fun x o hx=>⟨.inr (.inr ⟨_,id,_,hx,hid,rfl⟩),rfl⟩)
  ·cases h
 |ptr id row off=>
  simp only[S2]at h
  split at h
  ·rename_i cells hid
   split at h
   ·rename_i ds us hds
    obtain rfl:=Option.some.inj h
    have hp:=hr.2.2 _ hid
    obtain⟨cs,ty,fz,h1,_,_,hcell⟩:=hc.blk id _ hid
    refine⟨(c.E id).blk,(c.E id).off,by rw[hp];simp,.inr (.inl ⟨id,_,hid,rfl⟩),fun j d hj=>?_⟩
    obtain⟨d1,d2,d3⟩:=a3w _ hds
    have hlt:j<cells.length:=by rw[<-d1];exact(List.getElem?_eq_some_iff.1 hj).1
    obtain⟨d',u',e1,e2,_⟩:=d3 j _ (List.getElem?_eq_getElem hlt)
    rw[hj]at e1
    obtain rfl:=Option.some.inj e1
    obtain⟨x,hx,hrx⟩:=hcell j _ (List.getElem?_eq_getElem hlt)
    exact⟨x,by show c.w.cell? _=_;rw[cell_of_row c.w _ _ cs ty fz h1];exact hx,hD e2 hrx⟩
   ·cases h
  ·rename_i k rows hid
   split at h
   ·rename_i rr hrr
    obtain rfl:=Option.some.inj h
    have hp:=hr.2.2 _ hid
    obtain⟨cs,ty,fz,h1,_,_,_,hcell⟩:=hc.blk id _ hid
    refine⟨(c.E id).blk,(c.E id).off+row*k,by rw[hp];rfl,.inr (.inl ⟨id,_,hid,rfl⟩),fun j d hj=>?_⟩
    obtain⟨x,hx,hrx⟩:=(hcell row rr hrr).2 j d hj
    exact⟨x,by show c.w.cell? _=_;rw[cell_of_row c.w _ _ cs ty fz h1];exact hx,t8.mono (fun g hg=>⟨.inl hg,rfl⟩) hrx⟩
   ·cases h
  ·cases h
  ·cases h
 |dp r off=>
  simp only[S2,Option.some.injEq]at h
  subst h
  obtain⟨b,q,rfl,hb,hcell⟩:=hr
  exact⟨b,q,rfl,.inl hb,fun j d hj=>let⟨x,hx,hd⟩:=hcell j d hj;⟨x,hx,t8.mono (fun g hg=>⟨.inl hg,rfl⟩) hd⟩⟩
 |fn f caps=>
  cases caps with
  |nil=>
   simp only[S2,Option.some.injEq]at h
   subst h
   obtain⟨cs,rfl,hs,_⟩:=hr
   exact⟨cs,rfl,hs,fun i id hi=>by simp at hi⟩
  |cons x r=>simp[S2]at h
 |junk=>
  simp only[S2,Option.some.injEq]at h
  subst h
  exact hone
theorem b6m{h:Hp}: ∀(l:List S){l':List S},a2l h l=some l'->l'.length=l.length∧ ∀(j:Nat)(s':S),l'[j]?=some s'-> ∃s,l[j]?=some s∧S2 h s=some s'
 |[],l',hl=>by simp[a2l]at hl;subst hl;simp
 |s::r,l',hl=>by
  simp only[a2l]at hl
  split at hl
  ·rename_i x xs h1 h2
   obtain rfl:=Option.some.inj hl
   obtain⟨k1,k2⟩:=b6m r h2
   refine⟨by simp[k1],fun j s' hj=>?_⟩
   cases j with
   |zero=>simp at hj;subst hj;exact⟨s,rfl,h1⟩
   |succ j=>exact k2 j s' (by simpa using hj)
  ·cases hl
theorem d2j(hc:o6 c){s s':V}{v:Value}(h:a2m c.h s=some s')(hr:r9 c s v):r9 (b0u c) s' v:=by
 cases s with
 |c s=>
  simp only[a2m]at h
  split at h
  ·rename_i x hx
   obtain rfl:=Option.some.inj h
   exact b9r hc hx hr
  ·cases h
 |agg l=>
  simp only[a2m]at h
  split at h
  ·rename_i xs hx
   obtain rfl:=Option.some.inj h
   obtain⟨cs,rfl,hs,hcell⟩:=hr
   obtain⟨k1,k2⟩:=b6m l hx
   refine⟨cs,rfl,by omega,fun j s' hj=>?_⟩
   obtain⟨s,hs',hls⟩:=k2 j s' hj
   obtain⟨v,hv,hrel⟩:=hcell j s hs'
   exact⟨v,hv,b9r hc hls hrel⟩
  ·cases h
 |junk=>
  simp only[a2m,Option.some.injEq]at h
  subst h
  trivial
theorem b6n{h:Hp}: ∀(l:List V){l':List V},a2n h l=some l'->l'.length=l.length∧ ∀(j:Nat)(s':V),l'[j]?=some s'-> ∃s,l[j]?=some s∧a2m h s=some s'
 |[],l',hl=>by simp[a2n]at hl;subst hl;simp
 |s::r,l',hl=>by
  simp only[a2n]at hl
  split at hl
  ·rename_i x xs h1 h2
   obtain rfl:=Option.some.inj hl
   obtain⟨k1,k2⟩:=b6n r h2
   refine⟨by simp[k1],fun j s' hj=>?_⟩
   cases j with
   |zero=>simp at hj;subst hj;exact⟨s,rfl,h1⟩
   |succ j=>exact k2 j s' (by simpa using hj)
  ·cases hl
theorem b0w{c c':Cx}{s:S}{v:Value}(h:a1b s=true)(hr:r8 c s v):r8 c' s v:=by
 have hone:=hr.one
 cases s with
 |d x=>
  cases x with
  |v x=>cases hr with|v hp=>exact .v hp
  |sl=>simp[a1b]at h
  |any=>simp[a1b]at h
  |lit=>simp[a1b]at h
 |junk=>exact hone
 |_=>simp[a1b]at h
theorem b6o{c c':Cx}{s:V}{v:Value}(h:b5v s=true)(hr:r9 c s v):r9 c' s v:=by
 cases s with
 |c s=>exact b0w h hr
 |agg l=>
  obtain⟨cs,rfl,hs,hcell⟩:=hr
  exact⟨cs,rfl,hs,fun j s hj=>let⟨v,hv,hrel⟩:=hcell j s hj;⟨v,hv,b0w (List.all_eq_true.1 h s (List.mem_of_getElem? hj)) hrel⟩⟩
 |junk=>trivial
theorem c9j{c c':Cx}{s:W}{v:Value}(h:c1v s=true)(hr:x7 c s v):x7 c' s v:=by
 cases s with
 |one s=>exact b6o h hr
 |tup l=>
  obtain⟨cs,rfl,hs,hcell⟩:=hr
  exact⟨cs,rfl,hs,fun j s hj=>let⟨v,hv,hrel⟩:=hcell j s hj;⟨v,hv,b6o (List.all_eq_true.1 h s (List.mem_of_getElem? hj)) hrel⟩⟩
theorem b6p{w w':World}{N N':Nat->Prop}{d:D}{v:Value}(h:a6t d=true)(hr:t8 w N d v):t8 w' N' d v:=by
 cases d with
 |v x=>cases hr with|v hp=>exact .v hp
 |_=>simp[a6t]at h
theorem b6q{c c':Cx}{k:Nat}{rows:List (List D)}{p:Loc}(hp:(rows.all fun r=>r.all a6t)=true)(h:b0n c k rows p)(hw:c'.w=c.w):b0n c' k rows p:=by
 obtain⟨cs,ty,fz,h1,h2,h3,h4,h5⟩:=h
 refine⟨cs,ty,fz,by rw[hw];exact h1,h2,h3,h4,fun i r hr=>⟨(h5 i r hr).1,fun j d hd=>?_⟩⟩
 obtain⟨v,hv,hrel⟩:=(h5 i r hr).2 j d hd
 exact⟨v,hv,b6p (List.all_eq_true.1 (List.all_eq_true.1 hp r (List.mem_of_getElem? hr)) d (List.mem_of_getElem? hd)) hrel⟩
theorem c9k{c c':Cx}{b:k7}{p:Loc}(hp:a6u (some b)=true)(h:I6 c b p)(hw:c'.w=c.w)(ho: ∀x o,c.E.own x=some (p.blk,o)->c'.E.own x=some (p.blk,o)):I6 c' b p:=by
 cases b with
 |var cells=>simp[a6u]at hp
 |arr k rows=>exact I6.arr.2 (b6q (by simpa [a6u]using hp) (I6.arr.1 h) hw)
 |nar k rows outs=>
  simp only[a6u,Bool.and_eq_true,List.isEmpty_iff]at hp
  obtain⟨rfl,hp⟩:=hp
  obtain⟨cs,ty,fz,h1,h2,h3,h4,h5⟩:=h
  refine⟨cs,ty,fz,by rw[hw];exact h1,h2,h3,h4,fun i r hr=>⟨(h5 i r hr).1,fun j o hoj=>?_⟩⟩
  obtain⟨v,hv,hrel⟩:=(h5 i r hr).2 j o hoj
  have hq:=List.all_eq_true.1 (List.all_eq_true.1 hp r (List.mem_of_getElem? hr)) o (List.mem_of_getElem? hoj)
  refine⟨v,hv,?_⟩
  cases o with
  |d x=>exact b6p hq hrel
  |own q rs=>
   obtain⟨p2,z1,z2,z3⟩:=hrel
   exact⟨p2,z1,ho _ _ z2,b6q hq z3 hw⟩
theorem e1w{α β:Type}(f:Nat->Nat)(l:List α)(F:α->β){i:Nat}{x:α}(h:l[i]?=some x):(f i,F x)∈l.zipIdx.map fun(b,j)=>(f j,F b):=by
 refine List.mem_map.2 ⟨(x,i),?_,rfl⟩
 rw[List.mem_iff_getElem?]
 exact⟨i,by simp[List.getElem?_zipIdx,h]⟩
theorem d2k{call:Call}(hcall:J8 P call)(hc:o6 c)(hfr: ∀k,k<64-> ¬c.U (fr k))(hinj: ∀k k',k<64->k'<64->fr k=fr k'->k=k'){g:FuncId}{args:List V}{vs:Array Value}{r:W}{up:B4}
 (h:Z7 call fr c.h g args=some (r,up))(hs:vs.size=args.length)(hv:l0 (r9 c) vs 0 args):
 Calls P g vs c.w fun e w'=> ∃v c',e=.returned v∧c'.w=w'∧c'.h=m0 c.h up∧(∀id,c'.U id->c.U id∨ ∃k,k<64∧id=fr k)∧x7 c' r v∧u7 c c':=by
 unfold Z7 at h
 split at h
 ·cases h
 rename_i as has
 split at h
 ·cases h
 rename_i rv bs' hcl
 obtain⟨k1,k2⟩:=b6n args has
 have hcalls:=hcall g as [] rv bs' hcl (b0u c) vs (d2i hc) rfl (fun i=>by show False↔_;simp) (by omega) (fun j s' hj=>by
  obtain⟨s,hs',hls⟩:=k2 j s' hj
  obtain⟨v,hv,hrel⟩:=hv j s hs'
  exact⟨v,hv,d2j hc hls hrel⟩)
 split at h
 ·rename_i hpl
  obtain⟨rfl,rfl⟩:=Prod.mk.inj (Option.some.inj h)
  refine Calls.mono hcalls fun e w' he=>?_
  obtain⟨v,d',rfl,rfl,_,_,h3,h4⟩:=he
  have same: ∀g,g<c.w.heap.size->d'.w.heap[g]?=c.w.heap[g]?:=fun g hg=>h4.keep g hg (b0v c g)
  have st:A4 c {c with w:=d'.w}:=⟨fun _ h=>h,fun _ _=>rfl,fun _ b _ h=>⟨b,h,n9.refl b⟩,fun g hg=>⟨hg,same g (hc.low g hg)⟩⟩
  refine⟨v,{c with w:=d'.w},rfl,rfl,rfl,fun id h=>.inl h,c9j hpl h3,st,⟨fun id b hb=>?_,hc.used,hc.inj,hc.apart,fun g hg=>Nat.lt_of_lt_of_le (hc.low g hg) h4.size,hc.nest,fun g a hg=>⟨Nat.lt_of_lt_of_le (hc.olow g a hg).1 h4.size,Nat.lt_of_lt_of_le (hc.olow g a hg).2 h4.size⟩⟩,h4.os,h4.tape,h4.output,h4.size,fun g hg _=>same g hg,fun g hg=>.inl hg,fun g hg=>.inl hg,fun _ _ _ _=>rfl,fun _ _ h=>.inl h⟩
  refine(hc.blk id b hb).mono st (same _ ?_) (fun x o hx=>⟨hx,same x (hc.olow _ _ hx).1⟩)
  obtain⟨cs,ty,fz,h1,_⟩:=hc.blk id b hb
  exact(Array.getElem?_eq_some_iff.1 h1).1
 ·rename_i hpl
  split at h
  case h_2=>cases h
  rename_i hf
  simp only[Bool.and_eq_true]at hf
  obtain⟨⟨hf1,hf2⟩,hf3⟩:=hf
  have hM:=Nat.le_of_ble_eq_true hf3
  obtain⟨rfl,rfl⟩:=Prod.mk.inj (Option.some.inj h)
  refine Calls.mono hcalls fun e w' he=>?_
  obtain⟨v,d',rfl,rfl,h1,h2,h3,h4⟩:=he
  have same: ∀g,g<c.w.heap.size->d'.w.heap[g]?=c.w.heap[g]?:=fun g hg=>h4.keep g hg (b0v c g)
  let ups:B4:=bs'.zipIdx.map fun(b,j)=>(fr j,b)
  have hkeys:(ups.map (·.1)).Nodup:=by
   show((bs'.zipIdx.map fun x=>(fr x.2,x.1)).map (·.1)).Nodup
   rw[b3u fr (fun b:Option k7=>b) bs']
   refine List.pairwise_iff_getElem.2 fun i j hi hj hij=>?_
   simp only[List.length_map,List.length_range]at hi hj
   simp only[List.getElem_map,List.getElem_range]
   intro he
   have:=hinj i j (by omega) (by omega) he
   omega
  have hin: ∀j b,bs'[j]?=some b->m0 c.h ups (fr j)=b:=fun j b hj=>b8d ups c.h hkeys (e1w fr bs' (fun b=>b) hj)
  have hout: ∀id,(∀j,j<bs'.length->fr j≠id)->m0 c.h ups id=c.h id:=fun id hid=>by
   refine P5 ups c.h fun x hx=>?_
   obtain⟨⟨b,j⟩,hm,rfl⟩:=List.mem_map.1 hx
   rw[List.mem_iff_getElem?]at hm
   obtain⟨i,hi⟩:=hm
   simp only[List.getElem?_zipIdx]at hi
   cases hb:bs'[i]? with
   |none=>simp[hb]at hi
   |some b'=>
    simp[hb]at hi
    obtain⟨_,rfl⟩:=hi
    exact hid _ (List.getElem?_eq_some_iff.1 hb).1
  have hold: ∀id,c.U id->m0 c.h ups id=c.h id:=fun id hu=>hout id fun j hj he=>hfr j (by omega) (he▸hu)
  open Classical in
  let own':Nat->Option (Nat×Nat):=fun g=>if∃a j b,d'.E.own g=some a∧d'.h j=some b∧(d'.E j).blk=a.1 then d'.E.own g else c.E.own g
  open Classical in
  let E':Emb:=⟨fun id=>if hx: ∃k,k<64∧id=fr k then d'.E (Classical.choose hx)else c.E id,own'⟩
  let c':Cx:=⟨d'.w,c.N,E',fun id=>c.U id∨ ∃k,k<bs'.length∧id=fr k,m0 c.h ups⟩
  have hEU: ∀id,c.U id->E' id=c.E id:=fun id hid=>by
   show(if hx: ∃k,k<64∧id=fr k then _ else _)=_
   rw[dif_neg]
   rintro⟨k,hk,rfl⟩
   exact hfr k hk hid
  have hEfr: ∀k,k<64->E' (fr k)=d'.E k:=fun k hk=>by
   show(if hx: ∃k',k'<64∧fr k=fr k' then _ else _)=_
   have hx: ∃k',k'<64∧fr k=fr k':=⟨k,hk,rfl⟩
   rw[dif_pos hx]
   have hs:=Classical.choose_spec hx
   rw[hinj _ _ hs.1 hk hs.2.symm]
  have part: ∀id b,m0 c.h ups id=some b->(∃j,j<bs'.length∧id=fr j∧d'.h j=some b∧a6u (some b)=true∧E' id=d'.E j)∨(c.h id=some b∧c.U id∧E' id=c.E id):=fun id b hb=>by
   by_cases hx: ∃j,j<bs'.length∧fr j=id
   ·obtain⟨j,hj,rfl⟩:=hx
    left
    rw[hin j _ (List.getElem?_eq_getElem hj)]at hb
    exact⟨j,hj,rfl,by rw[h1,b0t,List.getElem?_eq_getElem hj,hb],by rw[<-hb];exact List.all_eq_true.1 hf2 _ (List.getElem_mem hj),hEfr j (by omega)⟩
   ·right
    rw[hout id fun j hj he=>hx ⟨j,hj,he⟩]at hb
    exact⟨hb,hc.used id b hb,hEU id (hc.used id b hb)⟩
  have dN: ∀g,c.N g∨own c g->d'.N g:=fun g hg=>(h4.step.n g hg).1
  have new_hi: ∀j b,d'.h j=some b->c.w.heap.size<=(d'.E j).blk:=fun j b hb=>(h4.owns _ (.inl ⟨j,b,hb,rfl⟩)).resolve_left (b0v c _)
  have ownhi: ∀g a j b,d'.E.own g=some a->d'.h j=some b->(d'.E j).blk=a.1->c.w.heap.size<=g∧c.w.heap.size<=a.1∧ ¬d'.N g:=fun g a j b ho hb ha=>
   ⟨(h4.owns g (.inr ⟨a,j,b,ho,hb,ha⟩)).resolve_left (b0v c _),ha▸new_hi j b hb,(h4.relh.nest g a j b ho hb ha).1⟩
  have own_or: ∀g a,own' g=some a->(∃j b,d'.E.own g=some a∧d'.h j=some b∧(d'.E j).blk=a.1)∨c.E.own g=some a:=fun g a hg=>by
   replace hg:(if∃a j b,d'.E.own g=some a∧d'.h j=some b∧(d'.E j).blk=a.1 then d'.E.own g else c.E.own g)=some a:=hg
   split at hg
   ·rename_i hx
    obtain⟨a',j,b,q1,q2,q3⟩:=hx
    rw[q1]at hg
    obtain rfl:=Option.some.inj hg
    exact .inl ⟨j,b,q1,q2,q3⟩
   ·exact .inr hg
  have own_new: ∀g a j b,d'.E.own g=some a->d'.h j=some b->(d'.E j).blk=a.1->own' g=some a:=fun g a j b q1 q2 q3=>by
   show(if∃a j b,d'.E.own g=some a∧d'.h j=some b∧(d'.E j).blk=a.1 then d'.E.own g else c.E.own g)=some a
   rw[if_pos ⟨a,j,b,q1,q2,q3⟩,q1]
  have own_old: ∀g,g<c.w.heap.size->own' g=c.E.own g:=fun g hg=>by
   show(if∃a j b,d'.E.own g=some a∧d'.h j=some b∧(d'.E j).blk=a.1 then d'.E.own g else c.E.own g)=_
   rw[if_neg]
   rintro⟨a,j,b,q1,q2,q3⟩
   have:=(ownhi g a j b q1 q2 q3).1
   omega
  have st:A4 c c':=⟨fun _ h=>.inl h,fun id hu=>hEU id hu,fun id b hu hb=>⟨b,by rw[<-hold id hu];exact hb,n9.refl b⟩,fun g hg=>⟨hg,same g (hc.low g hg)⟩⟩
  have blo: ∀id b,c.h id=some b->(c.E id).blk<c.w.heap.size:=fun id b hb=>by
   obtain⟨cs,ty,fz,q,_⟩:=hc.blk id b hb
   exact(Array.getElem?_eq_some_iff.1 q).1
  have rh:o6 c':=by
   refine⟨fun id b hb=>?_,fun id b hb=>?_,fun id id' b b' hb hb' hne=>?_,fun id b hb=>?_,fun g hg=>Nat.lt_of_lt_of_le (hc.low g hg) h4.size,fun g a id b hg hb ha=>?_,fun g a hg=>?_⟩
   ·rcases part id b hb with⟨j,hj,rfl,q1,q2,q3⟩|⟨q1,q2,q3⟩
    ·show I6 c' b (E' (fr j))
     rw[q3]
     exact c9k q2 (h4.relh.blk j b q1) rfl fun x o hx=>own_new x _ j b hx q1 rfl
    ·show I6 c' b (E' id)
     rw[q3]
     exact(hc.blk id b q1).mono st (same _ (blo id b q1)) fun x o hx=>⟨by show own' x=_;rw[own_old x (hc.olow _ _ hx).1];exact hx,same x (hc.olow _ _ hx).1⟩
   ·rcases part id b hb with⟨j,hj,rfl,_⟩|⟨_,q2,_⟩
    ·exact .inr ⟨j,hj,rfl⟩
    ·exact .inl q2
   ·show(E' id).blk≠(E' id').blk
    rcases part id b hb with⟨j,hj,rfl,q1,q2,q3⟩|⟨q1,q2,q3⟩
    ·rcases part id' b' hb' with⟨j',hj',rfl,p1,p2,p3⟩|⟨p1,p2,p3⟩
     ·rw[q3,p3]
      exact h4.relh.inj j j' b b' q1 p1 fun e=>hne (by rw[e])
     ·rw[q3,p3]
      have:=new_hi j b q1
      have:=blo id' b' p1
      omega
    ·rcases part id' b' hb' with⟨j',hj',rfl,p1,p2,p3⟩|⟨p1,p2,p3⟩
     ·rw[q3,p3]
      have:=new_hi j' b' p1
      have:=blo id b q1
      omega
     ·rw[q3,p3]
      exact hc.inj id id' b b' q1 p1 hne
   ·show¬c.N (E' id).blk
    rcases part id b hb with⟨j,hj,rfl,q1,q2,q3⟩|⟨q1,q2,q3⟩
    ·rw[q3]
     exact fun hn=>h4.relh.apart j b q1 (dN _ (.inl hn))
    ·rw[q3]
     exact hc.apart id b q1
   ·show¬c.N g∧ ∀id' b',m0 c.h ups id'=some b'->(E' id').blk≠g
    replace ha:(E' id).blk=a.1:=ha
    rcases own_or g a hg with⟨j,b0,o1,o2,o3⟩|o1
    ·obtain⟨r1,r2,r3⟩:=ownhi g a j b0 o1 o2 o3
     refine⟨fun hn=>r3 (dN g (.inl hn)),fun id' b' hb'=>?_⟩
     rcases part id' b' hb' with⟨j',hj',rfl,p1,p2,p3⟩|⟨p1,p2,p3⟩
     ·rw[p3]
      exact(h4.relh.nest g a j b0 o1 o2 o3).2 j' b' p1
     ·rw[p3]
      have:=blo id' b' p1
      omega
    ·have lo:=hc.olow g a o1
     rcases part id b hb with⟨j,hj,rfl,q1,q2,q3⟩|⟨q1,q2,q3⟩
     ·rw[q3]at ha
      have:=new_hi j b q1
      omega
     ·rw[q3]at ha
      obtain⟨n1,n2⟩:=hc.nest g a id b o1 q1 ha
      refine⟨n1,fun id' b' hb'=>?_⟩
      rcases part id' b' hb' with⟨j',hj',rfl,p1,p2,p3⟩|⟨p1,p2,p3⟩
      ·rw[p3]
       have:=new_hi j' b' p1
       omega
      ·rw[p3]
       exact n2 id' b' p1
   ·rcases own_or g a hg with⟨j,b0,o1,o2,o3⟩|o1
    ·exact h4.relh.olow g a o1
    ·have lo:=hc.olow g a o1
     exact⟨Nat.lt_of_lt_of_le lo.1 h4.size,Nat.lt_of_lt_of_le lo.2 h4.size⟩
  have relS: ∀s x,b1q s=true->r8 d' s x->r8 c' (a6s (fun j=>some (fr j)) s) x:=fun s x hfs hr=>by
   cases s with
   |arr id off len=>
    obtain⟨r1,r2,r3⟩:=hr
    have hlt:=h2 id r2
    refine⟨r1,.inr ⟨id,hlt,rfl⟩,fun b hb=>?_⟩
    have hb:m0 c.h ups (fr id)=some b:=hb
    rw[hin id _ (List.getElem?_eq_getElem hlt)]at hb
    have:=r3 b (by rw[h1,b0t,List.getElem?_eq_getElem hlt,hb])
    show∃k n,b.arrOf=some (k,n)∧off+len<=n∧ ∃a cap,x=.slice a len cap∧len<=cap∧off+cap<=(E' (fr id)).room∧(cap=0∨a=some ⟨(E' (fr id)).blk,(E' (fr id)).off+off*k,none⟩)
    rw[hEfr id (by omega)]
    exact this
   |d y=>
    show r8 c' (.d y) x
    exact b0w (c:=d') (s:=.d y) hfs hr
   |junk=>exact hr
   |_=>simp[b1q,a1b]at hfs
  have relV: ∀s x,b5w s=true->r9 d' s x->r9 c' (b1p (fun j=>some (fr j)) s) x:=fun s x hfs hr=>by
   cases s with
   |c s=>exact relS s x hfs hr
   |agg l=>
    obtain⟨cs,rfl,hsz,hcell⟩:=hr
    refine⟨cs,rfl,by simpa using hsz,fun j s hj=>?_⟩
    rw[List.getElem?_map]at hj
    cases hq:l[j]? with
    |none=>rw[hq]at hj;cases hj
    |some s0=>
     rw[hq]at hj
     obtain rfl:=Option.some.inj hj
     obtain⟨v,hv,hrel⟩:=hcell j s0 hq
     exact⟨v,hv,relS s0 v (List.all_eq_true.1 hfs s0 (List.mem_of_getElem? hq)) hrel⟩
   |junk=>trivial
  have relW:x7 c' (b4v (fun j=>some (fr j)) rv) v:=by
   cases rv with
   |one s=>exact relV s v hf1 h3
   |tup l=>
    obtain⟨cs,rfl,hsz,hcell⟩:=h3
    refine⟨cs,rfl,by simpa using hsz,fun j s hj=>?_⟩
    rw[List.getElem?_map]at hj
    cases hq:l[j]? with
    |none=>rw[hq]at hj;cases hj
    |some s0=>
     rw[hq]at hj
     obtain rfl:=Option.some.inj hj
     obtain⟨v,hv,hrel⟩:=hcell j s0 hq
     exact⟨v,hv,relV s0 v (List.all_eq_true.1 hf1 s0 (List.mem_of_getElem? hq)) hrel⟩
  refine⟨v,c',rfl,rfl,rfl,fun id hid=>?_,relW,st,rh,h4.os,h4.tape,h4.output,h4.size,fun g hg _=>same g hg,fun g hg=>.inl hg,fun g hg=>?_,fun g hg hno ha=>own_old g hg,fun g a hg=>?_⟩
  ·rcases hid with h|⟨k,hk,rfl⟩
   ·exact .inl h
   ·exact .inr ⟨k,by omega,rfl⟩
  ·rcases hg with⟨id,b,hb,hg⟩|⟨a,id,b,ho,hb,hg⟩
   ·replace hg:(E' id).blk=g:=hg
    rcases part id b hb with⟨j,hj,rfl,q1,q2,q3⟩|⟨q1,q2,q3⟩
    ·rw[q3]at hg
     exact .inr (hg▸new_hi j b q1)
    ·rw[q3]at hg
     exact .inl (.inl ⟨id,b,q1,hg⟩)
   ·replace hg:(E' id).blk=a.1:=hg
    rcases own_or g a ho with⟨j,b0,o1,o2,o3⟩|o1
    ·exact .inr (ownhi g a j b0 o1 o2 o3).1
    ·rcases part id b hb with⟨j,hj,rfl,q1,q2,q3⟩|⟨q1,q2,q3⟩
     ·rw[q3]at hg
      have:=new_hi j b q1
      have:=(hc.olow g a o1).2
      omega
     ·rw[q3]at hg
      exact .inl (.inr ⟨a,id,b,o1,q1,hg⟩)
  ·rcases own_or g a hg with⟨j,b0,o1,o2,o3⟩|o1
   ·exact .inr (.inr (ownhi g a j b0 o1 o2 o3).2.1)
   ·exact .inl o1
theorem c4y{lend:FuncId->Bool}{call:Call}(hcall:J8 P call)(hc:o6 c)(hfr: ∀k,k<64-> ¬c.U (fr k))(hinj: ∀k k',k<64->k'<64->fr k=fr k'->k=k'){g:FuncId}{args:List V}{vs:Array Value}{r:W}{up:B4}
 (h:S3 lend call fr c.h g args=some (r,up))(hs:vs.size=args.length)(hv:l0 (r9 c) vs 0 args):
 Calls P g vs c.w fun e w'=> ∃v c',e=.returned v∧c'.w=w'∧c'.h=m0 c.h up∧(∀id,c'.U id->c.U id∨ ∃k,k<64∧id=fr k)∧x7 c' r v∧u7 c c':=by
 unfold S3 at h
 split at h
 ·exact d2k hcall hc hfr hinj h hs hv
 ·exact d7g hcall hc hfr hinj h hs hv
end
end Go.Vsi
namespace Go.Vsi
theorem c2c{c:Cx}(h:o6 c)(i:Nat)(b:k7)(hb:c.h i=some b)(j:Nat)(bj:k7)(hbj:c.h j=some bj)(hne:i≠j)(o:Nat):
 u7 c {c with h:=m0 c.h [(i,none)],E:=⟨c.E.loc,fun x=>if x=(c.E i).blk then some ((c.E j).blk,o)else c.E.own x⟩}:=by
 have old: ∀id b',m0 c.h [(i,none)] id=some b'->c.h id=some b'∧id≠i:=fun id b' hb'=>by
  rw[l6]at hb'
  split at hb'
  ·cases hb'
  ·rename_i e;exact⟨hb',e⟩
 have lt: ∀id b',c.h id=some b'->(c.E id).blk<c.w.heap.size:=fun id b' hb'=>by
  obtain⟨cs,ty,fz,h1,_⟩:=h.blk id b' hb'
  exact(Array.getElem?_eq_some_iff.1 h1).1
 have st:A4 c {c with h:=m0 c.h [(i,none)],E:=⟨c.E.loc,fun x=>if x=(c.E i).blk then some ((c.E j).blk,o)else c.E.own x⟩}:=
  ⟨fun _ h=>h,fun _ _=>rfl,fun id b' _ hb'=>⟨b',(old id b' hb').1,n9.refl _⟩,fun g hg=>⟨hg,rfl⟩⟩
 refine⟨st,⟨fun id b' hb'=>(h.blk id b' (old id b' hb').1).mono st rfl (fun x o' hx=>⟨?_,rfl⟩),fun id b' hb'=>h.used id b' (old id b' hb').1,
  fun id id' b1 b2 h1 h2 hne=>h.inj id id' b1 b2 (old id b1 h1).1 (old id' b2 h2).1 hne,fun id b' hb'=>h.apart id b' (old id b' hb').1,h.low,?_,?_⟩,rfl,rfl,rfl,Nat.le_refl _,fun _ _ _=>rfl,fun _ h=>.inl h,?_,?_,?_⟩
 ·show(if x=(c.E i).blk then _ else _)=_
  rw[if_neg (a3u h hx (old id b' hb').1 hb).symm]
  exact hx
 ·intro g a id b' ho hb' ha
  replace ho:(if g=(c.E i).blk then some ((c.E j).blk,o)else c.E.own g)=some a:=ho
  split at ho
  ·rename_i hg
   subst hg
   exact⟨h.apart i b hb,fun id' b2 hb2=>h.inj id' i b2 b (old id' b2 hb2).1 hb (old id' b2 hb2).2⟩
  ·obtain⟨n1,n2⟩:=h.nest g a id b' ho (old id b' hb').1 ha
   exact⟨n1,fun id' b2 hb2=>n2 id' b2 (old id' b2 hb2).1⟩
 ·intro g a ho
  replace ho:(if g=(c.E i).blk then some ((c.E j).blk,o)else c.E.own g)=some a:=ho
  split at ho
  ·rename_i hg
   subst hg
   obtain rfl:=Option.some.inj ho
   exact⟨lt i b hb,lt j bj hbj⟩
  ·exact h.olow g a ho
 ·rintro g (⟨id,b',hb',hg⟩|⟨a,id,b',ho,hb',hg⟩)
  ·exact .inl (.inl ⟨id,b',(old id b' hb').1,hg⟩)
  ·replace ho:(if g=(c.E i).blk then some ((c.E j).blk,o)else c.E.own g)=some a:=ho
   split at ho
   ·rename_i hg2
    exact .inl (.inl ⟨i,b,hb,hg2.symm⟩)
   ·exact .inl (.inr ⟨a,id,b',ho,(old id b' hb').1,hg⟩)
 ·intro g _ hno _
  show(if g=(c.E i).blk then _ else _)=_
  rw[if_neg]
  rintro rfl
  exact hno (.inl ⟨i,b,hb,rfl⟩)
 ·intro g a ho
  replace ho:(if g=(c.E i).blk then some ((c.E j).blk,o)else c.E.own g)=some a:=ho
  split at ho
  ·obtain rfl:=Option.some.inj ho
   exact .inr (.inl (.inl ⟨j,bj,hbj,rfl⟩))
  ·exact .inl ho
theorem a1v{c:Cx}(h:o6 c)(i:Nat)(b0 b:k7)(hb0:c.h i=some b0)(hcm:n9 b0 b)(hb: ∀c',c'.w=c.w->c'.N=c.N->c'.E.own=c.E.own->A4 c c'->I6 c' b (c.E i)):
 ∃c',u7 c c'∧c'.w=c.w∧c'.N=c.N∧c'.E.own=c.E.own∧(∀id,c'.E id=c.E id)∧(∀x,c'.U x↔c.U x)∧c'.h=m0 c.h [(i,some b)]:=by
 let c':Cx:=⟨c.w,c.N,a8v c.E i (c.E i),fun x=>c.U x∨x=i,m0 (m0 c.h [(i,none)]) [(i,some b)]⟩
 refine⟨c',a4x h i b0 hb0 i (.inl rfl) b (c.E i) rfl (fun _=>⟨hcm,rfl⟩) c.w rfl (fun _ _=>rfl) rfl rfl rfl c' rfl (fun st=>hb c' rfl rfl rfl st),rfl,rfl,rfl,fun id=>?_,fun x=>⟨?_,.inl⟩,b8b _ _ _⟩
 ·show(if id=i then c.E i else c.E id)=c.E id
  split
  ·rename_i e;rw[e]
  ·rfl
 ·rintro(hx|rfl)
  ·exact hx
  ·exact h.used _ _ hb0
theorem d7i{h:Hp}{s:S}{x:O}{u:B4}(hs:R9 h s=some (x,u)): ∀y∈u,y.2=none:=by
 cases s with
 |d d=>simp[R9]at hs;obtain⟨_,rfl⟩:=hs;simp
 |arr id off len=>
  simp only[R9]at hs
  split at hs
  ·simp at hs;obtain⟨_,rfl⟩:=hs;simp
  ·cases hs
 |_=>simp[R9]at hs
theorem c6y{h:Hp}{i:Nat}{b:Option k7}{s:S}{x:O}{u:B4}(hs:R9 h s=some (x,u))(hi: ∀y∈u,y.1≠i):R9 (m0 h [(i,b)]) s=some (x,u):=by
 cases s with
 |d d=>exact hs
 |arr id off len=>
  simp only[R9]at hs⊢
  split at hs
  ·rename_i k rows hid
   simp only[Option.some.injEq,Prod.mk.injEq]at hs
   obtain⟨rfl,rfl⟩:=hs
   have hne:id≠i:=hi (id,none) (by simp)
   rw[l6,if_neg hne,hid]
  ·cases hs
 |_=>simp[R9]at hs
theorem a6x{h:Hp}{i:Nat}{b:Option k7}: ∀{l:List S}{x:List O}{u:B4},C8 h l=some (x,u)->(∀y∈u,y.1≠i)->C8 (m0 h [(i,b)]) l=some (x,u)
 |[],_,_,hs,_=>hs
 |s::r,x,u,hs,hi=>by
  simp only[C8]at hs⊢
  split at hs
  ·rename_i y u1 ys us h1 h2
   simp only[Option.some.injEq,Prod.mk.injEq]at hs
   obtain⟨rfl,rfl⟩:=hs
   rw[c6y h1 (fun y hy=>hi y (List.mem_append.2 (.inl hy))),a6x h2 (fun y hy=>hi y (List.mem_append.2 (.inr hy)))]
  ·cases hs
theorem a6y{h:Hp}: ∀(l:List S){xs:List O}{u:B4},C8 h l=some (xs,u)->xs.length=l.length∧(∀y∈u,y.2=none)∧ ∀(j:Nat)(s:S),l[j]?=some s-> ∃x u',xs[j]?=some x∧R9 h s=some (x,u')∧ ∀y∈u',y∈u
 |[],xs,u,h=>by simp[C8]at h;obtain⟨rfl,rfl⟩:=h;simp
 |s::r,xs,u,hd=>by
  simp only[C8]at hd
  split at hd
  ·rename_i x u1 xs1 us1 h1 h2
   simp at hd
   obtain⟨rfl,rfl⟩:=hd
   obtain⟨k1,k2,k3⟩:=a6y r h2
   refine⟨by simp[k1],fun y hy=>?_,fun j s' hj=>?_⟩
   ·rcases List.mem_append.1 hy with hy|hy
    ·exact d7i h1 y hy
    ·exact k2 y hy
   ·cases j with
    |zero=>simp at hj;subst hj;exact⟨x,u1,by simp,h1,fun y hy=>List.mem_append.2 (.inl hy)⟩
    |succ j=>
     obtain⟨x',u',e1,e2,e3⟩:=k3 j s' (by simpa using hj)
     exact⟨x',u',by simpa using e1,e2,fun y hy=>List.mem_append.2 (.inr (e3 y hy))⟩
  ·cases hd
theorem a8d{j:Nat}{bj:k7}: ∀(l:List S)(o:Nat)(c:Cx){xs:List O}{u:B4},o6 c->c.h j=some bj->C8 c.h l=some (xs,u)->(u.map (·.1)).Nodup->(∀y∈u,y.1≠j)->
 ∃c',u7 c c'∧c'.w=c.w∧c'.N=c.N∧c'.U=c.U∧(∀id,c'.E id=c.E id)∧c'.h=m0 c.h u∧
  (∀(m id off len:Nat),l[m]?=some (S.arr id off len)->c'.E.own (c.E id).blk=some ((c.E j).blk,o+m))∧(∀x,(∀(m id off len:Nat),l[m]?=some (S.arr id off len)->x≠(c.E id).blk)->c'.E.own x=c.E.own x)
 |[],o,c,xs,u,hc,hj,hs,_,_=>by
  simp only[C8,Option.some.injEq,Prod.mk.injEq]at hs
  obtain⟨rfl,rfl⟩:=hs
  exact⟨c,u7.refl hc,rfl,rfl,rfl,fun _=>rfl,rfl,fun m id off len h=>by simp at h,fun _ _=>rfl⟩
 |s::r,o,c,xs,u,hc,hj,hs,hn,hne=>by
  simp only[C8]at hs
  split at hs
  case h_2=>cases hs
  rename_i x u1 xs1 us1 h1 h2
  simp only[Option.some.injEq,Prod.mk.injEq]at hs
  obtain⟨rfl,rfl⟩:=hs
  have hn2:(us1.map (·.1)).Nodup:=by
   rw[List.map_append]at hn
   exact(List.nodup_append.1 hn).2.1
  have hne2: ∀y∈us1,y.1≠j:=fun y hy=>hne y (List.mem_append.2 (.inr hy))
  cases s with
  |d d=>
   simp only[R9,Option.some.injEq,Prod.mk.injEq]at h1
   obtain⟨rfl,rfl⟩:=h1
   obtain⟨c',e,f1,f2,f3,f4,f5,f6,f7⟩:=a8d r (o+1) c hc hj h2 hn2 hne2
   refine⟨c',e,f1,f2,f3,f4,f5,fun m id off len hm=>?_,fun x hx=>f7 x fun m id off len hm=>hx (m+1) id off len (by simpa using hm)⟩
   cases m with
   |zero=>simp at hm
   |succ m=>
    rw[f6 m id off len (by simpa using hm)]
    congr 2;omega
  |arr id off len=>
   simp only[R9]at h1
   split at h1
   case h_2=>cases h1
   rename_i k rows hid
   simp only[Option.some.injEq,Prod.mk.injEq]at h1
   obtain⟨rfl,rfl⟩:=h1
   have hij:id≠j:=hne (id,none) (by simp)
   have e1:=c2c hc id _ hid j bj hj hij o
   have hfresh: ∀y∈us1,y.1≠id:=fun y hy he=>by
    simp only[List.cons_append,List.nil_append,List.map_cons,List.nodup_cons]at hn
    exact hn.1 (he▸List.mem_map.2 ⟨y,hy,rfl⟩)
   obtain⟨c',e,f1,f2,f3,f4,f5,f6,f7⟩:=a8d r (o+1) _ e1.relh (by show m0 c.h [(id,none)] j=_;rw[l6,if_neg hij.symm];exact hj) (a6x h2 hfresh) hn2 hne2
   have hblk: ∀(m id' off' len':Nat),r[m]?=some (S.arr id' off' len')->(c.E id).blk≠(c.E id').blk:=fun m id' off' len' hm=>by
    obtain⟨_,_,g3⟩:=a6y r h2
    obtain⟨x',u',q1,q2,q3⟩:=g3 m _ hm
    simp only[R9]at q2
    split at q2
    case h_2=>cases q2
    rename_i k' rows' hid'
    simp only[Option.some.injEq,Prod.mk.injEq]at q2
    obtain⟨_,rfl⟩:=q2
    refine hc.inj id id' _ _ hid hid' fun he=>?_
    exact hfresh (id',none) (q3 _ (by simp)) he.symm
   refine⟨c',e1.trans e,f1,f2,f3,f4,by rw[f5];rfl,fun m id' off' len' hm=>?_,fun x hx=>?_⟩
   ·cases m with
    |zero=>
     simp only[List.getElem?_cons_zero,Option.some.injEq,S.arr.injEq]at hm
     obtain⟨rfl,rfl,rfl⟩:=hm
     rw[f7 _ (fun m id' off' len' hm=>hblk m id' off' len' hm)]
     show(if(c.E id).blk=(c.E id).blk then _ else _)=_
     rw[if_pos rfl]
     rfl
    |succ m=>
     have:=f6 m id' off' len' (by simpa using hm)
     rw[show o+(m+1)=o+1+m by omega]
     exact this
   ·rw[f7 x fun m id' off' len' hm=>hx (m+1) id' off' len' (by simpa using hm)]
    show(if x=(c.E id).blk then _ else _)=_
    rw[if_neg (hx 0 id off len rfl)]
  |_=>simp[R9]at h1
end Go.Vsi
namespace Go.Vsi
theorem b6r{h:Hp}{outs:List (Nat×Nat×Nat)}{row:Nat}: ∀(l:List O)(j0 j:Nat)(ss:List S)(s:S),W3 h outs row j0 l=some ss->ss[j]?=some s->
 ∃o,l[j]?=some o∧a2c h (B3 row (j0+j) outs) o=some s
 |[],_,_,ss,s,hl,hs=>by simp only[W3,Option.some.injEq]at hl;subst hl;simp at hs
 |o::r,j0,j,ss,s,hl,hs=>by
  simp only[W3]at hl
  split at hl
  case h_2=>cases hl
  rename_i x xs h1 h2
  obtain rfl:=Option.some.inj hl
  cases j with
  |zero=>
   simp only[List.getElem?_cons_zero,Option.some.injEq]at hs
   subst hs
   exact⟨o,rfl,h1⟩
  |succ j=>
   simp only[List.getElem?_cons_succ]at hs
   obtain⟨o',g1,g2⟩:=b6r r (j0+1) j xs s h2 hs
   refine⟨o',by simpa using g1,?_⟩
   rw[show j0+(j+1)=j0+1+j by omega,g2]
theorem c9l{c:Cx}(hc:o6 c){id k row:Nat}{rows:List (List O)}{outs:List (Nat×Nat×Nat)}{r:List O}{l:List S}(hid:c.h id=some (.nar k rows outs))(hr:rows[row]?=some r)(hl:W3 c.h outs row 0 r=some l):
 b2y c (c.E id).blk ((c.E id).off+row*k) l:=fun j s hj=>by
 obtain⟨cs,ty,fz,hcs,_,_,_,hcell⟩:=hc.blk id _ hid
 obtain⟨o,h1,h2⟩:=b6r r 0 j l s hl hj
 rw[Nat.zero_add]at h2
 obtain⟨v,hv,hrel⟩:=(hcell row r hr).2 j o h1
 refine⟨v,by rw[cell_of_row c.w _ _ cs ty fz hcs];exact hv,?_⟩
 cases ho:B3 row j outs with
 |some id'=>
  rw[ho]at hrel h2
  obtain⟨g1,g2,g3⟩:=hrel
  simp only[a2c]at h2
  split at h2
  ·rename_i kk rs hid'
   obtain rfl:=Option.some.inj h2
   refine⟨g1,g2,fun b hb=>?_⟩
   obtain⟨k',n,e1,e2,a0,e3,e4⟩:=g3 b hb
   rw[hid']at hb
   obtain rfl:=Option.some.inj hb
   simp only[k7.arrOf,Option.some.injEq,Prod.mk.injEq]at e1
   obtain⟨rfl,rfl⟩:=e1
   exact⟨_,_,rfl,by omega,a0,_,e3,e2,by omega,by simpa using e4⟩
  ·cases h2
 |none=>
  rw[ho]at hrel h2
  simp only[a2c]at h2
  cases o with
  |d x=>
   obtain rfl:=Option.some.inj h2
   exact hrel
  |own k' rs=>
   obtain rfl:=Option.some.inj h2
   obtain⟨p,⟨a0,rfl,_⟩,_⟩:=hrel
   rfl
theorem d2l{α:Type}{r ds:List α}{off j:Nat}{o:α}(hle:off+ds.length<=r.length)(h:(r.take off++ds++r.drop (off+ds.length))[j]?=some o):
 (j<off∧r[j]?=some o)∨(off<=j∧j<off+ds.length∧ds[j-off]?=some o)∨(off+ds.length<=j∧r[j]?=some o):=by
 have h1:(r.take off).length=off:=by simp;omega
 by_cases hj1:j<off
 ·rw[List.append_assoc,List.getElem?_append_left (by omega),List.getElem?_take,if_pos hj1]at h
  exact .inl ⟨hj1,h⟩
 ·by_cases hj2:j<off+ds.length
  ·rw[List.getElem?_append_left (by simp;omega),List.getElem?_append_right (by omega),h1]at h
   exact .inr (.inl ⟨by omega,hj2,h⟩)
  ·rw[List.getElem?_append_right (by simp;omega)]at h
   have e:(r.take off++ds).length=off+ds.length:=by simp;omega
   rw[e,List.getElem?_drop]at h
   rw[show off+ds.length+(j-(off+ds.length))=j by omega]at h
   exact .inr (.inr ⟨by omega,h⟩)
theorem c2d{c c3:Cx}(hc:o6 c)(st:A4 c c3){s:S}{o:O}{u:B4}{v:Value}{g a:Nat}(hs:R9 c.h s=some (o,u))(hv:r8 c s v)
 (hw: ∀id b,c.h id=some b->(∃off len,s=.arr id off len)->c3.w.heap[(c.E id).blk]?=c.w.heap[(c.E id).blk]?)
 (ho: ∀id off len,s=.arr id off len->c3.E.own (c.E id).blk=some (g,a)):X8 c3 g a none o v:=by
 cases s with
 |d x=>
  simp only[R9,Option.some.injEq,Prod.mk.injEq]at hs
  obtain⟨rfl,rfl⟩:=hs
  exact t8.mono st.n hv
 |arr id off len=>
  simp only[R9]at hs
  split at hs
  case h_2=>cases hs
  rename_i k rows hid
  simp only[Option.some.injEq,Prod.mk.injEq]at hs
  obtain⟨rfl,rfl⟩:=hs
  obtain⟨_,_,h3⟩:=hv
  obtain⟨k',n,he,hle,a0,cap,rfl,hlc,hroom,ha⟩:=h3 _ hid
  simp only[k7.arrOf,Option.some.injEq,Prod.mk.injEq]at he
  obtain⟨rfl,rfl⟩:=he
  obtain⟨cs,ty,fz,hb,hfz,hrl,hsz,hcell⟩:=hc.blk id _ hid
  have hlen:((rows.drop off).take len).length=len:=by simp;omega
  have hq:(off+cap)*k<=(c.E id).room*k:=Nat.mul_le_mul_right k hroom
  rw[Nat.add_mul]at hq
  refine⟨⟨(c.E id).blk,(c.E id).off+off*k,cap⟩,⟨a0,by rw[hlen],ha⟩,ho id off len rfl,cs,ty,fz,(hw id _ hid ⟨off,len,rfl⟩).trans hb,hfz,by rw[hlen];exact hlc,by show(c.E id).off+off*k+cap*k<=_;omega,fun i r hi=>?_⟩
  have hget:rows[off+i]?=some r:=by
   rw[List.getElem?_take]at hi
   split at hi
   ·rwa[List.getElem?_drop]at hi
   ·cases hi
  obtain⟨g1,g2⟩:=hcell _ r hget
  refine⟨g1,fun j d hd=>?_⟩
  obtain⟨y,hy,hrel⟩:=g2 j d hd
  have e:(c.E id).off+(off+i)*k+j=(c.E id).off+off*k+i*k+j:=by rw[Nat.add_mul];omega
  exact⟨y,by show cs[(c.E id).off+off*k+i*k+j]?=_;rw[<-e];exact hy,t8.mono st.n hrel⟩
 |_=>simp[R9]at hs
theorem c2e{h:Hp}{l:List S}{xs:List O}{u:B4}(hs:C8 h l=some (xs,u)){m id off len:Nat}(hm:l[m]?=some (S.arr id off len)):(id,none)∈u∧ ∃k rows,h id=some (.arr k rows):=by
 obtain⟨_,_,g3⟩:=a6y l hs
 obtain⟨x',u',q1,q2,q3⟩:=g3 m _ hm
 simp only[R9]at q2
 split at q2
 case h_2=>cases q2
 rename_i k' rows' hid'
 simp only[Option.some.injEq,Prod.mk.injEq]at q2
 obtain⟨_,rfl⟩:=q2
 exact⟨q3 _ (by simp),k',rows',hid'⟩
theorem e1x{c:Cx}(hc:o6 c){id k row off:Nat}{rows:List (List O)}{rr:List O}(hid:c.h id=some (.nar k rows []))(hrow:rows[row]?=some rr){l:List S}{ds:List O}{kills:B4}(hos:C8 c.h l=some (ds,kills))
 (hnd:(kills.map (·.1)).Nodup)(hkn: ∀x∈kills,x.1≠id)(hle:off+l.length<=rr.length)(vs:List Value)(hvl:vs.length=l.length)(hvs: ∀(m:Nat)(s:S),l[m]?=some s-> ∃v,vs[m]?=some v∧r8 c s v):
 ∃c',u7 c c'∧c'.w=c.w.setCells (c.E id).blk ((c.E id).off+row*k+off) vs∧c'.h=m0 c.h (kills++[(id,some (.nar k (rows.set row (rr.take off++ds++rr.drop (off+l.length))) []))])∧ ∀x,c'.U x->c.U x:=by
 obtain⟨cs,ty,fz,hcs,hfz,hrl,hsz,hcell⟩:=hc.blk id _ hid
 obtain⟨d1,d2,d3⟩:=a6y _ hos
 have hrowlt:row<rows.length:=(List.getElem?_eq_some_iff.1 hrow).1
 obtain⟨hrk,hrc⟩:=hcell row rr hrow
 have hq:row*k+k<=(c.E id).room*k:=by
  have:=Nat.mul_le_mul_right k (show row+1<=(c.E id).room by omega)
  rw[Nat.succ_mul]at this;exact this
 obtain⟨q0,hq0⟩: ∃q,(c.E id).off+row*k+off=q:=⟨_,rfl⟩
 rw[hq0]
 obtain⟨k1,k2,k3,k4,k5,k6⟩:=W5 (c.E id).blk ty fz vs q0 cs c.w hcs
 have rowsRel: ∀(c3:Cx)(ns:List O),ns.length=l.length->A4 c c3->c3.w.heap[(c.E id).blk]?=some (.cells (setRange cs q0 vs) ty fz)->c9g c c3 (c.E id).blk->
  (∀(m:Nat)(o:O),ns[m]?=some o-> ∃v,vs[m]?=some v∧X8 c3 (c.E id).blk (q0+m) none o v)->
  I6 c3 (.nar k (rows.set row (rr.take off++ns++rr.drop (off+l.length))) []) (c.E id):=fun c3 ns hns st hb hkept hnew=>by
  refine⟨_,ty,fz,hb,by rw[A6];exact hfz,by simpa using hrl,by rw[A6];exact hsz,fun i r hi=>?_⟩
  by_cases hir:i=row
  ·subst hir
   rw[List.getElem?_set_self hrowlt]at hi
   obtain rfl:=Option.some.inj hi
   refine⟨by simp;omega,fun j o hj=>?_⟩
   rw[<-hns]at hj hle
   rcases d2l hle hj with⟨p1,p2⟩|⟨p1,p2,p3⟩|⟨p1,p2⟩
   ·obtain⟨v,hv,hrel⟩:=hrc j o p2
    exact⟨v,by rw[D0 _ _ _ _ (by omega)];exact hv,hrel.mono st hkept⟩
   ·obtain⟨v,hv,hrel⟩:=hnew _ o p3
    have:=a1d vs cs q0 (j-off) v (by omega) hv
    rw[show q0+(j-off)=(c.E id).off+i*k+j by omega]at this hrel
    exact⟨v,this,hrel⟩
   ·obtain⟨v,hv,hrel⟩:=hrc j o p2
    exact⟨v,by rw[D0 _ _ _ _ (by omega)];exact hv,hrel.mono st hkept⟩
  ·rw[List.getElem?_set_ne (Ne.symm hir)]at hi
   obtain⟨h1,h2⟩:=hcell i r hi
   refine⟨h1,fun j o hj=>?_⟩
   obtain⟨v,hv,hrel⟩:=h2 j o hj
   refine⟨v,?_,hrel.mono st hkept⟩
   rw[D0,hv]
   have hjk:j<k:=by rw[<-h1];exact(List.getElem?_eq_some_iff.1 hj).1
   rcases Nat.lt_or_gt_of_ne hir with hlt|hgt
   ·left
    have:=Nat.mul_le_mul_right k (show i+1<=row from hlt)
    rw[Nat.succ_mul]at this;omega
   ·right
    have:=Nat.mul_le_mul_right k (show row+1<=i from hgt)
    rw[Nat.succ_mul]at this;omega
 let b1:k7:=.nar k (rows.set row (rr.take off++l.map (fun _=>O.d .any)++rr.drop (off+l.length))) []
 let c1:Cx:=⟨c.w.setCells (c.E id).blk q0 vs,c.N,a8v c.E id (c.E id),fun x=>c.U x∨x=id,m0 (m0 c.h [(id,none)]) [(id,some b1)]⟩
 have e1:u7 c c1:=a4x hc id _ hid id (.inl rfl) b1 (c.E id) rfl (fun _=>⟨by simp[b1,n9,k7.arrOf],rfl⟩) _ k2 k3 k4 k5 k6 c1 rfl fun st=>
  rowsRel c1 _ (by simp) st k1 (fun x o hx=>⟨hx,k3 x (a3u hc hx hid hid).symm⟩) (fun m o hm=>by
   rw[List.getElem?_map]at hm
   cases hl:l[m]? with
   |none=>rw[hl]at hm;cases hm
   |some s=>
    rw[hl]at hm
    obtain rfl:=Option.some.inj hm
    obtain⟨v,hv,hrel⟩:=hvs m s hl
    exact⟨v,hv,.any hrel.one⟩)
 have hE1: ∀x,c1.E x=c.E x:=fun x=>by
  show(if x=id then c.E id else c.E x)=_
  split
  ·rename_i e;rw[e]
  ·rfl
 have hh1:c1.h=m0 c.h [(id,some b1)]:=b8b _ _ _
 obtain⟨c2,e2,f1,f2,f3,f4,f5,f6,f7⟩:=a8d (j:=id) (bj:=b1) l q0 c1 e1.relh (by rw[hh1,l6,if_pos rfl]) (by rw[hh1];exact a6x hos hkn) hnd hkn
 have hid2:c2.h id=some b1:=by
  rw[f5,P5 kills _ hkn,hh1,l6,if_pos rfl]
 obtain⟨c3,e3,g1,g2,g3,g4,g5,g6⟩:=a1v e2.relh id b1 (.nar k (rows.set row (rr.take off++ds++rr.drop (off+l.length))) []) hid2 (by simp[b1,n9,k7.arrOf]) (fun c3 w3 n3 o3 st3=>by
  have st:A4 c c3:=(e1.step.trans e2.step).trans st3
  have hw3:c3.w=c.w.setCells (c.E id).blk q0 vs:=by rw[w3,f1]
  rw[f4,hE1]
  refine rowsRel c3 ds d1 st (by rw[hw3];exact k1) (fun x o hx=>⟨?_,by rw[hw3];exact k3 x (a3u hc hx hid hid).symm⟩) (fun m o hm=>?_)
  ·rw[o3,f7 x fun m id' off' len' hm=>by
    obtain⟨_,k',rows',hid'⟩:=c2e hos hm
    rw[hE1]
    exact(a3u hc hx hid hid').symm]
   exact hx
  ·have hml:m<l.length:=by rw[<-d1];exact(List.getElem?_eq_some_iff.1 hm).1
   obtain⟨x',u',q1,q2,_⟩:=d3 m _ (List.getElem?_eq_getElem hml)
   rw[hm]at q1
   obtain rfl:=Option.some.inj q1
   obtain⟨v,hv,hrel⟩:=hvs m _ (List.getElem?_eq_getElem hml)
   refine⟨v,hv,c2d hc st q2 hrel (fun id' b' hb' ⟨off',len',hs'⟩=>?_) (fun id' off' len' hs'=>?_)⟩
   ·rw[hw3]
    refine k3 _ ?_
    have hk:=(c2e hos (by rw[<-hs'];exact List.getElem?_eq_getElem hml)).1
    exact hc.inj id' id b' _ hb' hid (hkn _ hk)
   ·rw[o3,<-hE1,f6 m id' off' len' (by rw[<-hs'];exact List.getElem?_eq_getElem hml),hE1])
 refine⟨c3,(e1.trans e2).trans e3,by rw[g1,f1],?_,fun x hx=>?_⟩
 ·rw[g6,f5,hh1,U1]
  funext y
  rw[l6,l6]
  split
  ·rfl
  ·rename_i hy
   have key: ∀(u:B4)(h h':Hp),h y=h' y->m0 h u y=m0 h' u y:=by
    intro u
    induction u with
    |nil=>intro h h' e;exact e
    |cons z u ih=>
     intro h h' e
     obtain⟨zi,zb⟩:=z
     rw[E6 h,E6 h']
     refine ih _ _ ?_
     rw[l6,l6,e]
   exact key kills _ _ (by rw[l6,if_neg hy])
 ·have:=(g5 x).1 hx
  rw[f3]at this
  rcases this with h|rfl
  ·exact h
  ·exact hc.used _ _ hid
end Go.Vsi
