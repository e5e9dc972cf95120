/- What the functions of the program, of the reference and of the law do (a part of it). -/
import Derived.Test.YtbjkeppbogdgcaaGreatZX1
namespace Go.Vsi
open Go.Proofs
noncomputable section
set_option maxRecDepth 100000
set_option maxHeartbeats 4000000
set_option linter.unusedSimpArgs false
set_option linter.unusedVariables false
attribute [local go_sem ↓] v6
def L1:Call:=fun f args bs=>match Nat.beq f 78||Nat.beq f 82||Nat.beq f 58||Nat.beq f 55||Nat.beq f 42||Nat.beq f 67||Nat.beq f 81||Nat.beq f 80 with
 |true=>c6 Tryz.prog T L0 f args bs
 |false=>none
theorem a4l{fn:FuncId}{args:List V}{r:W}(h:c6 Tryz.prog T L0 fn args []=some (r,[]))(hf:L1 fn args []=c6 Tryz.prog T L0 fn args []):c6 Tryz.prog T1 L1 fn args []=some (r,[]):=b8h (hf.trans h)
theorem c3j(n:Int)(h:0<=n∧n<=18446744073709551615):IntKind.u64.wrap n=n:=by
 show(if(IntKind.u64.signed&&decide (n%2^IntKind.u64.bits≥2^(IntKind.u64.bits-1)))=true then n%2^IntKind.u64.bits-2^IntKind.u64.bits else n%2^IntKind.u64.bits)=n
 have e2:(2:Int)^IntKind.u64.bits=18446744073709551616:=rfl
 rw[e2]
 have e4:IntKind.u64.signed=false:=rfl
 rw[e4,Bool.false_and,if_neg (by decide)]
 omega
section
variable{P:Program}(t:TypeId)(x y:Operand)
theorem e4m(a b:Int)(h:0<=b∧b<=60):i8 P (do eqGuard .shl t x y (.int .i64 a) (.int .i64 b);binOp .shl t (.int .i64 a) (.int .i64 b))=some (.one (.c (.d (.v (.int .i64 (IntKind.i64.wrap (a*2^b.toNat))))))):=by
 have h1: ¬b<0:=by omega
 have h2:min b.toNat IntKind.i64.bits=b.toNat:=by
  have:IntKind.i64.bits=64:=rfl
  omega
 simp[i8,eqGuard,binOp,Op.shift,m9,Pure.pure,Bind.bind,Sem.bind,G3,G2,h1,h2]
theorem d4r(a:Int):i8 P (do eqGuard .shr t x y (.int .u64 a) (.int .u64 32);binOp .shr t (.int .u64 a) (.int .u64 32))=some (.one (.c (.d (.v (.int .u64 (a.fdiv 4294967296)))))):=by
 have h2:min 32 IntKind.u64.bits=32:=rfl
 simp[i8,eqGuard,binOp,Op.shift,m9,Pure.pure,Bind.bind,Sem.bind,G3,G2,h2]
theorem d4s(a:Int)(h:0<=a∧a<=4294967295):i8 P (do eqGuard .and t x y (.int .u64 a) (.int .u64 4294967295);binOp .and t (.int .u64 a) (.int .u64 4294967295))=some (.one (.c (.d (.v (.int .u64 a))))):=by
 have e:IntKind.u64.wrap ((BitVec.ofInt IntKind.u64.bits a&&&BitVec.ofInt IntKind.u64.bits 4294967295).toNat:Int)=a:=by
  have h1:(BitVec.ofInt IntKind.u64.bits a).toNat=a.toNat:=by
   rw[BitVec.toNat_ofInt]
   have:IntKind.u64.bits=64:=rfl
   rw[this]
   omega
  have h2:(BitVec.ofInt IntKind.u64.bits 4294967295).toNat=2^32-1:=rfl
  rw[BitVec.toNat_and,h1,h2,Nat.and_two_pow_sub_one_eq_mod,Nat.mod_eq_of_lt (by omega),c3j _ (by omega)]
  omega
 have e2:m9 P (do eqGuard .and t x y (.int .u64 a) (.int .u64 4294967295);binOp .and t (.int .u64 a) (.int .u64 4294967295))=some (.int .u64 (IntKind.u64.wrap ((BitVec.ofInt IntKind.u64.bits a&&&BitVec.ofInt IntKind.u64.bits 4294967295).toNat:Int))):=rfl
 rw[e]at e2
 unfold i8
 rw[e2]
 rfl
end
theorem f5l(a:Int)(h:0<=a∧a<=4294967295):a.fdiv 4294967296=0:=by
 rw[Int.fdiv_eq_ediv_of_nonneg _ (by omega)]
 omega
attribute [go_sem ↓] e4m d4r d4s c3j
attribute [go_sem] f5l
theorem c5r(x:Operand):(some x).toArray= #[x]:=rfl
theorem c5s:(none:Option Operand).toArray= #[]:=rfl
theorem c1r:((0:Nat):Int)=0:=rfl
attribute [go_sem] c5r c5s u5 c1r
theorem d4t(t:TypeId)(x l h:Nat):A3 (.slice t (.tmp x) (some (.tmp l)) (some (.tmp h)) none)=[x,l,h]:=rfl
theorem d4u(l:List UInt8)(lo hi:Option V):W9 (B l).size lo hi=W9 l.length lo hi:=by rw[d4c]
attribute [go_sem ↓] d4t d4u
def rU(l:List UInt8):List (List D):=l.map fun b=>[.v (.int .u8 (b.toNat:Int))]
theorem e4n(l:List UInt8){f:List D->Option UInt8}(hf: ∀b:UInt8,f [.v (.int .u8 (b.toNat:Int))]=some b):(rU l).mapM f=some l:=by
 unfold rU
 induction l with
 |nil=>rfl
 |cons b l ih=>rw[List.map_cons,List.mapM_cons,hf,ih];rfl
theorem d4v(l:List UInt8):(rU l).length=l.length:=by simp[rU]
theorem d0y(l:List UInt8):(rU l).take l.length=rU l:=List.take_of_length_le (by rw[d4v];omega)
theorem d4w(l:List UInt8):(rU l).all (fun r=>r.length==1)=true:=by simp[rU]
theorem e9k:rU []=[]:=rfl
theorem c7q(l:List UInt8)(n:Nat)(h:n<256):rU l++[[.v (.int .u8 (n:Int))]]=rU (l++[UInt8.ofNat n]):=by
 have:(UInt8.ofNat n).toNat=n:=by
  rw[UInt8.toNat_ofNat']
  exact Nat.mod_eq_of_lt h
 simp[rU,this]
attribute [go_sem] d4v d4w e9k d0y
theorem b3f{α:Type}(A:List α)(x:α)(B:List α)(n:Nat)(h:n=A.length):(A++x::B)[n]?=some x:=by subst h;simp
theorem b3g{α:Type}(A:List α)(x y:α)(B:List α)(n:Nat)(h:n=A.length):(A++x::B).set n y=A++y::B:=by subst h;simp
def rS(xs:List (List UInt8)):List (List D):=xs.map fun y=>[.v (.string (B (y)))]
theorem i7(xs:List (List UInt8)):(rS xs).length=xs.length:=by simp[rS]
theorem w6(xs:List (List UInt8)):(rS xs).take xs.length=rS xs:=List.take_of_length_le (by rw[i7];omega)
theorem e9l(xs:List (List UInt8)):(rS xs).all (fun r=>r.length==1)=true:=by simp[rS]
theorem e9m(xs:List (List UInt8))(i:Nat)(h:i<xs.length):(rS xs)[i]?=some ([.v (.string (B (xs[i])))]):=a9l xs _ i h
theorem O2:rS []=[]:=rfl
attribute [go_sem] i7 e9l O2
theorem a9q(x:List UInt8)(xs:List (List UInt8)):rS (x::xs)=([.v (.string (B (x)))])::rS xs:=rfl
def g9(xs:List (i6)):List (List D):=xs.map fun y=>i6.enc y
theorem k8(xs:List (i6)):(g9 xs).length=xs.length:=by simp[g9]
theorem a3a(xs:List (i6)):(g9 xs).take xs.length=g9 xs:=List.take_of_length_le (by rw[k8];omega)
theorem e4o(xs:List (i6)):(g9 xs).all (fun r=>r.length==2)=true:=by simp[g9,i6.enc]
theorem e4p(xs:List (i6))(i:Nat)(h:i<xs.length):(g9 xs)[i]?=some (i6.enc xs[i]):=a9l xs _ i h
theorem J4:g9 []=[]:=rfl
attribute [go_sem] k8 e4o J4
theorem a7g(x:i6)(xs:List (i6)):g9 (x::xs)=(i6.enc x)::g9 xs:=rfl
def rV(xs:List (v9)):List (List D):=xs.map fun y=>v9.enc y
theorem l7(xs:List (v9)):(rV xs).length=xs.length:=by simp[rV]
theorem a5t(xs:List (v9)):(rV xs).take xs.length=rV xs:=List.take_of_length_le (by rw[l7];omega)
theorem e9n(xs:List (v9)):(rV xs).all (fun r=>r.length==2)=true:=by simp[rV,v9.enc]
theorem e9o(xs:List (v9))(i:Nat)(h:i<xs.length):(rV xs)[i]?=some (v9.enc xs[i]):=a9l xs _ i h
theorem a5b:rV []=[]:=rfl
attribute [go_sem] l7 e9n a5b
theorem a9r(x:v9)(xs:List (v9)):rV (x::xs)=(v9.enc x)::rV xs:=rfl
def rC(xs:List (q9)):List (List D):=xs.map fun y=>q9.enc y
theorem l8(xs:List (q9)):(rC xs).length=xs.length:=by simp[rC]
theorem a5u(xs:List (q9)):(rC xs).take xs.length=rC xs:=List.take_of_length_le (by rw[l8];omega)
theorem e9p(xs:List (q9)):(rC xs).all (fun r=>r.length==3)=true:=by simp[rC,q9.enc]
theorem e9q(xs:List (q9))(i:Nat)(h:i<xs.length):(rC xs)[i]?=some (q9.enc xs[i]):=a9l xs _ i h
theorem a0e:rC []=[]:=rfl
attribute [go_sem] l8 e9p a0e
theorem a9s(x:q9)(xs:List (q9)):rC (x::xs)=(q9.enc x)::rC xs:=rfl
attribute [go_sem] w6 a3a a5t a5u
def c8(nl:Bool)(k:Nat)(rows:List (List D)):D:=match nl,rows with
 |true,[]=>.v (.slice none 0 0)
 |_,rows=>.sl k rows
theorem A8(k:Nat)(rows:List (List D)):c8 false k rows=.sl k rows:=rfl
theorem o7(nl:Bool)(k:Nat)(rows:List (List D))(h:rows≠[]):c8 nl k rows=.sl k rows:=by
 cases nl<;>cases rows<;>simp_all[c8]
theorem e4q(h:Hp)(nl:Bool)(k:Nat)(rows:List (List D)):A1 h (.c (.d (c8 nl k rows)))=some rows.length:=by
 cases nl<;>cases rows<;>rfl
attribute [go_sem ↓] e4q
end
end Go.Vsi
