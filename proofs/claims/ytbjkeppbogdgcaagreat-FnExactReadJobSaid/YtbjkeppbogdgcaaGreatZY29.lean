/- What the functions of the program, of the reference and of the law do (a part of it). -/
import Derived.Test.YtbjkeppbogdgcaaGreatZY26
import Derived.Test.YtbjkeppbogdgcaaGreatZY9
namespace Go.Vsi
open Go.Proofs
noncomputable section
set_option maxRecDepth 100000
set_option maxHeartbeats 4000000
set_option linter.unusedSimpArgs false
set_option linter.unusedVariables false
attribute [local go_sem ↓] v6
def a1s(x:i6):List UInt8:=[UInt8.ofNat x.Op.toNat,UInt8.ofNat x.Arg.toNat]
def V0(x:v9):List UInt8:=l9 x.Name++l9 x.Val
def Z0(x:q9):List UInt8:=l9 x.Name++l9 x.Key++l9 x.Val
def H2(c:n8):List UInt8:=v5 c.Texts.length++c.Texts.flatMap l9++v5 c.List.length++c.List.flatMap a1s++v5 c.Line.toNat++v5 c.End.toNat
def H3(s:s8):List UInt8:=v5 s.Vars.length++s.Vars.flatMap V0++v5 s.Cells.length++s.Cells.flatMap Z0++l9 s.Out
def b1c(j:C6):List UInt8:=l9 (H2 j.Code)++l9 (H3 j.Begin)++v5 j.Names.length++j.Names.flatMap l9++v5 j.Lines.length++j.Lines.flatMap l9
theorem E9(n:Nat)(h:n<=9223372036854775807):(v5 n).length<=10:=(b5n 9 n (by omega)).2.2
theorem V1(s:List UInt8)(h:s.length<=9223372036854775807):(l9 s).length<=s.length+10:=by
 have:=E9 s.length h
 unfold l9
 rw[List.length_append]
 omega
theorem G0(s:List UInt8)(h:s.length<=4000000000000000000):c6 Tryz.prog T1 L1 34 [.c (.d (.v (.string (B (s)))))] []=some (.one (.c (.d (.v (.string (B (l9 s)))))),[]):=by
 have h1:=F4 s.length (by omega)
 have h2:=E9 s.length (by omega)
 unfold l9
 generalize v5 s.length=E at h1 h2⊢
 exact fn V34 Tryz.func34
theorem K4{α:Type}(en:α->List UInt8)(m:Nat): ∀(xs:List α),(∀x∈xs,(en x).length<=m)->(xs.flatMap en).length<=m*xs.length
 |[],h=>by simp
 |x::xs,h=>by
  have h1:=h x (List.mem_cons_self ..)
  have h2:=K4 en m xs fun y hy=>h y (List.mem_cons_of_mem _ hy)
  rw[List.flatMap_cons,List.length_append,List.length_cons,Nat.mul_succ]
  omega
theorem c3z(cb cl ce:Int)(so:List UInt8)(j1 j2 j3 j4 d:D)(p:Bool)(xs:List (List UInt8))(hl:xs.length<=1000000)(hb: ∀x∈xs,x.length<=1000000000): ∀(ys:List (List UInt8))(k:Nat)(acc:List UInt8),xs.drop k=ys->acc.length+4000000000*ys.length<=9000000000000000->g8 Tryz.prog T1 (c6 Tryz.prog T1 L1) 29 (cq Tryz.f29 [0,0,1,0,1,1,1]) ⟨[J,.one (.c (.ptr 0 0 0)),J,J,.one (.c (.d (.v (.string (B (acc)))))),.one (.c (.d (.v (.int .i64 ((k:Int)))))),J,J,J,J,J,J,J,J,J,J,J,J,J,J,J,J,J,J,J,J,J,J,J,J,J,J,J,J,J,J,J,J,J,J,J,J,J,J,J,J,J,J,J,J,J,J,J,J,J,J,J,J,J,J,J,J,J,J,J,J,J,J,J],c7 [some (.var [.d (c8 p 1 (rS xs)),.d d,.d (.v (.int .i64 (cb))),.d (.v (.int .i64 (cl))),.d (.v (.int .i64 (ce)))])],1,0⟩=some (.exit 0,⟨[J,.one (.c (.ptr 0 0 0)),J,J,.one (.c (.d (.v (.string (B (acc++ys.flatMap l9)))))),J,J,J,J,J,J,J,J,J,J,J,J,J,J,J,J,J,J,J,J,J,J,J,J,J,J,J,J,J,J,J,J,J,J,J,J,J,J,J,J,J,J,J,J,J,J,J,J,J,J,J,J,J,J,J,J,J,J,J,J,J,J,J,J],c7 [some (.var [.d (c8 p 1 (rS xs)),.d d,.d (.v (.int .i64 (cb))),.d (.v (.int .i64 (cl))),.d (.v (.int .i64 (ce)))])],1,0⟩)
 |[],k,acc,hd,ha=>by
  have hk:xs.length<=k:=List.drop_eq_nil_iff.1 hd
  rw[List.flatMap_nil,List.append_nil]
  clear hd hb
  exact lp V29
 |x::ys,k,acc,hd,ha=>by
  have hlt:k<xs.length:=by
   have:=congrArg List.length hd
   rw[List.length_drop,List.length_cons]at this
   omega
  have hd2:xs.drop (k+1)=ys:=by rw[<-List.drop_drop,hd];rfl
  have hx:xs[k]?=some x:=by rw[<-List.head?_drop,hd];rfl
  have hg:(rS xs)[k]?=some [.v (.string (B (x)))]:=by
   unfold rS
   rw[List.getElem?_map,hx];rfl
  have hbx:=hb x (List.mem_of_getElem? hx)
  rw[List.length_cons]at ha
  have f0:=G0 x (by omega)
  have g0:=V1 x (by omega)
  have q0:(acc).length+(l9 x).length<=9223372036854775807:=by(try simp only[List.length_append,List.length_cons,List.length_nil]);omega
  have ih:=c3z cb cl ce so j1 j2 j3 j4 d p xs hl hb ys (k+1) (acc++l9 x) hd2 (by
   simp only[List.length_append,List.length_cons,List.length_nil]
   omega)
  have hne:=o7 p 1 (rS xs) (fun h=>by rw[h]at hg;simp at hg)
  have hrl:=i7 xs
  rw[show((k+1:Nat):Int)=(k:Int)+1 by omega]at ih
  rw[show acc++(x::ys).flatMap l9=(acc++l9 x)++ys.flatMap l9 by simp[List.flatMap_cons,l9,List.append_assoc]]
  rw[<-ih,hne]
  clear ih hd hd2 hx hb hne
  generalize rS xs=R at hg hrl⊢
  generalize l9 x=E0 at*
  exact lp V29
theorem c4a(cb cl ce:Int)(so:List UInt8)(j1 j2 j3 j4 d:D)(p:Bool)(xs:List (v9))(hl:xs.length<=1000000)(hb: ∀x∈xs,x.Name.length<=1000000000∧x.Val.length<=1000000000): ∀(ys:List (v9))(k:Nat)(acc:List UInt8),xs.drop k=ys->acc.length+4000000000*ys.length<=9000000000000000->g8 Tryz.prog T1 (c6 Tryz.prog T1 L1) 31 (cq Tryz.f31 [0,0,1,0,1,1,1]) ⟨[J,.one (.c (.ptr 0 0 0)),J,J,.one (.c (.d (.v (.string (B (acc)))))),.one (.c (.d (.v (.int .i64 ((k:Int)))))),J,J,J,J,J,J,J,J,J,J,J,J,J,J,J,J,J,J,J,J,J,J,J,J,J,J,J,J,J,J,J,J,J,J,J,J,J,J,J,J,J,J,J,J,J,J,J,J,J,J,J,J,J,J,J,J,J,J,J,J,J,J,J,J,J,J,J,J,J,J,J,J,J,J,J],c7 [some (.var [.d (c8 p 2 (rV xs)),.d d,.d (.v (.string (B (so))))])],1,0⟩=some (.exit 0,⟨[J,.one (.c (.ptr 0 0 0)),J,J,.one (.c (.d (.v (.string (B (acc++ys.flatMap V0)))))),J,J,J,J,J,J,J,J,J,J,J,J,J,J,J,J,J,J,J,J,J,J,J,J,J,J,J,J,J,J,J,J,J,J,J,J,J,J,J,J,J,J,J,J,J,J,J,J,J,J,J,J,J,J,J,J,J,J,J,J,J,J,J,J,J,J,J,J,J,J,J,J,J,J,J,J],c7 [some (.var [.d (c8 p 2 (rV xs)),.d d,.d (.v (.string (B (so))))])],1,0⟩)
 |[],k,acc,hd,ha=>by
  have hk:xs.length<=k:=List.drop_eq_nil_iff.1 hd
  rw[List.flatMap_nil,List.append_nil]
  clear hd hb
  exact lp V31
 |x::ys,k,acc,hd,ha=>by
  have hlt:k<xs.length:=by
   have:=congrArg List.length hd
   rw[List.length_drop,List.length_cons]at this
   omega
  have hd2:xs.drop (k+1)=ys:=by rw[<-List.drop_drop,hd];rfl
  have hx:xs[k]?=some x:=by rw[<-List.head?_drop,hd];rfl
  have hg:(rV xs)[k]?=some [.v (.string (B (x.Name))),.v (.string (B (x.Val)))]:=by
   unfold rV
   rw[List.getElem?_map,hx];rfl
  have hbx:=hb x (List.mem_of_getElem? hx)
  rw[List.length_cons]at ha
  have f0:=G0 x.Name (by omega)
  have g0:=V1 x.Name (by omega)
  have f1:=G0 x.Val (by omega)
  have g1:=V1 x.Val (by omega)
  have q0:(acc).length+(l9 x.Name).length<=9223372036854775807:=by(try simp only[List.length_append,List.length_cons,List.length_nil]);omega
  have q1:(acc++l9 x.Name).length+(l9 x.Val).length<=9223372036854775807:=by(try simp only[List.length_append,List.length_cons,List.length_nil]);omega
  have ih:=c4a cb cl ce so j1 j2 j3 j4 d p xs hl hb ys (k+1) (acc++l9 x.Name++l9 x.Val) hd2 (by
   simp only[List.length_append,List.length_cons,List.length_nil]
   omega)
  have hne:=o7 p 2 (rV xs) (fun h=>by rw[h]at hg;simp at hg)
  have hrl:=l7 xs
  rw[show((k+1:Nat):Int)=(k:Int)+1 by omega]at ih
  rw[show acc++(x::ys).flatMap V0=(acc++l9 x.Name++l9 x.Val)++ys.flatMap V0 by simp[List.flatMap_cons,V0,List.append_assoc]]
  rw[<-ih,hne]
  clear ih hd hd2 hx hb hne
  generalize rV xs=R at hg hrl⊢
  generalize l9 x.Name=E0 at*
  generalize l9 x.Val=E1 at*
  exact lp V31
theorem c4b(cb cl ce:Int)(so:List UInt8)(j1 j2 j3 j4 d:D)(p:Bool)(xs:List (q9))(hl:xs.length<=1000000)(hb: ∀x∈xs,x.Name.length<=1000000000∧x.Key.length<=1000000000∧x.Val.length<=1000000000): ∀(ys:List (q9))(k:Nat)(acc:List UInt8),xs.drop k=ys->acc.length+4000000000*ys.length<=9000000000000000->g8 Tryz.prog T1 (c6 Tryz.prog T1 L1) 31 (cq Tryz.f31 [0,0,1,0,1,1,1,1,1]) ⟨[J,.one (.c (.ptr 0 0 0)),J,J,.one (.c (.d (.v (.string (B (acc)))))),J,.one (.c (.d (.v (.int .i64 ((k:Int)))))),J,J,J,J,J,J,J,J,J,J,J,J,J,J,J,J,J,J,J,J,J,J,J,J,J,J,J,J,J,J,J,J,J,J,J,J,J,J,J,J,J,J,J,J,J,J,J,J,J,J,J,J,J,J,J,J,J,J,J,J,J,J,J,J,J,J,J,J,J,J,J,J,J,J],c7 [some (.var [.d d,.d (c8 p 3 (rC xs)),.d (.v (.string (B (so))))])],1,0⟩=some (.exit 2,⟨[J,.one (.c (.ptr 0 0 0)),J,J,.one (.c (.d (.v (.string (B (acc++ys.flatMap Z0)))))),J,J,J,J,J,J,J,J,J,J,J,J,J,J,J,J,J,J,J,J,J,J,J,J,J,J,J,J,J,J,J,J,J,J,J,J,J,J,J,J,J,J,J,J,J,J,J,J,J,J,J,J,J,J,J,J,J,J,J,J,J,J,J,J,J,J,J,J,J,J,J,J,J,J,J,J],c7 [some (.var [.d d,.d (c8 p 3 (rC xs)),.d (.v (.string (B (so))))])],1,0⟩)
 |[],k,acc,hd,ha=>by
  have hk:xs.length<=k:=List.drop_eq_nil_iff.1 hd
  rw[List.flatMap_nil,List.append_nil]
  clear hd hb
  exact lp V31
 |x::ys,k,acc,hd,ha=>by
  have hlt:k<xs.length:=by
   have:=congrArg List.length hd
   rw[List.length_drop,List.length_cons]at this
   omega
  have hd2:xs.drop (k+1)=ys:=by rw[<-List.drop_drop,hd];rfl
  have hx:xs[k]?=some x:=by rw[<-List.head?_drop,hd];rfl
  have hg:(rC xs)[k]?=some [.v (.string (B (x.Name))),.v (.string (B (x.Key))),.v (.string (B (x.Val)))]:=by
   unfold rC
   rw[List.getElem?_map,hx];rfl
  have hbx:=hb x (List.mem_of_getElem? hx)
  rw[List.length_cons]at ha
  have f0:=G0 x.Name (by omega)
  have g0:=V1 x.Name (by omega)
  have f1:=G0 x.Key (by omega)
  have g1:=V1 x.Key (by omega)
  have f2:=G0 x.Val (by omega)
  have g2:=V1 x.Val (by omega)
  have q0:(acc).length+(l9 x.Name).length<=9223372036854775807:=by(try simp only[List.length_append,List.length_cons,List.length_nil]);omega
  have q1:(acc++l9 x.Name).length+(l9 x.Key).length<=9223372036854775807:=by(try simp only[List.length_append,List.length_cons,List.length_nil]);omega
  have q2:(acc++l9 x.Name++l9 x.Key).length+(l9 x.Val).length<=9223372036854775807:=by(try simp only[List.length_append,List.length_cons,List.length_nil]);omega
  have ih:=c4b cb cl ce so j1 j2 j3 j4 d p xs hl hb ys (k+1) (acc++l9 x.Name++l9 x.Key++l9 x.Val) hd2 (by
   simp only[List.length_append,List.length_cons,List.length_nil]
   omega)
  have hne:=o7 p 3 (rC xs) (fun h=>by rw[h]at hg;simp at hg)
  have hrl:=l8 xs
  rw[show((k+1:Nat):Int)=(k:Int)+1 by omega]at ih
  rw[show acc++(x::ys).flatMap Z0=(acc++l9 x.Name++l9 x.Key++l9 x.Val)++ys.flatMap Z0 by simp[List.flatMap_cons,Z0,List.append_assoc]]
  rw[<-ih,hne]
  clear ih hd hd2 hx hb hne
  generalize rC xs=R at hg hrl⊢
  generalize l9 x.Name=E0 at*
  generalize l9 x.Key=E1 at*
  generalize l9 x.Val=E2 at*
  exact lp V31
theorem c4c(cb cl ce:Int)(so:List UInt8)(j1 j2 j3 j4 d:D)(p:Bool)(xs:List (List UInt8))(hl:xs.length<=1000000)(hb: ∀x∈xs,x.length<=1000000000): ∀(ys:List (List UInt8))(k:Nat)(acc:List UInt8),xs.drop k=ys->acc.length+4000000000*ys.length<=9000000000000000->g8 Tryz.prog T1 (c6 Tryz.prog T1 L1) 13 (cq Tryz.f13 [0,0,1,0,1,1,1,1,1]) ⟨[J,.one (.c (.ptr 0 0 0)),J,J,J,J,J,J,.one (.c (.d (.v (.string (B (acc)))))),.one (.c (.d (.v (.int .i64 ((k:Int)))))),J,J,J,J,J,J,J,J,J,J,J,J,J,J,J,J,J,J,J,J,J,J,J,J,J,J,J,J,J,J,J,J,J,J,J,J,J,J,J,J,J,J,J,J,J,J,J,J,J,J,J,J,J,J,J,J,J,J,J,J,J,J,J],c7 [some (.var [.d j1,.d j2,.d (.v (.int .i64 (cb))),.d (.v (.int .i64 (cl))),.d (.v (.int .i64 (ce))),.d j3,.d j4,.d (.v (.string (B (so)))),.d (c8 p 1 (rS xs)),.d d])],1,0⟩=some (.exit 0,⟨[J,.one (.c (.ptr 0 0 0)),J,J,J,J,J,J,.one (.c (.d (.v (.string (B (acc++ys.flatMap l9)))))),J,J,J,J,J,J,J,J,J,J,J,J,J,J,J,J,J,J,J,J,J,J,J,J,J,J,J,J,J,J,J,J,J,J,J,J,J,J,J,J,J,J,J,J,J,J,J,J,J,J,J,J,J,J,J,J,J,J,J,J,J,J,J,J],c7 [some (.var [.d j1,.d j2,.d (.v (.int .i64 (cb))),.d (.v (.int .i64 (cl))),.d (.v (.int .i64 (ce))),.d j3,.d j4,.d (.v (.string (B (so)))),.d (c8 p 1 (rS xs)),.d d])],1,0⟩)
 |[],k,acc,hd,ha=>by
  have hk:xs.length<=k:=List.drop_eq_nil_iff.1 hd
  rw[List.flatMap_nil,List.append_nil]
  clear hd hb
  exact lp V13
 |x::ys,k,acc,hd,ha=>by
  have hlt:k<xs.length:=by
   have:=congrArg List.length hd
   rw[List.length_drop,List.length_cons]at this
   omega
  have hd2:xs.drop (k+1)=ys:=by rw[<-List.drop_drop,hd];rfl
  have hx:xs[k]?=some x:=by rw[<-List.head?_drop,hd];rfl
  have hg:(rS xs)[k]?=some [.v (.string (B (x)))]:=by
   unfold rS
   rw[List.getElem?_map,hx];rfl
  have hbx:=hb x (List.mem_of_getElem? hx)
  rw[List.length_cons]at ha
  have f0:=G0 x (by omega)
  have g0:=V1 x (by omega)
  have q0:(acc).length+(l9 x).length<=9223372036854775807:=by(try simp only[List.length_append,List.length_cons,List.length_nil]);omega
  have ih:=c4c cb cl ce so j1 j2 j3 j4 d p xs hl hb ys (k+1) (acc++l9 x) hd2 (by
   simp only[List.length_append,List.length_cons,List.length_nil]
   omega)
  have hne:=o7 p 1 (rS xs) (fun h=>by rw[h]at hg;simp at hg)
  have hrl:=i7 xs
  rw[show((k+1:Nat):Int)=(k:Int)+1 by omega]at ih
  rw[show acc++(x::ys).flatMap l9=(acc++l9 x)++ys.flatMap l9 by simp[List.flatMap_cons,l9,List.append_assoc]]
  rw[<-ih,hne]
  clear ih hd hd2 hx hb hne
  generalize rS xs=R at hg hrl⊢
  generalize l9 x=E0 at*
  exact lp V13
theorem c4d(cb cl ce:Int)(so:List UInt8)(j1 j2 j3 j4 d:D)(p:Bool)(xs:List (List UInt8))(hl:xs.length<=1000000)(hb: ∀x∈xs,x.length<=1000000000): ∀(ys:List (List UInt8))(k:Nat)(acc:List UInt8),xs.drop k=ys->acc.length+4000000000*ys.length<=9000000000000000->g8 Tryz.prog T1 (c6 Tryz.prog T1 L1) 13 (cq Tryz.f13 [0,0,1,0,1,1,1,1,1,1,1]) ⟨[J,.one (.c (.ptr 0 0 0)),J,J,J,J,J,J,.one (.c (.d (.v (.string (B (acc)))))),J,.one (.c (.d (.v (.int .i64 ((k:Int)))))),J,J,J,J,J,J,J,J,J,J,J,J,J,J,J,J,J,J,J,J,J,J,J,J,J,J,J,J,J,J,J,J,J,J,J,J,J,J,J,J,J,J,J,J,J,J,J,J,J,J,J,J,J,J,J,J,J,J,J,J,J,J],c7 [some (.var [.d j1,.d j2,.d (.v (.int .i64 (cb))),.d (.v (.int .i64 (cl))),.d (.v (.int .i64 (ce))),.d j3,.d j4,.d (.v (.string (B (so)))),.d d,.d (c8 p 1 (rS xs))])],1,0⟩=some (.exit 2,⟨[J,J,J,J,J,J,J,J,.one (.c (.d (.v (.string (B (acc++ys.flatMap l9)))))),J,J,J,J,J,J,J,J,J,J,J,J,J,J,J,J,J,J,J,J,J,J,J,J,J,J,J,J,J,J,J,J,J,J,J,J,J,J,J,J,J,J,J,J,J,J,J,J,J,J,J,J,J,J,J,J,J,J,J,J,J,J,J,J],c7 [],0,0⟩)
 |[],k,acc,hd,ha=>by
  have hk:xs.length<=k:=List.drop_eq_nil_iff.1 hd
  rw[List.flatMap_nil,List.append_nil]
  clear hd hb
  exact lp V13
 |x::ys,k,acc,hd,ha=>by
  have hlt:k<xs.length:=by
   have:=congrArg List.length hd
   rw[List.length_drop,List.length_cons]at this
   omega
  have hd2:xs.drop (k+1)=ys:=by rw[<-List.drop_drop,hd];rfl
  have hx:xs[k]?=some x:=by rw[<-List.head?_drop,hd];rfl
  have hg:(rS xs)[k]?=some [.v (.string (B (x)))]:=by
   unfold rS
   rw[List.getElem?_map,hx];rfl
  have hbx:=hb x (List.mem_of_getElem? hx)
  rw[List.length_cons]at ha
  have f0:=G0 x (by omega)
  have g0:=V1 x (by omega)
  have q0:(acc).length+(l9 x).length<=9223372036854775807:=by(try simp only[List.length_append,List.length_cons,List.length_nil]);omega
  have ih:=c4d cb cl ce so j1 j2 j3 j4 d p xs hl hb ys (k+1) (acc++l9 x) hd2 (by
   simp only[List.length_append,List.length_cons,List.length_nil]
   omega)
  have hne:=o7 p 1 (rS xs) (fun h=>by rw[h]at hg;simp at hg)
  have hrl:=i7 xs
  rw[show((k+1:Nat):Int)=(k:Int)+1 by omega]at ih
  rw[show acc++(x::ys).flatMap l9=(acc++l9 x)++ys.flatMap l9 by simp[List.flatMap_cons,l9,List.append_assoc]]
  rw[<-ih,hne]
  clear ih hd hd2 hx hb hne
  generalize rS xs=R at hg hrl⊢
  generalize l9 x=E0 at*
  exact lp V13
theorem c4e(cb cl ce:Int)(so:List UInt8)(j1 j2 j3 j4 d:D)(p:Bool)(xs:List (i6))(hl:xs.length<=1000000)(hb: ∀x∈xs,(0<=x.Op∧x.Op<=255)∧0<=x.Arg∧x.Arg<=255): ∀(ys:List (i6))(k:Nat)(acc:List UInt8),xs.drop k=ys->acc.length+4000000000*ys.length<=9000000000000000->g8 Tryz.prog T1 (c6 Tryz.prog T1 L1) 29 (cq Tryz.f29 [0,0,1,0,1,1,1,1,1]) ⟨[J,.one (.c (.ptr 0 0 0)),J,J,.one (.c (.d (.v (.string (B (acc)))))),J,.one (.c (.d (.v (.int .i64 ((k:Int)))))),J,J,J,J,J,J,J,J,J,J,J,J,J,J,J,J,J,J,J,J,J,J,J,J,J,J,J,J,J,J,J,J,J,J,J,J,J,J,J,J,J,J,J,J,J,J,J,J,J,J,J,J,J,J,J,J,J,J,J,J,J,J],c7 [some (.var [.d d,.d (c8 p 2 (g9 xs)),.d (.v (.int .i64 (cb))),.d (.v (.int .i64 (cl))),.d (.v (.int .i64 (ce)))])],1,0⟩=some (.exit 2,⟨[J,.one (.c (.ptr 0 0 0)),J,J,.one (.c (.d (.v (.string (B (acc++ys.flatMap a1s)))))),J,J,J,J,J,J,J,J,J,J,J,J,J,J,J,J,J,J,J,J,J,J,J,J,J,J,J,J,J,J,J,J,J,J,J,J,J,J,J,J,J,J,J,J,J,J,J,J,J,J,J,J,J,J,J,J,J,J,J,J,J,J,J,J],c7 [some (.var [.d d,.d (c8 p 2 (g9 xs)),.d (.v (.int .i64 (cb))),.d (.v (.int .i64 (cl))),.d (.v (.int .i64 (ce)))])],1,0⟩)
 |[],k,acc,hd,ha=>by
  have hk:xs.length<=k:=List.drop_eq_nil_iff.1 hd
  rw[List.flatMap_nil,List.append_nil]
  clear hd hb
  exact lp V29
 |x::ys,k,acc,hd,ha=>by
  have hlt:k<xs.length:=by
   have:=congrArg List.length hd
   rw[List.length_drop,List.length_cons]at this
   omega
  have hd2:xs.drop (k+1)=ys:=by rw[<-List.drop_drop,hd];rfl
  have hx:xs[k]?=some x:=by rw[<-List.head?_drop,hd];rfl
  have hg:(g9 xs)[k]?=some [.v (.int .i64 (x.Op)),.v (.int .i64 (x.Arg))]:=by
   unfold g9
   rw[List.getElem?_map,hx];rfl
  have hbx:=hb x (List.mem_of_getElem? hx)
  rw[List.length_cons]at ha
  have q0:(acc).length+([UInt8.ofNat x.Op.toNat,UInt8.ofNat x.Arg.toNat]).length<=9223372036854775807:=by(try simp only[List.length_append,List.length_cons,List.length_nil]);omega
  have ih:=c4e cb cl ce so j1 j2 j3 j4 d p xs hl hb ys (k+1) (acc++[UInt8.ofNat x.Op.toNat,UInt8.ofNat x.Arg.toNat]) hd2 (by
   simp only[List.length_append,List.length_cons,List.length_nil]
   omega)
  have hne:=o7 p 2 (g9 xs) (fun h=>by rw[h]at hg;simp at hg)
  have hrl:=k8 xs
  rw[show((k+1:Nat):Int)=(k:Int)+1 by omega]at ih
  rw[show acc++(x::ys).flatMap a1s=(acc++[UInt8.ofNat x.Op.toNat,UInt8.ofNat x.Arg.toNat])++ys.flatMap a1s by simp[List.flatMap_cons,a1s,List.append_assoc]]
  rw[<-ih,hne]
  clear ih hd hd2 hx hb hne
  generalize g9 xs=R at hg hrl⊢
  exact lp V29
end
end Go.Vsi
namespace Go.Vsi
open Go.Proofs
noncomputable section
set_option maxRecDepth 100000
set_option maxHeartbeats 4000000
set_option linter.unusedSimpArgs false
set_option linter.unusedVariables false
attribute [local go_sem ↓] v6
theorem N8(s:List UInt8)(m:Nat)(h:s.length<=m)(hm:m<=1000000000):(l9 s).length<=m+10:=by
 have:=V1 s (by omega)
 omega
theorem b4s(rd:List UInt8->Bool)(hR:C5 82 rd)(c:n8)(p q:Bool)(hb:bdC c):c6 Tryz.prog T1 L1 29 [.agg [.d (c8 p 1 (rS c.Texts)),.d (c8 q 2 (g9 c.List)),.d (.v (.int .i64 (c.Begin))),.d (.v (.int .i64 (c.Line))),.d (.v (.int .i64 (c.End)))]] []=some (if q8 rd c=true then .tup [.c (.d (.v (.string (B (H2 c))))),.c (.d (.v (.bool (true))))]else .tup [.c (.d (.v (.string (B ([]))))),.c (.d (.v (.bool (false))))],[]):=by
 have h0:=b7w rd hR c p q hb
 rw[c1a]at h0
 clear hR
 cases hc:q8 rd c with
 |false=>
  rw[hc]at h0
  rw[if_neg (by simp)]
  clear hc hb
  exact fn V29 Tryz.func29
 |true=>
  rw[hc]at h0
  rw[if_pos rfl]
  obtain⟨hs,ht,hi⟩:=a3g hc
  obtain⟨s1,s2,s3,⟨s4,s5⟩,s6,s7⟩:=a4e hs
  have v1:=F4 c.Texts.length (by omega)
  have v2:=F4 c.List.length (by omega)
  have v3:=F4 c.Line.toNat (by omega)
  have v4:=F4 c.End.toNat (by omega)
  have e1:=E9 c.Texts.length (by omega)
  have e2:=E9 c.List.length (by omega)
  have e3:=E9 c.Line.toNat (by omega)
  have e4:=E9 c.End.toNat (by omega)
  rw[show((c.Line.toNat:Nat):Int)=c.Line by omega]at v3
  rw[show((c.End.toNat:Nat):Int)=c.End by omega]at v4
  have n1:=K4 l9 40 c.Texts (fun t h=>N8 t 30 (ht t h) (by omega))
  have n2:=K4 a1s 2 c.List (fun t h=>Nat.le_refl 2)
  have l1:=c3z c.Begin c.Line c.End [] (.v (.slice none 0 0)) (.v (.slice none 0 0)) (.v (.slice none 0 0)) (.v (.slice none 0 0)) (c8 q 2 (g9 c.List)) p c.Texts (by omega) (fun x h=>by have:=ht x h;omega) c.Texts 0 (v5 c.Texts.length) rfl (by omega)
  have l2:=c4e c.Begin c.Line c.End [] (.v (.slice none 0 0)) (.v (.slice none 0 0)) (.v (.slice none 0 0)) (.v (.slice none 0 0)) (c8 p 1 (rS c.Texts)) q c.List (by omega) (fun x h=>by have:=hi x h;omega) c.List 0 (v5 c.Texts.length++c.Texts.flatMap l9++v5 c.List.length) rfl (by simp only[List.length_append];omega)
  rw[c1r]at l1 l2
  unfold H2
  have n3:(c.Texts.flatMap l9).length<=2400:=by omega
  have n4:(c.List.flatMap a1s).length<=500:=by omega
  clear hc hs ht hi hb n1 n2 s3
  generalize c.Texts.flatMap l9=F1 at*
  generalize c.List.flatMap a1s=F2 at*
  generalize v5 c.Texts.length=E1 at*
  generalize v5 c.List.length=E2 at*
  generalize v5 c.Line.toNat=E3 at*
  generalize v5 c.End.toNat=E4 at*
  have q1:(E1++F1).length+(E2).length<=9223372036854775807:=by(try simp only[List.length_append]);omega
  have q2:(E1++F1++E2++F2).length+(E3).length<=9223372036854775807:=by(try simp only[List.length_append]);omega
  have q3:(E1++F1++E2++F2++E3).length+(E4).length<=9223372036854775807:=by(try simp only[List.length_append]);omega
  exact fn V29 Tryz.func29
theorem d6d(rd:List UInt8->Bool)(c:n8)(hc:q8 rd c=true):(H2 c).length<=10000:=by
 obtain⟨hs,ht,hi⟩:=a3g hc
 obtain⟨s1,s2,s3,⟨s4,s5⟩,s6,s7⟩:=a4e hs
 have e1:=E9 c.Texts.length (by omega)
 have e2:=E9 c.List.length (by omega)
 have e3:=E9 c.Line.toNat (by omega)
 have e4:=E9 c.End.toNat (by omega)
 have n1:=K4 l9 40 c.Texts (fun t h=>N8 t 30 (ht t h) (by omega))
 have n2:=K4 a1s 2 c.List (fun t h=>Nat.le_refl 2)
 unfold H2
 simp only[List.length_append]
 omega
theorem c4f(x:v9)(h:x.Name.length<=8∧x.Val.length<=40):(V0 x).length<=68:=by
 have h1:=N8 x.Name 8 h.1 (by omega)
 have h2:=N8 x.Val 40 h.2 (by omega)
 unfold V0
 rw[List.length_append]
 omega
theorem c4g(x:q9)(h:x.Name.length<=8∧x.Key.length<=40∧x.Val.length<=40):(Z0 x).length<=118:=by
 have h1:=N8 x.Name 8 h.1 (by omega)
 have h2:=N8 x.Key 40 h.2.1 (by omega)
 have h3:=N8 x.Val 40 h.2.2 (by omega)
 unfold Z0
 rw[List.length_append,List.length_append]
 omega
theorem d6e(s:s8)(h:H1 s=true):(H3 s).length<=1000000:=by
 obtain⟨s1,s2,s3,ht,hi⟩:=a1k h
 have e1:=E9 s.Vars.length (by omega)
 have e2:=E9 s.Cells.length (by omega)
 have e3:=N8 s.Out 3000 s3 (by omega)
 have n1:=K4 V0 68 s.Vars (fun t h=>c4f t (ht t h))
 have n2:=K4 Z0 118 s.Cells (fun t h=>c4g t (hi t h))
 unfold H3
 simp only[List.length_append]
 omega
theorem b2r(s:s8)(p q:Bool)(hb:bdS s):c6 Tryz.prog T1 L1 31 [.agg [.d (c8 p 2 (rV s.Vars)),.d (c8 q 3 (rC s.Cells)),.d (.v (.string (B (s.Out))))]] []=some (if H1 s=true then .tup [.c (.d (.v (.string (B (H3 s))))),.c (.d (.v (.bool (true))))]else .tup [.c (.d (.v (.string (B ([]))))),.c (.d (.v (.bool (false))))],[]):=by
 have h0:=b4q s p q hb
 cases hc:H1 s with
 |false=>
  rw[hc]at h0
  rw[if_neg (by simp)]
  clear hc hb
  exact fn V31 Tryz.func31
 |true=>
  rw[hc]at h0
  rw[if_pos rfl]
  obtain⟨s1,s2,s3,ht,hi⟩:=a1k hc
  have v1:=F4 s.Vars.length (by omega)
  have v2:=F4 s.Cells.length (by omega)
  have v3:=G0 s.Out (by omega)
  have e1:=E9 s.Vars.length (by omega)
  have e2:=E9 s.Cells.length (by omega)
  have e3:=N8 s.Out 3000 s3 (by omega)
  have n1:=K4 V0 68 s.Vars (fun t h=>c4f t (ht t h))
  have n2:=K4 Z0 118 s.Cells (fun t h=>c4g t (hi t h))
  have l1:=c4a 0 0 0 s.Out (.v (.slice none 0 0)) (.v (.slice none 0 0)) (.v (.slice none 0 0)) (.v (.slice none 0 0)) (c8 q 3 (rC s.Cells)) p s.Vars (by omega) (fun x h=>by have:=ht x h;omega) s.Vars 0 (v5 s.Vars.length) rfl (by omega)
  have l2:=c4b 0 0 0 s.Out (.v (.slice none 0 0)) (.v (.slice none 0 0)) (.v (.slice none 0 0)) (.v (.slice none 0 0)) (c8 p 2 (rV s.Vars)) q s.Cells (by omega) (fun x h=>by have:=hi x h;omega) s.Cells 0 (v5 s.Vars.length++s.Vars.flatMap V0++v5 s.Cells.length) rfl (by simp only[List.length_append];omega)
  rw[c1r]at l1 l2
  unfold H3
  have n3:(s.Vars.flatMap V0).length<=5000:=by omega
  have n4:(s.Cells.flatMap Z0).length<=300000:=by omega
  clear hc ht hi hb n1 n2
  generalize s.Vars.flatMap V0=F1 at*
  generalize s.Cells.flatMap Z0=F2 at*
  generalize v5 s.Vars.length=E1 at*
  generalize v5 s.Cells.length=E2 at*
  generalize l9 s.Out=E3 at*
  have q1:(E1++F1).length+(E2).length<=9223372036854775807:=by(try simp only[List.length_append]);omega
  have q2:(E1++F1++E2++F2).length+(E3).length<=9223372036854775807:=by(try simp only[List.length_append]);omega
  exact fn V31 Tryz.func31
theorem b2s{C:Bool}{j:C6}(h:y8 C j=true):C=true∧H1 j.Begin=true∧j.Names.length<=20∧j.Lines.length<=20∧(∀x∈j.Names,x.length<=8)∧ ∀x∈j.Lines,x.length<=200:=by
 unfold y8 at h
 simp only[Bool.and_eq_true,decide_eq_true_eq]at h
 refine⟨h.2.2.1,h.2.2.2.1,h.2.2.2.2.1,h.2.2.2.2.2,fun x hx=>?_,fun x hx=>?_⟩
 ·obtain⟨k,hk,e⟩:=a2b j.Names [] x hx
  have:=U9 _ _ _ h.1 k (by omega) (by omega)
  unfold gN at this
  rw[e]at this
  unfold nmB at this
  simp only[Bool.and_eq_true,decide_eq_true_eq]at this
  omega
 ·obtain⟨k,hk,e⟩:=a2b j.Lines [] x hx
  have:=U9 _ _ _ h.2.1 k (by omega) (by omega)
  unfold gT at this
  rw[e]at this
  simpa using this
theorem d1x(rd:List UInt8->Bool)(hR:C5 82 rd)(j:C6)(p1 p2 p3 p4 p5 p6:Bool)(hb:bdJ j):c6 Tryz.prog T1 L1 13 [.agg (x9 p1 p2 p3 p4 p5 p6 j)] []=some (if y8 (q8 rd j.Code) j=true then .tup [.c (.d (.v (.string (B (b1c j))))),.c (.d (.v (.bool (true))))]else .tup [.c (.d (.v (.string (B ([]))))),.c (.d (.v (.bool (false))))],[]):=by
 have h0:=d6b rd hR j p1 p2 p3 p4 p5 p6 hb
 rw[c1a]at h0
 cases hc:y8 (q8 rd j.Code) j with
 |false=>
  rw[hc]at h0
  rw[if_neg (by simp)]
  unfold x9 at h0⊢
  clear hc hb hR
  exact fn V13 Tryz.func13
 |true=>
  rw[hc]at h0
  rw[if_pos rfl]
  obtain⟨g1,g2,g3,g4,g5,g6⟩:=b2s hc
  have h1:=b4s rd hR j.Code p1 p2 hb.1
  have h2:=b2r j.Begin p3 p4 hb.2.1
  rw[g1,if_pos rfl]at h1
  rw[g2,if_pos rfl]at h2
  have a1:=d6d rd j.Code g1
  have a2:=d6e j.Begin g2
  have w1:=G0 (H2 j.Code) (by omega)
  have w2:=G0 (H3 j.Begin) (by omega)
  have x1:=N8 (H2 j.Code) 10000 a1 (by omega)
  have x2:=N8 (H3 j.Begin) 1000000 a2 (by omega)
  have v1:=F4 j.Names.length (by omega)
  have v2:=F4 j.Lines.length (by omega)
  have e1:=E9 j.Names.length (by omega)
  have e2:=E9 j.Lines.length (by omega)
  have n1:=K4 l9 18 j.Names (fun t h=>N8 t 8 (g5 t h) (by omega))
  have n2:=K4 l9 210 j.Lines (fun t h=>N8 t 200 (g6 t h) (by omega))
  have n3:(j.Names.flatMap l9).length<=5000:=by omega
  have n4:(j.Lines.flatMap l9).length<=5000:=by omega
  have l1:=c4c j.Code.Begin j.Code.Line j.Code.End j.Begin.Out (c8 p1 1 (rS j.Code.Texts)) (c8 p2 2 (g9 j.Code.List)) (c8 p3 2 (rV j.Begin.Vars)) (c8 p4 3 (rC j.Begin.Cells)) (c8 p6 1 (rS j.Lines)) p5 j.Names (by omega) (fun x h=>by have:=g5 x h;omega) j.Names 0 (l9 (H2 j.Code)++l9 (H3 j.Begin)++v5 j.Names.length) rfl (by simp only[List.length_append];omega)
  have l2:=c4d j.Code.Begin j.Code.Line j.Code.End j.Begin.Out (c8 p1 1 (rS j.Code.Texts)) (c8 p2 2 (g9 j.Code.List)) (c8 p3 2 (rV j.Begin.Vars)) (c8 p4 3 (rC j.Begin.Cells)) (c8 p5 1 (rS j.Names)) p6 j.Lines (by omega) (fun x h=>by have:=g6 x h;omega) j.Lines 0 (l9 (H2 j.Code)++l9 (H3 j.Begin)++v5 j.Names.length++j.Names.flatMap l9++v5 j.Lines.length) rfl (by simp only[List.length_append];omega)
  rw[c1r]at l1 l2
  unfold b1c
  unfold x9 at h0⊢
  clear hc hb n1 n2 hR g1 g2 g5 g6
  generalize H2 j.Code=A at*
  generalize H3 j.Begin=S at*
  generalize j.Names.flatMap l9=F1 at*
  generalize j.Lines.flatMap l9=F2 at*
  generalize v5 j.Names.length=E1 at*
  generalize v5 j.Lines.length=E2 at*
  generalize l9 A=X1 at*
  generalize l9 S=X2 at*
  have q0:(X1).length+(X2).length<=9223372036854775807:=by(try simp only[List.length_append]);omega
  have q1:(X1++X2).length+(E1).length<=9223372036854775807:=by(try simp only[List.length_append]);omega
  have q2:(X1++X2++E1++F1).length+(E2).length<=9223372036854775807:=by(try simp only[List.length_append]);omega
  exact fn V13 Tryz.func13
end
end Go.Vsi
