/- The abstract interpreter of the machine's code, proved sound (a part of it). -/
import Derived.Test.YtbjkeppbogdgcaaGreatZV1
import Derived.Laws.IdiomCopy
import Derived.LoopN
import Derived.Below
import Derived.ChangeArms
import Derived.WideShapes
import Derived.Lib.Strings
set_option linter.unusedVariables false
namespace Go.Vsi
theorem a8e: ∀{l:List Nat},a1a l=true->l.Nodup
 |[],_=>List.nodup_nil
 |x::r,h=>by
  simp only[a1a,Bool.and_eq_true,Bool.not_eq_true']at h
  refine List.nodup_cons.2 ⟨fun hx=>?_,a8e h.2⟩
  have:=List.elem_eq_true_of_mem hx
  rw[this]at h
  cases h.1
theorem b5d(h:Hp)(i:Nat)(b b':Option k7)(u:B4):m0 (m0 h [(i,b)]) (u++[(i,b')])=m0 h (u++[(i,b')]):=by
 rw[U1,U1]
 funext y
 rw[l6,l6]
 split
 ·rfl
 ·rename_i hy
  have key: ∀(u:B4)(h h':Hp),h y=h' y->m0 h u y=m0 h' u y:=by
   intro u
   induction u with
   |nil=>intro h h' e;exact e
   |cons z u ih=>
    intro h h' e
    obtain⟨zi,zb⟩:=z
    rw[E6 h,E6 h']
    refine ih _ _ ?_
    rw[l6,l6,e]
  exact key u _ _ (by rw[l6,if_neg hy])
theorem c6z{c:Cx}{k:Nat}{rows:List (List D)}{p:Loc}(h:I6 c (.arr k rows) p):I6 c (.nar k (rows.map (List.map O.d)) []) p:=by
 obtain⟨cs,ty,fz,h1,h2,h3,h4,h5⟩:=h
 refine⟨cs,ty,fz,h1,h2,by simpa using h3,h4,fun i r hi=>?_⟩
 rw[List.getElem?_map]at hi
 cases hr:rows[i]? with
 |none=>rw[hr]at hi;cases hi
 |some r0=>
  rw[hr]at hi
  simp only[Option.map_some,Option.some.injEq]at hi
  subst hi
  obtain⟨g1,g2⟩:=h5 i r0 hr
  refine⟨by simpa using g1,fun j o ho=>?_⟩
  rw[List.getElem?_map]at ho
  cases hd:r0[j]? with
  |none=>rw[hd]at ho;cases ho
  |some d=>
   rw[hd]at ho
   simp only[Option.map_some,Option.some.injEq]at ho
   subst ho
   exact g2 j d hd
section
variable{P:Program}{o:Oper}{fr:Nat->Nat}{c:Cx}{a:Act}{r:W}
theorem a8f(hc:o6 c){x y:Operand}{t:TypeId}{v:V}{id row off k:Nat}{rows:List (List O)}{rr ds:List O}{kills:B4}(ho:o.op=.store t x y)(hx:r8 c (.ptr id row off) (a.eval x))(hv:r9 c v (a.eval y))(hj:v≠.junk)
 {i:TypeInfo}(hi:P.info? t=some i)(hl:(t7 v).length=i.size)(hid:c.h id=some (.nar k rows []))(hrow:rows[row]?=some rr)(hle:off+(t7 v).length<=rr.length)(hds:C8 c.h (t7 v)=some (ds,kills))(hnd:(kills.map (·.1)).Nodup)(hkn: ∀x∈kills,x.1≠id):
 u6 P o fr c a (.one .junk) (kills++[(id,some (.nar k (rows.set row (rr.take off++ds++rr.drop (off+(t7 v).length))) []))]):=by
 intro K Q hK
 obtain⟨cs,ty,fz,hcs,hfz,hrl,hsz,hcell⟩:=hc.blk id _ hid
 obtain⟨g1,g2⟩:=a4y hv hj
 have hrowlt:row<rows.length:=(List.getElem?_eq_some_iff.1 hrow).1
 obtain⟨hrk,hrc⟩:=hcell row rr hrow
 have hq:row*k+k<=(c.E id).room*k:=by
  have:=Nat.mul_le_mul_right k (show row+1<=(c.E id).room by omega)
  rw[Nat.succ_mul]at this;exact this
 obtain⟨c',e,hw,hh,hU⟩:=e1x hc hid hrow hds hnd hkn hle (a.eval y).cells.toList (by simpa using g1) (fun m s hm=>by
  obtain⟨u,hu,hr⟩:=g2 m s hm
  exact⟨u,by simpa using hu,hr⟩)
 have hp:a.eval x=.pointer (some ⟨(c.E id).blk,(c.E id).off+row*k+off,none⟩):=hx.2.2 _ hid
 have hone: ∀u∈(a.eval y).cells,u.oneCell'=true:=fun u hu=>by
  obtain⟨j,hj⟩:=Array.getElem?_of_mem hu
  have hlt:j<(t7 v).length:=by rw[<-g1];exact(Array.getElem?_eq_some_iff.1 hj).1
  obtain⟨u',hu',hr⟩:=g2 j _ (List.getElem?_eq_getElem hlt)
  rw[Nat.zero_add,hj]at hu'
  obtain rfl:=Option.some.inj hu'
  exact hr.one
 refine wp_skip (s:=Instr.storeAt t (a.eval x) (a.eval y)) (by unfold execOp;rw[ho]) ?_ (hK undef c' e hh (fun u hu=>.inl (hU u hu)) trivial)
 rw[hw,hp]
 simp only[Instr.storeAt,Instr.sureAddr,Sem.run_bind,Sem.run_pure,Result.andThen_ok]
 exact b1s hcs hfz (by simp[Program.cellsOf,hi,g1,hl]) ⟨i,hi⟩ (by rw[g1];omega) hone
theorem b5e(hc:o6 c){x y:Operand}{t:TypeId}{v:V}{id row off k:Nat}{rows:List (List D)}{rr:List D}{ds:List O}{kills:B4}(ho:o.op=.store t x y)(hx:r8 c (.ptr id row off) (a.eval x))(hv:r9 c v (a.eval y))(hj:v≠.junk)
 {i:TypeInfo}(hi:P.info? t=some i)(hl:(t7 v).length=i.size)(hid:c.h id=some (.arr k rows))(hrow:rows[row]?=some rr)(hle:off+(t7 v).length<=rr.length)(hds:C8 c.h (t7 v)=some (ds,kills))(hnd:(kills.map (·.1)).Nodup)(hkn: ∀x∈kills,x.1≠id):
 u6 P o fr c a (.one .junk) (kills++[(id,some (.nar k ((rows.map (List.map O.d)).set row ((rr.map O.d).take off++ds++(rr.map O.d).drop (off+(t7 v).length))) []))]):=by
 intro K Q hK
 obtain⟨c1,e1,f1,f2,f3,f4,f5,f6⟩:=a1v hc id _ (.nar k (rows.map (List.map O.d)) []) hid (by simp[n9,k7.arrOf]) (fun c' _ _ _ st=>c6z (by
  have:=hc.blk id _ hid
  refine this.mono st ?_ ?_
  ·rename_i hw _ _;rw[hw]
  ·intro x o hx
   rename_i hw _ ho
   exact⟨by rw[ho];exact hx,by rw[hw]⟩))
 have hid1:c1.h id=some (.nar k (rows.map (List.map O.d)) []):=by rw[f6,l6,if_pos rfl]
 have hs:=a8f (P:=P) (o:=o) (fr:=fr) (c:=c1) (a:=a) e1.relh ho (r8.mono e1.step hx) (r9.mono e1.step hv) hj hi hl hid1 (rr:=rr.map O.d) (by rw[List.getElem?_map,hrow];rfl) (by simpa using hle) (by rw[f6];exact a6x hds hkn) hnd hkn K Q
 rw[f1]at hs
 refine hs fun v' c' e2 hh hU hr=>hK v' c' (e1.trans e2) ?_ (fun u hu=>?_) hr
 ·rw[hh,f6,b5d]
 ·rcases hU u hu with h|h
  ·exact .inl ((f5 u).1 h)
  ·exact .inr h
theorem b8e(hc:o6 c){x:Operand}{t:TypeId}{id row off k:Nat}{rows:List (List O)}{outs:List (Nat×Nat×Nat)}{rr:List O}{l:List S}{v:V}(ho:o.op=.load t x)(hx:r8 c (.ptr id row off) (a.eval x))(hid:c.h id=some (.nar k rows outs))(hrow:rows[row]?=some rr)
 (hl:W3 c.h outs row 0 rr=some l)(hp:M0 P t l off=some v):u6 P o fr c a (.one v) []:=
 a5m hc ho (b:=(c.E id).blk) (q:=(c.E id).off+row*k) (hx.2.2 _ hid) hp (c9l hc hid hrow hl)
end
end Go.Vsi
namespace Go.Vsi
theorem d7j{h:Hp}{s:S}{x:O}{u:B4}(hs:R9 h s=some (x,u)): ∀y∈u,∃b,h y.1=some b:=by
 cases s with
 |d d=>simp[R9]at hs;obtain⟨_,rfl⟩:=hs;simp
 |arr id off len=>
  simp only[R9]at hs
  split at hs
  ·rename_i k rows hid
   simp at hs
   obtain⟨_,rfl⟩:=hs
   intro y hy
   simp at hy
   subst hy
   exact⟨_,hid⟩
  ·cases hs
 |_=>simp[R9]at hs
theorem b9s{h:Hp}: ∀{l:List S}{x:List O}{u:B4},C8 h l=some (x,u)-> ∀y∈u,∃b,h y.1=some b
 |[],_,_,hs=>by simp[C8]at hs;obtain⟨_,rfl⟩:=hs;simp
 |s::r,x,u,hs=>by
  simp only[C8]at hs
  split at hs
  ·rename_i y u1 ys us h1 h2
   simp only[Option.some.injEq,Prod.mk.injEq]at hs
   obtain⟨_,rfl⟩:=hs
   intro z hz
   rcases List.mem_append.1 hz with hz|hz
   ·exact d7j h1 z hz
   ·exact b9s h2 z hz
  ·cases hs
theorem c2f{h:Hp}: ∀(l:List S){a:List O}{ua:B4}{m:List S}{b:List O}{ub:B4},C8 h l=some (a,ua)->C8 h m=some (b,ub)->C8 h (l++m)=some (a++b,ua++ub)
 |[],a,ua,m,b,ub,ha,hb=>by
  simp only[C8,Option.some.injEq,Prod.mk.injEq]at ha
  obtain⟨rfl,rfl⟩:=ha
  simpa using hb
 |z::l,a,ua,m,b,ub,ha,hb=>by
  simp only[C8]at ha
  split at ha
  case h_2=>cases ha
  rename_i x1 v1 xs2 vs2 q1 q2
  simp only[Option.some.injEq,Prod.mk.injEq]at ha
  obtain⟨rfl,rfl⟩:=ha
  simp only[List.cons_append,C8,q1,c2f l q2 hb,List.append_assoc]
theorem b3v{h:Hp}: ∀(l:List (List S)){xs:List (List O)}{u:B4},S6 h l=some (xs,u)->xs.length=l.length∧C8 h l.flatten=some (xs.flatten,u)∧ ∀(i:Nat)(s:List S),l[i]?=some s-> ∃x u',xs[i]?=some x∧C8 h s=some (x,u')∧ ∀y∈u',y∈u
 |[],xs,u,h=>by
  simp only[S6,Option.some.injEq,Prod.mk.injEq]at h
  obtain⟨rfl,rfl⟩:=h
  exact⟨rfl,rfl,by simp⟩
 |s::r,xs,u,hd=>by
  simp only[S6]at hd
  split at hd
  case h_2=>cases hd
  rename_i x u1 xs1 us1 h1 h2
  simp only[Option.some.injEq,Prod.mk.injEq]at hd
  obtain⟨rfl,rfl⟩:=hd
  obtain⟨k1,k3,k5⟩:=b3v r h2
  refine⟨by simp[k1],?_,fun i s' hi=>?_⟩
  ·rw[List.flatten_cons,List.flatten_cons]
   exact c2f s h1 k3
  ·cases i with
   |zero=>
    simp at hi
    subst hi
    exact⟨x,u1,rfl,h1,fun y hy=>List.mem_append.2 (.inl hy)⟩
   |succ i=>
    obtain⟨x',u',e1,e2,e3⟩:=k5 i s' (by simpa using hi)
    exact⟨x',u',by simpa using e1,e2,fun y hy=>List.mem_append.2 (.inr (e3 y hy))⟩
theorem b3w(k:Nat): ∀(n:Nat)(l:List S),l.length=n*k->(L7 k n l).flatten=l
 |0,l,h=>by
  rw[Nat.zero_mul]at h
  rw[List.length_eq_zero_iff.1 h];rfl
 |n+1,l,h=>by
  rw[Nat.succ_mul]at h
  simp only[L7,List.flatten_cons]
  rw[b3w k n _ (by simp;omega),List.take_append_drop]
def a2w(cs:Array Value)(o n k:Nat):List (List D):=(List.range n).map fun i=>(List.range k).map fun j=>.lit ((cs[o+i*k+j]?).getD undef)
theorem a1w{cs:Array Value}{o n k:Nat}:(a2w cs o n k).length=n:=by simp[a2w]
theorem c2g{cs:Array Value}{o n k i:Nat}{r:List D}(h:(a2w cs o n k)[i]?=some r):i<n∧r.length=k∧ ∀j d,r[j]?=some d->j<k∧d=.lit ((cs[o+i*k+j]?).getD undef):=by
 unfold a2w at h
 rw[List.getElem?_map]at h
 cases hi:(List.range n)[i]? with
 |none=>rw[hi]at h;cases h
 |some i'=>
  rw[hi]at h
  obtain⟨hlt,hi'⟩:=List.getElem?_eq_some_iff.1 hi
  simp at hi' hlt
  subst hi'
  simp only[Option.map_some,Option.some.injEq]at h
  subst h
  refine⟨hlt,by simp,fun j d hj=>?_⟩
  rw[List.getElem?_map]at hj
  cases hq:(List.range k)[j]? with
  |none=>rw[hq]at hj;cases hj
  |some j'=>
   rw[hq]at hj
   obtain⟨hlt2,hj'⟩:=List.getElem?_eq_some_iff.1 hq
   simp at hj' hlt2
   subst hj'
   simp only[Option.map_some,Option.some.injEq]at hj
   exact⟨hlt2,hj.symm⟩
theorem c2h(cs:Array Value)(o:Nat){n k i:Nat}(h:i<n): ∃lr,(a2w cs o n k)[i]?=some lr∧lr.length=k∧ ∀j v,j<k->cs[o+i*k+j]?=some v->lr[j]?=some (.lit v):=by
 refine⟨(List.range k).map fun j=>.lit ((cs[o+i*k+j]?).getD undef),?_,by simp,fun j v hj hv=>?_⟩
 ·unfold a2w
  rw[List.getElem?_map,List.getElem?_range h];rfl
 ·rw[List.getElem?_map,List.getElem?_range hj]
  simp[hv]
theorem c2i{c:Cx}{cs:Array Value}{o n k:Nat}(h: ∀i j,i<n->j<k-> ∃v,cs[o+i*k+j]?=some v∧v.oneCell'=true): ∀i r,(a2w cs o n k)[i]?=some r->r.length=k∧l0 (t8 c.w c.N) cs (o+i*k) r:=fun i r hr=>by
 obtain⟨h1,h2,h3⟩:=c2g hr
 refine⟨h2,fun j d hd=>?_⟩
 obtain⟨h4,rfl⟩:=h3 j d hd
 obtain⟨v,hv,ho⟩:=h i j h1 h4
 refine⟨v,hv,?_⟩
 rw[hv]
 exact .lit ho
section
variable{P:Program}{o:Oper}{fr:Nat->Nat}{c:Cx}{a:Act}{r:W}
theorem b3q(hc:o6 c)(hfr: ¬c.U (fr 0)){ev:Operand->W}(hev: ∀x,x7 c (ev x) (a.eval x)){t e:TypeId}{n k:Nat}{parts:Array (Nat×Operand)}{z l:List S}{rows:List (List O)}{kills:B4}(ho:o.op=.buildSlice t n parts)
 (hu:P.underlying t=some (.slice e))(hk:k=P.cellsOf e)(hz:zeroCells P e=some z)(hzk:z.length=k)(h24:n*k<=16777216)
 (hf:Y0 (fun i=>some (i*k,k)) ((List.replicate n z).flatten) (parts.toList.map fun(i,x)=>(i,match ev x with|.one v=>v|.tup _=>.junk))=some l)(hrows:S6 c.h (L7 k n l)=some (rows,kills))(hnd:(kills.map (·.1)).Nodup):
 u6 P o fr c a (one (.arr (fr 0) 0 n)) (kills++[(fr 0,some (.nar k rows []))]):=by
 obtain⟨i,v,hi,hv,hl,hcell⟩:=N5 hz
 have hik:i.size=k:=by rw[hk];simp[Program.cellsOf,hi]
 obtain⟨q1,q2⟩:=b1t hzk hl (hcell c) n _ rfl
 obtain⟨cs',k1,k2,k3,k4⟩:=b4y (b0q hev parts.toList) hf q1 q2
 have hll:l.length=n*k:=by rw[k3,b0r,hzk]
 have hix: ∀i j,i<n->j<k->i*k+j<n*k:=fun i j hi hj=>by
  have:=Nat.mul_le_mul_right k (show i+1<=n from hi)
  rw[Nat.succ_mul]at this;omega
 have hval: ∀i j,i<n->j<k-> ∃s v,l[i*k+j]?=some s∧cs'[0+i*k+j]?=some v∧r8 c s v:=fun i j hi hj=>by
  obtain⟨v,hv,hr⟩:=k4 (i*k+j) _ (List.getElem?_eq_getElem (by rw[hll];exact hix i j hi hj))
  exact⟨_,v,List.getElem?_eq_getElem _,by rw[Nat.zero_add]at hv⊢;exact hv,hr⟩
 intro K Q hK
 refine T6 hc hfr (s:=Instr.buildSlice t n (parts.map fun(i,x)=>(i,a.eval x))) (r:=one (.arr (fr 0) 0 n)) (by unfold execOp;rw[ho]) (v:=.slice (some ⟨c.w.heap.size,0,none⟩) n n) (w':={c.w with heap:=c.w.heap.push (.cells cs' e)}) ?_ rfl rfl rfl rfl [] (by simp) (.arr k (a2w cs' 0 n k)) ⟨c.w.heap.size,0,n⟩ rfl ?_ ?_ K Q ?_
 ·have hfill:Instr.fill (fun i=>some (i*k,k)) ((Array.range (n*k)).map (v.cells[· %v.cells.size]!)) (parts.map fun(i,x)=>(i,a.eval x)).toList=some cs':=by
   rw[Array.toList_map];exact k1
  unfold Instr.buildSlice
  simp only[Sem.run_bind,run_underlying hu,Result.andThen_ok,sizeOf,typeInfo,run_program,hi,Sem.run_pure,hik]
  rw[if_neg (by omega)]
  by_cases h0:n*k=0
  ·rw[if_pos h0]
   have e0:(Array.map (fun x=>(#[]:Array Value)[x%(#[]:Array Value).size]!) (Array.range (n*k)))=(Array.range (n*k)).map (v.cells[· %v.cells.size]!):=by rw[h0];simp
   simp only[Sem.run_pure,Result.andThen_ok,e0,hfill,Sem.run_bind,newRow,run_newObj]
  ·rw[if_neg h0]
   simp only[Sem.run_bind,zeroValue,typeInfo,run_program,Result.andThen_ok,hi,hv,Sem.run_pure,hfill,newRow,run_newObj]
 ·intro c' hw st _ _
  refine⟨cs',e,(0,0),by rw[hw];simp,a2e _,by simp[a1w],by simp[k2,hll],?_⟩
  exact c2i fun i j hi hj=>let⟨s,v,_,hv,hr⟩:=hval i j hi hj;⟨v,hv,hr.one⟩
 ·intro c' _ _ hh hE hU
  exact a6b hh hE hU (by simp[a1w]) (Nat.le_refl _) (Nat.le_refl _) rfl
 ·intro v1 c1 e1 hh1 hU1 hv1
  obtain⟨g1,g2,g3⟩:=b3v _ hrows
  rw[a5o]at g1
  rw[b3w k n l hll]at g2
  have hne: ∀y∈kills,y.1≠fr 0:=fun y hy he=>by
   obtain⟨b,hb⟩:=b9s g2 y hy
   exact hfr (he▸hc.used _ _ hb)
  replace hh1:c1.h=m0 c.h [(fr 0,some (.arr k (a2w cs' 0 n k)))]:=hh1
  have hid1:c1.h (fr 0)=some (.arr k (a2w cs' 0 n k)):=by rw[hh1,l6,if_pos rfl]
  have gos1:C8 c1.h l=some (rows.flatten,kills):=by rw[hh1];exact a6x g2 hne
  obtain⟨c2,e2,f1,f2,f3,f4,f5,f6,f7⟩:=a8d (j:=fr 0) l (c1.E (fr 0)).off c1 e1.relh hid1 gos1 hnd hne
  have hid2:c2.h (fr 0)=some (.arr k (a2w cs' 0 n k)):=by rw[f5,P5 kills _ hne,hid1]
  obtain⟨c3,e3,m1,m2,m3,m4,m5,m6⟩:=a1v e2.relh (fr 0) _ (.nar k rows []) hid2 (by simp[n9,k7.arrOf,a1w,g1]) (fun c3 w3 n3 o3 st3=>by
   obtain⟨cs,ty,fz,h1,h2,h3,h4,h5⟩:=e2.relh.blk (fr 0) _ hid2
   refine⟨cs,ty,fz,by rw[w3];exact h1,h2,by rw[a1w]at h3;omega,h4,fun i r hi=>?_⟩
   have hin:i<n:=by rw[<-g1];exact(List.getElem?_eq_some_iff.1 hi).1
   have hlt:=Nat.mul_le_mul_right k (show i+1<=n from hin)
   rw[Nat.succ_mul]at hlt
   obtain⟨x,u',y1,y2,y3⟩:=g3 i _ (b0p k n l i hin)
   rw[hi]at y1
   obtain rfl:=Option.some.inj y1
   obtain⟨z1,z2,z3⟩:=a6y _ y2
   have hrk:r.length=k:=by rw[z1];simp;omega
   refine⟨hrk,fun j o hj=>?_⟩
   have hjk:j<k:=by rw[<-hrk];exact(List.getElem?_eq_some_iff.1 hj).1
   obtain⟨s,v,hs,hv,hr⟩:=hval i j hin hjk
   obtain⟨lr,l1,l2,l3⟩:=c2h cs' 0 (k:=k) hin
   obtain⟨v',hv',hrd⟩:=(h5 i lr l1).2 j _ (l3 j v hjk hv)
   cases hrd
   refine⟨v,hv',?_⟩
   have hs':((l.drop (i*k)).take k)[j]?=some s:=by rw[List.getElem?_take,if_pos hjk,List.getElem?_drop,hs]
   obtain⟨o',u2,w1,w2,w3'⟩:=z3 j s hs'
   rw[hj]at w1
   obtain rfl:=Option.some.inj w1
   have hto:R9 c1.h s=some (o,u2):=by rw[hh1];exact c6y w2 fun y hy=>hne y (y3 y (w3' y hy))
   refine c2d e1.relh (e2.step.trans st3) hto (r8.mono e1.step hr) (fun id b hb _=>by rw[w3,f1]) (fun id off len hs2=>?_)
   rw[o3,f6 (i*k+j) id off len (by rw[hs,hs2]),f4,Nat.add_assoc])
  rw[show c1.w=c3.w by rw[m1,f1]]
  refine hK v1 c3 ((e1.trans e2).trans e3) ?_ (fun x hx=>?_) (x7.mono (e2.step.trans e3.step) hv1)
  ·rw[m6,f5,hh1,<-U1,b5d]
  ·have:=(m5 x).1 hx
   rw[f3]at this
   exact hU1 x this
end
end Go.Vsi
namespace Go.Vsi
def H4(E:Emb)(g:Nat)(x:Nat):Option (Nat×Nat):=match E.own x with
 |some (y,a)=>if y=g then none else some (y,a)
 |none=>none
theorem X3{E:Emb}{g x:Nat}{p:Nat×Nat}(h:H4 E g x=some p):E.own x=some p∧p.1≠g:=by
 unfold H4 at h
 split at h
 ·rename_i y a hx
  split at h
  ·cases h
  ·rename_i e
   obtain rfl:=Option.some.inj h
   exact⟨hx,e⟩
 ·cases h
theorem a8g{E:Emb}{g x:Nat}{p:Nat×Nat}(h:E.own x=some p)(hn:p.1≠g):H4 E g x=some p:=by
 unfold H4
 obtain⟨y,a⟩:=p
 rw[h]
 simp only
 rw[if_neg hn]
theorem a4h{E:Emb}{g x a:Nat}(h:E.own x=some (g,a)):H4 E g x=none:=by
 unfold H4
 rw[h]
 simp
theorem c9m{c:Cx}(h:o6 c)(i k:Nat)(L:List (List D))(hb:c.h i=some (.arr k L)):u7 c {c with E:=⟨c.E.loc,H4 c.E (c.E i).blk⟩}:=by
 have st:A4 c {c with E:=⟨c.E.loc,H4 c.E (c.E i).blk⟩}:=⟨fun _ h=>h,fun _ _=>rfl,fun _ b _ h=>⟨b,h,n9.refl b⟩,fun g hg=>⟨hg,rfl⟩⟩
 refine⟨st,⟨fun id b hid=>?_,h.used,h.inj,h.apart,h.low,fun g a id b ho=>h.nest g a id b (X3 ho).1,fun g a ho=>h.olow g a (X3 ho).1⟩,rfl,rfl,rfl,Nat.le_refl _,fun _ _ _=>rfl,fun _ h=>.inl h,?_,?_,fun g a ho=>.inl (X3 ho).1⟩
 ·by_cases e:id=i
  ·subst e
   replace hid:c.h id=some b:=hid
   rw[hb]at hid
   obtain rfl:=Option.some.inj hid
   exact b0n.mono st (h.blk id _ hb) rfl
  ·exact(h.blk id b hid).mono st rfl fun x o hx=>⟨a8g hx (h.inj id i b _ hid hb e),rfl⟩
 ·rintro g (⟨id,b,hid,hg⟩|⟨a,id,b,ho,hid,hg⟩)
  ·exact .inl (.inl ⟨id,b,hid,hg⟩)
  ·exact .inl (.inr ⟨a,id,b,(X3 ho).1,hid,hg⟩)
 ·intro g _ hno _
  show H4 c.E (c.E i).blk g=c.E.own g
  cases hx:c.E.own g with
  |none=>unfold H4;rw[hx]
  |some p=>
   refine a8g hx fun e=>hno (.inr ⟨p,i,_,hx,hb,e.symm⟩)
theorem b2z{c:Cx}(hc:o6 c){i k:Nat}{rows:List (List O)}(hi:c.h i=some (.nar k rows [])):
 ∃c' L,u7 c c'∧c'.w=c.w∧c'.N=c.N∧(∀id,c'.E id=c.E id)∧(∀x,c'.U x↔c.U x)∧c'.h=m0 c.h [(i,some (.arr k L))]∧c'.E.own=H4 c.E (c.E i).blk∧L.length=rows.length∧(∀r∈L,r.length=k)∧
  ∀n r,rows[n]?=some r->r.length=k∧ ∀j o,r[j]?=some o-> ∃lr v,L[n]?=some lr∧lr[j]?=some (.lit v)∧X8 c (c.E i).blk ((c.E i).off+n*k+j) none o v:=by
 obtain⟨cs,ty,fz,h1,h2,h3,h4,h5⟩:=hc.blk i _ hi
 have hone: ∀n r,rows[n]?=some r-> ∀j o,r[j]?=some o-> ∃v,cs[(c.E i).off+n*k+j]?=some v∧X8 c (c.E i).blk ((c.E i).off+n*k+j) none o v:=fun n r hr j o ho=>(h5 n r hr).2 j o ho
 have one: ∀{o v g a},X8 c g a none o v->v.oneCell'=true:=fun{o v g a} h=>by
  cases o with
  |d x=>exact t8.one h
  |own k rs=>obtain⟨p,⟨a0,rfl,_⟩,_⟩:=h;rfl
 have hrel: ∀c':Cx,∀n r,(a2w cs (c.E i).off rows.length k)[n]?=some r->r.length=k∧l0 (t8 c'.w c'.N) cs ((c.E i).off+n*k) r:=fun c'=>c2i fun n j hn hj=>by
  have hr:=List.getElem?_eq_getElem hn
  have hl:=(h5 n _ hr).1
  obtain⟨v,hv,ho⟩:=hone n _ hr j _ (List.getElem?_eq_getElem (by omega))
  exact⟨v,hv,one ho⟩
 obtain⟨c1,e1,f1,f2,f3,f4,f5,f6⟩:=a1v hc i _ (.arr k (a2w cs (c.E i).off rows.length k)) hi (by simp[n9,k7.arrOf,a1w]) (fun c' w' n' o' st=>⟨cs,ty,fz,by rw[w'];exact h1,h2,by simpa [a1w]using h3,h4,hrel c'⟩)
 have e2:=c9m e1.relh i k _ (by rw[f6,l6,if_pos rfl])
 refine⟨_,a2w cs (c.E i).off rows.length k,e1.trans e2,f1,f2,f4,f5,f6,?_,a1w,fun r hr=>?_,fun n r hr=>⟨(h5 n r hr).1,fun j o ho=>?_⟩⟩
 ·funext x
  show H4 c1.E (c1.E i).blk x=_
  unfold H4
  rw[f3,f4]
 ·obtain⟨n,hn⟩:=List.getElem?_of_mem hr
  exact(c2g hn).2.1
 ·obtain⟨v,hv,hro⟩:=hone n r hr j o ho
  obtain⟨lr,l1,_,l3⟩:=c2h cs (c.E i).off (k:=k) (List.getElem?_eq_some_iff.1 hr).1
  exact⟨lr,v,l1,l3 j v (by rw[<-(h5 n r hr).1];exact(List.getElem?_eq_some_iff.1 ho).1) hv,hro⟩
theorem f3d{c c1 c2:Cx}(hc:o6 c)(e1:u7 c c1)(hw1:c1.w=c.w)(hN1:c1.N=c.N)(hliv: ∀id b,c1.h id=some b-> ∃b',c.h id=some b'∧c1.E id=c.E id)(e2:u7 c1 c2){j k:Nat}{L:List (List D)}{R:List (List O)}(hj:c2.h j=some (.arr k L))(sh:Nat->Option (Nat->Nat))
 (hF: ∀y f,sh y=some f-> ∃id b,c.h id=some b∧(c.E id).blk=y)(hF1: ∀x y a f,c.E.own x=some (y,a)->sh y=some f->c1.E.own x=none)(hlen:L.length=R.length)
 (hR: ∀i r,R[i]?=some r->r.length=k∧ ∀jj o,r[jj]?=some o-> ∃lr v g a f,L[i]?=some lr∧lr[jj]?=some (.lit v)∧X8 c g a none o v∧sh g=some f∧f a=i*k+jj):
 ∃c3,u7 c c3∧A4 c2 c3∧c3.U=c2.U∧c3.h=m0 c2.h [(j,some (.nar k R []))]∧c3.w=c2.w:=by
 obtain⟨F,hFd⟩: ∃F:Nat->Option Nat,F=fun x=>match c.E.own x with|some (y,a)=>(sh y).map (fun f=>(c2.E j).off+f a)|none=>none:=⟨_,rfl⟩
 have hdom: ∀x o,F x=some o->own c x∧x<c.w.heap.size∧ ¬own c1 x∧ ¬c.N x∧c1.E.own x=none:=fun x o hx=>by
  rw[hFd]at hx
  simp only at hx
  split at hx
  case h_2=>cases hx
  rename_i y a hxa
  cases hs:sh y with
  |none=>rw[hs]at hx;cases hx
  |some f=>
   obtain⟨id,b,hid,hy⟩:=hF y f hs
   obtain⟨n1,n2⟩:=hc.nest x _ id b hxa hid hy
   have h1:=hF1 x y a f hxa hs
   refine⟨.inr ⟨_,id,b,hxa,hid,hy⟩,(hc.olow x _ hxa).1,?_,n1,h1⟩
   rintro(⟨id',b',hid',hx'⟩|⟨a',_,_,ha',_⟩)
   ·obtain⟨b2,hb2,hE⟩:=hliv id' b' hid'
    rw[hE]at hx'
    exact n2 id' b2 hb2 hx'
   ·rw[h1]at ha';cases ha'
 have hdom2: ∀x o,F x=some o->c2.E.own x=none∧c2.w.heap[x]?=c.w.heap[x]?∧ ¬c2.N x∧ ∀id b,c2.h id=some b->(c2.E id).blk≠x:=fun x o hx=>by
  obtain⟨_,hlt,hno,hn,h0⟩:=hdom x o hx
  have hlt1:x<c1.w.heap.size:=by rw[hw1];exact hlt
  refine⟨by rw[e2.ownk x hlt1 hno (fun a ha=>by rw[h0]at ha;cases ha)];exact h0,by rw[e2.keep x hlt1 hno,hw1],fun hnn=>?_,fun id b hid he=>?_⟩
  ·rcases e2.news x hnn with h|h|h
   ·rw[hN1]at h;exact hn h
   ·omega
   ·exact hno h
  ·rcases e2.owns x (.inl ⟨id,b,hid,he⟩)with h|h
   ·exact hno h
   ·omega
 let c3:Cx:=⟨c2.w,c2.N,⟨c2.E.loc,fun x=>match F x with|some o=>some ((c2.E j).blk,o)|none=>c2.E.own x⟩,c2.U,m0 c2.h [(j,some (.nar k R []))]⟩
 have hO: ∀x,c3.E.own x=match F x with|some o=>some ((c2.E j).blk,o)|none=>c2.E.own x:=fun _=>rfl
 have hOn: ∀x,F x=none->c3.E.own x=c2.E.own x:=fun x hx=>by rw[hO,hx]
 have hOs: ∀x o,F x=some o->c3.E.own x=some ((c2.E j).blk,o):=fun x o hx=>by rw[hO,hx]
 have hOx: ∀x p,c3.E.own x=some p->(∃o,F x=some o∧p=((c2.E j).blk,o))∨F x=none∧c2.E.own x=some p:=fun x p hx=>by
  cases hq:F x with
  |none=>rw[hOn x hq]at hx;exact .inr ⟨rfl,hx⟩
  |some o=>
   rw[hOs x o hq]at hx
   exact .inl ⟨o,rfl,(Option.some.inj hx).symm⟩
 have e12:=e1.trans e2
 have old: ∀id b,c3.h id=some b-> ∃b',c2.h id=some b':=fun id b hid=>by
  replace hid:m0 c2.h [(j,some (.nar k R []))] id=some b:=hid
  rw[l6]at hid
  split at hid
  ·rename_i e;rw[e];exact⟨_,hj⟩
  ·exact⟨b,hid⟩
 have st:A4 c2 c3:=⟨fun _ h=>h,fun _ _=>rfl,fun id b' _ hid=>by
  replace hid:m0 c2.h [(j,some (.nar k R []))] id=some b':=hid
  rw[l6]at hid
  split at hid
  ·rename_i e
   subst e
   obtain rfl:=Option.some.inj hid
   exact⟨_,hj,by simp[n9,k7.arrOf,hlen]⟩
  ·exact⟨b',hid,n9.refl _⟩,fun g hg=>⟨hg,rfl⟩⟩
 have lt: ∀id b',c2.h id=some b'->(c2.E id).blk<c2.w.heap.size:=fun id b' hb'=>by
  obtain⟨cs,ty,fz,h1,_⟩:=e2.relh.blk id b' hb'
  exact(Array.getElem?_eq_some_iff.1 h1).1
 refine⟨c3,⟨e12.step.trans st,⟨?_,?_,?_,?_,e2.relh.low,?_,?_⟩,e12.os,e12.tape,e12.output,e12.size,e12.keep,e12.news,?_,?_,?_⟩,st,rfl,rfl,rfl⟩
 ·intro id b hid
  replace hid:m0 c2.h [(j,some (.nar k R []))] id=some b:=hid
  rw[l6]at hid
  split at hid
  ·rename_i e
   subst e
   obtain rfl:=Option.some.inj hid
   obtain⟨cs,ty,fz,h1,h2,h3,h4,h5⟩:=e2.relh.blk id _ hj
   refine⟨cs,ty,fz,h1,h2,by rw[<-hlen];exact h3,h4,fun i r hr=>⟨(hR i r hr).1,fun jj o ho=>?_⟩⟩
   obtain⟨lr,v,g,a,f,l1,l2,l3,l4,l5⟩:=(hR i r hr).2 jj o ho
   obtain⟨v',hv',hrd⟩:=(h5 i lr l1).2 jj _ l2
   cases hrd
   refine⟨v,hv',?_⟩
   cases o with
   |d x=>exact t8.mono (e12.step.trans st).n l3
   |own k' rs=>
    obtain⟨p,p1,p2,p3⟩:=l3
    have hFp:F p.blk=some ((c2.E id).off+f a):=by rw[hFd];simp only;rw[p2];simp only;rw[l4];rfl
    refine⟨p,p1,?_,p3.mono (e12.step.trans st) (hdom2 _ _ hFp).2.1⟩
    show c3.E.own p.blk=some ((c2.E id).blk,(c2.E id).off+i*k+jj)
    rw[hOs _ _ hFp,l5,Nat.add_assoc]
  ·refine(e2.relh.blk id b hid).mono st rfl fun x o hx=>⟨?_,rfl⟩
   cases hq:F x with
   |none=>rw[hOn x hq];exact hx
   |some o'=>
    rw[(hdom2 x o' hq).1]at hx
    cases hx
 ·intro id b hid
  obtain⟨b',hb'⟩:=old id b hid
  exact e2.relh.used id b' hb'
 ·intro id id' b b' hid hid' hne
  obtain⟨b2,hb2⟩:=old id b hid
  obtain⟨b3,hb3⟩:=old id' b' hid'
  exact e2.relh.inj id id' b2 b3 hb2 hb3 hne
 ·intro id b hid
  obtain⟨b2,hb2⟩:=old id b hid
  exact e2.relh.apart id b2 hb2
 ·intro g a id b ho hid ha
  obtain⟨b2,hb2⟩:=old id b hid
  rcases hOx g a ho with⟨o,hq,_⟩|⟨_,h0⟩
  ·obtain⟨_,_,d1,d2⟩:=hdom2 g o hq
   exact⟨d1,fun id' b' hid'=>let⟨b3,hb3⟩:=old id' b' hid';d2 id' b3 hb3⟩
  ·obtain⟨n1,n2⟩:=e2.relh.nest g a id b2 h0 hb2 ha
   exact⟨n1,fun id' b' hid'=>let⟨b3,hb3⟩:=old id' b' hid';n2 id' b3 hb3⟩
 ·intro g a ho
  rcases hOx g a ho with⟨o,hq,rfl⟩|⟨_,h0⟩
  ·exact⟨Nat.lt_of_lt_of_le (hdom g o hq).2.1 e12.size,lt j _ hj⟩
  ·exact e2.relh.olow g a h0
 ·rintro g (⟨id,b,hid,hg⟩|⟨a,id,b,ho,hid,hg⟩)
  ·obtain⟨b2,hb2⟩:=old id b hid
   exact e12.owns g (.inl ⟨id,b2,hb2,hg⟩)
  ·obtain⟨b2,hb2⟩:=old id b hid
   rcases hOx g a ho with⟨o,hq,rfl⟩|⟨_,h0⟩
   ·exact .inl (hdom g o hq).1
   ·exact e12.owns g (.inr ⟨a,id,b2,h0,hb2,hg⟩)
 ·intro g hg hno hpa
  cases hq:F g with
  |none=>rw[hOn g hq];exact e12.ownk g hg hno hpa
  |some o=>exact absurd (hdom g o hq).1 hno
 ·intro g a ho
  rcases hOx g a ho with⟨o,hq,rfl⟩|⟨_,h0⟩
  ·rcases e12.owns (c2.E j).blk (.inl ⟨j,_,hj,rfl⟩)with h|h
   ·exact .inr (.inl h)
   ·exact .inr (.inr h)
  ·exact e12.ownr g a h0
end Go.Vsi
namespace Go.Vsi
theorem X8.back{c c':Cx}(hw:c'.w=c.w)(hN:c'.N=c.N)(hO: ∀x p,c'.E.own x=some p->c.E.own x=some p){g a:Nat}{o:O}{v:Value}(h:X8 c' g a none o v):X8 c g a none o v:=by
 cases o with
 |d x=>
  replace h:t8 c'.w c'.N x v:=h
  rw[hw,hN]at h
  exact h
 |own k rows=>
  obtain⟨p,p1,p2,cs,ty,fz,p3,p4,p5,p6,p7⟩:=h
  rw[hw,hN]at p7
  rw[hw]at p3
  exact⟨p,p1,hO _ _ p2,cs,ty,fz,p3,p4,p5,p6,p7⟩
section
variable{P:Program}{o:Oper}{fr:Nat->Nat}{c:Cx}{a:Act}{r:W}
theorem Z8(hc:o6 c){c1:Cx}(e1:u7 c c1)(hw1:c1.w=c.w)(hN1:c1.N=c.N)(hE1: ∀id,c1.E id=c.E id)(hU1: ∀x,c1.U x↔c.U x)(hl1: ∀id b,c1.h id=some b-> ∃b',c.h id=some b')
 (hfr: ¬c.U (fr 0)){ev:Operand->V}(hev: ∀x,r9 c (ev x) (a.eval x)){x y:Operand}{t u:TypeId}{ts:Array TypeId}{d:TypeDesc}{c0:Go.Call}(ho:o.op=.call c0)(hb:c0.callee=.builtin .append)(ha:c0.args.toList=[x,y])(ht:c0.argTypes=ts)
 (h0:ts[0]?=some t)(h1:ts[1]?=some u)(hu:P.underlying u=some d)(hd:(∃q,d=.slice q)∨d=.string){N k x5:Nat}{b0:k7}{L:List (List D)}{R:List (List O)}{bk ups:B4}
 (hA:F7 P fr c1.h t (ev x) (ev y)=some (one (.arr (fr 0) 0 N),bk++[(fr 0,some (.arr k L))]))(hix:c1.h x5=some b0)(hbk: ∀y∈bk,y.1≠x5)(sh:Nat->Option (Nat->Nat))
 (hF: ∀y f,sh y=some f-> ∃id b,c.h id=some b∧(c.E id).blk=y)(hF1: ∀x y a f,c.E.own x=some (y,a)->sh y=some f->c1.E.own x=none)(hlen:L.length=R.length)
 (hR: ∀i r,R[i]?=some r->r.length=k∧ ∀jj o,r[jj]?=some o-> ∃lr v g a f,L[i]?=some lr∧lr[jj]?=some (.lit v)∧X8 c g a none o v∧sh g=some f∧f a=i*k+jj)
 (hh:m0 (m0 (m0 (m0 c1.h bk) [(fr 0,some (.arr k L))]) [(fr 0,some (.nar k R []))]) [(x5,none)]=m0 c.h ups):u6 P o fr c a (one (.arr (fr 0) 0 N)) ups:=by
 intro K Q hK
 have hs:=a2s (o:=o) (fr:=fr) e1.relh (fun h=>hfr ((hU1 _).1 h)) (fun x=>r9.mono e1.step (hev x)) ho hb ha ht h0 h1 hu hd hA K Q
 rw[hw1]at hs
 refine hs fun v c2 e2 hh2 hU2 hr2=>?_
 replace hh2:c2.h=m0 (m0 c1.h bk) [(fr 0,some (.arr k L))]:=by rw[hh2,U1]
 obtain⟨c3,e3,st3,hU3,hh3,hw3⟩:=f3d hc e1 hw1 hN1 (fun id b hid=>let⟨b',hb'⟩:=hl1 id b hid;⟨b',hb',hE1 id⟩) e2 (j:=fr 0) (by rw[hh2,l6,if_pos rfl]) sh hF hF1 hlen hR
 have hne:x5≠fr 0:=fun e=>hfr ((hU1 _).1 (e▸e1.relh.used _ _ hix))
 have hix3:c3.h x5=some b0:=by
  rw[hh3,l6,if_neg hne,hh2,l6,if_neg hne,P5 bk _ hbk,hix]
 have e4:=c1x e3.relh x5 b0 hix3
 rw[<-hw3]
 refine hK v {c3 with h:=m0 c3.h [(x5,none)],N:=fun g=>c3.N g∨g=(c3.E x5).blk} (e3.trans e4) ?_ (fun q hq=>?_) (x7.mono (st3.trans e4.step) hr2)
 ·show m0 c3.h [(x5,none)]=_
  rw[hh3,hh2,hh]
 ·replace hq:c3.U q:=hq
  rw[hU3]at hq
  rcases hU2 q hq with h|h
  ·exact .inl ((hU1 q).1 h)
  ·exact .inr h
theorem b3x{h:Hp}{t el:TypeId}{z:List S}{id m k x5 len k2:Nat}{L1 L2:List (List D)}(hel:D6 P t=some el)(hz:zeroCells P el=some z)(hcond:(Nat.beq z.length (P.cellsOf el)&&Nat.ble ((m+L2.length)*P.bytesOf el) room&&Nat.ble (m+L2.length) room&&L2.all (fun r=>Nat.beq r.length (P.cellsOf el)))=true)
 (h1:h id=some (.arr k L1))(h2:h x5=some (.arr k2 L2))(hm:m=L1.length)(hlen:len=L2.length)(hk:k=P.cellsOf el):
 F7 P fr h t (.c (.arr id 0 m)) (.c (.arr x5 0 len))=some (one (.arr (fr 0) 0 (m+L2.length)),[(id,none)]++[(fr 0,some (.arr k (L1++L2)))]):=by
 subst hm hlen hk
 unfold F7
 simp only[hel,w8,A1,h1,h2,hz,List.drop_zero,List.take_length,hcond,List.cons_append,List.nil_append,Nat.beq_refl]
theorem c4z{h:Hp}{t el:TypeId}{z:List S}{x5 len k2:Nat}{L2:List (List D)}(hel:D6 P t=some el)(hz:zeroCells P el=some z)(hcond:(Nat.beq z.length (P.cellsOf el)&&Nat.ble ((0+L2.length)*P.bytesOf el) room&&Nat.ble (0+L2.length) room&&L2.all (fun r=>Nat.beq r.length (P.cellsOf el)))=true)
 (h2:h x5=some (.arr k2 L2))(hlen:len=L2.length)(hne:L2≠[]):
 F7 P fr h t (.c (.d (.v (.slice none 0 0)))) (.c (.arr x5 0 len))=some (one (.arr (fr 0) 0 L2.length),[]++[(fr 0,some (.arr (P.cellsOf el) L2))]):=by
 subst hlen
 unfold F7
 simp only[hel,w8,A1,h2,hz,List.drop_zero,List.take_length,hcond]
 cases L2 with
 |nil=>exact absurd rfl hne
 |cons x r=>rfl
theorem b5f{z el n m:Nat}{new:List (List O)}{L2:List (List D)}{by':Nat}(hl:L2.length=new.length)(hr: ∀r∈L2,r.length=m)(hm:new≠[]->m=el)
 (h:(Nat.beq z el&&Nat.ble ((n+new.length)*by') room&&Nat.ble (n+new.length) room)=true):
 (Nat.beq z el&&Nat.ble ((n+L2.length)*by') room&&Nat.ble (n+L2.length) room&&L2.all (fun r=>Nat.beq r.length el))=true:=by
 rw[hl,h,Bool.true_and]
 refine List.all_eq_true.2 fun r hrm=>?_
 have:new≠[]:=by
  rintro rfl
  rw[List.length_nil]at hl
  rw[List.length_eq_zero_iff.1 hl]at hrm
  simp at hrm
 rw[hr r hrm,hm this]
 simp
theorem c1d(hc:o6 c)(hfr: ¬c.U (fr 0)){ev:Operand->V}(hev: ∀x,r9 c (ev x) (a.eval x)){x y:Operand}{t u:TypeId}{ts:Array TypeId}{d:TypeDesc}{c0:Go.Call}{e:W×B4}(ho:o.op=.call c0)(hb:c0.callee=.builtin .append)(ha:c0.args.toList=[x,y])(ht:c0.argTypes=ts)
 (h0:ts[0]?=some t)(h1:ts[1]?=some u)(hu:P.underlying u=some d)(hd:(∃q,d=.slice q)∨d=.string){x5 len kk:Nat}{new:List (List O)}(hy:ev y=.c (.arr x5 0 len))(hix:c.h x5=some (.nar kk new []))
 (h:a2d P fr c.h t (ev x) x5 new len=some e):u6 P o fr c a e.1 e.2:=by
 unfold a2d at h
 split at h
 ·cases h
 rename_i el hel
 split at h
 case h_2=>cases h
 rename_i n z hn hz
 split at h
 ·cases h
 rename_i hcond
 rw[Bool.and_eq_true,Bool.and_eq_true]at hcond
 obtain⟨⟨hc1,hc2⟩,hc3⟩:=hcond
 have hlen:=Nat.eq_of_beq_eq_true hc3
 subst hlen
 have hkk: ∀i r,new[i]?=some r->kk=P.cellsOf el:=fun i r hi=>by
  obtain⟨_,_,_,_,_,_,_,h5⟩:=hc.blk x5 _ hix
  rw[<-(h5 i r hi).1]
  exact Nat.eq_of_beq_eq_true (List.all_eq_true.1 hc2 r (List.mem_of_getElem? hi))
 have hkk2:new≠[]->kk=P.cellsOf el:=fun hne=>by
  obtain⟨r,l,rfl⟩:=List.exists_cons_of_ne_nil hne
  exact hkk 0 r rfl
 have hfix:x5≠fr 0:=fun e=>hfr (e▸hc.used _ _ hix)
 split at h
 ·
  rename_i id m hbase
  split at h
  ·
   rename_i k rows hne hid
   have hne:id≠x5:=fun e=>by rw[e]at hne;simp at hne
   have hfid:id≠fr 0:=fun e=>hfr (e▸hc.used _ _ hid)
   split at h
   case h_2=>cases h
   rename_i hk
   simp only[Bool.and_eq_true]at hk
   have hk1:=Nat.eq_of_beq_eq_true hk.1
   have hk2:=Nat.eq_of_beq_eq_true hk.2
   obtain rfl:=Option.some.inj h
   have hnm:n=m:=by
    rw[hbase]at hn
    simp only[A1,hid]at hn
    exact(Option.some.inj hn).symm
   subst hnm
   obtain⟨ca,L1,ea,a1,a2,a3,a4,a5,a6,a7,a8,a9⟩:=b2z hc hid
   have hixa:ca.h x5=some (.nar kk new []):=by rw[a5,l6,if_neg hne.symm,hix]
   obtain⟨c1,L2,e1,b1,b2,b3,b4,b5,b6,b7,b8,b9⟩:=b2z ea.relh hixa
   have hid1:c1.h id=some (.arr k L1):=by rw[b5,l6,if_neg hne,a5,l6,if_pos rfl]
   have hix1:c1.h x5=some (.arr kk L2):=by rw[b5,l6,if_pos rfl]
   have hblk:(c.E x5).blk≠(c.E id).blk:=hc.inj x5 id _ _ hix hid hne.symm
   have hA:=b3x (P:=P) (fr:=fr) (len:=new.length) hel hz (b5f b7 b8 hkk2 hc1) hid1 hix1 (by rw[a7,hk2]) b7.symm hk1
   rw[b7]at hA
   rw[<-hbase,<-hy]at hA
   refine Z8 hc (ea.trans e1) (b1.trans a1) (b2.trans a2) (fun id=>(b3 id).trans (a3 id)) (fun x=>(b4 x).trans (a4 x)) (fun id' b hb'=>?_) hfr hev ho hb ha ht h0 h1 hu hd hA hix1 (by simp[hne])
    (fun y=>if y=(c.E id).blk then some (fun a=>a-(c.E id).off)else if y=(c.E x5).blk then some (fun a=>a-(c.E x5).off+rows.length*k)else none) ?_ ?_ (R:=rows++new) ?_ ?_ ?_
   ·rw[b5,l6]at hb'
    split at hb'
    ·rename_i e;rw[e];exact⟨_,hix⟩
    ·rw[a5,l6]at hb'
     split at hb'
     ·rename_i e;rw[e];exact⟨_,hid⟩
     ·exact⟨b,hb'⟩
   ·intro y f hf
    split at hf
    ·rename_i e;exact⟨id,_,hid,e.symm⟩
    ·split at hf
     ·rename_i e;exact⟨x5,_,hix,e.symm⟩
     ·cases hf
   ·intro x y a f hx hf
    rw[b6]
    split at hf
    ·rename_i e
     subst e
     have:ca.E.own x=none:=by rw[a6];exact a4h hx
     unfold H4
     rw[this]
    ·rename_i e1
     split at hf
     ·rename_i e
      subst e
      have:ca.E.own x=some ((c.E x5).blk,a):=by rw[a6];exact a8g hx e1
      rw[a3]
      exact a4h this
     ·cases hf
   ·simp[a7,b7]
   ·intro i r hi
    by_cases hlt:i<rows.length
    ·rw[List.getElem?_append_left hlt]at hi
     obtain⟨g1,g2⟩:=a9 i r hi
     refine⟨g1,fun jj o hjj=>?_⟩
     obtain⟨lr,v,l1,l2,l3⟩:=g2 jj o hjj
     refine⟨lr,v,_,_,_,by rw[List.getElem?_append_left (by omega)];exact l1,l2,l3,if_pos rfl,?_⟩
     omega
    ·rw[List.getElem?_append_right (by omega)]at hi
     have hkk:=hkk _ _ hi
     rw[<-hk1]at hkk
     subst hkk
     obtain⟨g1,g2⟩:=b9 _ r hi
     refine⟨g1,fun jj o hjj=>?_⟩
     obtain⟨lr,v,l1,l2,l3⟩:=g2 jj o hjj
     rw[a3]at l3
     refine⟨lr,v,_,_,_,by rw[List.getElem?_append_right (by omega),a7];exact l1,l2,l3.back a1 a2 (fun x p hx=>by rw[a6]at hx;exact(X3 hx).1),by rw[if_neg hblk,if_pos rfl],?_⟩
     have:i*kk=(i-rows.length)*kk+rows.length*kk:=by rw[<-Nat.add_mul];congr 1;omega
     omega
   ·rw[b5,a5]
    funext q
    simp only[l6,E6 _ _ _ (_::_)]
    by_cases q1:q=x5<;>by_cases q2:q=id<;>by_cases q3:q=fr 0<;>simp_all
  ·
   rename_i k hne hid
   have hne:id≠x5:=fun e=>by rw[e]at hne;simp at hne
   have hfid:id≠fr 0:=fun e=>hfr (e▸hc.used _ _ hid)
   split at h
   case h_2=>cases h
   rename_i hk
   simp only[Bool.and_eq_true]at hk
   have hk1:=Nat.eq_of_beq_eq_true hk.1
   have hk2:=Nat.eq_of_beq_eq_true hk.2
   obtain rfl:=Option.some.inj h
   have hnm:n=m:=by
    rw[hbase]at hn
    simp only[A1,hid]at hn
    exact(Option.some.inj hn).symm
   subst hnm
   subst hk2
   obtain⟨c1,L2,e1,b1,b2,b3,b4,b5,b6,b7,b8,b9⟩:=b2z hc hix
   have hid1:c1.h id=some (.arr k []):=by rw[b5,l6,if_neg hne,hid]
   have hix1:c1.h x5=some (.arr kk L2):=by rw[b5,l6,if_pos rfl]
   have hA:=b3x (P:=P) (fr:=fr) (len:=new.length) hel hz (b5f b7 b8 hkk2 hc1) hid1 hix1 rfl b7.symm hk1
   rw[b7,Nat.zero_add,List.nil_append]at hA
   rw[<-hbase,<-hy]at hA
   refine Z8 hc e1 b1 b2 b3 b4 (fun id' b hb'=>?_) hfr hev ho hb ha ht h0 h1 hu hd hA hix1 (by simp[hne])
    (fun y=>if y=(c.E x5).blk then some (fun a=>a-(c.E x5).off)else none) ?_ ?_ (R:=new) ?_ ?_ ?_
   ·rw[b5,l6]at hb'
    split at hb'
    ·rename_i e;rw[e];exact⟨_,hix⟩
    ·exact⟨b,hb'⟩
   ·intro y f hf
    split at hf
    ·rename_i e;exact⟨x5,_,hix,e.symm⟩
    ·cases hf
   ·intro x y a f hx hf
    rw[b6]
    split at hf
    ·rename_i e
     subst e
     exact a4h hx
    ·cases hf
   ·exact b7
   ·intro i r hi
    have hkk:=hkk _ _ hi
    rw[<-hk1]at hkk
    subst hkk
    obtain⟨g1,g2⟩:=b9 _ r hi
    refine⟨g1,fun jj o hjj=>?_⟩
    obtain⟨lr,v,l1,l2,l3⟩:=g2 jj o hjj
    refine⟨lr,v,_,_,_,l1,l2,l3,by rw[if_pos rfl],?_⟩
    omega
   ·rw[b5]
    funext q
    simp only[l6,E6 _ _ _ (_::_)]
    by_cases q1:q=x5<;>by_cases q2:q=id<;>by_cases q3:q=fr 0<;>simp_all
  ·cases h
 ·
  rename_i hbase
  split at h
  ·cases h
  rename_i r0 rs0
  obtain rfl:=Option.some.inj h
  have hn0:n=0:=by
   rw[hbase]at hn
   simp only[A1]at hn
   exact(Option.some.inj hn).symm
  subst hn0
  obtain⟨c1,L2,e1,b1,b2,b3,b4,b5,b6,b7,b8,b9⟩:=b2z hc hix
  have hix1:c1.h x5=some (.arr kk L2):=by rw[b5,l6,if_pos rfl]
  have hA:=c4z (P:=P) (fr:=fr) (len:=(r0::rs0).length) hel hz (b5f b7 b8 hkk2 hc1) hix1 b7.symm (by rintro rfl;simp at b7)
  rw[b7]at hA
  rw[<-hbase,<-hy]at hA
  refine Z8 hc e1 b1 b2 b3 b4 (fun id' b hb'=>?_) hfr hev ho hb ha ht h0 h1 hu hd hA hix1 (by simp)
   (fun y=>if y=(c.E x5).blk then some (fun a=>a-(c.E x5).off)else none) ?_ ?_ (R:=r0::rs0) ?_ ?_ ?_
  ·rw[b5,l6]at hb'
   split at hb'
   ·rename_i e;rw[e];exact⟨_,hix⟩
   ·exact⟨b,hb'⟩
  ·intro y f hf
   split at hf
   ·rename_i e;exact⟨x5,_,hix,e.symm⟩
   ·cases hf
  ·intro x y a f hx hf
   rw[b6]
   split at hf
   ·rename_i e
    subst e
    exact a4h hx
   ·cases hf
  ·exact b7
  ·intro i r hi
   have hkk:=hkk _ _ hi
   subst hkk
   obtain⟨g1,g2⟩:=b9 _ r hi
   refine⟨g1,fun jj o hjj=>?_⟩
   obtain⟨lr,v,l1,l2,l3⟩:=g2 jj o hjj
   refine⟨lr,v,_,_,_,l1,l2,l3,by rw[if_pos rfl],?_⟩
   omega
  ·rw[b5]
   funext q
   simp only[l6,E6 _ _ _ (_::_),e1s]
   by_cases q1:q=x5<;>by_cases q3:q=fr 0<;>simp_all
 ·cases h
end
end Go.Vsi
namespace Go.Vsi
section
variable{P:Program}{o:Oper}{fr:Nat->Nat}{c:Cx}{a:Act}
theorem d7k{α:Type}(l:List α)(n m:Nat):(l.take n).take m=l.take (Nat.min n m):=by
 rw[List.take_take,Nat.min_comm]
theorem c9n(hc:o6 c){ev:Operand->V}(hev: ∀x,r9 c (ev x) (a.eval x)){x y:Operand}{t:TypeId}{ts:Array TypeId}{c0:Go.Call}{e:W×B4}(ho:o.op=.call c0)(hb:c0.callee=.builtin .copy)(ha:c0.args.toList=[x,y])(ht:c0.argTypes=ts)
 (h0:ts[0]?=some t)(h:a7x P c.h t (ev x) (ev y)=some e):u6 P o fr c a e.1 e.2:=by
 have ha':c0.args= #[x,y]:=by apply Array.ext';simpa using ha
 have hex:execOp a.eval o=(do pure (.value (<-Builtin.copy_ ts o.type #[a.eval x,a.eval y]))):=S8 ho hb ha' ht fun _=>by simp[builtin]
 have hx:=hev x
 have hy:=hev y
 unfold a7x at h
 split at h
 ·cases h
 rename_i el hel
 have hu:=J1 hel
 split at h
 case h_2=>cases h
 rename_i id off len id2 off2 len2 hxa hya
 split at h
 case h_2=>cases h
 rename_i k rows k2 rows2 hid hid2
 split at h
 case h_2=>cases h
 rename_i hcond
 simp only[Bool.and_eq_true]at hcond
 obtain⟨⟨q1,q2⟩,q3⟩:=hcond
 obtain⟨i,hi⟩:=Option.isSome_iff_exists.1 q3
 have hik:P.cellsOf el=i.size:=by simp[Program.cellsOf,hi]
 have q1:=Nat.eq_of_beq_eq_true q1
 have q2:=Nat.eq_of_beq_eq_true q2
 rw[hik]at q1
 subst q1
 subst q2
 obtain rfl:=Option.some.inj h
 rw[hxa]at hx
 rw[hya]at hy
 obtain⟨_,hU,hx3⟩:=hx
 obtain⟨_,_,heq,hle,ad,cap,hv,hlc,hrm,had⟩:=hx3 _ hid
 simp only[k7.arrOf,Option.some.injEq,Prod.mk.injEq]at heq
 obtain⟨rfl,rfl⟩:=heq
 obtain⟨_,hU2,hy3⟩:=hy
 obtain⟨_,_,heq,hle2,ad2,cap2,hv2,hlc2,hrm2,had2⟩:=hy3 _ hid2
 simp only[k7.arrOf,Option.some.injEq,Prod.mk.injEq]at heq
 obtain⟨rfl,rfl⟩:=heq
 rw[d7k]
 generalize hm:Nat.min len2 len=m
 have hm1:m<=len2:=hm▸Nat.min_le_left _ _
 have hm2:m<=len:=hm▸Nat.min_le_right _ _
 have hnl:((rows2.drop off2).take m).length=m:=by simp;omega
 have hsv:r9 c (.c (.arr id2 off2 m)) (.slice ad2 m cap2):=⟨rfl,hU2,fun b hb=>by
  rw[hid2]at hb
  obtain rfl:=Option.some.inj hb
  exact⟨_,_,rfl,by omega,ad2,cap2,rfl,by omega,hrm2,had2⟩⟩
 have hk: ∀r∈(rows2.drop off2).take m,r.length=i.size:=fun r hr=>by
  obtain⟨j,hj⟩:=List.mem_iff_getElem?.1 hr
  obtain⟨cs,ty,fz,_,_,_,_,hcl⟩:=hc.blk id2 _ hid2
  rw[List.getElem?_take]at hj
  split at hj
  ·rw[List.getElem?_drop]at hj
   exact(hcl _ r hj).1
  ·cases hj
 obtain⟨news,r1,_,r3⟩:=a8b (P:=P) hc (v:=.c (.arr id2 off2 m)) (by simp only[w8,hid2]) hsv hk
 have r3:(Builtin.firstCells i.size m (.slice ad2 len2 cap2)).run P c.w=.ok news.toArray c.w:=by
  have:=r3 c.w rfl
  rw[hnl]at this
  rw[<-this]
  cases ad2<;>rfl
 obtain⟨cs,ty,fz,hcs,hfz,hrl,hsz,hcl⟩:=hc.blk id _ hid
 have hb2:((rows2.drop off2).take m).length=m:=hnl
 let q:=(c.E id).off+off*i.size
 have hfits:q+news.length<=cs.size:=by
  rw[r1.1,hnl]
  have h1:=Nat.mul_le_mul_right i.size hrm
  have h2:=Nat.mul_le_mul_right i.size (show off+m<=off+cap by omega)
  rw[Nat.add_mul]at h2
  simp only[q]
  omega
 have hstore:(storeCells ⟨(c.E id).blk,q,none⟩ news).run P c.w=.ok () (c.w.setCells (c.E id).blk q news):=by
  have:=run_storeCells_cells (P:=P) (c.E id).blk q news 0 c.w
   (fun j hj=>by rw[cell_of_row c.w _ _ cs ty fz hcs];simp;omega)
   (fun j hj=>by
     have hlt:q+0+j<cs.size:=by omega
     have:=hfz _ hlt
     simp only[World.frozen?,hcs]
     simp only[Bool.and_eq_false_iff,decide_eq_false_iff_not]
     omega)
   r1.one
  simpa using this
 obtain⟨k1,k2,k3,k4,k5,k6⟩:=W5 (c.E id).blk ty fz news q cs c.w hcs
 let b:k7:=.arr i.size (rows.take off++(rows2.drop off2).take m++rows.drop (off+m))
 let c':Cx:=⟨c.w.setCells (c.E id).blk q news,c.N,a8v c.E id (c.E id),fun x=>c.U x∨x=id,m0 (m0 c.h [(id,none)]) [(id,some b)]⟩
 have hbl:(rows.take off++(rows2.drop off2).take m++rows.drop (off+m)).length=rows.length:=by
  rw[List.length_append,List.length_append,List.length_take,List.length_drop,hnl]
  omega
 have eff:u7 c c':=a4x hc id _ hid id (.inl rfl) b (c.E id) rfl (fun _=>⟨by simp only[n9,k7.arrOf,b];rw[hbl],rfl⟩) _ k2 k3 k4 k5 k6 c' rfl fun st=>by
  refine⟨_,ty,fz,k1,by rw[A6];exact hfz,by rw[hbl];exact hrl,by rw[A6];exact hsz,fun j r hj=>?_⟩
  by_cases hj1:j<off
  ·rw[List.append_assoc,List.getElem?_append_left (by rw[List.length_take];omega),List.getElem?_take,if_pos hj1]at hj
   obtain⟨g1,g2⟩:=hcl _ r hj
   refine⟨g1,fun n d hn=>?_⟩
   obtain⟨v,hv,hr⟩:=g2 n d hn
   have hnk:n<i.size:=by rw[<-g1];exact(List.getElem?_eq_some_iff.1 hn).1
   refine⟨v,?_,t8.mono st.n hr⟩
   rw[D0,<-hv]
   left
   have:=Nat.mul_le_mul_right i.size (show j+1<=off by omega)
   rw[Nat.succ_mul]at this
   simp only[q]
   omega
  ·by_cases hj2:j<off+m
   ·rw[List.append_assoc,List.getElem?_append_right (by rw[List.length_take];omega),List.length_take,List.getElem?_append_left (by rw[hnl];omega),show min off rows.length=off by omega]at hj
    obtain⟨g1,g2⟩:=r1.get _ r hj
    refine⟨g1,fun n d hn=>?_⟩
    obtain⟨v,hv,hr⟩:=g2 n d hn
    refine⟨v,?_,t8.mono st.n hr⟩
    have hnk:n<i.size:=by rw[<-g1];exact(List.getElem?_eq_some_iff.1 hn).1
    have e1:(c.E id).off+j*i.size+n=q+((j-off)*i.size+n):=by
     have:j*i.size=(j-off)*i.size+off*i.size:=by rw[<-Nat.add_mul];congr 1;omega
     simp only[q]
     omega
    rw[e1]
    exact a1d news cs q _ v hfits (by simpa using hv)
   ·rw[List.getElem?_append_right (by rw[List.length_append,List.length_take,hnl];omega),List.length_append,List.length_take,hnl,List.getElem?_drop,show off+m+(j-(min off rows.length+m))=j by omega]at hj
    obtain⟨g1,g2⟩:=hcl _ r hj
    refine⟨g1,fun n d hn=>?_⟩
    obtain⟨v,hv,hr⟩:=g2 n d hn
    refine⟨v,?_,t8.mono st.n hr⟩
    rw[D0,<-hv]
    right
    have:=Nat.mul_le_mul_right i.size (show off+m<=j by omega)
    rw[Nat.add_mul]at this
    rw[r1.1,hnl]
    simp only[q]
    omega
 have hup:c'.h=m0 c.h [(id,some b)]:=by
  show m0 (m0 c.h [(id,none)]) [(id,some b)]=_
  exact b5d c.h id none (some b) []
 have hex2:(Builtin.copy_ ts o.type #[a.eval x,a.eval y]).run P c.w=.ok (goInt m) c'.w:=by
  rw[hv,hv2]
  by_cases hcap:cap=0
  ·
   have hm0:m=0:=by omega
   subst hm0
   have hn0:news=[]:=by
    have:=r1.1
    rw[hnl,Nat.zero_mul]at this
    exact List.length_eq_zero_iff.1 this
   subst hn0
   have:c'.w=c.w:=rfl
   rw[this]
   cases ad with
   |none=>simp[Builtin.copy_,h0,run_underlying hu,Builtin.lenOf,sizeOf,typeInfo,hi,hm,r3]
   |some ad=>simp[Builtin.copy_,h0,run_underlying hu,Builtin.lenOf,sizeOf,typeInfo,hi,hm,r3,storeCells]
  ·obtain rfl:=had.resolve_left hcap
   simp[Builtin.copy_,h0,run_underlying hu,Builtin.lenOf,sizeOf,typeInfo,hi,hm,r3]
   rw[show(c.E id).off+off*i.size=q from rfl,hstore]
   rfl
 intro K Q hK
 refine b0o hex hex2 (hK _ c' eff ?_ (fun x hx=>hx.elim .inl fun e=>.inl (e▸hU)) ?_)
 ·rw[hup,hnl]
 ·rw[hnl]
  exact .v rfl
end
end Go.Vsi
namespace Go.Vsi
def a0a(P:Program):Prop:= ∀(f:FuncId)(fn:Func),P.funcs[f]?=some fn->(fn.name== "runtime.NumGoroutine")=false
theorem d2m{c:Cx}{w:W}{v:Value}(h:x7 c w v):r9 c (n5 w) v:=by
 cases w with
 |one v=>exact h
 |tup l=>trivial
section
variable{P:Program}{o:Oper}{fr:Nat->Nat}{c:Cx}{a:Act}{r:W}{up:B4}
theorem P7{w:Option W}(h:U0 w=some (r,up)):w=some r∧up=[]:=by
 unfold U0 at h
 split at h
 ·obtain⟨rfl,rfl⟩:=Prod.mk.inj (Option.some.inj h)
  exact⟨rfl,rfl⟩
 ·cases h
theorem c2j{g:FuncId}(h:a6a P g=true): ∃fn body,P.funcs[g]?=some fn∧fn.body=some body:=by
 unfold a6a at h
 split at h
 ·rename_i fn hf
  obtain⟨body,hb⟩:=Option.isSome_iff_exists.1 h
  exact⟨fn,body,hf,hb⟩
 ·cases h
theorem b9t{lend:FuncId->Bool}{call:Call}{ev:Operand->W}(hcall:J8 P call)(hname:a0a P)(hc:o6 c)
 (hfr: ∀k,k<64-> ¬c.U (fr k))(hinj: ∀k k',k<64->k'<64->fr k=fr k'->k=k')(hev: ∀x,x7 c (ev x) (a.eval x))(h:B8 P lend call fr ev c.h o.op=some (r,up)):u6 P o fr c a r up:=by
 have hfr0:=hfr 0 (by omega)
 have he: ∀x,r9 c (n5 (ev x)) (a.eval x):=fun x=>d2m (hev x)
 unfold B8 at h
 split at h
 ·
  rename_i x ho
  obtain⟨rfl,rfl⟩:=Prod.mk.inj (Option.some.inj h)
  exact b6d hc (.inl ho) (hev x)
 ·
  rename_i x ho
  obtain⟨rfl,rfl⟩:=Prod.mk.inj (Option.some.inj h)
  exact b6d hc (.inr ho) (hev x)
 ·
  rename_i x y z ho
  have hx:=he x
  split at h
  ·rename_i hb
   rw[hb]at hx
   obtain⟨rfl,rfl⟩:=Prod.mk.inj (Option.some.inj h)
   exact b6e hc ho (A2 (c:=c) (s:=.c (.d (.v (.bool true)))) rfl hx) (hev y)
  ·rename_i hb
   rw[hb]at hx
   obtain⟨rfl,rfl⟩:=Prod.mk.inj (Option.some.inj h)
   exact b6e hc ho (A2 (c:=c) (s:=.c (.d (.v (.bool false)))) rfl hx) (hev z)
  ·cases h
 ·
  rename_i x i ho
  have hx:=hev x
  split at h
  ·rename_i l hl
   rw[hl]at hx
   split at h
   ·rename_i v hv
    obtain⟨rfl,rfl⟩:=Prod.mk.inj (Option.some.inj h)
    exact c1b hc ho hx hv
   ·cases h
  ·cases h
 ·
  rename_i x ho
  have hx:=he x
  split at h
  ·rename_i id rr q hq
   rw[hq]at hx
   split at h
   ·rename_i b hb
    obtain⟨rfl,rfl⟩:=Prod.mk.inj (Option.some.inj h)
    exact a3v hc ho (.inl ⟨_,hx.2.2 b hb⟩) hx
   ·cases h
  ·rename_i rr q hq
   rw[hq]at hx
   obtain⟨rfl,rfl⟩:=Prod.mk.inj (Option.some.inj h)
   obtain⟨b,q',hv,hr⟩:=hx
   exact a3v hc ho (.inl ⟨_,hv⟩) ⟨b,q',hv,hr⟩
  ·rename_i f cs hq
   rw[hq]at hx
   obtain⟨rfl,rfl⟩:=Prod.mk.inj (Option.some.inj h)
   obtain⟨cs',hv,hr⟩:=hx
   exact a3v hc ho (.inr ⟨_,_,hv⟩) ⟨cs',hv,hr⟩
  ·cases h
 ·
  rename_i op t x ho
  split at h
  ·rename_i v hv
   obtain⟨hq,rfl⟩:=P7 h
   refine U2 hc (s:=Op.unary op v) ?_ hq
   have:=A2 hv (he x)
   unfold execOp
   rw[ho,<-this]
  ·cases h
 ·
  rename_i op t x y _ ho
  split at h
  ·rename_i v u hv hu
   obtain⟨hq,rfl⟩:=P7 h
   refine U2 hc (s:=do eqGuard op t x y v u;binOp op t v u) ?_ hq
   have e1:=A2 hv (he x)
   have e2:=A2 hu (he y)
   unfold execOp
   rw[ho,<-e1,<-e2]
  ·cases h
 ·
  rename_i src dst x ho
  split at h
  ·rename_i e hs hd
   split at h
   ·cases h
   ·rename_i rows hrows hu8 hrr hns
    split at h
    ·rename_i bs hbs
     obtain⟨rfl,rfl⟩:=Prod.mk.inj (Option.some.inj h)
     exact b1u hc ho hs hd hu8 (he x) hrr (fun s hs=>hns s hs) hbs
    ·cases h
   ·cases h
  ·rename_i e s hs hd hv
   split at h
   ·rename_i hu8
    obtain⟨rfl,rfl⟩:=Prod.mk.inj (Option.some.inj h)
    have hx:=he x
    rw[hv]at hx
    exact b1v hc hfr0 ho hs hd hu8 (A2 (c:=c) (s:=.c (.d (.v (.string s)))) rfl hx)
   ·cases h
  ·cases h
  ·split at h
   ·rename_i v hv
    obtain⟨hq,rfl⟩:=P7 h
    refine U2 hc (s:=convert src dst v) ?_ hq
    have:=A2 hv (he x)
    unfold execOp
    rw[ho,<-this]
   ·cases h
 ·
  rename_i t x y ho
  split at h
  ·rename_i v u hv hu
   obtain⟨hq,rfl⟩:=P7 h
   refine U2 hc (s:=Instr.index t v u) ?_ hq
   have e1:=A2 hv (he x)
   have e2:=A2 hu (he y)
   unfold execOp
   rw[ho,<-e1,<-e2]
  ·cases h
 ·
  rename_i t x i ho
  have hx:=he x
  split at h
  ·rename_i l fs hl hu
   rw[hl]at hx
   split at h
   ·rename_i f hf
    split at h
    ·rename_i v hp
     obtain⟨rfl,rfl⟩:=Prod.mk.inj (Option.some.inj h)
     exact c4t hc ho hx hu hf hp
    ·cases h
   ·cases h
  ·cases h
 ·
  rename_i t ho
  split at h
  ·rename_i z hz
   obtain⟨rfl,rfl⟩:=Prod.mk.inj (Option.some.inj h)
   exact c4u hc hfr0 ho hz
  ·cases h
 ·
  rename_i t x ho
  split at h
  ·cases h
  ·rename_i v hj
   obtain⟨rfl,rfl⟩:=Prod.mk.inj (Option.some.inj h)
   exact d2g hc hfr0 ho (he x) hj
 ·
  rename_i t parts ho
  split at h
  ·rename_i fs z hu hz
   split at h
   ·cases h
   ·rename_i hfs
    split at h
    ·rename_i l hf
     obtain⟨rfl,rfl⟩:=Prod.mk.inj (Option.some.inj h)
     exact c4w hc hev ho hu hz hfs hf
    ·cases h
  ·cases h
 ·
  rename_i t n parts ho
  split at h
  ·cases h
  ·rename_i e hel
   simp only at h
   split at h
   ·cases h
   ·rename_i z hz
    split at h
    ·cases h
    ·rename_i hcond
     simp only[Bool.and_eq_true]at hcond
     split at h
     ·rename_i l hf
      split at h
      ·split at h
       ·rename_i rows kills hrows
        obtain⟨rfl,rfl⟩:=Prod.mk.inj (Option.some.inj h)
        exact b5a hc hfr0 hev ho (J1 hel) rfl hz (Nat.eq_of_beq_eq_true hcond.1) (Nat.le_of_ble_eq_true hcond.2) hf hrows
       ·cases h
      ·split at h
       ·rename_i rows kills hrows
        split at h
        ·rename_i hnd
         obtain⟨rfl,rfl⟩:=Prod.mk.inj (Option.some.inj h)
         exact b3q hc hfr0 hev ho (J1 hel) rfl hz (Nat.eq_of_beq_eq_true hcond.1) (Nat.le_of_ble_eq_true hcond.2) hf hrows (a8e hnd)
        ·cases h
       ·cases h
     ·cases h
 ·
  rename_i t x y ho
  split at h
  ·rename_i e n m hel hn hm
   split at h
   ·rename_i z hz hcond
    simp only[Bool.and_eq_true,decide_eq_true_eq]at hcond
    split at h
    ·rename_i row hk hrow
     obtain⟨rfl,rfl⟩:=Prod.mk.inj (Option.some.inj h)
     exact b6i hc hfr0 ho hel (he x) hn (he y) hm hz hcond.1.1.1 hcond.1.1.2 hcond.1.2 hcond.2 (Nat.eq_of_beq_eq_true hk) hrow
    ·cases h
   ·cases h
  ·cases h
 ·
  rename_i t x ho
  have hx:=he x
  split at h
  ·rename_i id row off hq
   rw[hq]at hx
   split at h
   ·rename_i cells hid
    split at h
    ·split at h
     ·rename_i v hp
      obtain⟨rfl,rfl⟩:=Prod.mk.inj (Option.some.inj h)
      obtain⟨cs,ty,fz,h1,_,_,hcell⟩:=hc.blk id _ hid
      refine a5m hc ho (b:=(c.E id).blk) (q:=(c.E id).off) (by rw[hx.2.2 _ hid];simp) hp fun j s hj=>?_
      obtain⟨u,hu,hr⟩:=hcell j s hj
      exact⟨u,by rw[cell_of_row c.w _ _ cs ty fz h1];exact hu,hr⟩
     ·cases h
    ·cases h
   ·rename_i k rows hid
    split at h
    ·rename_i rr hrr
     split at h
     ·rename_i v hp
      obtain⟨rfl,rfl⟩:=Prod.mk.inj (Option.some.inj h)
      obtain⟨cs,ty,fz,h1,_,_,_,hcell⟩:=hc.blk id _ hid
      refine a5m hc ho (b:=(c.E id).blk) (q:=(c.E id).off+row*k) (by rw[hx.2.2 _ hid];rfl) hp fun j s hj=>?_
      rw[List.getElem?_map]at hj
      cases hd:rr[j]? with
      |none=>simp[hd]at hj
      |some d=>
       simp only[hd,Option.map_some,Option.some.injEq]at hj
       subst hj
       obtain⟨u,hu,hr⟩:=(hcell row rr hrr).2 j d hd
       exact⟨u,by rw[cell_of_row c.w _ _ cs ty fz h1];exact hu,hr⟩
     ·cases h
    ·cases h
   ·rename_i k rows outs hid
    split at h
    ·rename_i rr hrr
     split at h
     ·rename_i l hl
      split at h
      ·rename_i v hp
       obtain⟨rfl,rfl⟩:=Prod.mk.inj (Option.some.inj h)
       exact b8e hc ho hx hid hrr hl hp
      ·cases h
     ·cases h
    ·cases h
   ·cases h
  ·rename_i rr off hq
   rw[hq]at hx
   split at h
   ·rename_i v hp
    obtain⟨rfl,rfl⟩:=Prod.mk.inj (Option.some.inj h)
    obtain⟨b,q,hv,hN,hcell⟩:=hx
    refine a5m hc ho hv hp fun j s hj=>?_
    rw[List.getElem?_map]at hj
    cases hd:rr[j]? with
    |none=>simp[hd]at hj
    |some d=>
     simp only[hd,Option.map_some,Option.some.injEq]at hj
     subst hj
     exact hcell j d hd
   ·cases h
  ·cases h
 ·
  rename_i t x y ho
  have hx:=he x
  split at h
  ·cases h
  ·rename_i id row off v hq hj
   rw[hq]at hx
   simp only at h
   split at h
   ·cases h
   ·rename_i hsz
    split at hsz
    ·rename_i i hi
     have hl:=Nat.eq_of_beq_eq_true hsz
     split at h
     ·rename_i cells hid
      split at h
      ·rename_i hle
       obtain⟨rfl,rfl⟩:=Prod.mk.inj (Option.some.inj h)
       exact b6g hc ho hx (he y) hj hi hl hid (Nat.le_of_ble_eq_true hle)
      ·cases h
     ·rename_i k rows hid
      split at h
      ·split at h
       ·rename_i rr ds kills hrr hds
        split at h
        ·rename_i hcond
         simp only[Bool.and_eq_true,Bool.not_eq_true']at hcond
         obtain⟨rfl,rfl⟩:=Prod.mk.inj (Option.some.inj h)
         refine b6h hc ho hx (he y) hj hi hl hid hrr (Nat.le_of_ble_eq_true hcond.1) hds fun u hu e=>?_
         have:=List.any_eq_false.1 hcond.2 u hu
         rw[e]at this
         exact this (by simp)
        ·cases h
       ·cases h
      ·split at h
       ·rename_i rr ds kills hrr hds
        split at h
        ·rename_i hcond
         simp only[Bool.and_eq_true,Bool.not_eq_true']at hcond
         obtain⟨rfl,rfl⟩:=Prod.mk.inj (Option.some.inj h)
         refine b5e hc ho hx (he y) hj hi hl hid hrr (Nat.le_of_ble_eq_true hcond.1.1) hds (a8e hcond.2) fun u hu e=>?_
         have:=List.any_eq_false.1 hcond.1.2 u hu
         rw[e]at this
         exact this (by simp)
        ·cases h
       ·cases h
     ·rename_i k rows hid
      split at h
      ·rename_i rr ds kills hrr hds
       split at h
       ·rename_i hcond
        simp only[Bool.and_eq_true,Bool.not_eq_true']at hcond
        obtain⟨rfl,rfl⟩:=Prod.mk.inj (Option.some.inj h)
        refine a8f hc ho hx (he y) hj hi hl hid hrr (Nat.le_of_ble_eq_true hcond.1.1) hds (a8e hcond.2) fun u hu e=>?_
        have:=List.any_eq_false.1 hcond.1.2 u hu
        rw[e]at this
        exact this (by simp)
       ·cases h
      ·cases h
     ·cases h
     ·cases h
    ·cases hsz
  ·cases h
 ·
  rename_i t x i ho
  have hx:=he x
  split at h
  ·rename_i fs hu
   split at h
   ·rename_i f hf
    split at h
    ·rename_i id rr q h1 hq
     rw[hq]at hx
     split at h
     ·rename_i b hid
      obtain⟨rfl,rfl⟩:=Prod.mk.inj (Option.some.inj h)
      obtain⟨g1,g2,g3⟩:=hx
      refine a7z hc ho hu hf (Nat.le_of_ble_eq_true h1) (g3 b hid) ⟨rfl,g2,fun b' hb'=>?_⟩
      rw[hid]at hb'
      obtain rfl:=Option.some.inj hb'
      rw[Nat.add_assoc]
     ·cases h
    ·rename_i rr q h1 hq
     rw[hq]at hx
     obtain⟨rfl,rfl⟩:=Prod.mk.inj (Option.some.inj h)
     obtain⟨b,q',hv,hN,hcell⟩:=hx
     exact a7z hc ho hu hf (Nat.le_of_ble_eq_true h1) hv ⟨b,q',by rw[Nat.add_assoc],hN,hcell⟩
    ·cases h
   ·cases h
  ·cases h
 ·
  rename_i t x y ho
  have hx:=he x
  split at h
  ·rename_i e n hel hn
   obtain⟨k0,hy⟩:=a9i hn (he y)
   split at h
   ·cases h
   ·rename_i i hi
    split at h
    ·rename_i id off len hq
     rw[hq]at hx
     split at h
     ·rename_i k rows hcond hid
      simp only[Bool.and_eq_true,decide_eq_true_eq]at hcond
      split at h
      ·rename_i hk
       have hk:=Nat.eq_of_beq_eq_true hk
       obtain⟨rfl,rfl⟩:=Prod.mk.inj (Option.some.inj h)
       obtain⟨_,hU,hx3⟩:=hx
       obtain⟨_,_,heq,hle,ad,cap,hv,hlc,hrm,had⟩:=hx3 _ hid
       simp only[k7.arrOf,Option.some.injEq,Prod.mk.injEq]at heq
       obtain⟨rfl,rfl⟩:=heq
       have hcap: ¬cap=0:=by omega
       obtain rfl:=had.resolve_left hcap
       refine a2p hc ho (J1 hel) ⟨i,hi⟩ hv hy hcond.1 hcond.2 ⟨rfl,hU,fun b hb=>?_⟩
       rw[hid]at hb
       obtain rfl:=Option.some.inj hb
       simp only[k7.stride,<-hk,Nat.add_mul]
       congr 3
       omega
      ·cases h
     ·rename_i k rows outs hcond hid
      simp only[Bool.and_eq_true,decide_eq_true_eq]at hcond
      split at h
      ·rename_i hk
       have hk:=Nat.eq_of_beq_eq_true hk
       obtain⟨rfl,rfl⟩:=Prod.mk.inj (Option.some.inj h)
       obtain⟨_,hU,hx3⟩:=hx
       obtain⟨_,_,heq,hle,ad,cap,hv,hlc,hrm,had⟩:=hx3 _ hid
       simp only[k7.arrOf,Option.some.injEq,Prod.mk.injEq]at heq
       obtain⟨rfl,rfl⟩:=heq
       have hcap: ¬cap=0:=by omega
       obtain rfl:=had.resolve_left hcap
       refine a2p hc ho (J1 hel) ⟨i,hi⟩ hv hy hcond.1 hcond.2 ⟨rfl,hU,fun b hb=>?_⟩
       rw[hid]at hb
       obtain rfl:=Option.some.inj hb
       simp only[k7.stride,<-hk,Nat.add_mul]
       congr 3
       omega
      ·cases h
     ·cases h
    ·rename_i k rows hq
     rw[hq]at hx
     split at h
     ·rename_i rr h0 hrr hk
      have hk:=Nat.eq_of_beq_eq_true hk
      have h0:=of_decide_eq_true h0
      obtain⟨rfl,rfl⟩:=Prod.mk.inj (Option.some.inj h)
      have hx':t8 c.w c.N (.sl k rows) (a.eval x):=hx
      generalize hvx:a.eval x=vx at hx'
      cases hx' with
      |nil=>simp at hrr
      | @sl _ _ b q cp val hlc hN hcell hval=>
        have hlt:n.toNat<rows.length:=(List.getElem?_eq_some_iff.1 hrr).1
        refine a2p hc ho (J1 hel) ⟨i,hi⟩ hvx hy h0 (by omega) ⟨b,q+n.toNat*P.cellsOf e,rfl,hN,fun j d hj=>?_⟩
        obtain⟨g1,g2⟩:=hcell _ _ hrr
        have hjk:j<k:=by rw[<-g1];exact(List.getElem?_eq_some_iff.1 hj).1
        exact⟨_,by rw[<-hk];exact g2 j hjk,hval _ _ j d hrr hj⟩
     ·cases h
    ·cases h
  ·cases h
 ·
  rename_i t x lo hi ho
  obtain⟨hq,rfl⟩:=P7 h
  exact c4x hc he ho hq
 ·
  rename_i f first cap ho
  split at h
  ·rename_i ids hf hids
   obtain⟨rfl,rfl⟩:=Prod.mk.inj (Option.some.inj h)
   have:first= #[]:=by apply Array.ext';simpa using hf
   subst this
   exact b8c hc he ho hids
  ·cases h
 ·
  rename_i b args ts ho
  split at h
  ·
   rename_i x hargs
   obtain⟨y,hy,rfl⟩: ∃y,args.toList=[y]∧n5 (ev y)=x:=by
    cases hl:args.toList with
    |nil=>simp[hl]at hargs
    |cons y r=>cases r with
     |nil=>simp[hl]at hargs;exact⟨y,rfl,hargs⟩
     |cons=>simp[hl]at hargs
   split at h
   ·rename_i n hn
    split at h
    ·rename_i e hel
     obtain⟨rfl,rfl⟩:=Prod.mk.inj (Option.some.inj h)
     cases h0:ts[0]? with
     |none=>simp[h0]at hel
     |some t=>
      simp only[h0,Option.bind_some]at hel
      exact d2h hc ho rfl hy rfl h0 hel (he y) hn
    ·cases h
   ·split at h
    ·rename_i v hv
     obtain⟨hq,rfl⟩:=P7 h
     have e1:=A2 hv (he y)
     have ha':args= #[y]:=by apply Array.ext';simpa using hy
     refine U2 hc (s:=Builtin.len_ ts o.type #[a.eval y]) (S8 ho rfl ha' rfl fun _=>by simp[builtin]) ?_
     rw[e1]
     exact hq
    ·cases h
  ·
   rename_i x y hargs
   obtain⟨x',y',hxy,rfl,rfl⟩: ∃x' y',args.toList=[x',y']∧n5 (ev x')=x∧n5 (ev y')=y:=by
    cases hl:args.toList with
    |nil=>simp[hl]at hargs
    |cons p r=>cases r with
     |nil=>simp[hl]at hargs
     |cons q r=>cases r with
      |nil=>simp[hl]at hargs;exact⟨p,q,rfl,hargs.1,hargs.2⟩
      |cons=>simp[hl]at hargs
   split at h
   ·rename_i t u h0 h1
    split at h
    ·rename_i q hu
     split at h
     ·rename_i x5 len hy
      split at h
      ·rename_i kk new hix
       exact c1d hc hfr0 he ho rfl hxy rfl h0 h1 hu (.inl ⟨_,rfl⟩) hy hix h
      ·exact a2s hc hfr0 he ho rfl hxy rfl h0 h1 hu (.inl ⟨_,rfl⟩) h
     ·exact a2s hc hfr0 he ho rfl hxy rfl h0 h1 hu (.inl ⟨_,rfl⟩) h
    ·rename_i hu
     exact a2s hc hfr0 he ho rfl hxy rfl h0 h1 hu (.inr rfl) h
    ·cases h
   ·cases h
  ·
   rename_i x y hargs
   obtain⟨x',y',hxy,rfl,rfl⟩: ∃x' y',args.toList=[x',y']∧n5 (ev x')=x∧n5 (ev y')=y:=by
    cases hl:args.toList with
    |nil=>simp[hl]at hargs
    |cons p r=>cases r with
     |nil=>simp[hl]at hargs
     |cons q r=>cases r with
      |nil=>simp[hl]at hargs;exact⟨p,q,rfl,hargs.1,hargs.2⟩
      |cons=>simp[hl]at hargs
   split at h
   ·rename_i t h0
    exact c9n hc he ho rfl hxy rfl h0 h
   ·cases h
  ·
   rename_i x y hargs
   obtain⟨x',y',hxy,rfl,rfl⟩: ∃x' y',args.toList=[x',y']∧n5 (ev x')=x∧n5 (ev y')=y:=by
    cases hl:args.toList with
    |nil=>simp[hl]at hargs
    |cons p r=>cases r with
     |nil=>simp[hl]at hargs
     |cons q r=>cases r with
      |nil=>simp[hl]at hargs;exact⟨p,q,rfl,hargs.1,hargs.2⟩
      |cons=>simp[hl]at hargs
   split at h
   ·rename_i v u hv hu
    obtain⟨hq,rfl⟩:=P7 h
    have e1:=A2 hv (he x')
    have e2:=A2 hu (he y')
    have ha':args= #[x',y']:=by apply Array.ext';simpa using hxy
    refine U2 hc (s:=Builtin.min_ ts o.type #[a.eval x',a.eval y']) (S8 ho rfl ha' rfl fun _=>by simp[builtin]) ?_
    rw[e1,e2]
    exact hq
   ·cases h
  ·
   rename_i x y hargs
   obtain⟨x',y',hxy,rfl,rfl⟩: ∃x' y',args.toList=[x',y']∧n5 (ev x')=x∧n5 (ev y')=y:=by
    cases hl:args.toList with
    |nil=>simp[hl]at hargs
    |cons p r=>cases r with
     |nil=>simp[hl]at hargs
     |cons q r=>cases r with
      |nil=>simp[hl]at hargs;exact⟨p,q,rfl,hargs.1,hargs.2⟩
      |cons=>simp[hl]at hargs
   split at h
   ·rename_i v u hv hu
    obtain⟨hq,rfl⟩:=P7 h
    have e1:=A2 hv (he x')
    have e2:=A2 hu (he y')
    have ha':args= #[x',y']:=by apply Array.ext';simpa using hxy
    refine U2 hc (s:=Builtin.max_ ts o.type #[a.eval x',a.eval y']) (S8 ho rfl ha' rfl fun _=>by simp[builtin]) ?_
    rw[e1,e2]
    exact hq
   ·cases h
  ·cases h
 ·
  rename_i f args ats ho
  have hf:=he f
  split at h
  ·rename_i g caps hq
   rw[hq]at hf
   split at h
   ·rename_i hbody hall
    obtain⟨fn,body,hg,hb⟩:=c2j hbody
    ·skip
     obtain⟨cs,hv,hcs,hcap⟩:=hf
     have hcaps: ∀i id,caps[i]?=some id-> ∃b,c.h id=some b:=fun i id hi=>by
      have:=List.all_eq_true.1 hall id (List.mem_of_getElem? hi)
      exact Option.isSome_iff_exists.1 this
     refine e1v (hname g fn hg) ho rfl hv hg hb ?_
     refine c4y hcall hc hfr hinj h (by simp[hcs]) fun j v hj=>?_
     by_cases hlt:j<args.size
     ·rw[List.getElem?_append_left (by simpa using hlt),List.getElem?_map]at hj
      have hx:args.toList[j]?=some args[j]:=by simp[hlt]
      rw[hx]at hj
      simp only[Option.map_some,Option.some.injEq]at hj
      subst hj
      exact⟨a.eval args[j],by rw[Nat.zero_add,Array.getElem?_append_left (by simpa using hlt)];simp[hlt],he _⟩
     ·rw[List.getElem?_append_right (by simpa using hlt),List.getElem?_map]at hj
      simp only[List.length_map,Array.length_toList]at hj
      cases hi:caps[j-args.size]? with
      |none=>simp[hi]at hj
      |some id=>
       simp only[hi,Option.map_some,Option.some.injEq]at hj
       subst hj
       obtain⟨hu,x,hx,ho1,hb1⟩:=hcap _ id hi
       refine⟨x,by simp only[Nat.zero_add];rw[Array.getElem?_append_right (by simpa using hlt)];simpa using hx,ho1,hu,fun b hb'=>?_⟩
       rw[hb1 b hb']
       simp
   ·cases h
  ·cases h
 ·cases h
end
end Go.Vsi
namespace Go.Vsi
structure M7(c0 c:Cx)(st:St)(a:Act):Prop where
 h:c.h=st.h
 u: ∀id,c.U id->id<st.next
 tm:O3 c st.tm a.tmps
 eff:u7 c0 c
 io: ∀id,c0.U id↔id<st.io
 defers:a.defers=[]
theorem a5p(a:Act)(d:Option Tmp)(v:Value):(a.put d v).defers=a.defers:=by cases d<;>rfl
theorem O3.put{c:Cx}{tm:List W}{a:Act}{w:W}{v:Value}(h:O3 c tm a.tmps)(hw:x7 c w v)(d:Option Tmp):O3 c (C9 tm d w) (a.put d v).tmps:=by
 cases d with
 |none=>exact h
 |some d=>
  refine⟨by simp[C9,Act.put,h.1],fun j s hj=>?_⟩
  simp only[C9,List.getElem?_set]at hj
  simp only[Act.put,Nat.zero_add,Array.getElem?_setIfInBounds]
  split at hj
  ·rename_i hd
   split at hj
   ·rename_i hlt
    obtain rfl:=Option.some.inj hj
    refine⟨v,?_,hw⟩
    rw[if_pos hd,if_pos (by rw[h.1];exact hlt)]
   ·cases hj
  ·rename_i hd
   rw[if_neg hd]
   obtain⟨u,hu,hr⟩:=h.2 j s hj
   exact⟨u,by rw[<-hu,Nat.zero_add],hr⟩
theorem b6s(c:Cx):x7 c (.tup []) undef:=⟨#[],rfl,rfl,fun j s h=>by simp at h⟩
theorem a8h{c:Cx}{ops:Array Oper}{tm:List W}{a:Act}{o:Oper}{b:Bool}(h:O3 c tm a.tmps)(hw:G7 ops.toList tm o=some b):Region.wanted o (yielded ops a.tmps)=b:=by
 unfold G7 at hw
 unfold Region.wanted
 split at hw
 ·rename_i hg
  obtain rfl:=Option.some.inj hw
  rw[hg]
 ·rename_i j want hg
  rw[hg]
  split at hw
  ·cases hw
  ·rename_i d hd
   split at hw
   ·rename_i bb hb
    obtain rfl:=Option.some.inj hw
    obtain⟨v,hv,hr⟩:=h.2 d _ hb
    rw[Nat.zero_add]at hv
    have hx:=A2 (c:=c) (s:=.c (.d (.v (.bool bb)))) (v:=v) rfl hr
    subst hx
    have hy:yielded ops a.tmps j=some bb:=by
     have hd':(ops[j]?).bind (·.dst)=some d:=by simpa using hd
     unfold yielded
     rw[hd']
     simp[hv]
    simp only[hy]
    cases bb<;>cases want<;>rfl
   ·rename_i hb
    obtain rfl:=Option.some.inj hw
    obtain⟨v,hv,hr⟩:=h.2 d _ hb
    rw[Nat.zero_add]at hv
    obtain⟨vs,rfl,_⟩:=hr
    have hy:yielded ops a.tmps j=none:=by
     have hd':(ops[j]?).bind (·.dst)=some d:=by simpa using hd
     unfold yielded
     rw[hd']
     simp[hv]
    simp only[hy]
    rfl
   ·cases hw
theorem b9u{n0 n i:Nat}(hn:i<n)(k k':Nat)(_:k<64)(_:k'<64)(h:n0+i+n*k=n0+i+n*k'):k=k':=by
 have:n*k=n*k':=by omega
 exact Nat.eq_of_mul_eq_mul_left (by omega) this
theorem b3y{n0 n i i' k k':Nat}(hi:i<n)(hi':i'<n)(h:n0+i+n*k=n0+i'+n*k'):i=i':=by
 have h1:i+n*k=i'+n*k':=by omega
 have h2:(i+n*k)%n=i:=by rw[Nat.add_mul_mod_self_left,Nat.mod_eq_of_lt hi]
 have h3:(i'+n*k')%n=i':=by rw[Nat.add_mul_mod_self_left,Nat.mod_eq_of_lt hi']
 rw[<-h2,h1,h3]
theorem c2k{n0 n i k:Nat}(hi:i<n)(hk:k<64):n0+i+n*k<n0+n*64:=by
 have:n*k<=n*63:=Nat.mul_le_mul_left n (by omega)
 omega
section
variable{P:Program}
def Names(c:Cx)(n0 n:Nat)(X:Nat->Prop):Prop:= ∀id,c.U id->id<n0∨ ∃i k,X i∧i<n∧k<64∧id=n0+i+n*k
theorem b1x{lend:FuncId->Bool}{call:Call}(hcall:J8 P call)(hname:a0a P){ops:Array Oper}{n0:Nat}{c0:Cx}{Q:Exit->Act->World->Prop}{tm':List W}{h':Hp}:
 ∀(rest:List Oper)(i:Nat)(tm:List W)(h:Hp)(a:Act)(c:Cx),ops.toList.drop i=rest->E5 P lend call ops.toList n0 i rest tm h=some (tm',h')->O3 c tm a.tmps->c.h=h->u7 c0 c->a.defers=[]->Names c n0 ops.size (· <i)->
  (∀a' c',O3 c' tm' a'.tmps->c'.h=h'->u7 c0 c'->a'.defers=[]->Names c' n0 ops.size (fun _=>True)->Q .normal a' c'.w)->wpOps P ops Q (List.range' i rest.length) a c.w
 |[],i,tm,h,a,c,_,hr,ht,hh,he,hd,hu,hQ=>by
  simp only[E5,Option.some.injEq,Prod.mk.injEq]at hr
  obtain⟨rfl,rfl⟩:=hr
  exact hQ a c ht hh he hd fun id hid=>(hu id hid).imp (fun h=>h) fun⟨i,k,_,h2,h3,h4⟩=>⟨i,k,trivial,h2,h3,h4⟩
 |o::rest,i,tm,h,a,c,hdrop,hr,ht,hh,he,hd,hu,hQ=>by
  have hoi:ops.toList[i]?=some o:=by
   have:=congrArg (·[0]?) hdrop
   simpa [List.getElem?_drop]using this
  have ho:ops[i]?=some o:=by simpa using hoi
  have hi:i<ops.size:=(Array.getElem?_eq_some_iff.1 ho).1
  have hdrop':ops.toList.drop (i+1)=rest:=by
   have:=congrArg (List.drop 1) hdrop
   simpa [List.drop_drop,Nat.add_comm]using this
  have hlen:ops.toList.length=ops.size:=by simp
  simp only[E5]at hr
  split at hr
  case h_2=>cases hr
  rename_i tm1 h1 hstep
  simp only[List.length_cons,List.range'_succ,wpOps,ho]
  unfold a5j at hstep
  split at hstep
  ·cases hstep
  ·
   rename_i hw
   obtain⟨rfl,rfl⟩:=Prod.mk.inj (Option.some.inj hstep)
   rw[a8h ht hw]
   simp only[Bool.false_eq_true,if_false]
   refine b1x hcall hname rest (i+1) _ _ _ c hdrop' hr (ht.put (b6s c) o.dst) hh he (by rw[a5p];exact hd) (fun id hid=>(hu id hid).imp (fun h=>h) fun⟨i',k,h1,h2,h3,h4⟩=>⟨i',k,by omega,h2,h3,h4⟩) hQ
  ·
   rename_i hw
   split at hstep
   case h_2=>cases hstep
   rename_i w up hop
   obtain⟨rfl,rfl⟩:=Prod.mk.inj (Option.some.inj hstep)
   rw[a8h ht hw]
   simp only[if_true]
   left
   subst hh
   have hfresh: ∀k,k<64-> ¬c.U (n0+i+ops.size*k):=fun k hk hU=>by
    rcases hu _ hU with h|⟨i',k',h1,h2,h3,h4⟩
    ·omega
    ·have:=b3y hi h2 h4
     omega
   rw[hlen]at hop
   have hs:=b9t (fr:=fun k=>n0+i+ops.size*k) hcall hname he.relh hfresh (b9u hi) (fun x=>a9f ht x) hop
   refine hs _ _ fun v c' e eh eu ev=>?_
   refine b1x hcall hname rest (i+1) _ _ _ c' hdrop' hr ((ht.mono e.step).put ev o.dst) eh (he.trans e) (by rw[a5p];exact hd) (fun id hid=>?_) hQ
   rcases eu id hid with h|⟨k,hk,rfl⟩
   ·exact(hu id h).imp (fun h=>h) fun⟨i',k,h1,h2,h3,h4⟩=>⟨i',k,by omega,h2,h3,h4⟩
   ·exact .inr ⟨i,k,by omega,hi,hk,rfl⟩
theorem d7l{lend:FuncId->Bool}{call:Call}(hcall:J8 P call)(hname:a0a P){ops:Array Oper}{id:Nat}{c0 c:Cx}{st:St}{a:Act}{Q:Exit->Act->World->Prop}{tm':List W}{h':Hp}(hst:M7 c0 c st a)
 (hr:E5 P lend call ops.toList st.next 0 ops.toList st.tm st.h=some (tm',h'))(hQ: ∀c' a',M7 c0 c' {st with tm:=tm',h:=h',next:=st.next+ops.toList.length*64} a'->Q .normal a' c'.w):(Code.region id ops false).wp P Q a c.w:=by
 refine wp_region ?_
 have:=b1x (Q:=Q) (c0:=c0) hcall hname ops.toList 0 st.tm st.h a c (by simp) hr hst.tm hst.h hst.eff hst.defers (fun id hid=>.inl (hst.u id hid)) fun a' c' ht hh he hd hu=>hQ c' a' ⟨hh,fun id hid=>?_,ht,he,hst.io,hd⟩
 ·simpa [List.range_eq_range']using this
 ·simp only[Array.length_toList]
  rcases hu id hid with h|⟨i,k,_,hi,hk,rfl⟩
  ·omega
  ·exact c2k hi hk
def c9o(c:Cx)(F:List Nat)(id:Nat):Prop:=F.elem id=true∧ ∃k,(∃rows,c.h id=some (.arr k rows))∨ ∃rows,c.h id=some (.nar k rows [])
theorem d7m{c c':Cx}(hc:o6 c)(F:List Nat)(st:A4 c c')(hw:c'.w=c.w)(hN: ∀id,c9o c F id->c'.N (c.E id).blk∧ ∀x o,c.E.own x=some ((c.E id).blk,o)->c'.N x){s:S}{v:Value}(h:r8 c s v):r8 c' (a3t c.h F s) v:=by
 cases s with
 |arr id off len=>
  simp only[a3t]
  split
  ·rename_i k rows hel hid
   exact a9g hc (w':=c'.w) (N':=c'.N) (u:=[(id,none)]) (fun g _=>by rw[hw]) (fun g hg=>(st.n g hg).1) (s:=.arr id off len) (by simp only[toD,hid]) h fun y hy b hb=>by
    simp only[List.mem_singleton]at hy
    subst hy
    exact(hN id ⟨hel,k,.inl ⟨rows,hid⟩⟩).1
  ·rename_i k rows hel hid
   have hf:=hN id ⟨hel,k,.inr ⟨rows,hid⟩⟩
   exact b9q hc hid h st.n ⟨hf.1,by rw[hw]⟩ fun x o hx=>⟨hf.2 x o hx,by rw[hw]⟩
  ·exact r8.mono st h
 |_=>exact r8.mono st h
theorem c2l{c c':Cx}{h:Hp}{F:List Nat}(hs: ∀s v,r8 c s v->r8 c' (a3t h F s) v){s:V}{v:Value}(hr:r9 c s v):r9 c' (c1w h F s) v:=by
 cases s with
 |c s=>exact hs _ _ hr
 |agg l=>obtain⟨cs,rfl,hl,hc⟩:=hr;exact⟨cs,rfl,by simp[hl],hc.map (a3t h F) hs⟩
 |junk=>trivial
theorem b5g{c c':Cx}{h:Hp}{F:List Nat}(hs: ∀s v,r8 c s v->r8 c' (a3t h F s) v){s:W}{v:Value}(hr:x7 c s v):x7 c' (b4x h F s) v:=by
 cases s with
 |one s=>exact c2l hs hr
 |tup l=>obtain⟨cs,rfl,hl,hc⟩:=hr;exact⟨cs,rfl,by simp[hl],hc.map (c1w h F) fun _ _=>c2l hs⟩
theorem c7a{c:Cx}(hc:o6 c)(F:List Nat): ∃c',u7 c c'∧c'.w=c.w∧c'.h=b0k c.h F∧c'.U=c.U∧ ∀s v,r8 c s v->r8 c' (a3t c.h F s) v:=by
 let c':Cx:=⟨c.w,fun g=>c.N g∨ ∃id,c9o c F id∧(g=(c.E id).blk∨ ∃o,c.E.own g=some ((c.E id).blk,o)),c.E,c.U,b0k c.h F⟩
 have back: ∀id b',b0k c.h F id=some b'-> ∃b,c.h id=some b∧n9 b b'∧ ¬c9o c F id∧(b'=b∨ ∃cells,b=.var cells∧b'=.var (cells.map (a3t c.h F))):=fun id b' hb'=>by
  unfold b0k at hb'
  split at hb'
  ·rename_i cells hid
   obtain rfl:=Option.some.inj hb'
   refine⟨_,hid,by simp[n9],?_,.inr ⟨cells,rfl,rfl⟩⟩
   rintro⟨_,k,⟨rows,h⟩|⟨rows,h⟩⟩
   all_goals rw[hid]at h;cases h
  ·rename_i k rows hid
   split at hb'
   ·cases hb'
   ·rename_i hel
    obtain rfl:=Option.some.inj hb'
    exact⟨_,hid,n9.refl _,(fun hf=>by have:=hf.1;rw[hel]at this;cases this),.inl rfl⟩
  ·rename_i k rows hid
   split at hb'
   ·cases hb'
   ·rename_i hel
    obtain rfl:=Option.some.inj hb'
    exact⟨_,hid,n9.refl _,(fun hf=>by have:=hf.1;rw[hel]at this;cases this),.inl rfl⟩
  ·rename_i k rows o os hid
   obtain rfl:=Option.some.inj hb'
   refine⟨_,hid,n9.refl _,?_,.inl rfl⟩
   rintro⟨_,k,⟨rows,h⟩|⟨rows,h⟩⟩
   all_goals rw[hid]at h;cases h
  ·cases hb'
 have liv: ∀id,c9o c F id-> ∃b,c.h id=some b:=fun id hf=>by
  obtain⟨_,k,⟨rows,h⟩|⟨rows,h⟩⟩:=hf
  all_goals exact⟨_,h⟩
 have st:A4 c c':=⟨fun _ h=>h,fun _ _=>rfl,fun id b' _ hb'=>let⟨b,h1,h2,_⟩:=back id b' hb';⟨b,h1,h2⟩,fun g hg=>⟨.inl hg,rfl⟩⟩
 have hS: ∀s v,r8 c s v->r8 c' (a3t c.h F s) v:=fun s v h=>d7m hc F st rfl (fun id hf=>⟨.inr ⟨id,hf,.inl rfl⟩,fun x o hx=>.inr ⟨id,hf,.inr ⟨o,hx⟩⟩⟩) h
 refine⟨c',⟨st,⟨?_,?_,?_,?_,?_,?_,hc.olow⟩,rfl,rfl,rfl,Nat.le_refl _,fun _ _ _=>rfl,?_,?_,fun _ _ _ _=>rfl,fun _ _ h=>.inl h⟩,rfl,rfl,rfl,hS⟩
 ·intro id b' hb'
  obtain⟨b,h1,_,_,h3⟩:=back id b' hb'
  rcases h3 with rfl|⟨cells,rfl,rfl⟩
  ·exact(hc.blk id _ h1).mono st rfl fun x o hx=>⟨hx,rfl⟩
  ·obtain⟨cs,ty,fz,g1,g2,g3,g4⟩:=hc.blk id _ h1
   exact⟨cs,ty,fz,g1,g2,by simpa using g3,g4.map (a3t c.h F) hS⟩
 ·intro id b' hb'
  obtain⟨b,h1,_⟩:=back id b' hb'
  exact hc.used id b h1
 ·intro id id' b b' hb hb' hne
  obtain⟨b1,h1,_⟩:=back id b hb
  obtain⟨b2,h2,_⟩:=back id' b' hb'
  exact hc.inj id id' b1 b2 h1 h2 hne
 ·intro id b' hb' hn
  obtain⟨b,h1,_,hnf,_⟩:=back id b' hb'
  rcases hn with hn|⟨id2,hf,e|⟨o,e⟩⟩
  ·exact hc.apart id b h1 hn
  ·obtain⟨b2,h2⟩:=liv id2 hf
   by_cases hne:id=id2
   ·subst hne;exact hnf hf
   ·exact hc.inj id id2 b b2 h1 h2 hne e
  ·obtain⟨b2,h2⟩:=liv id2 hf
   exact(hc.nest _ _ id2 b2 e h2 rfl).2 id b h1 rfl
 ·rintro g (hg|⟨id,hf,rfl|⟨o,e⟩⟩)
  ·exact hc.low g hg
  ·obtain⟨b,hb⟩:=liv id hf
   obtain⟨cs,ty,fz,h1,_⟩:=hc.blk id _ hb
   exact(Array.getElem?_eq_some_iff.1 h1).1
  ·exact(hc.olow g _ e).1
 ·intro g a id b' ho hb' ha
  obtain⟨b,h1,_,hnf,_⟩:=back id b' hb'
  obtain⟨n1,n2⟩:=hc.nest g a id b ho h1 ha
  refine⟨?_,fun id2 b2 hb2=>let⟨b3,h3,_⟩:=back id2 b2 hb2;n2 id2 b3 h3⟩
  rintro(hn|⟨id2,hf,e|⟨o,e⟩⟩)
  ·exact n1 hn
  ·obtain⟨b2,h2⟩:=liv id2 hf
   exact n2 id2 b2 h2 e.symm
  ·obtain⟨b2,h2⟩:=liv id2 hf
   replace ho:c.E.own g=some a:=ho
   rw[e]at ho
   obtain rfl:=Option.some.inj ho
   by_cases hne:id=id2
   ·subst hne;exact hnf hf
   ·exact hc.inj id id2 b b2 h1 h2 hne ha
 ·rintro g (hg|⟨id,hf,rfl|⟨o,e⟩⟩)
  ·exact .inl hg
  ·obtain⟨b,hb⟩:=liv id hf
   exact .inr (.inr (.inl ⟨id,_,hb,rfl⟩))
  ·obtain⟨b,hb⟩:=liv id hf
   exact .inr (.inr (.inr ⟨_,id,_,e,hb,rfl⟩))
 ·rintro g (⟨id,b',hb',hg⟩|⟨a,id,b',ho,hb',hg⟩)
  ·obtain⟨b,h1,_⟩:=back id b' hb'
   exact .inl (.inl ⟨id,b,h1,hg⟩)
  ·obtain⟨b,h1,_⟩:=back id b' hb'
   exact .inl (.inr ⟨a,id,b,ho,h1,hg⟩)
theorem l0.map_tm{c c':Cx}{tm:List W}{tmps:Array Value}{f:W->W}(hf: ∀w v,x7 c w v->x7 c' (f w) v)(h:O3 c tm tmps):O3 c' (tm.map f) tmps:=
 ⟨by simp[h.1],h.2.map f hf⟩
theorem d7n{c0 c:Cx}{st:St}{a:Act}(h:M7 c0 c st a)(ts:List Nat): ∃c',M7 c0 c' (a1p ts st) a∧c'.w=c.w:=by
 unfold a1p
 split
 ·exact⟨c,h,rfl⟩
 ·simp only
  obtain⟨c',h1,h2,h3,h4,h5⟩:=c7a h.eff.relh (C1 st.h 400 (ts.flatMap fun t=>match st.tm[t]? with|some w=>a2j w|none=>[]) [])
  rw[h.h]at h3 h5
  exact⟨c',⟨h3,fun id hid=>h.u id (by rw[<-h4];exact hid),l0.map_tm (fun w v hw=>b5g h5 hw) h.tm,h.eff.trans h1,h.io,h.defers⟩,h2⟩
end
end Go.Vsi
namespace Go.Vsi
def Sub(h h':Hp):Prop:= ∀id b,h id=some b->h' id=some b
theorem b8f{h h':Hp}{y:V}{v:Value}(hv:C7 y=some v):A1 h y=A1 h' y:=by
 cases y with
 |c s=>
  cases s with
  |d x=>
   cases x with
   |v x=>unfold A1;split<;>simp_all
   |sl=>rfl
   |any=>rfl
   |lit=>rfl
  |arr=>simp[C7,W8]at hv
  |_=>rfl
 |_=>rfl
section
variable{h h':Hp}
theorem e1y(hs:Sub h h'){s:S}{x:D×B4}(hx:toD h s=some x):toD h' s=some x:=by
 cases s with
 |arr id off len=>
  try simp only[toD]at hx⊢
  split at hx
  ·rename_i k rows hid
   rw[hs _ _ hid]
   exact hx
  ·cases hx
 |_=>exact hx
theorem a6z(hs:Sub h h'): ∀{l:List S}{x:List D×B4},Z6 h l=some x->Z6 h' l=some x
 |[],_,hx=>hx
 |s::r,x,hx=>by
  try simp only[Z6]at hx⊢
  split at hx
  ·rename_i y u ys us h1 h2
   rw[e1y hs h1,a6z hs h2]
   exact hx
  ·cases hx
theorem b6t(hs:Sub h h'): ∀{l:List (List S)}{x:List (List D)×B4},W4 h l=some x->W4 h' l=some x
 |[],_,hx=>hx
 |s::r,x,hx=>by
  try simp only[W4]at hx⊢
  split at hx
  ·rename_i y u ys us h1 h2
   rw[a6z hs h1,b6t hs h2]
   exact hx
  ·cases hx
theorem e1z(hs:Sub h h'){s:S}{x:O×B4}(hx:R9 h s=some x):R9 h' s=some x:=by
 cases s with
 |arr id off len=>
  try simp only[R9]at hx⊢
  split at hx
  ·rename_i k rows hid
   rw[hs _ _ hid]
   exact hx
  ·cases hx
 |_=>exact hx
theorem b0x(hs:Sub h h'): ∀{l:List S}{x:List O×B4},C8 h l=some x->C8 h' l=some x
 |[],_,hx=>hx
 |s::r,x,hx=>by
  try simp only[C8]at hx⊢
  split at hx
  ·rename_i y u ys us h1 h2
   rw[e1z hs h1,b0x hs h2]
   exact hx
  ·cases hx
theorem b3z(hs:Sub h h'): ∀{l:List (List S)}{x:List (List O)×B4},S6 h l=some x->S6 h' l=some x
 |[],_,hx=>hx
 |s::r,x,hx=>by
  try simp only[S6]at hx⊢
  split at hx
  ·rename_i y u ys us h1 h2
   rw[b0x hs h1,b3z hs h2]
   exact hx
  ·cases hx
theorem c5a(hs:Sub h h'){out:Option Nat}{o:O}{x:S}(hx:a2c h out o=some x):a2c h' out o=some x:=by
 cases out with
 |none=>exact hx
 |some id=>
  simp only[a2c]at hx⊢
  split at hx
  ·rename_i k rs hid
   simp only[hs _ _ hid]
   exact hx
  ·cases hx
theorem b6u(hs:Sub h h'){outs:List (Nat×Nat×Nat)}{row:Nat}: ∀{l:List O}{j:Nat}{x:List S},W3 h outs row j l=some x->W3 h' outs row j l=some x
 |[],_,_,hx=>hx
 |o::r,j,x,hx=>by
  simp only[W3]at hx⊢
  split at hx
  case h_2=>cases hx
  rename_i y ys h1 h2
  simp only[c5a hs h1,b6u hs h2]
  exact hx
theorem b1h(hs:Sub h h'){v:V}{x:List (List D)}(hx:w8 h v=some x):w8 h' v=some x:=by
 unfold w8 at hx⊢
 split at hx
 ·split at hx
  ·rename_i k rows hid
   try simp only[hs _ _ hid]
   exact hx
  ·cases hx
 all_goals first|exact hx|cases hx
theorem a7a(hs:Sub h h'){v:V}{x:Nat}(hx:A1 h v=some x):A1 h' v=some x:=by
 unfold A1 at hx⊢
 split at hx
 ·split at hx
  ·rename_i b hid
   try simp only[hs _ _ hid]
   exact hx
  ·cases hx
 all_goals first|exact hx|cases hx
theorem c9p(hs:Sub h h'){P:Program}{t:TypeId}{v:V}{lo hi:Option V}{x:W}(hx:a4r P h t v lo hi=some x):a4r P h' t v lo hi=some x:=by
 unfold a4r at hx⊢
 split at hx
 ·exact hx
 ·split at hx
  ·rename_i e k rows he hid
   try simp only[he,hs _ _ hid]
   exact hx
  ·cases hx
 ·exact hx
 ·exact hx
 ·cases hx
theorem a8w(hs:Sub h h'){P:Program}{fr:Nat->Nat}{t:TypeId}{v y:V}{x:Z2}(hx:F7 P fr h t v y=some x):F7 P fr h' t v y=some x:=by
 unfold F7 at hx⊢
 split at hx
 ·cases hx
 ·rename_i e he
  try simp only
  split at hx
  case h_2=>cases hx
  rename_i new n hn hl
  try simp only[b1h hs hn,a7a hs hl]
  split at hx
  ·cases hx
  ·rename_i z hz
   try simp only
   split at hx
   ·cases hx
   ·rename_i hc
    try simp only[hc]
    split at hx
    ·split at hx
     ·rename_i k rows hid
      try simp only[hs _ _ hid]
      exact hx
     ·cases hx
    ·exact hx
    ·cases hx
theorem d2n(hs:Sub h h'){P:Program}{t:TypeId}{d s:V}{x:Z2}(hx:a7x P h t d s=some x):a7x P h' t d s=some x:=by
 unfold a7x at hx⊢
 split at hx
 ·cases hx
 split at hx
 case h_2=>cases hx
 split at hx
 case h_2=>cases hx
 rename_i h1 h2
 simp only[hs _ _ h1,hs _ _ h2]
 exact hx
theorem c5b(hs:Sub h h'){P:Program}{fr:Nat->Nat}{t:TypeId}{v:V}{x5 len:Nat}{new:List (List O)}{x:Z2}(hx:a2d P fr h t v x5 new len=some x):a2d P fr h' t v x5 new len=some x:=by
 unfold a2d at hx⊢
 split at hx
 ·cases hx
 ·rename_i e he
  try simp only
  split at hx
  case h_2=>cases hx
  rename_i n z hl hz
  try simp only[a7a hs hl,hz]
  split at hx
  ·cases hx
  ·rename_i hc
   try simp only[hc]
   split at hx
   ·split at hx
    ·rename_i k rows hne hid
     try simp only[hne,hs _ _ hid]
     exact hx
    ·rename_i k hne hid
     try simp only[hne,hs _ _ hid]
     exact hx
    ·cases hx
   ·exact hx
   ·cases hx
theorem b9v(hs:Sub h h'){s s':S}(hx:S2 h s=some s'):S2 h' s=some s':=by
 cases s with
 |arr id off len=>
  try simp only[S2]at hx⊢
  split at hx
  ·rename_i k rows hid
   rw[hs _ _ hid]
   exact hx
  ·rename_i k rows hid
   rw[hs _ _ hid]
   exact hx
  ·cases hx
 |ptr id row off=>
  try simp only[S2]at hx⊢
  split at hx
  ·rename_i cells hid
   rw[hs _ _ hid]
   try simp only
   split at hx
   ·rename_i ds us hds
    rw[a6z hs hds]
    exact hx
   ·cases hx
  ·rename_i k rows hid
   rw[hs _ _ hid]
   exact hx
  ·cases hx
  ·cases hx
 |fn f caps=>cases caps<;>exact hx
 |_=>exact hx
theorem b6v(hs:Sub h h'): ∀{l:List S}{x:List S},a2l h l=some x->a2l h' l=some x
 |[],_,hx=>hx
 |s::r,x,hx=>by
  try simp only[a2l]at hx⊢
  split at hx
  ·rename_i y ys h1 h2
   rw[b9v hs h1,b6v hs h2]
   exact hx
  ·cases hx
theorem d2o(hs:Sub h h'){v v':V}(hx:a2m h v=some v'):a2m h' v=some v':=by
 cases v with
 |c s=>
  try simp only[a2m]at hx⊢
  split at hx
  ·rename_i x h1
   rw[b9v hs h1]
   exact hx
  ·cases hx
 |agg l=>
  try simp only[a2m]at hx⊢
  split at hx
  ·rename_i x h1
   rw[b6v hs h1]
   exact hx
  ·cases hx
 |junk=>exact hx
theorem b6w(hs:Sub h h'): ∀{l:List V}{x:List V},a2n h l=some x->a2n h' l=some x
 |[],_,hx=>hx
 |s::r,x,hx=>by
  try simp only[a2n]at hx⊢
  split at hx
  ·rename_i y ys h1 h2
   rw[d2o hs h1,b6w hs h2]
   exact hx
  ·cases hx
theorem b1y(hs:Sub h h'){F:List Nat}(hF: ∀x∈F,∃b,h x=some b)(hcl: ∀x∈F,∀y∈b2v h x,y∈F): ∀(k:Nat)(ids seen:List Nat),(∀x∈ids,x∈F)->C1 h k ids seen=C1 h' k ids seen
 |0,_,_,_=>rfl
 |k+1,[],_,_=>rfl
 |k+1,id::r,seen,hi=>by
  have hid:=hi id (by simp)
  have hr: ∀x∈r,x∈F:=fun x hx=>hi x (by simp[hx])
  obtain⟨b,hb⟩:=hF id hid
  try simp only[C1,hb,hs _ _ hb]
  split
  ·exact b1y hs hF hcl k r seen hr
  ·refine b1y hs hF hcl k _ _ fun x hx=>?_
   rcases List.mem_append.1 hx with hx|hx
   ·exact hcl id hid x (by unfold b2v;rw[hb];exact hx)
   ·exact hr x hx
theorem c5c(hs:Sub h h'){call:Call}{fr:Nat->Nat}{g:FuncId}{args:List V}{x:Z2}(hc:b2w h (args.flatMap a1t)=true)(hx:X0 call fr h g args=some x):X0 call fr h' g args=some x:=by
 have hall:=List.all_eq_true.1 hc
 have hmem: ∀x∈args.flatMap a1t++(C1 h 400 (args.flatMap a1t) []).flatMap (b2v h),x∈C1 h 400 (args.flatMap a1t) []:=fun x hx=>List.elem_iff.1 (hall x hx)
 have hF: ∀x∈C1 h 400 (args.flatMap a1t) [],∃b,h x=some b:=fun x hx=>(a2v _ _ _ _ hx).resolve_left (by simp)
 have hr:C1 h 400 (args.flatMap a1t) []=C1 h' 400 (args.flatMap a1t) []:=
  b1y hs (F:=C1 h 400 (args.flatMap a1t) []) hF (fun x hx y hy=>hmem y (List.mem_append.2 (.inr (List.mem_flatMap.2 ⟨x,hx,hy⟩)))) 400 _ _ (fun x hx=>hmem x (List.mem_append.2 (.inl hx)))
 have hm: ∀seen:List Nat,(∀x∈seen,∃b,h x=some b)->(seen.map fun id=>(h id).map (Z1 (ix seen)))=seen.map fun id=>(h' id).map (Z1 (ix seen)):=fun seen hse=>by
  apply List.map_congr_left
  intro x hx
  obtain⟨b,hb⟩:=hse x hx
  rw[hb,hs _ _ hb]
 unfold X0 at hx⊢
 try simp only at hx⊢
 rw[<-hr,<-hm _ hF]
 exact hx
theorem d2p(hs:Sub h h'){lend:FuncId->Bool}{call:Call}{fr:Nat->Nat}{g:FuncId}{args:List V}{x:Z2}(hc:(lend g||b2w h (args.flatMap a1t))=true)(hx:S3 lend call fr h g args=some x):S3 lend call fr h' g args=some x:=by
 unfold S3 at hx⊢
 split at hx
 ·unfold Z7 at hx⊢
  split at hx
  ·cases hx
  ·rename_i as h1
   rw[b6w hs h1]
   exact hx
 ·rename_i hl
  rw[hl,Bool.false_or]at hc
  exact c5c hs hc hx
theorem e2a(hs:Sub h h'){P:Program}{lend:FuncId->Bool}{call:Call}{fr:Nat->Nat}{ev:Operand->W}{o:Op}{x:Z2}(hc:a4u lend ev h o=true)(hx:B8 P lend call fr ev h o=some x):B8 P lend call fr ev h' o=some x:=by
 unfold B8 at hx⊢
 split at hx
 ·exact hx
 ·exact hx
 ·exact hx
 ·exact hx
 ·
  try simp only
  split at hx
  ·split at hx
   ·rename_i b hid
    try simp only[hs _ _ hid]
    exact hx
   ·cases hx
  all_goals first|exact hx|cases hx
 ·exact hx
 ·exact hx
 ·
  try simp only
  split at hx
  ·rename_i e h1 h2
   try simp only
   split at hx
   ·cases hx
   ·rename_i rows hu8 hrr hns
    try simp only[hu8,b1h hs hrr]
    exact hx
   ·cases hx
  all_goals first|exact hx|cases hx
 ·exact hx
 ·exact hx
 ·exact hx
 ·exact hx
 ·exact hx
 ·
  try simp only
  split at hx
  ·cases hx
  ·try simp only at hx⊢
   split at hx
   ·cases hx
   ·try simp only
    split at hx
    ·cases hx
    ·rename_i hcd
     try simp only[hcd]
     split at hx
     ·try simp only
      split at hx
      ·rename_i hnb
       try simp only[hnb]
       split at hx
       ·rename_i rows kills hrows
        try simp only[b6t hs hrows]
        exact hx
       ·cases hx
      ·rename_i hnb
       try simp only[hnb]
       split at hx
       ·rename_i rows kills hrows
        try simp only[b3z hs hrows]
        exact hx
       ·cases hx
     ·cases hx
 ·
  try simp only
  split at hx
  ·try simp only
   split at hx
   ·rename_i z hz hcd
    try simp only[hcd]
    split at hx
    ·rename_i row hk hrow
     try simp only[hk,a6z hs hrow]
     exact hx
    ·cases hx
   ·cases hx
  ·cases hx
 ·
  try simp only
  split at hx
  ·split at hx
   ·rename_i cells hid
    try simp only[hs _ _ hid]
    exact hx
   ·rename_i k rows hid
    try simp only[hs _ _ hid]
    exact hx
   ·rename_i k rows outs hid
    try simp only[hs _ _ hid]
    split at hx
    ·rename_i r hr
     try simp only[hr]
     split at hx
     ·rename_i l hl
      simp only[b6u hs hl]
      exact hx
     ·cases hx
    ·cases hx
   ·cases hx
  all_goals first|exact hx|cases hx
 ·
  try simp only
  split at hx
  ·cases hx
  ·rename_i hj
   try simp only at hx⊢
   split at hx
   ·cases hx
   ·rename_i hcd
    try simp only[hcd]
    split at hx
    ·rename_i cells hid
     try simp only[hs _ _ hid]
     exact hx
    ·rename_i k rows hid
     try simp only[hs _ _ hid]
     split at hx
     ·rename_i hnb
      try simp only[hnb]
      split at hx
      ·rename_i rr ds kills hrr hds
       try simp only[hrr,a6z hs hds]
       exact hx
      ·cases hx
     ·rename_i hnb
      try simp only[hnb]
      split at hx
      ·rename_i rr ds kills hrr hds
       try simp only[hrr,b0x hs hds]
       exact hx
      ·cases hx
    ·rename_i k rows hid
     try simp only[hs _ _ hid]
     split at hx
     ·rename_i rr ds kills hrr hds
      try simp only[hrr,b0x hs hds]
      exact hx
     ·cases hx
    ·cases hx
    ·cases hx
  ·cases hx
 ·
  try simp only
  split at hx
  ·try simp only
   split at hx
   ·try simp only
    split at hx
    ·rename_i h1
     try simp only[h1]
     split at hx
     ·rename_i b hid
      try simp only[hs _ _ hid]
      exact hx
     ·cases hx
    ·rename_i h1
     try simp only[h1]
     exact hx
    ·cases hx
   ·cases hx
  ·cases hx
 ·
  try simp only
  split at hx
  ·try simp only
   split at hx
   ·cases hx
   ·try simp only
    split at hx
    ·try simp only
     split at hx
     ·rename_i hcd hid
      try simp only[hcd,hs _ _ hid]
      exact hx
     ·rename_i hcd hid
      try simp only[hcd,hs _ _ hid]
      exact hx
     ·cases hx
    ·exact hx
    ·cases hx
  ·cases hx
 ·
  obtain⟨w,up⟩:=x
  obtain⟨h1,h2⟩:=P7 hx
  subst h2
  try simp only[c9p hs h1]
  rfl
 ·exact hx
 ·
  try simp only
  split at hx
  ·try simp only
   split at hx
   ·rename_i n hn
    try simp only[a7a hs hn]
    exact hx
   ·rename_i hno
    split at hx
    ·rename_i v hv
     rw[b8f (h':=h') hv]at hno
     simp only[hno]
     exact hx
    ·cases hx
  ·try simp only
   split at hx
   ·try simp only
    split at hx
    ·split at hx
     ·rename_i x5 len _
      split at hx
      ·rename_i kk new hix
       simp only[hs _ _ hix]
       exact c5b hs hx
      ·rename_i hno
       have hex: ∃k rows,h x5=some (.arr k rows):=by
        unfold F7 at hx
        split at hx
        ·cases hx
        split at hx
        case h_2=>cases hx
        rename_i new n hsr _
        simp only[w8]at hsr
        split at hsr
        ·rename_i k rows hid
         exact⟨k,rows,hid⟩
        ·cases hsr
       obtain⟨k,rows,hid⟩:=hex
       simp only[hs _ _ hid]
       exact a8w hs hx
     ·exact a8w hs hx
    ·exact a8w hs hx
    ·cases hx
   ·cases hx
  ·try simp only
   split at hx
   ·exact d2n hs hx
   ·cases hx
  ·exact hx
  ·exact hx
  ·cases hx
 ·
  try simp only
  split at hx
  ·rename_i g caps hf
   try simp only
   split at hx
   ·rename_i hb hall
    have hall':caps.all (fun id=>(h' id).isSome)=true:=List.all_eq_true.2 fun id hid=>by
     obtain⟨b,hb⟩:=Option.isSome_iff_exists.1 (List.all_eq_true.1 hall id hid)
     rw[hs _ _ hb];rfl
    simp only[hall',hb]
    refine d2p hs ?_ hx
    simp only[a4u,hf]at hc
    exact hc
   ·cases hx
  ·cases hx
 ·cases hx
end
end Go.Vsi
namespace Go.Vsi
structure Res where
 w:W
 up:B4
 foot:List Nat
def a2x(ops:List Oper)(i:Nat):Option Tmp:=(ops[i]?).bind (·.dst)
def P8(ops:List Oper)(res:Nat->Res):List Nat->List W->List W
 |[],tm=>tm
 |i::r,tm=>P8 ops res r (C9 tm (a2x ops i) (res i).w)
def hF(res:Nat->Res):List Nat->Hp->Hp
 |[],h=>h
 |i::r,h=>hF res r (m0 h (res i).up)
theorem b6x(ops:List Oper)(res:Nat->Res): ∀(l m:List Nat)(tm:List W),P8 ops res (l++m) tm=P8 ops res m (P8 ops res l tm)
 |[],_,_=>rfl
 |_::r,m,_=>b6x ops res r m _
theorem b9w(res:Nat->Res): ∀(l m:List Nat)(h:Hp),hF res (l++m) h=hF res m (hF res l h)
 |[],_,_=>rfl
 |_::r,m,_=>b9w res r m _
theorem b1z(ops:List Oper){res res':Nat->Res}: ∀(l:List Nat)(tm:List W),(∀j∈l,res j=res' j)->P8 ops res l tm=P8 ops res' l tm
 |[],_,_=>rfl
 |i::r,tm,h=>by
  simp only[P8]
  rw[h i (by simp),b1z ops r _ fun j hj=>h j (by simp[hj])]
theorem b5h{res res':Nat->Res}: ∀(l:List Nat)(h:Hp),(∀j∈l,res j=res' j)->hF res l h=hF res' l h
 |[],_,_=>rfl
 |i::r,h,hh=>by
  simp only[hF]
  rw[hh i (by simp),b5h r _ fun j hj=>hh j (by simp[hj])]
theorem d7o{tm tm2:List W}{t:Nat}(h:tm[t]?=tm2[t]?)(d:Option Tmp)(w:W):(C9 tm d w)[t]?=(C9 tm2 d w)[t]?:=by
 cases d with
 |none=>exact h
 |some d=>
  simp only[C9,List.getElem?_set]
  split
  ·rename_i e
   subst e
   have:d<tm.length↔d<tm2.length:=by
    constructor
    ·intro h3
     rw[List.getElem?_eq_getElem h3]at h
     exact(List.getElem?_eq_some_iff.1 h.symm).1
    ·intro h3
     rw[List.getElem?_eq_getElem h3]at h
     exact(List.getElem?_eq_some_iff.1 h).1
   by_cases h1:d<tm.length
   ·rw[if_pos h1,if_pos (this.1 h1)]
   ·rw[if_neg h1,if_neg (fun h2=>h1 (this.2 h2))]
  ·exact h
theorem e2b{tm:List W}{t:Nat}{d:Option Tmp}(h:d≠some t)(w:W):(C9 tm d w)[t]?=tm[t]?:=by
 cases d with
 |none=>rfl
 |some d=>
  simp only[C9,List.getElem?_set]
  rw[if_neg]
  rintro rfl
  exact h rfl
def c9q(ops:List Oper)(t:Nat)(j:Nat):Bool:=decide (a2x ops j=some t)
theorem a5q(ops:List Oper)(res:Nat->Res)(t:Nat): ∀(l:List Nat)(tm tm2:List W),tm[t]?=tm2[t]?->(P8 ops res l tm)[t]?=(P8 ops res (l.filter (c9q ops t)) tm2)[t]?
 |[],_,_,h=>h
 |i::r,tm,tm2,h=>by
  rw[List.filter_cons]
  split
  ·exact a5q ops res t r _ _ (d7o h _ _)
  ·rename_i hp
   simp only[c9q,decide_eq_true_eq]at hp
   exact a5q ops res t r _ _ (by rw[e2b hp];exact h)
theorem b9x{ops:List Oper}{res:Nat->Res}{t:Nat}{l l':List Nat}(tm:List W)(h:l.filter (c9q ops t)=l'.filter (c9q ops t)):(P8 ops res l tm)[t]?=(P8 ops res l' tm)[t]?:=by
 rw[a5q ops res t l tm tm rfl,h,<-a5q ops res t l' tm tm rfl]
def X4(res:Nat->Res)(id:Nat)(j:Nat):Bool:=decide (id∈(res j).up.map (·.1))
theorem c7b{id:Nat}: ∀(us:B4){h h2:Hp},h id=h2 id->m0 h us id=m0 h2 us id
 |[],_,_,e=>e
 |(i,b)::r,h,h2,e=>by
  rw[E6,E6 h2]
  refine c7b r ?_
  rw[l6,l6,e]
theorem e2c{id:Nat}{us:B4}{h:Hp}(hn: ¬id∈us.map (·.1)):m0 h us id=h id:=
 P5 us h fun x hx e=>hn (List.mem_map.2 ⟨x,hx,e⟩)
theorem a8i(res:Nat->Res)(id:Nat): ∀(l:List Nat)(h h2:Hp),h id=h2 id->hF res l h id=hF res (l.filter (X4 res id)) h2 id
 |[],_,_,e=>e
 |i::r,h,h2,e=>by
  rw[List.filter_cons]
  split
  ·exact a8i res id r _ _ (c7b _ e)
  ·rename_i hp
   simp only[X4,decide_eq_true_eq]at hp
   exact a8i res id r _ _ (by rw[e2c hp];exact e)
theorem c2m{res:Nat->Res}{id:Nat}{l l':List Nat}(h:Hp)(e:l.filter (X4 res id)=l'.filter (X4 res id)):hF res l h id=hF res l' h id:=by
 rw[a8i res id l h h rfl,e,<-a8i res id l' h h rfl]
theorem b2a{l pre post:List Nat}{i:Nat}{X p:Nat->Bool}(hl:l=pre++i::post)(hn:l.Nodup)(h: ∀j∈l,p j=true->(X j=true↔j∈pre)):(l.filter X).filter p=pre.filter p:=by
 subst hl
 rw[List.filter_append,List.filter_append]
 have h1:(pre.filter X).filter p=pre.filter p:=by
  rw[List.filter_filter]
  apply List.filter_congr
  intro j hj
  cases hp:p j with
  |false=>simp
  |true=>simp[(h j (by simp[hj]) hp).2 hj]
 have h2:((i::post).filter X).filter p=[]:=by
  rw[List.filter_filter,List.filter_eq_nil_iff]
  intro j hj hb
  simp only[Bool.and_eq_true]at hb
  have hj':j∈pre:=(h j (List.mem_append.2 (.inr hj)) hb.1).1 hb.2
  exact(List.nodup_append.1 hn).2.2 j hj' j hj rfl
 rw[h1,h2,List.append_nil]
theorem b9y{l pre post:List Nat}{i:Nat}{X p:Nat->Bool}(hl:l=pre++i::post)(hn:l.Nodup)(hX:X i=false)(h:p i=true-> ∀j∈post,X j=true->p j=true->False):(l.filter fun j=>X j||decide (j=i)).filter p=(l.filter X++[i]).filter p:=by
 subst hl
 have hn':=List.nodup_append.1 hn
 have hip:i ∉ pre:=fun hi=>hn'.2.2 i hi i (by simp) rfl
 have hio:i ∉ post:=(List.nodup_cons.1 hn'.2.1).1
 have e1:(pre.filter fun j=>X j||decide (j=i))=pre.filter X:=List.filter_congr fun j hj=>by
  have:j≠i:=by rintro rfl;exact hip hj
  simp[this]
 have e2:(post.filter fun j=>X j||decide (j=i))=post.filter X:=List.filter_congr fun j hj=>by
  have:j≠i:=by rintro rfl;exact hio hj
  simp[this]
 simp only[List.filter_append,List.filter_cons,List.filter_nil,hX,Bool.false_or,decide_true,if_true,e1,e2,Bool.false_eq_true,if_false]
 cases hp:p i with
 |false=>simp
 |true=>
  have e3:(post.filter X).filter p=[]:=by
   rw[List.filter_filter,List.filter_eq_nil_iff]
   intro j hj hb
   simp only[Bool.and_eq_true]at hb
   exact h hp j hj hb.2 hb.1
  rw[e3]
  simp
def a9j(ops:List Oper)(X:Nat->Prop):Prop:= ∀i,X i-> ∀e∈a0j ops i,X e
theorem d2q{l m:List Nat}{x:Nat}(h:x∈c1n l m):x∈l∨x∈m:=by
 unfold c1n at h
 rcases List.mem_append.1 h with h|h
 ·exact .inl h
 ·exact .inr (List.mem_filter.1 h).1
theorem b6y(g:Nat->List Nat){x:Nat}: ∀(es l:List Nat),x∈es.foldl (fun l e=>c1n l (g e)) l->x∈l∨ ∃e∈es,x∈g e
 |[],_,h=>.inl h
 |e::r,l,h=>by
  rcases b6y g r _ h with h1|⟨e',h1,h2⟩
  ·rcases d2q h1 with h2|h2
   ·exact .inl h2
   ·exact .inr ⟨e,by simp,h2⟩
  ·exact .inr ⟨e',by simp[h1],h2⟩
theorem b4a(ops:List Oper){X:Nat->Prop}(hX:a9j ops X): ∀(l:List Nat)(acc:List (Nat×List Nat)),(∀i j,j∈a5k acc i->X i->X j)-> ∀i j,j∈a5k (a0w ops l acc) i->X i->X j
 |[],_,h=>h
 |a::r,acc,h=>by
  refine b4a ops hX r _ fun i j hj hi=>?_
  simp only[a5k]at hj
  split at hj
  ·rename_i hb
   obtain rfl:=Nat.eq_of_beq_eq_true hb
   rcases b6y _ _ _ hj with h1|⟨e,h1,h2⟩
   ·exact hX _ hi _ h1
   ·exact h e j h2 (hX _ hi e h1)
  ·exact h i j hj hi
theorem b4b(ops:List Oper): ∀(l done:List Nat),a9d ops done l=true->l.Nodup∧(∀x∈l,x ∉ done)∧ ∀pre i post,l=pre++i::post-> ∀e∈a0j ops i,e∈done∨e∈pre
 |[],_,_=>⟨List.nodup_nil,by simp,fun pre i post h=>by simp at h⟩
 |a::r,done,h=>by
  simp only[a9d,Bool.and_eq_true,Bool.not_eq_true']at h
  obtain⟨⟨h1,h2⟩,h3⟩:=h
  obtain⟨k1,k2,k3⟩:=b4b ops r _ h3
  have had:a ∉ done:=fun hm=>by rw[List.elem_eq_true_of_mem hm]at h2;cases h2
  refine⟨List.nodup_cons.2 ⟨fun hm=>k2 a hm (by simp),k1⟩,fun x hx=>?_,fun pre i post hl e he=>?_⟩
  ·rcases List.mem_cons.1 hx with rfl|hx
   ·exact had
   ·exact fun hm=>k2 x hx (by simp[hm])
  ·cases pre with
   |nil=>
    obtain⟨rfl,rfl⟩:=List.cons.inj hl
    exact .inl (List.elem_iff.1 (List.all_eq_true.1 h1 e he))
   |cons b pre=>
    obtain⟨rfl,hl'⟩:=List.cons.inj hl
    rcases k3 pre i post hl' e he with h4|h4
    ·rcases List.mem_cons.1 h4 with rfl|h4
     ·exact .inr (by simp)
     ·exact .inl h4
    ·exact .inr (by simp[h4])
theorem b9z(X:Nat->Bool): ∀(l:List Nat),(∀x∈l,X x=true)∨ ∃pre i post,l=pre++i::post∧(∀x∈pre,X x=true)∧X i=false
 |[]=>.inl (by simp)
 |a::r=>by
  cases ha:X a with
  |false=>exact .inr ⟨[],a,r,rfl,by simp,ha⟩
  |true=>
   rcases b9z X r with h|⟨pre,i,post,rfl,h2,h3⟩
   ·exact .inl fun x hx=>(List.mem_cons.1 hx).elim (fun e=>e▸ha) (h x)
   ·exact .inr ⟨a::pre,i,post,rfl,fun x hx=>(List.mem_cons.1 hx).elim (fun e=>e▸ha) (h2 x),h3⟩
section
variable{P:Program}
def a8j(P:Program)(lend:FuncId->Bool)(call:Call)(ops:List Oper)(n0:Nat)(res:Nat->Res)(rs:List K6)(tm:List W)(h:Hp)(i:Nat):Prop:=
 ∃o,ops[i]?=some o∧((G7 ops tm o=some false∧res i=⟨.tup [],[],[]⟩)∨(G7 ops tm o=some true∧
  B8 P lend call (fun k=>n0+i+ops.length*k) (O6 (A3 o.op) tm) (cut (res i).foot h) o.op=some ((res i).w,(res i).up)∧a4u lend (O6 (A3 o.op) tm) (cut (res i).foot h) o.op=true∧⟨i,(res i).foot,(res i).up.map (·.1)⟩∈rs))
theorem a8j.congr{lend:FuncId->Bool}{call:Call}{ops:List Oper}{n0:Nat}{res res':Nat->Res}{rs:List K6}{tm:List W}{h:Hp}{i:Nat}(e:res i=res' i)(hh:a8j P lend call ops n0 res rs tm h i):a8j P lend call ops n0 res' rs tm h i:=by
 unfold a8j at hh⊢
 rw[<-e]
 exact hh
theorem c2n{lend:FuncId->Bool}{call:Call}{ops:List Oper}{n0:Nat}: ∀(l:List Nat)(tm:List W)(h:Hp)(rs:List K6){tm':List W}{h':Hp}{rs':List K6},l.Nodup->z0 P lend call ops n0 l tm h rs=some (tm',h',rs')->
 ∃res:Nat->Res,tm'=P8 ops res l tm∧h'=hF res l h∧(∀r∈rs,r∈rs')∧ ∀pre i post,l=pre++i::post->a8j P lend call ops n0 res rs' (P8 ops res pre tm) (hF res pre h) i
 |[],tm,h,rs,tm',h',rs',_,hd=>by
  simp only[z0,Option.some.injEq,Prod.mk.injEq]at hd
  obtain⟨rfl,rfl,rfl⟩:=hd
  exact⟨fun _=>⟨.tup [],[],[]⟩,rfl,rfl,fun _ h=>h,fun pre i post h=>by simp at h⟩
 |a::r,tm,h,rs,tm',h',rs',hn,hd=>by
  obtain⟨har,hnr⟩:=List.nodup_cons.1 hn
  have step: ∀(x:Res)(rs1:List K6),z0 P lend call ops n0 r (C9 tm (a2x ops a) x.w) (m0 h x.up) rs1=some (tm',h',rs')->(∀y∈rs,y∈rs1)->
   (∀res:Nat->Res,res a=x->(∀y∈rs1,y∈rs')->a8j P lend call ops n0 res rs' tm h a)->
   ∃res:Nat->Res,tm'=P8 ops res (a::r) tm∧h'=hF res (a::r) h∧(∀y∈rs,y∈rs')∧ ∀pre i post,a::r=pre++i::post->a8j P lend call ops n0 res rs' (P8 ops res pre tm) (hF res pre h) i:=by
   intro x rs1 hgo hsub hone
   obtain⟨res0,e1,e2,e3,e4⟩:=c2n r _ _ _ hnr hgo
   have hne: ∀j∈r,(if j=a then x else res0 j)=res0 j:=fun j hj=>if_neg (by rintro rfl;exact har hj)
   refine⟨fun j=>if j=a then x else res0 j,?_,?_,fun y hy=>e3 y (hsub y hy),fun pre i post hl=>?_⟩
   ·simp only[P8,if_true]
    rw[b1z ops r _ hne]
    exact e1
   ·simp only[hF,if_true]
    rw[b5h r _ hne]
    exact e2
   ·cases pre with
    |nil=>
     obtain⟨rfl,rfl⟩:=List.cons.inj hl
     exact hone _ (if_pos rfl) e3
    |cons b pre=>
     obtain⟨rfl,hl'⟩:=List.cons.inj hl
     have hpre: ∀j∈pre,(if j=a then x else res0 j)=res0 j:=fun j hj=>hne j (by rw[hl'];simp[hj])
     have hi:i∈r:=by rw[hl'];simp
     simp only[P8,hF,if_true]
     rw[b1z ops pre _ hpre,b5h pre _ hpre]
     exact a8j.congr (hne i hi).symm (e4 pre i post hl')
  simp only[z0]at hd
  split at hd
  ·cases hd
  ·rename_i o ho
   have hdst:a2x ops a=o.dst:=by unfold a2x;rw[ho];rfl
   split at hd
   ·cases hd
   ·rename_i hw
    refine step ⟨.tup [],[],[]⟩ rs (by rw[hdst];exact hd) (fun _ h=>h) fun res hr _=>⟨o,ho,.inl ⟨hw,hr⟩⟩
   ·rename_i hw
    split at hd
    ·rename_i w up hop hco
     refine step ⟨w,up,Y1 (O6 (A3 o.op) tm) h o.op⟩ _ (by rw[hdst];exact hd) (fun y hy=>by simp[hy]) fun res hr hin=>⟨o,ho,.inr ⟨hw,?_,?_,?_⟩⟩
     ·rw[hr];exact hop
     ·rw[hr];exact hco
     ·rw[hr];exact hin _ (by simp)
    ·cases hd
theorem b1i{ops:Array Oper}{tm tm2:List W}{o:Oper}(h: ∀t∈o.looksAt ops,tm[t]?=tm2[t]?):G7 ops.toList tm o=G7 ops.toList tm2 o:=by
 unfold G7
 split
 ·rfl
 ·rename_i j want hg
  split
  ·rfl
  ·rename_i d hd
   have:d∈o.looksAt ops:=by
    unfold Oper.looksAt
    rw[hg]
    have hd':(ops[j]?).bind (·.dst)=some d:=by simpa using hd
    simp[hd']
   rw[h d this]
theorem d2r{ops:Array Oper}{tm tm2:List W}{o:Oper}(h: ∀t∈o.looksAt ops,tm[t]?=tm2[t]?):O6 (A3 o.op) tm=O6 (A3 o.op) tm2:=by
 funext x
 cases x with
 |tmp t=>
  simp only[O6]
  split
  ·rename_i he
   have:t∈o.looksAt ops:=by
    unfold Oper.looksAt
    exact List.mem_append.2 (.inl (List.elem_iff.1 he))
   simp only[evA,h t this]
  ·rfl
 |_=>rfl
theorem e2d{c:Cx}{ts:List Nat}{tm:List W}{a:Act}(h:O3 c tm a.tmps)(x:Operand):x7 c (O6 ts tm x) (a.eval x):=by
 cases x with
 |tmp t=>
  simp only[O6]
  split
  ·exact a9f h (.tmp t)
  ·trivial
 |const v=>exact a9f h (.const v)
 |global g=>exact a9f h (.global g)
 |func f=>exact a9f h (.func f)
theorem d7p{lend:FuncId->Bool}{call:Call}(hcall:J8 P call)(hname:a0a P)(hmix:P.follows .mixedOrders=true){ops:Array Oper}{ord:List Nat}{id:Nat}{c0 c:Cx}{st st':St}{a:Act}{Q:Exit->Act->World->Prop}
 (hstat:b4w ops.toList ord=true)(hst:M7 c0 c st a)(hr:b2x P lend call ops.toList ord st=some st')(hQ: ∀c' a',M7 c0 c' st' a'->Q .normal a' c'.w):(Code.region id ops true).wp P Q a c.w:=by
 have hlen:ops.toList.length=ops.size:=by simp
 unfold b4w at hstat
 simp only[Bool.and_eq_true]at hstat
 obtain⟨⟨⟨⟨_,s2⟩,_⟩,s4⟩,s5⟩:=hstat
 obtain⟨hnod,_,htop⟩:=b4b ops.toList ord [] s2
 have hall: ∀i,i<ops.size->i∈ord:=fun i hi=>List.elem_iff.1 (List.all_eq_true.1 s4 i (by simpa using hi))
 have hpair: ∀i∈ord,∀j∈ord,i≠j->b5x ops.toList i j=true∨K7 (a0w ops.toList ord []) i j=true:=fun i hi j hj hne=>by
  have:=List.all_eq_true.1 (List.all_eq_true.1 s5 i hi) j hj
  simp only[Bool.or_eq_true]at this
  rcases this with(h|h)|h
  ·exact absurd (Nat.eq_of_beq_eq_true h) hne
  ·exact .inl h
  ·exact .inr h
 unfold b2x at hr
 split at hr
 ·cases hr
 rename_i tm' h' rs hgo
 split at hr
 case isFalse=>cases hr
 rename_i hpk
 obtain rfl:=Option.some.inj hr
 obtain⟨res,e1,e2,_,hone⟩:=c2n ord _ _ _ hnod hgo
 have hA: ∀X:Nat->Prop,a9j ops.toList X-> ∀i j,j∈a5k (a0w ops.toList ord []) i->X i->X j:=fun X hX=>b4a ops.toList hX ord [] (fun i j hj=>by simp[a5k]at hj)
 refine wp_region_any hmix ?_
 have e0:=b9k hst.eff.relh {c.w with drawn:=c.w.drawn+1} rfl rfl rfl rfl
 have claim: ∀(fuel:Nat)(X:Nat->Bool)(listed:Array Bool)(a:Act)(c:Cx),listed.size=ops.size->(∀j,j<ops.size->listed[j]?=some (X j))->(∀j,X j=true->j<ops.size)->a9j ops.toList (fun j=>X j=true)->
  O3 c (P8 ops.toList res (ord.filter X) st.tm) a.tmps->c.h=hF res (ord.filter X) st.h->u7 c0 c->a.defers=[]->Names c st.next ops.size (fun j=>X j=true)->(ord.filter fun j=>!X j).length<=fuel->wpAny P .any ops Q fuel listed a c.w:=by
  intro fuel
  have fin: ∀(X:Nat->Bool)(a:Act)(c:Cx),(∀x∈ord,X x=true)->O3 c (P8 ops.toList res (ord.filter X) st.tm) a.tmps->c.h=hF res (ord.filter X) st.h->u7 c0 c->a.defers=[]->Names c st.next ops.size (fun j=>X j=true)->Q .normal a c.w:=by
   intro X a c hX ht hh he hd hu
   have hf:ord.filter X=ord:=List.filter_eq_self.2 hX
   rw[hf]at ht hh
   refine hQ c a ⟨by rw[e2];exact hh,fun id hid=>?_,by rw[e1];exact ht,he,hst.io,hd⟩
   show id<st.next+ops.toList.length*64
   rw[hlen]
   rcases hu id hid with h|⟨i,k,_,hi,hk,rfl⟩
   ·omega
   ·exact c2k hi hk
  have isready: ∀(X:Nat->Bool)(listed:Array Bool),listed.size=ops.size->(∀j,j<ops.size->listed[j]?=some (X j))->Region.ready .any ops listed=[]-> ∀x∈ord,X x=true:=by
   intro X listed hs hX hrd
   rcases b9z X ord with h|⟨pre,i,post,hl,h2,h3⟩
   ·exact h
   ·exfalso
    have hi:i∈ord:=by rw[hl];simp
    obtain⟨o,ho,_⟩:=hone pre i post hl
    have ho':ops[i]?=some o:=by simpa using ho
    have hin:i<ops.size:=(Array.getElem?_eq_some_iff.1 ho').1
    have:i∈Region.ready .any ops listed:=by
     refine mem_ready.2 ⟨by rw[Array.getD_eq_getD_getElem?,hX i hin,h3];rfl,o,ho',fun e he hb=>?_⟩
     have hee:e.on∈a0j ops.toList i:=by
      unfold a0j
      rw[ho]
      exact List.mem_filterMap.2 ⟨e,by simpa using he,by simp[hb]⟩
     have hep:=(htop pre i post hl e.on hee).resolve_left (by simp)
     have hXe:=h2 _ hep
     have heo:e.on∈ord:=by rw[hl];simp[hep]
     obtain⟨p1,q1,hl1⟩:=List.append_of_mem heo
     obtain⟨o1,ho1,_⟩:=hone p1 e.on q1 hl1
     have ho1':ops[e.on]?=some o1:=by simpa using ho1
     have hlt:e.on<ops.size:=(Array.getElem?_eq_some_iff.1 ho1').1
     rw[Array.getD_eq_getD_getElem?,hX _ hlt,hXe];rfl
    rw[hrd]at this
    cases this
  induction fuel with
  |zero=>
   intro X listed a c hs hX hlt hcl ht hh he hd hu hf
   have hX1: ∀x∈ord,X x=true:=fun x hx=>by
    have h0:(ord.filter fun j=>!X j)=[]:=List.eq_nil_of_length_eq_zero (by omega)
    have:=List.filter_eq_nil_iff.1 h0 x hx
    simpa using this
   refine⟨?_,fin X a c hX1 ht hh he hd hu⟩
   rw[List.eq_nil_iff_forall_not_mem]
   intro i hi
   obtain⟨h1,o,ho,_⟩:=mem_ready.1 hi
   have hin:i<ops.size:=(Array.getElem?_eq_some_iff.1 ho).1
   rw[Array.getD_eq_getD_getElem?,hX i hin,hX1 i (hall i hin)]at h1
   cases h1
  |succ fuel ih=>
   intro X listed a c hs hX hlt hcl ht hh he hd hu hf
   refine⟨fun hrd=>fin X a c (isready X listed hs hX hrd) ht hh he hd hu,fun i hi=>?_⟩
   obtain⟨h1,o,ho,hed⟩:=mem_ready.1 hi
   have hin:i<ops.size:=(Array.getElem?_eq_some_iff.1 ho).1
   have hXi:X i=false:=by
    rw[Array.getD_eq_getD_getElem?,hX i hin]at h1
    simpa using h1
   have hio:=hall i hin
   obtain⟨pre,post,hl⟩:=List.append_of_mem hio
   obtain⟨o',ho',hcase⟩:=hone pre i post hl
   have hoo:ops.toList[i]?=some o:=by simpa using ho
   rw[hoo]at ho'
   obtain rfl:=Option.some.inj ho'
   have hn':=List.nodup_append.1 (hl▸hnod)
   have hipre:i ∉ pre:=fun hm=>hn'.2.2 i hm i (by simp) rfl
   have hedge: ∀e∈a0j ops.toList i,X e=true:=fun e he=>by
    unfold a0j at he
    rw[hoo]at he
    obtain⟨ed,hm,hb⟩:=List.mem_filterMap.1 he
    split at hb
    ·rename_i hbind
     obtain rfl:=Option.some.inj hb
     have:=hed ed (by simpa using hm) hbind
     rcases Nat.lt_or_ge ed.on ops.size with h|h
     ·rw[Array.getD_eq_getD_getElem?,hX _ h]at this
      simpa using this
     ·rw[Array.getD_eq_getD_getElem?,Array.getElem?_eq_none (by omega)]at this
      cases this
    ·cases hb
   have clX':a9j ops.toList (fun j=>(X j||decide (j=i))=true):=fun j hj e hee=>by
    simp only[Bool.or_eq_true,decide_eq_true_eq]at hj⊢
    rcases hj with hj|rfl
    ·exact .inl (hcl j hj e hee)
    ·exact .inl (hedge e hee)
   have clP:a9j ops.toList (fun j=>j∈pre):=fun j hj e hee=>by
    obtain⟨p1,q1,rfl⟩:=List.append_of_mem hj
    have:=(htop p1 j (q1++i::post) (by rw[hl];simp) e hee).resolve_left (by simp)
    simp[this]
   have clP':a9j ops.toList (fun j=>j∈pre∨j=i):=fun j hj e hee=>by
    rcases hj with hj|rfl
    ·exact .inl (clP j hj e hee)
    ·exact .inl ((htop pre j post hl e hee).resolve_left (by simp))
   have hord: ∀j,j≠i->K7 (a0w ops.toList ord []) j i=true->(X j=true↔j∈pre):=fun j hji ho=>by
    simp only[K7,Bool.or_eq_true,List.elem_iff]at ho
    rcases ho with ho|ho
    ·constructor
     ·intro hx
      have:=hA _ hcl j i ho hx
      rw[hXi]at this
      cases this
     ·intro hx
      exact absurd (hA _ clP j i ho hx) hipre
    ·constructor
     ·intro _
      exact(hA _ clP' i j ho (.inr rfl)).resolve_right hji
     ·intro _
      have:=hA _ clX' i j ho (by simp)
      simpa [hji]using this
   have htm: ∀t∈o.looksAt ops,(P8 ops.toList res (ord.filter X) st.tm)[t]?=(P8 ops.toList res pre st.tm)[t]?:=fun t hlk=>by
    refine b9x st.tm (b2a hl hnod fun j hj hp=>?_)
    by_cases hji:j=i
    ·subst hji
     exact⟨fun hx=>(by rw[hXi]at hx;cases hx),fun hx=>absurd hx hipre⟩
    ·rcases hpair j hj i hio hji with hap|hod
     ·exfalso
      have hp:a2x ops.toList j=some t:=of_decide_eq_true hp
      unfold a2x at hp
      unfold b5x at hap
      rw[hoo]at hap
      cases hjo:ops.toList[j]? with
      |none=>rw[hjo]at hap;cases hap
      |some oj=>
       rw[hjo]at hap hp
       exact(Oper.apart_spec (ops:=ops) hap).1 t hp hlk
     ·exact hord j hji hod
   have hpt: ∀j∈post,X j=true->K7 (a0w ops.toList ord []) j i=true->False:=fun j hj hx hod=>by
    have hji:j≠i:=by rintro rfl;rw[hXi]at hx;cases hx
    exact hn'.2.2 j ((hord j hji hod).1 hx) j (by simp[hj]) rfl
   have mv1: ∀w,P8 ops.toList res (ord.filter fun j=>X j||decide (j=i)) st.tm=C9 (P8 ops.toList res (ord.filter X) st.tm) o.dst w∨w≠(res i).w:=fun w=>by
    by_cases hw:w=(res i).w
    ·left
     subst hw
     have:C9 (P8 ops.toList res (ord.filter X) st.tm) o.dst (res i).w=P8 ops.toList res (ord.filter X++[i]) st.tm:=by
      rw[b6x]
      simp only[P8,a2x,hoo,Option.bind_some]
     rw[this]
     apply List.ext_getElem?
     intro t
     refine b9x st.tm (b9y hl hnod hXi fun hpi j hj hx hpj=>?_)
     have hji:j≠i:=by rintro rfl;rw[hXi]at hx;cases hx
     rcases hpair j (by rw[hl];simp[hj]) i hio hji with hap|hod
     ·have hpi:a2x ops.toList i=some t:=of_decide_eq_true hpi
      have hpj:a2x ops.toList j=some t:=of_decide_eq_true hpj
      unfold a2x at hpi hpj
      rw[hoo]at hpi
      unfold b5x at hap
      rw[hoo]at hap
      cases hjo:ops.toList[j]? with
      |none=>rw[hjo]at hap;cases hap
      |some oj=>
       rw[hjo]at hap hpj
       exact(Oper.apart_spec (ops:=ops) hap).2.1 t hpj hpi
     ·exact hpt j hj hx hod
    ·exact .inr hw
   have mv2:(∀(id:Nat) j,j∈post->X j=true->X4 res id i=true->X4 res id j=true->K7 (a0w ops.toList ord []) j i=true)->hF res (ord.filter fun j=>X j||decide (j=i)) st.h=m0 (hF res (ord.filter X) st.h) (res i).up:=fun hq=>by
    have:m0 (hF res (ord.filter X) st.h) (res i).up=hF res (ord.filter X++[i]) st.h:=by rw[b9w];rfl
    rw[this]
    funext id
    exact c2m st.h (b9y hl hnod hXi fun hpi j hj hx hpj=>hpt j hj hx (hq id j hj hx hpi hpj))
   have next: ∀(a':Act)(c':Cx),O3 c' (P8 ops.toList res (ord.filter fun j=>X j||decide (j=i)) st.tm) a'.tmps->c'.h=hF res (ord.filter fun j=>X j||decide (j=i)) st.h->u7 c0 c'->a'.defers=[]->Names c' st.next ops.size (fun j=>(X j||decide (j=i))=true)->
    wpAny P .any ops Q fuel (listed.setIfInBounds i true) a' c'.w:=fun a' c' g1 g2 g3 g4 g5=>by
    refine ih (fun j=>X j||decide (j=i)) (listed.setIfInBounds i true) a' c' (by simpa using hs) (fun j hj=>?_) (fun j hj=>?_) clX' g1 g2 g3 g4 g5 ?_
    ·rw[Array.getElem?_setIfInBounds]
     split
     ·rename_i e
      subst e
      rw[if_pos (by omega)]
      simp
     ·rename_i e
      rw[hX j hj]
      simp[Ne.symm e]
    ·simp only[Bool.or_eq_true,decide_eq_true_eq]at hj
     rcases hj with hj|rfl
     ·exact hlt j hj
     ·exact hin
    ·have e:(ord.filter fun j=>!(X j||decide (j=i)))=(ord.filter fun j=>!X j).filter fun j=>decide (j≠i):=by
      rw[List.filter_filter]
      apply List.filter_congr
      intro j _
      cases X j<;>simp
     have hlt':((ord.filter fun j=>!X j).filter fun j=>decide (j≠i)).length<(ord.filter fun j=>!X j).length:=by
      rw[List.length_filter_lt_length_iff_exists]
      exact⟨i,List.mem_filter.2 ⟨hio,by simp[hXi]⟩,by simp⟩
     rw[e]
     omega
   have wider: ∀c':Cx,Names c' st.next ops.size (fun j=>X j=true)->Names c' st.next ops.size (fun j=>(X j||decide (j=i))=true):=fun c' hu' id hid=>(hu' id hid).imp (fun h=>h) fun⟨i',k,g1,g2,g3,g4⟩=>⟨i',k,by simp[g1],g2,g3,g4⟩
   unfold wpOp
   rw[ho]
   simp only
   rcases hcase with⟨hw,hri⟩|⟨hw,hop,hco,hrec⟩
   ·
    have hw':G7 ops.toList (P8 ops.toList res (ord.filter X) st.tm) o=some false:=by rw[b1i htm];exact hw
    rw[a8h ht hw']
    simp only[Bool.false_eq_true,if_false]
    refine next _ c ?_ ?_ he (by rw[a5p];exact hd) (wider c hu)
    ·rw[(mv1 (.tup [])).resolve_right (by rw[hri];simp)]
     exact ht.put (b6s c) o.dst
    ·rw[mv2 (fun id j _ _ ht'=>by rw[X4,hri]at ht';simp at ht'),hri]
     exact hh
   ·
    have hw':G7 ops.toList (P8 ops.toList res (ord.filter X) st.tm) o=some true:=by rw[b1i htm];exact hw
    rw[a8h ht hw']
    simp only[if_true]
    left
    have hpk': ∀j∈ord,j≠i-> ∀id,X4 res id j=true->(id∈(res i).foot∨id∈(res i).up.map (·.1))->K7 (a0w ops.toList ord []) j i=true:=fun j hj hji id htj hid=>by
     simp only[X4,decide_eq_true_eq]at htj
     obtain⟨p1,q1,hl1⟩:=List.append_of_mem hj
     obtain⟨oj,hoj,hcj⟩:=hone p1 j q1 hl1
     rcases hcj with⟨_,hrj⟩|⟨_,_,_,hrecj⟩
     ·rw[hrj]at htj;simp at htj
     ·have h1:=List.all_eq_true.1 hpk _ hrecj
      simp only[Bool.or_eq_true]at h1
      rcases h1 with h1|h1
      ·rw[List.isEmpty_iff]at h1
       rw[h1]at htj
       cases htj
      ·have h2:=List.all_eq_true.1 h1 _ hrec
       simp only[Bool.or_eq_true,Bool.and_eq_true]at h2
       rcases h2 with(h2|h2)|h2
       ·exact absurd (Nat.eq_of_beq_eq_true h2) hji
       ·exfalso
        have nod: ∀(l m:List Nat),b0j l m=true->id∈l->id∈m->False:=fun l m hd hl hm=>by
         have:=List.all_eq_true.1 hd id hl
         rw[List.elem_eq_true_of_mem hm]at this
         cases this
        rcases hid with hid|hid
        ·exact nod _ _ h2.1 htj hid
        ·exact nod _ _ h2.2 htj hid
       ·exact h2
    have hsub:Sub (cut (res i).foot (hF res pre st.h)) c.h:=fun id b hb=>by
     unfold cut at hb
     split at hb
     ·rename_i hel
      rw[hh,<-hb]
      refine c2m st.h (b2a hl hnod fun j hj hp=>?_)
      by_cases hji:j=i
      ·subst hji
       exact⟨fun hx=>(by rw[hXi]at hx;cases hx),fun hx=>absurd hx hipre⟩
      ·exact hord j hji (hpk' j hj hji id hp (.inl (List.elem_iff.1 hel)))
     ·cases hb
    have hop':=e2a hsub hco hop
    rw[<-d2r htm]at hop'
    rw[hlen]at hop'
    have hfresh: ∀k,k<64-> ¬c.U (st.next+i+ops.size*k):=fun k hk hU=>by
     rcases hu _ hU with h|⟨i',k',g1,g2,g3,g4⟩
     ·omega
     ·have:=b3y hin g2 g4
      subst this
      rw[hXi]at g1
      cases g1
    refine b9t (fr:=fun k=>st.next+i+ops.size*k) hcall hname he.relh hfresh (b9u hin) (fun x=>e2d ht x) hop' _ _ fun v c' e eh eu ev=>?_
    refine next _ c' ?_ ?_ (he.trans e) (by rw[a5p];exact hd) fun id hid=>?_
    ·rw[(mv1 (res i).w).resolve_right (fun h=>h rfl)]
     exact(ht.mono e.step).put ev o.dst
    ·rw[mv2 (fun id j hj hx hti htj=>hpk' j (by rw[hl];simp[hj]) (by rintro rfl;rw[hXi]at hx;cases hx) id htj (.inr (by simpa [X4]using hti))),eh,hh]
    ·rcases eu id hid with h|⟨k,hk,rfl⟩
     ·exact wider c hu id h
     ·exact .inr ⟨i,k,by simp,hin,hk,rfl⟩
 refine claim ops.size (fun _=>false) (Array.replicate ops.size false) a {c with w:={c.w with drawn:=c.w.drawn+1}} (by simp) (fun j hj=>by simp[hj]) (fun j hj=>by cases hj) (fun i hi=>by cases hi) ?_ ?_ (hst.eff.trans e0) hst.defers (fun id hid=>.inl (hst.u id hid)) ?_
 ·have hnil:ord.filter (fun _=>false)=[]:=by simp
  rw[hnil]
  exact hst.tm.mono e0.step
 ·have hnil:ord.filter (fun _=>false)=[]:=by simp
  rw[hnil]
  exact hst.h
 ·have hall':(ord.filter fun _=>!false)=ord:=by simp
  rw[hall']
  have:ord.length=ops.size:=by
   have:=Nat.eq_of_beq_eq_true (by assumption:Nat.beq ord.length ops.toList.length=true)
   rw[this,hlen]
  omega
end
end Go.Vsi
namespace Go.Vsi
theorem e2e(h:Hp)(i j:Nat)(b b':Option k7)(x:Nat):m0 h [(i,b),(j,b')] x=if x=j then b' else if x=i then b else h x:=by
 rw[E6,l6,l6]
theorem d7q{k i j i' j':Nat}(hj:j<k)(hj':j'<k)(h:i*k+j=i'*k+j'):i=i'∧j=j':=by
 have e1:(i*k+j)/k=i:=by rw[Nat.mul_comm,Nat.mul_add_div (by omega),Nat.div_eq_of_lt hj,Nat.add_zero]
 have e2:(i'*k+j')/k=i':=by rw[Nat.mul_comm,Nat.mul_add_div (by omega),Nat.div_eq_of_lt hj',Nat.add_zero]
 have e:i=i':=by rw[<-e1,h,e2]
 subst e
 exact⟨rfl,by omega⟩
theorem e8e{c:Cx}(hc:o6 c){id n row j k k':Nat}{rows:List (List O)}{outs:List (Nat×Nat×Nat)}{r:List O}{rs:List (List D)}(hn: ¬c.U n)(hid:c.h id=some (.nar k rows outs))(hrow:rows[row]?=some r)(hout:B3 row j outs=none)(hj:r[j]?=some (.own k' rs)):
 ∃c',u7 c c'∧c'.w=c.w∧c'.h=m0 c.h [(id,some (.nar k rows ((row,j,n)::outs))),(n,some (.arr k' rs))]∧ ∀x,c'.U x->c.U x∨x=n:=by
 obtain⟨cs,ty,fz,h1,h2,h3,h4,h5⟩:=hc.blk id _ hid
 obtain⟨hrk,hcell⟩:=h5 row r hrow
 obtain⟨v,hv,hro⟩:=hcell j _ hj
 rw[hout]at hro
 obtain⟨p,hp1,hp2,hp3⟩:=hro
 have hjk:j<k:=by rw[<-hrk];exact(List.getElem?_eq_some_iff.1 hj).1
 have hidU:=hc.used id _ hid
 have hne:id≠n:=fun e=>hn (e▸hidU)
 obtain⟨pn1,pn2⟩:=hc.nest _ _ id _ hp2 hid rfl
 let c':Cx:=⟨c.w,c.N,⟨fun x=>if x=n then p else c.E x,fun x=>if x=p.blk then none else H4 c.E p.blk x⟩,fun x=>c.U x∨x=n,m0 c.h [(id,some (.nar k rows ((row,j,n)::outs))),(n,some (.arr k' rs))]⟩
 have hh: ∀x,c'.h x=if x=n then some (.arr k' rs)else if x=id then some (.nar k rows ((row,j,n)::outs))else c.h x:=fun x=>e2e _ _ _ _ _ x
 have hEn:c'.E n=p:=by show(if n=n then p else c.E n)=p;rw[if_pos rfl]
 have hE: ∀x,x≠n->c'.E x=c.E x:=fun x hx=>by show(if x=n then p else c.E x)=_;rw[if_neg hx]
 have hOwn: ∀x q,c'.E.own x=some q->c.E.own x=some q∧x≠p.blk∧q.1≠p.blk:=fun x q hx=>by
  replace hx:(if x=p.blk then none else H4 c.E p.blk x)=some q:=hx
  split at hx
  ·cases hx
  ·rename_i e
   obtain⟨g1,g2⟩:=X3 hx
   exact⟨g1,e,g2⟩
 have hOwn2: ∀x q,c.E.own x=some q->x≠p.blk->q.1≠p.blk->c'.E.own x=some q:=fun x q hx h1 h2=>by
  show(if x=p.blk then none else H4 c.E p.blk x)=some q
  rw[if_neg h1]
  exact a8g hx h2
 have old: ∀x b,c'.h x=some b->x≠n-> ∃b0,c.h x=some b0∧n9 b0 b∧c'.E x=c.E x:=fun x b hb hx=>by
  rw[hh,if_neg hx]at hb
  split at hb
  ·rename_i e
   subst e
   obtain rfl:=Option.some.inj hb
   exact⟨_,hid,by simp[n9,k7.arrOf],hE _ hx⟩
  ·exact⟨b,hb,n9.refl _,hE _ hx⟩
 have st:A4 c c':=by
  refine⟨fun x hx=>.inl hx,fun x hx=>hE x fun e=>hn (e▸hx),fun x b hx hb=>?_,fun g hg=>⟨hg,rfl⟩⟩
  obtain⟨b0,g1,g2,_⟩:=old x b hb fun e=>hn (e▸hx)
  exact⟨b0,g1,g2⟩
 have plt:=(hc.olow _ _ hp2).1
 refine⟨c',⟨st,⟨?_,?_,?_,?_,hc.low,?_,fun g a ho=>hc.olow g a (hOwn g a ho).1⟩,rfl,rfl,rfl,Nat.le_refl _,fun _ _ _=>rfl,fun _ h=>.inl h,?_,?_,fun g a ho=>.inl (hOwn g a ho).1⟩,rfl,rfl,fun x hx=>hx⟩
 ·intro x b hb
  by_cases hx:x=n
  ·subst hx
   rw[hh,if_pos rfl]at hb
   obtain rfl:=Option.some.inj hb
   rw[hEn]
   exact hp3.mono st rfl
  ·rw[hE x hx]
   rw[hh,if_neg hx]at hb
   split at hb
   ·rename_i e
    subst e
    obtain rfl:=Option.some.inj hb
    refine⟨cs,ty,fz,h1,h2,h3,h4,fun i ri hi=>⟨(h5 i ri hi).1,fun jj o ho=>?_⟩⟩
    obtain⟨v',hv',hr'⟩:=(h5 i ri hi).2 jj o ho
    have hjjk:jj<k:=by rw[<-(h5 i ri hi).1];exact(List.getElem?_eq_some_iff.1 ho).1
    refine⟨v',hv',?_⟩
    by_cases hc1:row=i∧j=jj
    ·obtain⟨rfl,rfl⟩:=hc1
     rw[hv]at hv'
     obtain rfl:=Option.some.inj hv'
     have e1:B3 row j ((row,j,n)::outs)=some n:=by simp[B3]
     rw[e1]
     obtain⟨a0,rfl,ha0⟩:=hp1
     refine⟨rfl,.inr rfl,fun b hb=>?_⟩
     rw[hh,if_pos rfl]at hb
     obtain rfl:=Option.some.inj hb
     obtain⟨_,_,_,_,_,q5,_,_⟩:=hp3
     exact⟨k',rs.length,rfl,by rw[hEn];exact q5,a0,by rw[hEn],by rw[hEn];exact ha0⟩
    ·have e1:B3 i jj ((row,j,n)::outs)=B3 i jj outs:=by simp only[B3,a0k hc1]
     rw[e1]
     cases hoo:B3 i jj outs with
     |some id'=>
      rw[hoo]at hr'
      obtain⟨q1,q2,q3⟩:=hr'
      refine⟨q1,.inl q2,fun b hb=>?_⟩
      have hn':id'≠n:=fun e=>hn (e▸q2)
      obtain⟨b0,g1,g2,g3⟩:=old id' b hb hn'
      obtain⟨k0,n0,y1,y2,y3⟩:=q3 b0 g1
      exact⟨k0,n0,g2.arrOf▸y1,by rw[g3];exact y2,by rw[g3];exact y3⟩
     |none=>
      rw[hoo]at hr'
      cases o with
      |d x=>exact t8.mono st.n hr'
      |own k2 rs2=>
       obtain⟨p2,z1,z2,z3⟩:=hr'
       refine⟨p2,z1,hOwn2 _ _ z2 (fun e=>?_) (fun e=>?_),z3.mono st rfl⟩
       ·rw[e,hp2]at z2
        have:=(Prod.mk.inj (Option.some.inj z2)).2
        exact hc1 (d7q hjk hjjk (by omega))
       ·exact pn2 x _ hid e
   ·refine(hc.blk x b hb).mono st rfl fun y o hy=>⟨hOwn2 _ _ hy (fun e=>?_) (pn2 x b hb),rfl⟩
    rename_i e1
    rw[e,hp2]at hy
    exact hc.inj x id b _ hb hid e1 (Prod.mk.inj (Option.some.inj hy)).1.symm
 ·intro x b hb
  by_cases hx:x=n
  ·exact .inr hx
  ·obtain⟨b0,g1,_⟩:=old x b hb hx
   exact .inl (hc.used x b0 g1)
 ·intro x y b b' hb hb' hxy
  by_cases hx:x=n
  ·subst hx
   obtain⟨b0,g1,_,g3⟩:=old y b' hb' (fun e=>hxy e.symm)
   rw[hEn,g3]
   exact(pn2 y b0 g1).symm
  ·obtain⟨b0,g1,_,g3⟩:=old x b hb hx
   by_cases hy:y=n
   ·subst hy
    rw[hEn,g3]
    exact pn2 x b0 g1
   ·obtain⟨b1,g4,_,g6⟩:=old y b' hb' hy
    rw[g3,g6]
    exact hc.inj x y b0 b1 g1 g4 hxy
 ·intro x b hb hN
  by_cases hx:x=n
  ·subst hx
   rw[hEn]at hN
   exact pn1 hN
  ·obtain⟨b0,g1,_,g3⟩:=old x b hb hx
   rw[g3]at hN
   exact hc.apart x b0 g1 hN
 ·intro g a x b ho hb ha
  obtain⟨o1,o2,o3⟩:=hOwn g a ho
  by_cases hx:x=n
  ·subst hx
   rw[hEn]at ha
   exact absurd ha.symm o3
  ·obtain⟨b0,g1,_,g3⟩:=old x b hb hx
   rw[g3]at ha
   obtain⟨n1,n2⟩:=hc.nest g a x b0 o1 g1 ha
   refine⟨n1,fun y b' hb'=>?_⟩
   by_cases hy:y=n
   ·subst hy
    rw[hEn]
    exact o2.symm
   ·obtain⟨b1,g4,_,g6⟩:=old y b' hb' hy
    rw[g6]
    exact n2 y b1 g4
 ·rintro g (⟨x,b,hb,hg⟩|⟨a,x,b,ho,hb,hg⟩)
  ·by_cases hx:x=n
   ·subst hx
    rw[hEn]at hg
    exact .inl (.inr ⟨_,id,_,hg▸hp2,hid,rfl⟩)
   ·obtain⟨b0,g1,_,g3⟩:=old x b hb hx
    rw[g3]at hg
    exact .inl (.inl ⟨x,b0,g1,hg⟩)
  ·obtain⟨o1,o2,o3⟩:=hOwn g a ho
   by_cases hx:x=n
   ·subst hx
    rw[hEn]at hg
    exact absurd hg.symm o3
   ·obtain⟨b0,g1,_,g3⟩:=old x b hb hx
    rw[g3]at hg
    exact .inl (.inr ⟨a,x,b0,o1,g1,hg⟩)
 ·intro g hg hno ha
  have hpo:own c p.blk:=.inr ⟨_,id,_,hp2,hid,rfl⟩
  have hgp:g≠p.blk:=fun e=>hno (e▸hpo)
  cases hq:c.E.own g with
  |none=>
   show(if g=p.blk then none else H4 c.E p.blk g)=none
   rw[if_neg hgp]
   unfold H4
   rw[hq]
  |some q=>
   exact hOwn2 g q hq hgp fun e=>(ha q hq).1 (e▸hpo)
theorem d7r{c:Cx}(hc:o6 c){id n row j k k':Nat}{rows:List (List O)}{outs:List (Nat×Nat×Nat)}{rs:List (List D)}(hid:c.h id=some (.nar k rows outs))(hout:B3 row j outs=some n)(hn:c.h n=some (.arr k' rs)):
 ∃c',u7 c c'∧c'.w=c.w∧c'.h=m0 c.h [(n,none),(id,some (.nar k (a3s rows row j (.own k' rs)) (F6 row j outs)))]∧ ∀x,c'.U x->c.U x:=by
 obtain⟨cs,ty,fz,h1,h2,h3,h4,h5⟩:=hc.blk id _ hid
 have hne:n≠id:=fun e=>by rw[e,hid]at hn;cases hn
 have e1:=c2c hc n _ hn id _ hid hne ((c.E id).off+row*k+j)
 obtain⟨c1,hc1⟩: ∃c1:Cx,c1={c with h:=m0 c.h [(n,none)],E:=⟨c.E.loc,fun x=>if x=(c.E n).blk then some ((c.E id).blk,(c.E id).off+row*k+j)else c.E.own x⟩}:=⟨_,rfl⟩
 rw[<-hc1]at e1
 have f1:c1.w=c.w:=by rw[hc1]
 have f2:c1.h=m0 c.h [(n,none)]:=by rw[hc1]
 have f3: ∀x,c1.E x=c.E x:=fun x=>by rw[hc1]
 have f4: ∀x,c1.E.own x=if x=(c.E n).blk then some ((c.E id).blk,(c.E id).off+row*k+j)else c.E.own x:=fun x=>by rw[hc1]
 have f5:c1.U=c.U:=by rw[hc1]
 have hid1:c1.h id=some (.nar k rows outs):=by rw[f2,l6,if_neg hne.symm];exact hid
 obtain⟨c2,e2,g1,g2,g3,g4,g5,g6⟩:=a1v e1.relh id _ (.nar k (a3s rows row j (.own k' rs)) (F6 row j outs)) hid1 (by simp[n9,k7.arrOf,a6w]) (fun c2 w2 n2 o2 st2=>by
  rw[f3]
  refine⟨cs,ty,fz,by rw[w2,f1];exact h1,h2,by rw[a6w];exact h3,h4,fun i r' hi=>?_⟩
  obtain⟨r,q1,q2,q3⟩:=b5b hi
  obtain⟨m1,m2⟩:=h5 i r q1
  refine⟨by omega,fun jj o ho=>?_⟩
  obtain⟨o0,q4,q5⟩:=q3 jj o ho
  obtain⟨v,hv,hr⟩:=m2 jj o0 q4
  refine⟨v,hv,?_⟩
  rw[a2t]
  by_cases hcc:i=row∧jj=j
  ·obtain⟨rfl,rfl⟩:=hcc
   rw[if_pos ⟨rfl,rfl⟩]
   rw[if_pos ⟨rfl,rfl⟩]at q5
   subst q5
   rw[hout]at hr
   obtain⟨z1,z2,z3⟩:=hr
   obtain⟨k0,n0,y1,y2,a0,y3,y4⟩:=z3 _ hn
   simp only[k7.arrOf,Option.some.injEq,Prod.mk.injEq]at y1
   obtain⟨rfl,rfl⟩:=y1
   refine⟨c.E n,⟨a0,y3,y4⟩,?_,?_⟩
   ·rw[o2,f4,if_pos rfl]
   ·exact b0n.mono (e1.step.trans st2) (I6.arr.1 (hc.blk n _ hn)) (by rw[w2,f1])
  ·rw[if_neg hcc]
   rw[if_neg hcc]at q5
   subst q5
   refine(hr.mono e1.step fun x o hx=>⟨?_,by rw[f1]⟩).mono st2 fun x o hx=>⟨by rw[o2];exact hx,by rw[w2]⟩
   rw[f4,if_neg]
   ·exact hx
   ·exact fun e=>a3u hc hx hid hn e.symm)
 refine⟨c2,e1.trans e2,by rw[g1,f1],?_,fun x hx=>?_⟩
 ·rw[g6,f2];rfl
 ·have:=(g5 x).1 hx
  rw[f5]at this
  exact this
theorem X8.one{c:Cx}{g a:Nat}{i:Option Nat}{o:O}{v:Value}(h:X8 c g a i o v):v.oneCell'=true:=by
 cases i with
 |some id=>exact h.1
 |none=>
  cases o with
  |d x=>exact t8.one h
  |own k rows=>
   obtain⟨p,⟨a0,rfl,_⟩,_⟩:=h
   rfl
theorem d7s{c:Cx}(hc:o6 c){id row j k:Nat}{rows:List (List O)}{outs:List (Nat×Nat×Nat)}(hid:c.h id=some (.nar k rows outs)):
 ∃c',u7 c c'∧c'.w=c.w∧c'.h=m0 c.h [(id,some (.nar k (a3s rows row j (.d .any)) (F6 row j outs)))]∧ ∀x,c'.U x->c.U x:=by
 obtain⟨cs,ty,fz,h1,h2,h3,h4,h5⟩:=hc.blk id _ hid
 obtain⟨c2,e2,g1,g2,g3,g4,g5,g6⟩:=a1v hc id _ (.nar k (a3s rows row j (.d .any)) (F6 row j outs)) hid (by simp[n9,k7.arrOf,a6w]) (fun c2 w2 n2 o2 st2=>by
  refine⟨cs,ty,fz,by rw[w2];exact h1,h2,by rw[a6w];exact h3,h4,fun i r' hi=>?_⟩
  obtain⟨r,q1,q2,q3⟩:=b5b hi
  obtain⟨m1,m2⟩:=h5 i r q1
  refine⟨by omega,fun jj o ho=>?_⟩
  obtain⟨o0,q4,q5⟩:=q3 jj o ho
  obtain⟨v,hv,hr⟩:=m2 jj o0 q4
  refine⟨v,hv,?_⟩
  rw[a2t]
  by_cases hcc:i=row∧jj=j
  ·obtain⟨rfl,rfl⟩:=hcc
   rw[if_pos ⟨rfl,rfl⟩]
   rw[if_pos ⟨rfl,rfl⟩]at q5
   subst q5
   exact .any (X8.one hr)
  ·rw[if_neg hcc]
   rw[if_neg hcc]at q5
   subst q5
   exact hr.mono st2 fun x o hx=>⟨by rw[o2];exact hx,by rw[w2]⟩)
 refine⟨c2,e2,g1,?_,fun x hx=>(g5 x).1 hx⟩
 rw[g6]
theorem e2f{c0 c:Cx}{st st':St}{a:Act}(h:M7 c0 c st a){p:Pre}(hp:b0l p st=some st'): ∃c',M7 c0 c' st' a∧c'.w=c.w:=by
 cases p with
 |up t cc r j=>
  simp only[b0l]at hp
  split at hp
  case h_2=>cases hp
  rename_i id off i _ _
  split at hp
  case h_2=>cases hp
  rename_i k rows outs hid
  split at hp
  case h_2=>cases hp
  rename_i row hrow hout
  split at hp
  case h_3=>cases hp
  case h_2=>
   obtain rfl:=Option.some.inj hp
   exact⟨c,h,rfl⟩
  rename_i k' rs hj
  obtain rfl:=Option.some.inj hp
  rw[<-h.h]at hid
  obtain⟨c',e,f1,f2,f3⟩:=e8e (n:=st.next) h.eff.relh (fun hu=>Nat.lt_irrefl _ (h.u _ hu)) hid hrow hout hj
  rw[h.h]at f2
  refine⟨c',⟨f2,fun x hx=>?_,h.tm.mono e.step,h.eff.trans e,h.io,h.defers⟩,f1⟩
  show x<st.next+1
  rcases f3 x hx with h1|h1
  ·have:=h.u x h1;omega
  ·omega
 |down t cc r j=>
  simp only[b0l]at hp
  split at hp
  case h_2=>cases hp
  rename_i id off i _ _
  split at hp
  case h_2=>cases hp
  rename_i k rows outs hid
  split at hp
  case h_2=>
   obtain rfl:=Option.some.inj hp
   exact⟨c,h,rfl⟩
  rename_i id' hout
  split at hp
  case h_2=>cases hp
  rename_i k' rs hn
  obtain rfl:=Option.some.inj hp
  rw[<-h.h]at hid hn
  obtain⟨c',e,f1,f2,f3⟩:=d7r h.eff.relh hid hout hn
  rw[h.h]at f2
  exact⟨c',⟨f2,fun x hx=>h.u x (f3 x hx),h.tm.mono e.step,h.eff.trans e,h.io,h.defers⟩,f1⟩
 |lose t cc r j=>
  simp only[b0l]at hp
  split at hp
  case h_2=>cases hp
  rename_i id off i _ _
  split at hp
  case h_2=>cases hp
  rename_i k rows outs hid
  obtain rfl:=Option.some.inj hp
  rw[<-h.h]at hid
  obtain⟨c',e,f1,f2,f3⟩:=d7s (row:=off+i) (j:=j) h.eff.relh hid
  rw[h.h]at f2
  exact⟨c',⟨f2,fun x hx=>h.u x (f3 x hx),h.tm.mono e.step,h.eff.trans e,h.io,h.defers⟩,f1⟩
 |nest t cc=>
  simp only[b0l]at hp
  split at hp
  case h_2=>cases hp
  rename_i id off _
  split at hp
  case h_2=>cases hp
  rename_i k rows hid
  obtain rfl:=Option.some.inj hp
  rw[<-h.h]at hid
  obtain⟨c',e,f1,f2,f3,f4,f5,f6⟩:=a1v h.eff.relh id _ (.nar k (rows.map (List.map O.d)) []) hid (by simp[n9,k7.arrOf]) (fun c' hw _ ho st=>c6z ((h.eff.relh.blk id _ hid).mono st (by rw[hw]) fun x o hx=>⟨by rw[ho];exact hx,by rw[hw]⟩))
  rw[h.h]at f6
  exact⟨c',⟨f6,fun x hx=>h.u x ((f5 x).1 hx),h.tm.mono e.step,h.eff.trans e,h.io,h.defers⟩,f1⟩
theorem c7c{c0:Cx}{a:Act}: ∀(ps:List Pre){c:Cx}{st st':St},M7 c0 c st a->X7 ps st=some st'-> ∃c',M7 c0 c' st' a∧c'.w=c.w
 |[],c,st,st',h,hp=>by
  simp only[X7,Option.some.injEq]at hp
  subst hp
  exact⟨c,h,rfl⟩
 |p::ps,c,st,st',h,hp=>by
  simp only[X7]at hp
  split at hp
  ·rename_i st1 h1
   obtain⟨c1,g1,g2⟩:=e2f h h1
   obtain⟨c2,g3,g4⟩:=c7c ps g1 hp
   exact⟨c2,g3,g4.trans g2⟩
  ·cases hp
end Go.Vsi
namespace Go.Vsi
theorem b4c(keep:List Nat): ∀(l:List W)(i:Nat),(S7 keep i l).length=l.length∧ ∀(j:Nat)(s:W),(S7 keep i l)[j]?=some s-> ∃w,l[j]?=some w∧(s=w∨s=.one .junk)
 |[],i=>⟨rfl,fun j s h=>by simp[S7]at h⟩
 |x::r,i=>by
  obtain⟨k1,k2⟩:=b4c keep r (i+1)
  refine⟨by simp[S7,k1],fun j s hj=>?_⟩
  cases j with
  |zero=>
   simp only[S7,List.getElem?_cons_zero,Option.some.injEq]at hj
   refine⟨x,rfl,?_⟩
   split at hj
   ·exact .inl hj.symm
   ·exact .inr hj.symm
  |succ j=>exact k2 j s (by simpa [S7]using hj)
theorem c2o{c0 c:Cx}{st:St}{a:Act}(h:M7 c0 c st a)(keep:List Nat): ∃c',M7 c0 c' (G4 keep st) a∧c'.w=c.w:=by
 refine⟨b5c (a4v st ((S7 keep 0 st.tm).flatMap a2j)) c,⟨?_,fun id hid=>hid,?_,c6w h.eff (b1w _ _) (fun id hid=>b9p st _ id ((h.io id).1 hid)),h.io,h.defers⟩,rfl⟩
 ·show c7 (a6v _ c.h)=c7 (a6v _ st.h)
  rw[h.h]
 ·have hj:O3 c (S7 keep 0 st.tm) a.tmps:=by
   obtain⟨k1,k2⟩:=b4c keep st.tm 0
   refine⟨by rw[k1];exact h.tm.1,fun j s hj=>?_⟩
   obtain⟨w,hw,hs⟩:=k2 j s hj
   obtain⟨v,hv,hr⟩:=h.tm.2 j w hw
   refine⟨v,hv,?_⟩
   rcases hs with rfl|rfl
   ·exact hr
   ·trivial
  exact l0.map_tm (fun w v hw=>(b6l _ c).w hw) hj
def d2s:Ex->Exit
 |.normal=>.normal
 |.exit id=>.exit id
 |.ret=>.ret
def b6z(lp:a7y):Prop:= ∀body keep st r,lp body keep st=some r-> ∃k,J7 body keep k st=some r
section
variable{P:Program}
theorem d2t{T:C0}{call:Call}(hcall:J8 P call)(hname:a0a P)(hmix:P.follows .mixedOrders=true){f:FuncId}{id:Nat}{ops:Array Oper}{draw:Bool}{c0 c:Cx}{st st':St}{a:Act}{Q:Exit->Act->World->Prop}
 (hd:K8 T f (.region id ops draw)=true)(hst:M7 c0 c st a)(hr:a5i P T call f id ops.toList draw st=some st')(hQ: ∀c' a',M7 c0 c' st' a'->Q .normal a' c'.w):(Code.region id ops draw).wp P Q a c.w:=by
 obtain⟨c0',h0,h0'⟩:=d7n hst (T.frz f id)
 unfold a5i at hr
 split at hr
 ·cases hr
 rename_i st1 hpre
 obtain⟨c1,h1,h2⟩:=c7c _ h0 hpre
 rw[<-h0',<-h2]
 split at hr
 ·split at hr
  ·rename_i tm h hops
   obtain rfl:=Option.some.inj hr
   exact d7l hcall hname h1 hops hQ
  ·cases hr
 ·exact d7p hcall hname hmix hd h1 hr hQ
theorem b7a{T:C0}{lp:a7y}{call:Call}(hcall:J8 P call)(hname:a0a P)(hmix:P.follows .mixedOrders=true)(hlp:b6z lp){f:FuncId}: ∀(code:Code)(st:St)(ex:Ex)(st':St),K8 T f code=true->o5 P T lp call f code st=some (ex,st')->
 ∀(c0 c:Cx)(a:Act)(Q:Exit->Act->World->Prop),M7 c0 c st a->(∀c' a',M7 c0 c' st' a'->Q (d2s ex) a' c'.w)->code.wp P Q a c.w:=by
 intro code
 induction code with
 |skip=>
  intro st ex st' _ hr c0 c a Q hst hQ
  simp only[o5,Option.some.injEq,Prod.mk.injEq]at hr
  obtain⟨rfl,rfl⟩:=hr
  exact Go.wp_skip (hQ c a hst)
 |region id ops draw=>
  intro st ex st' hd hr c0 c a Q hst hQ
  simp only[o5]at hr
  split at hr
  ·rename_i st1 h1
   obtain⟨rfl,rfl⟩:=Prod.mk.inj (Option.some.inj hr)
   exact d2t hcall hname hmix hd hst h1 hQ
  ·cases hr
 |seq x y ihx ihy=>
  intro st ex st' hd hr c0 c a Q hst hQ
  simp only[K8,Bool.and_eq_true]at hd
  simp only[o5]at hr
  refine wp_seq ?_
  split at hr
  ·rename_i st1 h1
   exact ihx st .normal st1 hd.1 h1 c0 c a _ hst fun c' a' h'=>ihy st1 ex st' hd.2 hr c0 c' a' Q h' hQ
  ·rename_i hno
   refine ihx st ex st' hd.1 hr c0 c a _ hst fun c' a' h'=>?_
   cases ex with
   |normal=>exact absurd hr (hno _)
   |exit id=>exact hQ c' a' h'
   |ret=>exact hQ c' a' h'
 |cond x y z ihy ihz=>
  intro st ex st' hd hr c0 c a Q hst hQ
  simp only[K8,Bool.and_eq_true]at hd
  simp only[o5]at hr
  have hx:=a9f hst.tm x
  split at hr
  ·rename_i b hb
   rw[hb]at hx
   have hv:=A2 (c:=c) (s:=.c (.d (.v (.bool b)))) rfl hx
   cases b with
   |true=>exact wp_cond hv (ihy st ex st' hd.1 hr c0 c a Q hst hQ)
   |false=>exact wp_cond hv (ihz st ex st' hd.2 hr c0 c a Q hst hQ)
  ·cases hr
 |block id b ih=>
  intro st ex st' hd hr c0 c a Q hst hQ
  simp only[K8]at hd
  simp only[o5]at hr
  refine wp_block ?_
  split at hr
  ·rename_i j st1 h1
   split at hr
   ·rename_i hj
    obtain⟨rfl,rfl⟩:=Prod.mk.inj (Option.some.inj hr)
    refine ih st _ _ hd h1 c0 c a _ hst fun c' a' h'=>?_
    show(if j=id then _ else _)
    rw[if_pos (Nat.eq_of_beq_eq_true hj)]
    exact hQ c' a' h'
   ·rename_i hj
    obtain⟨rfl,rfl⟩:=Prod.mk.inj (Option.some.inj hr)
    refine ih st _ _ hd h1 c0 c a _ hst fun c' a' h'=>?_
    show(if j=id then _ else _)
    rw[if_neg (by rintro rfl;simp at hj)]
    exact hQ c' a' h'
  ·rename_i hno
   refine ih st ex st' hd hr c0 c a _ hst fun c' a' h'=>?_
   cases ex with
   |normal=>exact hQ c' a' h'
   |exit j=>exact absurd hr (hno _ _)
   |ret=>exact hQ c' a' h'
 |loop b ih=>
  intro st ex st' hd hr c0 c a Q hst hQ
  simp only[K8]at hd
  simp only[o5]at hr
  split at hr
  case h_2=>cases hr
  rename_i ex1 st2 hl
  obtain⟨rfl,rfl⟩:=Prod.mk.inj (Option.some.inj hr)
  clear hr
  have hQ': ∀c' a',M7 c0 c' st2 a'->Q (d2s ex1) a' c'.w:=fun c' a' h'=>by
   obtain⟨c2,h1,h2⟩:=c2o h' (T.out f (e7 b))
   rw[<-h2]
   exact hQ c2 a' h1
  clear hQ
  obtain⟨k,hk⟩:=hlp _ _ _ _ hl
  clear hl
  refine wp_loop_rounds k ?_
  induction k generalizing st c a with
  |zero=>simp[J7]at hk
  |succ k ihk=>
   simp only[J7]at hk
   obtain⟨c1,h1,h2⟩:=c2o hst (T.keep f (e7 b))
   rw[<-h2,rounds_succ]
   split at hk
   ·rename_i st1 hb
    exact ih _ _ _ hd hb c0 c1 a _ h1 fun c' a' h'=>ihk st1 c' a' h' hk
   ·rename_i hno
    refine ih _ ex1 st2 hd hk c0 c1 a _ h1 fun c' a' h'=>?_
    cases ex1 with
    |normal=>exact absurd hk (hno _)
    |exit id=>exact hQ' c' a' h'
    |ret=>exact hQ' c' a' h'
 |exit id=>
  intro st ex st' _ hr c0 c a Q hst hQ
  simp only[o5,Option.some.injEq,Prod.mk.injEq]at hr
  obtain⟨rfl,rfl⟩:=hr
  exact wp_exit (hQ c a hst)
 |ret=>
  intro st ex st' _ hr c0 c a Q hst hQ
  simp only[o5,Option.some.injEq,Prod.mk.injEq]at hr
  obtain⟨rfl,rfl⟩:=hr
  exact wp_ret (hQ c a hst)
 |_=>
  intro st ex st' _ hr
  simp[o5]at hr
def a3x(tmps:Array Value):ResultVar->Sem Value
 |.tmp t=>pure (tmps.getD t undef)
 |.cell a t=>do loadVar t (<-asAddr (tmps.getD a undef))
theorem c7d{c0 c:Cx}{st:St}{a:Act}(h:M7 c0 c st a){r:ResultVar}{v:V}(hr:a9e P st r=some v): ∃x,(a3x a.tmps r).run P c.w=.ok x c.w∧r9 c v x:=by
 cases r with
 |tmp t=>
  simp only[a9e]at hr
  split at hr
  ·rename_i w hw
   obtain rfl:=Option.some.inj hr
   obtain⟨x,hx,hrel⟩:=h.tm.2 t _ hw
   rw[Nat.zero_add]at hx
   refine⟨x,?_,hrel⟩
   simp[a3x,Array.getD_eq_getD_getElem?,hx]
  ·cases hr
 |cell t ty=>
  simp only[a9e]at hr
  split at hr
  ·rename_i id off hw
   split at hr
   ·rename_i cells hid
    obtain⟨x,hx,hrel⟩:=h.tm.2 t _ hw
    rw[Nat.zero_add]at hx
    rw[<-h.h]at hid
    obtain⟨cs,ty',fz,h1,_,_,hcell⟩:=h.eff.relh.blk id _ hid
    have hp:=hrel.2.2 _ hid
    obtain⟨y,hy,hry⟩:=b9m (P:=P) (c:=c) (b:=(c.E id).blk) (o:=(c.E id).off) hr fun j s hj=>by
     obtain⟨u,hu,hru⟩:=hcell j s hj
     exact⟨u,by rw[cell_of_row c.w _ _ cs ty' fz h1];exact hu,hru⟩
    refine⟨y,?_,hry⟩
    have hx':a.tmps.getD t undef=.pointer (some ⟨(c.E id).blk,(c.E id).off+off,none⟩):=by
     rw[Array.getD_eq_getD_getElem?,hx,hp]
     simp
    simp only[a3x,hx',asAddr,Sem.run_bind,Sem.run_pure,Result.andThen_ok]
    exact hy
   ·cases hr
  ·cases hr
theorem c2p{c0 c:Cx}{st:St}{a:Act}(h:M7 c0 c st a): ∀(rs:List ResultVar){l:List V},u5 P st rs=some l-> ∃xs:List Value,(rs.mapM (a3x a.tmps)).run P c.w=.ok xs c.w∧xs.length=l.length∧ ∀(j:Nat)(v:V),l[j]?=some v-> ∃x,xs[j]?=some x∧r9 c v x
 |[],l,hr=>by
  simp only[u5,Option.some.injEq]at hr
  subst hr
  exact⟨[],rfl,rfl,fun j v h=>by simp at h⟩
 |r::rs,l,hr=>by
  simp only[u5]at hr
  split at hr
  ·rename_i v vs h1 h2
   obtain rfl:=Option.some.inj hr
   obtain⟨x,hx,hrel⟩:=c7d h h1
   obtain⟨xs,hxs,hl,hrels⟩:=c2p h rs h2
   refine⟨x::xs,?_,by simp[hl],fun j v' hj=>?_⟩
   ·simp only[List.mapM_cons,Sem.run_bind,hx,Result.andThen_ok,hxs,Sem.run_pure]
   ·cases j with
    |zero=>simp at hj;subst hj;exact⟨x,rfl,hrel⟩
    |succ j=>exact hrels j v' (by simpa using hj)
  ·cases hr
theorem c9r(fn:Func)(tmps:Array Value):results fn tmps=(do let vs <-fn.results.mapM (a3x tmps);pure (if h:vs.size=1 then vs[0]else .tuple vs)):=by
 unfold results
 congr 1
theorem e2g{c0 c:Cx}{st:St}{a:Act}(h:M7 c0 c st a){fn:Func}{w:W}(hr:c9f P st fn.results.toList=some w): ∃x,(results fn a.tmps).run P c.w=.ok x c.w∧x7 c w x:=by
 have hm: ∀xs:List Value,(fn.results.toList.mapM (a3x a.tmps)).run P c.w=.ok xs c.w->(fn.results.mapM (a3x a.tmps)).run P c.w=.ok xs.toArray c.w:=fun xs hxs=>by
  rw[Array.mapM_eq_mapM_toList,Sem.run_map,hxs]
  rfl
 rw[c9r]
 unfold c9f at hr
 split at hr
 ·rename_i r hrs
  split at hr
  ·rename_i v hv
   obtain rfl:=Option.some.inj hr
   obtain⟨x,hx,hrel⟩:=c7d h hv
   refine⟨x,?_,hrel⟩
   have:=hm [x] (by rw[hrs];simp only[List.mapM_cons,List.mapM_nil,Sem.run_bind,hx,Result.andThen_ok,Sem.run_pure])
   simp only[Sem.run_bind,this,Result.andThen_ok,Sem.run_pure]
   rfl
  ·cases hr
 ·rename_i hno
  split at hr
  ·rename_i l hl
   obtain rfl:=Option.some.inj hr
   obtain⟨xs,hxs,hlen,hrels⟩:=c2p h _ hl
   have hne: ¬xs.toArray.size=1:=by
    intro h1
    simp only[List.size_toArray]at h1
    have hlr:fn.results.toList.length=l.length:=by
     have: ∀(rs:List ResultVar)(l:List V),u5 P st rs=some l->rs.length=l.length:=by
      intro rs
      induction rs with
      |nil=>intro l h;simp only[u5,Option.some.injEq]at h;subst h;rfl
      |cons r rs ih=>
       intro l h
       simp only[u5]at h
       split at h
       ·rename_i x xs h1 h2
        obtain rfl:=Option.some.inj h
        simp[ih xs h2]
       ·cases h
     exact this _ _ hl
    obtain⟨r,hr1⟩:=List.length_eq_one_iff.1 (show fn.results.toList.length=1 by omega)
    exact hno r hr1
   refine⟨.tuple xs.toArray,?_,xs.toArray,rfl,by simp[hlen],fun j v hj=>?_⟩
   ·simp only[Sem.run_bind,hm xs hxs,Result.andThen_ok,Sem.run_pure,dif_neg hne]
   ·obtain⟨x,hx,hrel⟩:=hrels j v hj
    exact⟨x,by simpa using hx,hrel⟩
  ·cases hr
theorem c7e{c0 c:Cx}{st:St}{a:Act}(h:M7 c0 c st a){w:W}{v:Value}(hv:x7 c w v){r:W}{bs':List (Option k7)}(hg:b6a st w=(r,bs')):
 ∃c',c'.w=c.w∧c'.h=c7 bs'∧(∀i,c'.U i->i<bs'.length)∧x7 c' r v∧u7 c0 c':=by
 unfold b6a at hg
 obtain⟨rfl,rfl⟩:=Prod.mk.inj hg
 refine⟨b5c (a4v st (a2j w)) c,rfl,?_,fun i hi=>by have hi:i<(a4v st (a2j w)).length:=hi;simpa [a6v]using hi,(b6l _ c).w hv,c6w h.eff (b1w _ _) fun id hid=>b9p st _ id ((h.io id).1 hid)⟩
 show c7 (a6v _ c.h)=c7 (a6v _ st.h)
 rw[h.h]
theorem d2u{fin:Bool}{fn:Func}{c0 c:Cx}{st:St}{a:Act}(h:M7 c0 c st a){r:W}{bs':List (Option k7)}(hr:b0m P fin fn st=some (r,bs')):
 ∃v c',(results fn a.tmps).run P c.w=.ok v c.w∧c'.w=c.w∧c'.h=c7 bs'∧(∀i,c'.U i->i<bs'.length)∧x7 c' r v∧u7 c0 c':=by
 unfold b0m at hr
 split at hr
 ·cases hr
 rename_i w hw
 obtain⟨v,hv,hrel⟩:=e2g h hw
 split at hr
 ·obtain⟨c',h1,h2,h3,h4,h5⟩:=c7e h hrel (Option.some.inj hr)
  exact⟨v,c',hv,h1,h2,h3,h4,h5⟩
 ·simp only at hr
  generalize (C1 st.h 400 (a2j w) []).filter (fun id=>Nat.ble st.io id)=F at hr
  obtain⟨c1,g1,g2,g3,g4,g5⟩:=c7a h.eff.relh F
  rw[h.h]at g3 g5
  have h1:M7 c0 c1 {st with tm:=st.tm.map (b4x st.h F),h:=b0k st.h F} a:=⟨g3,fun id hid=>h.u id (by rw[<-g4];exact hid),l0.map_tm (fun w v hw=>b5g g5 hw) h.tm,h.eff.trans g1,h.io,h.defers⟩
  obtain⟨c',k1,k2,k3,k4,k5⟩:=c7e (st:={st with tm:=st.tm.map (b4x st.h F),h:=b0k st.h F}) h1 (w:=b4x st.h F w) (v:=v) (b5g g5 hrel) (Option.some.inj hr)
  exact⟨v,c',hv,k1.trans g2,k2,k3,k4,k5⟩
def a6c(P:Program)(T:C0):Prop:= ∀(f:FuncId)(fn:Func)(c:Code),T.on f=true->P.funcs[f]?=some fn->fn.body=some c->K8 T f c=true
theorem c9s{T:C0}{lp:a7y}{call:Call}(hcall:J8 P call)(hname:a0a P)(hmix:P.follows .mixedOrders=true)(hlp:b6z lp)(hdr:a6c P T){f:FuncId}{fn:Func}{code:Code}(hon:T.on f=true)(hf:P.funcs[f]?=some fn)(hb:fn.body=some code)
 {args:List V}{bs:List (Option k7)}{r:W}{bs':List (Option k7)}(hr:a2o P T lp call f fn code args bs=some (r,bs')){c:Cx}{vs:Array Value}(hc:o6 c)(hh:c.h=c7 bs)(hU: ∀i,c.U i↔i<bs.length)(hs:vs.size=args.length)(hv:l0 (r9 c) vs 0 args):
 Calls P f vs c.w fun e w'=> ∃v c',e=.returned v∧c'.w=w'∧c'.h=c7 bs'∧(∀i,c'.U i->i<bs'.length)∧x7 c' r v∧u7 c c':=by
 refine calls_of_wp hf hb ?_
 have h0:M7 c c (a1c fn.ntmps args bs) {tmps:=vs++Array.replicate (fn.ntmps-vs.size) undef,defers:=[]}:=by
  refine⟨hh,fun id hid=>(hU id).1 hid,⟨by simp[a1c,hs],fun j s hj=>?_⟩,u7.refl hc,hU,rfl⟩
  simp only[a1c]at hj
  rw[Nat.zero_add]
  by_cases hlt:j<args.length
  ·rw[List.getElem?_append_left (by simpa using hlt),List.getElem?_map,List.getElem?_eq_getElem hlt]at hj
   simp only[Option.map_some,Option.some.injEq]at hj
   subst hj
   obtain⟨v,hv',hrel⟩:=hv j _ (List.getElem?_eq_getElem hlt)
   rw[Nat.zero_add]at hv'
   exact⟨v,by rw[Array.getElem?_append_left (by omega)];exact hv',hrel⟩
  ·rw[List.getElem?_append_right (by simpa using hlt),List.getElem?_replicate]at hj
   simp only[List.length_map]at hj
   split at hj
   ·rename_i h2
    obtain rfl:=Option.some.inj hj
    refine⟨undef,?_,trivial⟩
    rw[Array.getElem?_append_right (by omega)]
    simp[hs,h2]
   ·cases hj
 unfold a2o at hr
 split at hr
 ·rename_i st hcode
  refine b7a hcall hname hmix hlp code _ _ _ (hdr f fn code hon hf hb) hcode c c _ _ h0 fun c' a' h'=>?_
  obtain⟨v,c2,k1,k2,k3,k4,k5,k6⟩:=d2u h' hr
  exact⟨h'.defers,v,k1,v,c2,rfl,k2,k3,k4,k5,k6⟩
 ·rename_i st hcode
  refine b7a hcall hname hmix hlp code _ _ _ (hdr f fn code hon hf hb) hcode c c _ _ h0 fun c' a' h'=>?_
  obtain⟨v,c2,k1,k2,k3,k4,k5,k6⟩:=d2u h' hr
  exact⟨h'.defers,v,k1,v,c2,rfl,k2,k3,k4,k5,k6⟩
 ·cases hr
theorem c0a{T:C0}{lp:Nat->a7y}{lib:Call}(hlib:J8 P lib)(hname:a0a P)(hmix:P.follows .mixedOrders=true)(hlp: ∀k,b6z (lp k))(hdr:a6c P T): ∀k,J8 P (fnA P T lp lib k)
 |0=>fun f args bs r bs' h=>by simp[fnA]at h
 |k+1=>fun f args bs r bs' h=>by
  simp only[fnA]at h
  split at h
  ·rename_i x hx
   obtain rfl:=Option.some.inj h
   exact hlib f args bs r bs' hx
  ·split at h
   ·rename_i fn hon hf
    split at h
    ·cases h
    ·rename_i code hb
     intro c vs hc hh hU hs hv
     exact c9s (c0a hlib hname hmix hlp hdr k) hname hmix (hlp k) hdr hon hf hb h hc hh hU hs hv
   ·cases h
theorem a0b{α:Type}{f:Nat->Option α}{r:α}(h:lim f=some r): ∃k,f k=some r:=by
 unfold lim at h
 split at h
 ·exact⟨_,h⟩
 ·cases h
theorem c7f{α:Type}{f:Nat->Option α}(hm: ∀k r,f k=some r->f (k+1)=some r){k k':Nat}(hk:k<=k'){r:α}(h:f k=some r):f k'=some r:=by
 induction hk with
 |refl=>exact h
 |step _ ih=>exact hm _ _ ih
theorem a4z{α:Type}{f:Nat->Option α}(hm: ∀k r,f k=some r->f (k+1)=some r){k:Nat}{r:α}(h:f k=some r):lim f=some r:=by
 have hx: ∃k r,f k=some r:=⟨k,r,h⟩
 unfold lim
 rw[dif_pos hx]
 obtain⟨r',hr'⟩:=Classical.choose_spec hx
 rcases Nat.le_total k (Classical.choose hx)with hle|hle
 ·exact c7f hm hle h
 ·rw[hr']
  have:=c7f hm hle hr'
  rw[h]at this
  exact this.symm
theorem U3(body:St->Option (Ex×St))(keep:List Nat): ∀(k:Nat)(st:St)(r:Ex×St),J7 body keep k st=some r->J7 body keep (k+1) st=some r
 |0,_,_,h=>by simp[J7]at h
 |k+1,st,r,h=>by
  rw[J7]at h⊢
  split at h
  ·rename_i st' hb
   exact U3 body keep k st' r h
  ·exact h
theorem d7t:b6z r7:=fun _ _ _ _ h=>a0b h
theorem c9t{body:St->Option (Ex×St)}{keep:List Nat}{st st1:St}{r:Ex×St}(h:body (G4 keep st)=some (.normal,st1))(hr:r7 body keep st1=some r):r7 body keep st=some r:=by
 obtain⟨k,hk⟩:=a0b hr
 refine a4z (k:=k+1) (fun k r=>U3 body keep k st r) ?_
 simp only[J7,h]
 exact hk
theorem c9u{body:St->Option (Ex×St)}{keep:List Nat}{st st1:St}{i:Nat}(h:body (G4 keep st)=some (.exit i,st1)):r7 body keep st=some (.exit i,st1):=by
 refine a4z (k:=1) (fun k r=>U3 body keep k st r) ?_
 simp only[J7,h]
theorem d2v{body:St->Option (Ex×St)}{keep:List Nat}{st st1:St}(h:body (G4 keep st)=some (.ret,st1)):r7 body keep st=some (.ret,st1):=by
 refine a4z (k:=1) (fun k r=>U3 body keep k st r) ?_
 simp only[J7,h]
theorem c0b{T:C0}{lib:Call}(hlib:J8 P lib)(hname:a0a P)(hmix:P.follows .mixedOrders=true)(hdr:a6c P T):J8 P (c6 P T lib):=fun f args bs r bs' h=>by
 obtain⟨k,hk⟩:=a0b h
 exact c0a hlib hname hmix (fun _=>d7t) hdr k f args bs r bs' hk
end
end Go.Vsi
namespace Go.Vsi
def a1f(a b:Call):Prop:= ∀f x y r,a f x y=some r->b f x y=some r
def b0y(cs:Nat->Call):Prop:= ∀n,a1f (cs n) (cs (n+1))
noncomputable def b2b(cs:Nat->Call):Call:=fun f x y=>lim fun k=>cs k f x y
theorem a0c{cs:Nat->Call}(h:b0y cs){n m:Nat}(hnm:n<=m):a1f (cs n) (cs m):=by
 induction hnm with
 |refl=>exact fun _ _ _ _ h=>h
 |step _ ih=>exact fun f x y r hr=>h _ f x y r (ih f x y r hr)
section
variable{P:Program}{lend:FuncId->Bool}
theorem d7u{a b:Call}(h:a1f a b){fr:Nat->Nat}{hp:Hp}{f:FuncId}{args:List V}{e:Z2}(he:S3 lend a fr hp f args=some e):S3 lend b fr hp f args=some e:=by
 unfold S3 at he⊢
 split at he
 ·unfold Z7 at he⊢
  split at he
  ·cases he
  ·split at he
   ·cases he
   ·rename_i r _ hr
    simp only[h _ _ _ _ hr]
    exact he
 ·unfold X0 at he⊢
  simp only at he⊢
  split at he
  ·cases he
  ·rename_i r _ hr
   simp only[h _ _ _ _ hr]
   exact he
theorem c9v{cs:Nat->Call}{fr:Nat->Nat}{hp:Hp}{f:FuncId}{args:List V}{e:Z2}(he:S3 lend (b2b cs) fr hp f args=some e): ∃n,S3 lend (cs n) fr hp f args=some e:=by
 unfold S3 at he
 split at he
 ·rename_i hl
  unfold Z7 at he
  split at he
  ·cases he
  ·rename_i as has
   split at he
   ·cases he
   ·rename_i r bs hr
    obtain⟨n,hn⟩:=a0b hr
    refine⟨n,?_⟩
    unfold S3 Z7
    simp only[hl,has,hn]
    exact he
 ·rename_i hl
  unfold X0 at he
  simp only at he
  split at he
  ·cases he
  ·rename_i r bs hr
   obtain⟨n,hn⟩:=a0b hr
   refine⟨n,?_⟩
   unfold S3 X0
   simp only[hl,hn]
   exact he
theorem c2q{a b:Call}(h:a1f a b){fr:Nat->Nat}{ev:Operand->W}{hp:Hp}{o:Op}{e:Z2}(he:B8 P lend a fr ev hp o=some e):B8 P lend b fr ev hp o=some e:=by
 unfold B8 at he⊢
 split at he
 case h_23=>
  try simp only
  split at he
  ·try simp only
   split at he
   ·rename_i h1 h2
    try simp only[h1,h2]
    exact d7u h he
   ·cases he
  ·cases he
 all_goals exact he
theorem c2r{cs:Nat->Call}{fr:Nat->Nat}{ev:Operand->W}{hp:Hp}{o:Op}{e:Z2}(he:B8 P lend (b2b cs) fr ev hp o=some e): ∃n,B8 P lend (cs n) fr ev hp o=some e:=by
 unfold B8 at he⊢
 split at he
 case h_23=>
  try simp only
  split at he
  ·rename_i g caps hf
   split at he
   ·rename_i h1 h2
    obtain⟨n,hn⟩:=c9v he
    refine⟨n,?_⟩
    try simp only[hf,h1,h2]
    exact hn
   ·cases he
  ·cases he
 all_goals exact⟨0,he⟩
variable{ops:List Oper}{n0:Nat}
theorem c2s{a b:Call}(h:a1f a b){i:Nat}{o:Oper}{tm:List W}{hp:Hp}{r:List W×Hp}(he:a5j P lend a ops n0 i o tm hp=some r):a5j P lend b ops n0 i o tm hp=some r:=by
 unfold a5j at he⊢
 split at he
 ·cases he
 ·exact he
 ·split at he
  ·rename_i hr
   simp only[c2q h hr]
   exact he
  ·cases he
theorem c9w{cs:Nat->Call}{i:Nat}{o:Oper}{tm:List W}{hp:Hp}{r:List W×Hp}(he:a5j P lend (b2b cs) ops n0 i o tm hp=some r): ∃n,a5j P lend (cs n) ops n0 i o tm hp=some r:=by
 unfold a5j at he⊢
 split at he
 ·cases he
 ·exact⟨0,he⟩
 ·split at he
  ·rename_i hr
   obtain⟨n,hn⟩:=c2r hr
   exact⟨n,by simp only[hn];exact he⟩
  ·cases he
theorem b8g{a b:Call}(h:a1f a b): ∀(l:List Oper)(i:Nat)(tm:List W)(hp:Hp)(r:List W×Hp),E5 P lend a ops n0 i l tm hp=some r->E5 P lend b ops n0 i l tm hp=some r
 |[],_,_,_,_,he=>he
 |o::l,i,tm,hp,r,he=>by
  simp only[E5]at he⊢
  split at he
  ·rename_i hs
   simp only[c2s h hs]
   exact b8g h l _ _ _ r he
  ·cases he
theorem c0c{cs:Nat->Call}(hc:b0y cs): ∀(l:List Oper)(i:Nat)(tm:List W)(hp:Hp)(r:List W×Hp),E5 P lend (b2b cs) ops n0 i l tm hp=some r-> ∃n,E5 P lend (cs n) ops n0 i l tm hp=some r
 |[],_,_,_,_,he=>⟨0,he⟩
 |o::l,i,tm,hp,r,he=>by
  simp only[E5]at he⊢
  split at he
  ·rename_i hs
   obtain⟨n1,h1⟩:=c9w hs
   obtain⟨n2,h2⟩:=c0c hc l _ _ _ r he
   refine⟨max n1 n2,?_⟩
   simp only[c2s (a0c hc (Nat.le_max_left n1 n2)) h1]
   exact b8g (a0c hc (Nat.le_max_right n1 n2)) _ _ _ _ _ h2
  ·cases he
theorem a8k{a b:Call}(h:a1f a b): ∀(l:List Nat)(tm:List W)(hp:Hp)(rs:List K6)(r:List W×Hp×List K6),z0 P lend a ops n0 l tm hp rs=some r->z0 P lend b ops n0 l tm hp rs=some r
 |[],_,_,_,_,he=>he
 |i::l,tm,hp,rs,r,he=>by
  simp only[z0]at he⊢
  split at he
  ·cases he
  ·try simp only
   split at he
   ·cases he
   ·exact a8k h l _ _ _ r he
   ·try simp only
    split at he
    ·rename_i h1 h2
     simp only[c2q h h1,h2]
     exact a8k h l _ _ _ r he
    ·cases he
theorem a8x{cs:Nat->Call}(hc:b0y cs): ∀(l:List Nat)(tm:List W)(hp:Hp)(rs:List K6)(r:List W×Hp×List K6),z0 P lend (b2b cs) ops n0 l tm hp rs=some r-> ∃n,z0 P lend (cs n) ops n0 l tm hp rs=some r
 |[],_,_,_,_,he=>⟨0,he⟩
 |i::l,tm,hp,rs,r,he=>by
  simp only[z0]at he⊢
  split at he
  ·cases he
  ·try simp only
   split at he
   ·cases he
   ·exact a8x hc l _ _ _ r he
   ·try simp only
    split at he
    ·rename_i h1 h2
     obtain⟨n1,g1⟩:=c2r h1
     obtain⟨n2,g2⟩:=a8x hc l _ _ _ r he
     refine⟨max n1 n2,?_⟩
     simp only[c2q (a0c hc (Nat.le_max_left n1 n2)) g1,h2]
     exact a8k (a0c hc (Nat.le_max_right n1 n2)) _ _ _ _ _ g2
    ·cases he
theorem e2h{T:C0}{a b:Call}(h:a1f a b){f:FuncId}{id:Nat}{draw:Bool}{st r:St}(he:a5i P T a f id ops draw st=some r):a5i P T b f id ops draw st=some r:=by
 unfold a5i at he⊢
 split at he
 ·cases he
 rename_i st1 hpre
 try simp only
 split at he
 ·split at he
  ·rename_i hs
   simp only[b8g h _ _ _ _ _ hs]
   exact he
  ·cases he
 ·unfold b2x at he⊢
  split at he
  ·cases he
  ·rename_i hs
   simp only[a8k h _ _ _ _ _ hs]
   exact he
theorem d2w{T:C0}{cs:Nat->Call}(hc:b0y cs){f:FuncId}{id:Nat}{draw:Bool}{st r:St}(he:a5i P T (b2b cs) f id ops draw st=some r): ∃n,a5i P T (cs n) f id ops draw st=some r:=by
 unfold a5i at he⊢
 split at he
 ·cases he
 rename_i st1 hpre
 try simp only
 split at he
 ·split at he
  ·rename_i hs
   obtain⟨n,hn⟩:=c0c hc _ _ _ _ _ hs
   exact⟨n,by simp only[hn];exact he⟩
  ·cases he
 ·unfold b2x at he⊢
  split at he
  ·cases he
  ·rename_i hs
   obtain⟨n,hn⟩:=a8x hc _ _ _ _ _ hs
   exact⟨n,by simp only[hn];exact he⟩
theorem b5i{b1 b2:St->Option (Ex×St)}(h: ∀s r,b1 s=some r->b2 s=some r)(keep:List Nat): ∀(k:Nat)(st:St)(r:Ex×St),J7 b1 keep k st=some r->J7 b2 keep k st=some r
 |0,_,_,he=>by simp[J7]at he
 |k+1,st,r,he=>by
  simp only[J7]at he⊢
  split at he
  ·rename_i hs
   simp only[h _ _ hs]
   exact b5i h keep k _ r he
  ·rename_i hno
   rw[h _ _ he]
   split
   ·rename_i st' heq
    obtain rfl:=Option.some.inj heq
    exact absurd he (hno _)
   ·rfl
theorem d7v{b1 b2:St->Option (Ex×St)}(h: ∀s r,b1 s=some r->b2 s=some r){keep:List Nat}{st:St}{r:Ex×St}(he:r7 b1 keep st=some r):r7 b2 keep st=some r:=by
 obtain⟨k,hk⟩:=a0b he
 exact a4z (fun k r=>U3 b2 keep k st r) (b5i h keep k st r hk)
theorem a3y{T:C0}{a b:Call}(h:a1f a b){f:FuncId}: ∀(code:Code)(st:St)(r:Ex×St),o5 P T r7 a f code st=some r->o5 P T r7 b f code st=some r:=by
 intro code
 induction code with
 |region id ops draw=>
  intro st r he
  simp only[o5]at he⊢
  split at he
  ·rename_i hs
   simp only[e2h h hs]
   exact he
  ·cases he
 |seq x y ihx ihy=>
  intro st r he
  simp only[o5]at he⊢
  split at he
  ·rename_i hs
   simp only[ihx _ _ hs]
   exact ihy _ _ he
  ·rename_i hno
   rw[ihx _ _ he]
   split
   ·rename_i st' heq
    obtain rfl:=Option.some.inj heq
    exact absurd he (hno _)
   ·rfl
 |cond x y z ihy ihz=>
  intro st r he
  simp only[o5]at he⊢
  split at he
  ·split at he
   ·exact ihy _ _ he
   ·exact ihz _ _ he
  ·cases he
 |block id b ih=>
  intro st r he
  simp only[o5]at he⊢
  split at he
  ·rename_i hs
   simp only[ih _ _ hs]
   exact he
  ·rename_i hno
   rw[ih _ _ he]
   split
   ·rename_i j st' heq
    obtain rfl:=Option.some.inj heq
    exact absurd he (hno _ _)
   ·rfl
 |loop b ih=>
  intro st r he
  simp only[o5]at he⊢
  split at he
  ·rename_i hs
   simp only[d7v (fun s r hr=>ih s r hr) hs]
   exact he
  ·cases he
 |_=>
  intro st r he
  simp only[o5]at he⊢
  first|exact he|cases he
theorem b7b{T:C0}{cs:Nat->Call}(hc:b0y cs){f:FuncId}: ∀(code:Code)(st:St)(r:Ex×St),o5 P T r7 (b2b cs) f code st=some r-> ∃n,o5 P T r7 (cs n) f code st=some r:=by
 intro code
 induction code with
 |region id ops draw=>
  intro st r he
  simp only[o5]at he⊢
  split at he
  ·rename_i hs
   obtain⟨n,hn⟩:=d2w hc hs
   exact⟨n,by simp only[hn];exact he⟩
  ·cases he
 |seq x y ihx ihy=>
  intro st r he
  simp only[o5]at he⊢
  split at he
  ·rename_i hs
   obtain⟨n1,h1⟩:=ihx _ _ hs
   obtain⟨n2,h2⟩:=ihy _ _ he
   refine⟨max n1 n2,?_⟩
   simp only[a3y (a0c hc (Nat.le_max_left n1 n2)) _ _ _ h1]
   exact a3y (a0c hc (Nat.le_max_right n1 n2)) _ _ _ h2
  ·rename_i hno
   obtain⟨n,hn⟩:=ihx _ _ he
   refine⟨n,?_⟩
   rw[hn]
   split
   ·rename_i st' heq
    obtain rfl:=Option.some.inj heq
    exact absurd he (hno _)
   ·rfl
 |cond x y z ihy ihz=>
  intro st r he
  simp only[o5]at he⊢
  split at he
  ·split at he
   ·exact ihy _ _ he
   ·exact ihz _ _ he
  ·cases he
 |block id b ih=>
  intro st r he
  simp only[o5]at he⊢
  split at he
  ·rename_i hs
   obtain⟨n,hn⟩:=ih _ _ hs
   exact⟨n,by simp only[hn];exact he⟩
  ·rename_i hno
   obtain⟨n,hn⟩:=ih _ _ he
   refine⟨n,?_⟩
   rw[hn]
   split
   ·rename_i j st' heq
    obtain rfl:=Option.some.inj heq
    exact absurd he (hno _ _)
   ·rfl
 |loop b ih=>
  intro st r he
  simp only[o5]at he⊢
  split at he
  case h_2=>cases he
  rename_i ex1 st2 hl
  obtain⟨k,hk⟩:=a0b hl
  clear hl
  have key: ∃n,J7 (fun s=>o5 P T r7 (cs n) f b s) (T.keep f (e7 b)) k st=some (ex1,st2):=by
   clear he
   induction k generalizing st with
   |zero=>simp[J7]at hk
   |succ k ihk=>
    simp only[J7]at hk⊢
    split at hk
    ·rename_i hs
     obtain⟨n1,h1⟩:=ih _ _ hs
     obtain⟨n2,h2⟩:=ihk _ hk
     refine⟨max n1 n2,?_⟩
     simp only[a3y (a0c hc (Nat.le_max_left n1 n2)) _ _ _ h1]
     exact b5i (fun s r hr=>a3y (a0c hc (Nat.le_max_right n1 n2)) _ s r hr) _ _ _ _ h2
    ·rename_i hno
     obtain⟨n,hn⟩:=ih _ _ hk
     refine⟨n,?_⟩
     rw[hn]
     split
     ·rename_i st' heq
      rw[Option.some.inj heq]at hk
      exact absurd hk (hno _)
     ·rfl
  obtain⟨n,hn⟩:=key
  have hl:r7 (fun s=>o5 P T r7 (cs n) f b s) (T.keep f (e7 b)) st=some (ex1,st2):=a4z (fun k r=>U3 _ _ k st r) hn
  exact⟨n,by simp only[hl];exact he⟩
 |_=>
  intro st r he
  simp only[o5]at he⊢
  first|exact⟨0,he⟩|cases he
theorem d7w{T:C0}{a b:Call}(h:a1f a b){f:FuncId}{fn:Func}{c:Code}{args:List V}{bs:List (Option k7)}{r:W×List (Option k7)}(he:a2o P T r7 a f fn c args bs=some r):a2o P T r7 b f fn c args bs=some r:=by
 unfold a2o at he⊢
 split at he
 ·rename_i hs
  simp only[a3y h _ _ _ hs]
  exact he
 ·rename_i hs
  simp only[a3y h _ _ _ hs]
  exact he
 ·cases he
theorem c9x{T:C0}{cs:Nat->Call}(hc:b0y cs){f:FuncId}{fn:Func}{c:Code}{args:List V}{bs:List (Option k7)}{r:W×List (Option k7)}(he:a2o P T r7 (b2b cs) f fn c args bs=some r): ∃n,a2o P T r7 (cs n) f fn c args bs=some r:=by
 unfold a2o at he⊢
 split at he
 ·rename_i hs
  obtain⟨n,hn⟩:=b7b hc _ _ _ hs
  exact⟨n,by simp only[hn];exact he⟩
 ·rename_i hs
  obtain⟨n,hn⟩:=b7b hc _ _ _ hs
  exact⟨n,by simp only[hn];exact he⟩
 ·cases he
theorem a8l(T:C0)(lib:Call):b0y (fnA P T (fun _=>r7) lib)
 |0=>fun f x y r h=>by simp[fnA]at h
 |k+1=>fun f x y r h=>by
  rw[fnA]at h⊢
  split at h
  ·exact h
  ·split at h
   ·rename_i fn hon hf
    try simp only
    split at h
    ·cases h
    ·rename_i c hb
     try simp only
     exact d7w (a8l T lib k) h
   ·cases h
theorem b8h{T:C0}{lib:Call}{f:FuncId}{args:List V}{bs:List (Option k7)}{r:W×List (Option k7)}(h:lib f args bs=some r):c6 P T lib f args bs=some r:=by
 refine a4z (k:=1) (fun k r hr=>a8l T lib k f args bs r hr) ?_
 simp only[fnA,h]
theorem e8f{T:C0}{lib:Call}{f:FuncId}{fn:Func}{c:Code}{args:List V}{bs:List (Option k7)}{r:W×List (Option k7)}(hl:lib f args bs=none)(hon:T.on f=true)(hf:P.funcs[f]?=some fn)(hb:fn.body=some c)(h:a2o P T r7 (c6 P T lib) f fn c args bs=some r):c6 P T lib f args bs=some r:=by
 obtain⟨n,hn⟩:=c9x (cs:=fnA P T (fun _=>r7) lib) (a8l T lib) h
 refine a4z (k:=n+1) (fun k r hr=>a8l T lib k f args bs r hr) ?_
 simp only[fnA,hl,hon,hf,hb]
 exact hn
end
end Go.Vsi
namespace Go.Vsi
def WTF(W:TypeId->List D->Prop):List TypeId->List D->Prop
 |[],ds=>ds=[]
 |t::ts,ds=> ∃a b,ds=a++b∧W t a∧WTF W ts b
def WT(P:Program):Nat->TypeId->List D->Prop
 |0,_,_=>False
 |k+1,t,ds=>match P.underlying t with
  |some .bool=> ∃b,ds=[.v (.bool b)]
  |some (.int q)=> ∃n,ds=[.v (.int q n)]∧(Lit.int q n).wf=true
  |some .string=> ∃s:ByteArray,ds=[.v (.string s)]∧s.size<=maxLen
  |some (.slice e)=> ∃rows,ds=[.sl (P.cellsOf e) rows]∧rows.length<=maxLen∧ ∀r∈rows,WT P k e r
  |some (.struct fs)=>WTF (WT P k) (fs.toList.map (·.type)) ds
  |_=>False
def b3a(P:Program):Nat->List Field->Nat->Bool
 |o,[],n=>Nat.beq o n
 |o,f::r,n=>Nat.beq f.offset o&&b3a P (o+P.cellsOf f.type) r n
def okT(P:Program):Nat->TypeId->Bool
 |0,_=>false
 |k+1,t=>match P.underlying t with
  |some .bool=>true
  |some (.int _)=>true
  |some .string=>true
  |some (.slice e)=>Nat.ble 1 (P.cellsOf e)&&okT P k e
  |some (.struct fs)=>b3a P 0 fs.toList (P.cellsOf t)&&fs.toList.all fun f=>okT P k f.type
  |_=>false
theorem c2t{α β:Type}{f:α->Option β}: ∀(l:List α)(m:List β),l.mapM f=some m->m.length=l.length∧ ∀(i:Nat)(x:α),l[i]?=some x->f x=m[i]?
 |[],m,h=>by simp at h;subst h;simp
 |x::r,m,h=>by
  simp only[List.mapM_cons]at h
  cases hx:f x with
  |none=>simp[hx]at h
  |some y=>
   cases hr:r.mapM f with
   |none=>simp[hx,hr]at h
   |some m'=>
    simp[hx,hr]at h
    subst h
    obtain⟨k1,k2⟩:=c2t r m' hr
    refine⟨by simp[k1],fun i z hz=>?_⟩
    cases i with
    |zero=>simp at hz;subst hz;simpa using hx
    |succ i=>simpa using k2 i z (by simpa using hz)
theorem b2c{w:World}{base:Nat}{a:Addr}{n:Nat}{cs:List Value}(h:w.cells? base a n=some cs):cs.length=n∧ ∀j,j<n->w.cell? (a.add j)=cs[j]?:=by
 unfold World.cells? at h
 split at h
 ·obtain⟨k1,k2⟩:=c2t _ _ h
  exact⟨by simpa using k1,fun j hj=>k2 j j (by rw[List.getElem?_range hj])⟩
 ·cases h
section
variable{P:Program}{H:Type}{enc:TypeId×Value->H}{w:World}{base:Nat}{spare:Nat->Bool}{held:Bool}
def inN(w:World):Nat->Prop:=fun g=>g<w.heap.size
theorem b2d: ∀(k:Nat)(t:TypeId)(fuel:Nat)(cs:List Value)(x:DataW H×List MemPlace),okT P k t=true->DataW.trod enc P w base spare held fuel t cs=some x->
 ∃ds:List D,ds.length=cs.length∧(∀(j:Nat)(d:D),ds[j]?=some d-> ∃v,cs[j]?=some v∧t8 w (inN w) d v)∧WT P k t ds
 |0,_,_,_,_,h,_=>by simp[okT]at h
 |k+1,t,fuel,cs,x,hok,h=>by
  simp only[okT]at hok
  split at hok
  ·rename_i hu
   obtain⟨b,rfl,_⟩:=DataW.trod_bool hu h
   refine⟨[.v (.bool b)],rfl,fun j d hj=>?_,by simp only[WT,hu];exact⟨b,rfl⟩⟩
   cases j with
   |zero=>simp at hj;subst hj;exact⟨_,rfl,.v rfl⟩
   |succ j=>simp at hj
  ·rename_i q hu
   obtain⟨n,rfl,_,hwf⟩:=DataW.trod_int hu h
   refine⟨[.v (.int q n)],rfl,fun j d hj=>?_,by simp only[WT,hu];exact⟨n,rfl,hwf⟩⟩
   cases j with
   |zero=>simp at hj;subst hj;exact⟨_,rfl,.v rfl⟩
   |succ j=>simp at hj
  ·rename_i hu
   obtain⟨s,rfl,_,hs⟩:=DataW.trod_string hu h
   refine⟨[.v (.string s)],rfl,fun j d hj=>?_,by simp only[WT,hu];exact⟨s,rfl,hs⟩⟩
   cases j with
   |zero=>simp at hj;subst hj;exact⟨_,rfl,.v rfl⟩
   |succ j=>simp at hj
  ·rename_i e hu
   simp only[Bool.and_eq_true]at hok
   have h1:=Nat.le_of_ble_eq_true hok.1
   rcases DataW.trod_slice hu h with⟨rfl,_⟩|⟨a,len,cap,elems,rest,n,_,rfl,_,hba,hlc,hcm,hel,hget,_,_⟩
   ·refine⟨[.sl (P.cellsOf e) []],rfl,fun j d hj=>?_,by simp only[WT,hu];exact⟨[],rfl,by simp,by simp⟩⟩
    cases j with
    |zero=>simp at hj;subst hj;exact⟨_,rfl,.nil⟩
    |succ j=>simp at hj
   ·
    have hrow: ∀i,i<len-> ∃(cs:List Value)(r:List D),w.cells? base (a.add (i*P.cellsOf e)) (P.cellsOf e)=some cs∧r.length=cs.length∧(∀(j:Nat)(d:D),r[j]?=some d-> ∃v,cs[j]?=some v∧t8 w (inN w) d v)∧WT P k e r:=fun i hi=>by
     have:=hget i hi
     cases hc:w.cells? base (a.add (i*P.cellsOf e)) (P.cellsOf e)with
     |none=>
      rw[hc]at this
      simp only[Option.bind_none]at this
      have hlt:i<elems.length:=by omega
      rw[List.getElem?_eq_getElem hlt]at this
      cases this
     |some cs=>
      rw[hc]at this
      simp only[Option.bind_some]at this
      have hlt:i<elems.length:=by omega
      rw[List.getElem?_eq_getElem hlt]at this
      obtain⟨r,r1,r2,r3⟩:=b2d k e n cs _ hok.2 this
      exact⟨cs,r,rfl,r1,r2,r3⟩
    by_cases h0:len=0
    ·subst h0
     refine⟨[.sl (P.cellsOf e) []],rfl,fun j d hj=>?_,by simp only[WT,hu];exact⟨[],rfl,by simp,by simp⟩⟩
     cases j with
     |zero=>simp at hj;subst hj;exact⟨_,rfl,.nil⟩
     |succ j=>simp at hj
    ·
     have hspot:a.spot=none∧a.block<w.heap.size:=by
      obtain⟨cs,r,hc,_⟩:=hrow 0 (by omega)
      rw[Nat.zero_mul]at hc
      have ha0:a.add 0=a:=by simp[Addr.add]
      rw[ha0]at hc
      obtain⟨g1,g2⟩:=b2c hc
      have:=g2 0 (by omega)
      rw[ha0,List.getElem?_eq_getElem (by omega)]at this
      unfold World.cell? at this
      split at this
      ·rename_i hb
       split at this
       ·cases this
       ·rename_i hs
        exact⟨by simpa using hs,(Array.getElem?_eq_some_iff.1 hb).1⟩
      ·cases this
     obtain⟨b,q,s⟩:=a
     obtain⟨hs,hlt⟩:=hspot
     simp only at hs hlt
     subst hs
     have hch: ∃f:Nat->List D,∀i,i<len-> ∃cs:List Value,w.cells? base ((⟨b,q,none⟩:Addr).add (i*P.cellsOf e)) (P.cellsOf e)=some cs∧(f i).length=cs.length∧(∀(j:Nat)(d:D),(f i)[j]?=some d-> ∃v,cs[j]?=some v∧t8 w (inN w) d v)∧WT P k e (f i):=by
      refine⟨fun i=>if hi:i<len then Classical.choose (Classical.choose_spec (hrow i hi))else[],fun i hi=>?_⟩
      simp only[dif_pos hi]
      exact⟨Classical.choose (hrow i hi),Classical.choose_spec (Classical.choose_spec (hrow i hi))⟩
     obtain⟨f,hf⟩:=hch
     have hlen:((List.range len).map f).length=len:=by simp
     have hget': ∀(i:Nat)(r:List D),((List.range len).map f)[i]?=some r->i<len∧r=f i:=fun i r hi=>by
      rw[List.getElem?_map]at hi
      by_cases hl:i<len
      ·rw[List.getElem?_range hl]at hi
       exact⟨hl,(Option.some.inj hi).symm⟩
      ·rw[List.getElem?_eq_none (by simpa using hl)]at hi
       cases hi
     have key:t8 w (inN w) (.sl (P.cellsOf e) ((List.range len).map f)) (.slice (some ⟨b,q,none⟩) ((List.range len).map f).length cap):=by
      refine .sl (fun i j=>(w.cell? ⟨b,q+i*P.cellsOf e+j,none⟩).getD undef) (by omega) hlt (fun i r hi=>?_) (fun i r j d hi hd=>?_)
      ·obtain⟨hl,rfl⟩:=hget' i r hi
       obtain⟨cs,c1,c2,c3,_⟩:=hf i hl
       obtain⟨g1,g2⟩:=b2c c1
       refine⟨by omega,fun j hj=>?_⟩
       have:=g2 j hj
       rw[R5,R5,List.getElem?_eq_getElem (by omega)]at this
       rw[this];rfl
      ·obtain⟨hl,rfl⟩:=hget' i r hi
       obtain⟨cs,c1,c2,c3,_⟩:=hf i hl
       obtain⟨g1,g2⟩:=b2c c1
       obtain⟨v,hv,hr⟩:=c3 j d hd
       have hj:j<P.cellsOf e:=by rw[<-g1];exact(List.getElem?_eq_some_iff.1 hv).1
       have:=g2 j hj
       rw[R5,R5,hv]at this
       rw[this]
       exact hr
     rw[hlen]at key
     refine⟨[.sl (P.cellsOf e) ((List.range len).map f)],rfl,fun j d hj=>?_,?_⟩
     ·cases j with
      |zero=>simp at hj;subst hj;exact⟨_,rfl,key⟩
      |succ j=>simp at hj
     ·simp only[WT,hu]
      refine⟨_,rfl,by omega,fun r hr=>?_⟩
      obtain⟨i,hi⟩:=List.getElem?_of_mem hr
      obtain⟨hl,rfl⟩:=hget' i r hi
      obtain⟨cs,_,_,_,c4⟩:=hf i hl
      exact c4
  ·rename_i fs hu
   simp only[Bool.and_eq_true]at hok
   obtain⟨xs,n,rfl,_,hlen,hxl,hget⟩:=DataW.trod_struct hu h
   have key: ∀(l:List Field)(i o:Nat),fs.toList.drop i=l->b3a P o l (P.cellsOf t)=true->(l.all fun f=>okT P k f.type)=true->o<=cs.length->
    ∃ds:List D,ds.length=cs.length-o∧(∀(j:Nat)(d:D),ds[j]?=some d-> ∃v,cs[o+j]?=some v∧t8 w (inN w) d v)∧WTF (WT P k) (l.map (·.type)) ds:=by
    intro l
    induction l with
    |nil=>
     intro i o _ ht _ _
     have:=Nat.eq_of_beq_eq_true ht
     exact⟨[],by simp;omega,fun j d hj=>by simp at hj,rfl⟩
    |cons f r ih=>
     intro i o hdrop ht hall ho
     simp only[b3a,Bool.and_eq_true]at ht
     have hfo:=Nat.eq_of_beq_eq_true ht.1
     simp only[List.all_cons,Bool.and_eq_true]at hall
     have hfi:fs.toList[i]?=some f:=by
      have:=congrArg (·[0]?) hdrop
      simpa [List.getElem?_drop]using this
     have hfi':fs[i]?=some f:=by simpa using hfi
     have hil:i<fs.size:=(Array.getElem?_eq_some_iff.1 hfi').1
     have hg:=hget i f hfi'
     rw[List.getElem?_eq_getElem (by omega)]at hg
     obtain⟨a,a1,a2,a3⟩:=b2d k f.type n _ _ hall.1 hg
     rw[hfo]at a1 a2
     have hle: ∀(l:List Field)(o:Nat),b3a P o l (P.cellsOf t)=true->o<=P.cellsOf t:=by
      intro l
      induction l with
      |nil=>intro o h;exact Nat.le_of_eq (Nat.eq_of_beq_eq_true h)
      |cons f r ih=>
       intro o h
       simp only[b3a,Bool.and_eq_true]at h
       have:=ih _ h.2
       omega
     have hle2:=hle r _ ht.2
     have hdrop':fs.toList.drop (i+1)=r:=by
      have:=congrArg (List.drop 1) hdrop
      simpa [List.drop_drop,Nat.add_comm]using this
     obtain⟨ds,d1,d2,d3⟩:=ih (i+1) (o+P.cellsOf f.type) hdrop' ht.2 hall.2 (by omega)
     have hal:a.length=P.cellsOf f.type:=by rw[a1];simp;omega
     refine⟨a++ds,by simp;omega,fun j d hj=>?_,a,ds,rfl,a3,d3⟩
     by_cases hj':j<a.length
     ·rw[List.getElem?_append_left hj']at hj
      obtain⟨v,hv,hr⟩:=a2 j d hj
      rw[List.getElem?_take]at hv
      split at hv
      ·rw[List.getElem?_drop]at hv
       exact⟨v,hv,hr⟩
      ·cases hv
     ·rw[List.getElem?_append_right (by omega)]at hj
      obtain⟨v,hv,hr⟩:=d2 _ d hj
      exact⟨v,by rw[<-hv];congr 1;omega,hr⟩
   obtain⟨ds,d1,d2,d3⟩:=key fs.toList 0 0 rfl hok.1 hok.2 (by omega)
   refine⟨ds,by omega,fun j d hj=>?_,by simp only[WT,hu];exact d3⟩
   obtain⟨v,hv,hr⟩:=d2 j d hj
   exact⟨v,by rw[Nat.zero_add]at hv;exact hv,hr⟩
  ·cases hok
def b5j(P:Program)(t:TypeId)(ds:List D):V:=match S5 P t with
 |true=>.agg (ds.map .d)
 |false=>match ds with
  |[d]=>.c (.d d)
  |_=>.junk
def inC(w:World):Cx:=⟨w,inN w,⟨fun _=>default,fun _=>none⟩,fun _=>False,c7 []⟩
theorem e8g(w:World):o6 (inC w) where
 blk:=fun id b hb=>by have:c7 [] id=some b:=hb;rw[O0]at this;cases this
 used:=fun id b hb=>by have:c7 [] id=some b:=hb;rw[O0]at this;cases this
 inj:=fun id id' b b' hb=>by have:c7 [] id=some b:=hb;rw[O0]at this;cases this
 apart:=fun id b hb=>by have:c7 [] id=some b:=hb;rw[O0]at this;cases this
 low:=fun g hg=>hg
 nest:=fun g a id b ho=>by cases ho
 olow:=fun g a ho=>by cases ho
theorem d7x{r:Reach}{b0 k:Nat}{t:TypeId}{v:Value}{d:DataW H}{p:List MemPlace}(hok:okT P k t=true)(hv:Value.okWide P w r b0 t v)(h:DataW.Trod enc P w base spare held t v d p):
 ∃ds,WT P k t ds∧r9 (inC w) (b5j P t ds) v:=by
 obtain⟨fuel,hf⟩:=h
 obtain⟨ds,d1,d2,d3⟩:=b2d k t fuel _ _ hok hf
 refine⟨ds,d3,?_⟩
 cases k with
 |zero=>simp[okT]at hok
 |succ k=>
  have one: ∀x,v.cells= #[v]->ds=[x]->S5 P t=false->r9 (inC w) (b5j P t ds) v:=fun x hc hd hb=>by
   subst hd
   unfold b5j
   rw[hb]
   obtain⟨u,hu,hr⟩:=d2 0 x rfl
   rw[hc]at hu
   simp at hu
   subst hu
   exact hr
  simp only[okT]at hok
  split at hok
  ·rename_i hu
   obtain⟨b,rfl⟩:=Go.WideShapes.okWide_bool hu hv
   have hx:=d3
   simp only[WT,hu]at hx
   obtain⟨_,hx⟩:=hx
   exact one _ rfl hx (by unfold S5;rw[hu])
  ·rename_i q hu
   obtain⟨b,rfl⟩:=Go.WideShapes.okWide_int hu hv
   have hx:=d3
   simp only[WT,hu]at hx
   obtain⟨_,hx,_⟩:=hx
   exact one _ rfl hx (by unfold S5;rw[hu])
  ·rename_i hu
   obtain⟨b,rfl⟩:=Go.WideShapes.okWide_string hu hv
   have hx:=d3
   simp only[WT,hu]at hx
   obtain⟨_,hx,_⟩:=hx
   exact one _ rfl hx (by unfold S5;rw[hu])
  ·rename_i e hu
   obtain⟨a,l,c,rfl⟩:=Go.WideShapes.okWide_slice hu hv
   have hx:=d3
   simp only[WT,hu]at hx
   obtain⟨_,hx,_⟩:=hx
   exact one _ rfl hx (by unfold S5;rw[hu])
  ·rename_i fs hu
   unfold Value.okWide at hv
   rw[hu]at hv
   obtain⟨cs,rfl,_,_⟩:=hv
   unfold b5j
   have hb:S5 P t=true:=by unfold S5;rw[hu]
   rw[hb]
   refine⟨cs,rfl,by simpa [Value.cells]using d1.symm,fun j s hj=>?_⟩
   rw[List.getElem?_map]at hj
   cases hd:ds[j]? with
   |none=>simp[hd]at hj
   |some x=>
    simp only[hd,Option.map_some,Option.some.injEq]at hj
    subst hj
    obtain⟨u,hu',hr⟩:=d2 j x hd
    exact⟨u,by simpa [Value.cells]using hu',hr⟩
  ·cases hok
theorem c9y{call:Call}(hcall:J8 P call){f:FuncId}{args:List V}{vs:Array Value}{bs:List (Option k7)}{b:Bool}(h:call f args []=some (.one (.c (.d (.v (.bool b)))),bs))(hs:vs.size=args.length)(hv:l0 (r9 (inC w)) vs 0 args):
 Calls P f vs w fun e w'=>e=.returned (.bool b)∧Go.RowKit.Below w.heap.size w w':=by
 refine Calls.mono (hcall f args [] _ _ h (inC w) vs (e8g w) rfl (fun i=>by show False↔_;simp) hs hv) fun e w' he=>?_
 obtain⟨v,c',rfl,rfl,_,_,h3,h4⟩:=he
 have:=A2 (c:=c') (s:=.c (.d (.v (.bool b)))) (v:=v) rfl h3
 subst this
 refine⟨rfl,h4.os,h4.tape,h4.output,h4.size,fun k hk=>h4.keep k hk ?_⟩
 rintro(⟨id,b,hb,_⟩|⟨a,id,b,ho,_⟩)
 ·have:c7 [] id=some b:=hb
  rw[O0]at this
  cases this
 ·cases ho
end
def f3e(P:Program):Bool:=P.funcs.all fun fn=>!(fn.name== "runtime.NumGoroutine")
theorem d2x{P:Program}(h:f3e P=true):a0a P:=fun f fn hf=>by
 have:=(Array.all_eq_true_iff_forall_mem.1 h) fn (Array.mem_of_getElem? hf)
 simpa using this
def e8h(P:Program)(T:C0):Bool:=(List.range P.funcs.size).all fun f=>match T.on f with
 |false=>true
 |true=>match P.funcs[f]? with
  |some fn=>match fn.body with
   |some c=>K8 T f c
   |none=>true
  |none=>true
theorem b7c{P:Program}{T:C0}(h:e8h P T=true):a6c P T:=fun f fn c hon hf hb=>by
 have:=List.all_eq_true.1 h f (List.mem_range.2 (Array.getElem?_eq_some_iff.1 hf).1)
 simpa [hon,hf,hb]using this
end Go.Vsi
namespace Go.Vsi
noncomputable def g8(P:Program)(T:C0)(call:Call)(f:FuncId)(b:Code)(s:St):Option (Ex×St):=
 match (match o5 P T r7 call f b s with
  |some (.normal,st')=>r7 (fun s=>o5 P T r7 call f b s) (T.keep f (e7 b)) st'
  |r=>r)with
 |some (ex,st')=>some (ex,G4 (T.out f (e7 b)) st')
 |none=>none
theorem d7y(body:St->Option (Ex×St))(keep:List Nat)(st:St):r7 body keep st=match body (G4 keep st)with|some (.normal,st')=>r7 body keep st'|r=>r:=by
 have h1: ∀r,r7 body keep st=some r->(match body (G4 keep st)with|some (.normal,st')=>r7 body keep st'|r=>r)=some r:=fun r h=>by
  obtain⟨k,hk⟩:=a0b h
  cases k with
  |zero=>simp[J7]at hk
  |succ k=>
   simp only[J7]at hk
   split at hk
   ·rename_i st' hb
    simp only[hb]
    exact a4z (fun k r=>U3 body keep k _ r) hk
   ·rename_i hno
    rw[hk]
    obtain⟨ex,s⟩:=r
    cases ex with
    |normal=>exact absurd hk (hno s)
    |exit i=>rfl
    |ret=>rfl
 have h2: ∀r,(match body (G4 keep st)with|some (.normal,st')=>r7 body keep st'|r=>r)=some r->r7 body keep st=some r:=fun r h=>by
  split at h
  ·rename_i st' hb
   exact c9t hb h
  ·rename_i hno
   obtain⟨ex,s⟩:=r
   cases ex with
   |normal=>exact absurd h (hno s)
   |exit i=>exact c9u h
   |ret=>exact d2v h
 cases hl:r7 body keep st with
 |some r=>exact(h1 r hl).symm
 |none=>
  cases hr:(match body (G4 keep st)with|some (.normal,st')=>r7 body keep st'|r=>r)with
  |none=>rfl
  |some r=>rw[h2 r hr]at hl;cases hl
section
variable{P:Program}{T:C0}{call:Call}{f:FuncId}{st:St}
theorem b4d(id:Nat)(ops:Array Oper)(draw:Bool):o5 P T r7 call f (.region id ops draw) st=match a5i P T call f id ops.toList draw st with|some st'=>some (.normal,st')|none=>none:=rfl
theorem d7z(a b:Code):o5 P T r7 call f (.seq a b) st=match o5 P T r7 call f a st with|some (.normal,st')=>o5 P T r7 call f b st'|r=>r:=by
 simp only[o5]
 rfl
theorem d2y(c:Operand)(a b:Code):o5 P T r7 call f (.cond c a b) st=match evA st.tm c with|.one (.c (.d (.v (.bool t))))=>(match t with|true=>o5 P T r7 call f a st|false=>o5 P T r7 call f b st)|_=>none:=by
 simp only[o5]
 rfl
theorem c9z(id:Nat)(b:Code):o5 P T r7 call f (.block id b) st=match o5 P T r7 call f b st with|some (.exit j,st')=>(match Nat.beq j id with|true=>some (.normal,st')|false=>some (.exit j,st'))|r=>r:=by
 simp only[o5]
 rfl
theorem c0d(b:Code):o5 P T r7 call f (.loop b) st=g8 P T call f b (G4 (T.keep f (e7 b)) st):=by
 simp only[o5,g8]
 rw[d7y]
 rfl
theorem d0a{b:Code}{s st' s':St}(h:o5 P T r7 call f b s=some (.normal,st'))(hc:G4 (T.keep f (e7 b)) st'=s'):g8 P T call f b s=g8 P T call f b s':=by
 subst hc
 rw[<-c0d]
 simp only[g8,h,o5]
 rfl
theorem d0b{b:Code}{s st' s':St}{i:Nat}(h:o5 P T r7 call f b s=some (.exit i,st'))(hc:G4 (T.out f (e7 b)) st'=s'):g8 P T call f b s=some (.exit i,s'):=by
 subst hc
 simp only[g8,h]
theorem d2z{b:Code}{s st' s':St}(h:o5 P T r7 call f b s=some (.ret,st'))(hc:G4 (T.out f (e7 b)) st'=s'):g8 P T call f b s=some (.ret,s'):=by
 subst hc
 simp only[g8,h]
end
theorem e8i(a b:Nat):Nat.beq a b=(a==b):=by
 cases h:Nat.beq a b with
 |true=>simp[Nat.eq_of_beq_eq_true h]
 |false=>simp[Nat.ne_of_beq_eq_false h]
theorem e8j(a b:Nat):Nat.ble a b=decide (a<=b):=by
 cases h:Nat.ble a b with
 |true=>simp[Nat.le_of_ble_eq_true h]
 |false=>simp[Nat.not_le_of_not_ble_eq_true (by rw[h];simp)]
theorem D2{α β:Type}{P:Program}(s:Sem α)(f:α->Sem β):m9 P (s>>=f)=(m9 P s).bind fun a=>m9 P (f a):=by
 show m9 P (Sem.bind s f)=_
 induction s with
 |pure x=>rfl
 |program k ih=>exact ih P
 |_=>rfl
theorem J9{P:Program}{t:TypeId}{d:TypeDesc}(h:P.underlying t=some d):m9 P (underlying t)=some d:=by
 unfold underlying
 rw[D2]
 show(m9 P (Sem.program .pure)).bind _=_
 simp only[m9,Option.bind_some,h]
 rfl
theorem a5a{P:Program}{t:TypeId}(h:P.underlying t=some .bool)(a b:Bool):m9 P (Op.equal t (.bool a) (.bool b))=some (a==b):=by
 unfold Op.equal
 have: ∃d,Op.maxDepth=d+1:=⟨_,rfl⟩
 obtain⟨d,hd⟩:=this
 rw[hd]
 unfold Op.equalIn
 rw[D2,J9 h]
 rfl
section
variable{P:Program}(t:TypeId)(x y:Operand)
theorem e2i(k:IntKind)(a b:Int):i8 P (do eqGuard .add t x y (.int k a) (.int k b);binOp .add t (.int k a) (.int k b))=some (.one (.c (.d (.v (.int k (k.wrap (a+b))))))):=by
 simp[i8,eqGuard,binOp,Op.intArith,m9,Pure.pure,Bind.bind,Sem.bind,G3,G2]
theorem e2j(k:IntKind)(a b:Int):i8 P (do eqGuard .sub t x y (.int k a) (.int k b);binOp .sub t (.int k a) (.int k b))=some (.one (.c (.d (.v (.int k (k.wrap (a-b))))))):=by
 simp[i8,eqGuard,binOp,Op.intArith,m9,Pure.pure,Bind.bind,Sem.bind,G3,G2]
theorem e2k(k:IntKind)(a b:Int):i8 P (do eqGuard .mul t x y (.int k a) (.int k b);binOp .mul t (.int k a) (.int k b))=some (.one (.c (.d (.v (.int k (k.wrap (a*b))))))):=by
 simp[i8,eqGuard,binOp,Op.intArith,m9,Pure.pure,Bind.bind,Sem.bind,G3,G2]
theorem B6(k:IntKind)(a b:Int):i8 P (do eqGuard .eql t x y (.int k a) (.int k b);binOp .eql t (.int k a) (.int k b))=some (.one (.c (.d (.v (.bool (decide (a=b))))))):=by
 simp[i8,eqGuard,binOp,Op.intCmp,m9,Pure.pure,Bind.bind,Sem.bind,G3,G2]
 rfl
theorem B7(k:IntKind)(a b:Int):i8 P (do eqGuard .neq t x y (.int k a) (.int k b);binOp .neq t (.int k a) (.int k b))=some (.one (.c (.d (.v (.bool (!decide (a=b))))))):=by
 simp[i8,eqGuard,binOp,Op.intCmp,m9,Pure.pure,Bind.bind,Sem.bind,G3,G2]
 rfl
theorem e2l(k:IntKind)(a b:Int):i8 P (do eqGuard .lss t x y (.int k a) (.int k b);binOp .lss t (.int k a) (.int k b))=some (.one (.c (.d (.v (.bool (decide (a<b))))))):=by
 simp[i8,eqGuard,binOp,Op.intCmp,m9,Pure.pure,Bind.bind,Sem.bind,G3,G2]
theorem e2m(k:IntKind)(a b:Int):i8 P (do eqGuard .leq t x y (.int k a) (.int k b);binOp .leq t (.int k a) (.int k b))=some (.one (.c (.d (.v (.bool (decide (a<=b))))))):=by
 simp[i8,eqGuard,binOp,Op.intCmp,m9,Pure.pure,Bind.bind,Sem.bind,G3,G2]
theorem e2n(k:IntKind)(a b:Int):i8 P (do eqGuard .gtr t x y (.int k a) (.int k b);binOp .gtr t (.int k a) (.int k b))=some (.one (.c (.d (.v (.bool (decide (b<a))))))):=by
 simp[i8,eqGuard,binOp,Op.intCmp,m9,Pure.pure,Bind.bind,Sem.bind,G3,G2]
theorem e2o(k:IntKind)(a b:Int):i8 P (do eqGuard .geq t x y (.int k a) (.int k b);binOp .geq t (.int k a) (.int k b))=some (.one (.c (.d (.v (.bool (decide (b<=a))))))):=by
 simp[i8,eqGuard,binOp,Op.intCmp,m9,Pure.pure,Bind.bind,Sem.bind,G3,G2]
theorem e2p(k:IntKind)(a b:Int)(h:b≠0):i8 P (do eqGuard .rem t x y (.int k a) (.int k b);binOp .rem t (.int k a) (.int k b))=some (.one (.c (.d (.v (.int k (a.tmod b)))))):=by
 simp[i8,eqGuard,binOp,Op.intDiv,m9,Pure.pure,Bind.bind,Sem.bind,G3,G2,h]
theorem e2q(k:IntKind)(a b:Int)(h:b≠0):i8 P (do eqGuard .quo t x y (.int k a) (.int k b);binOp .quo t (.int k a) (.int k b))=some (.one (.c (.d (.v (.int k (k.wrap (a.tdiv b))))))):=by
 simp[i8,eqGuard,binOp,Op.intDiv,m9,Pure.pure,Bind.bind,Sem.bind,G3,G2,h]
theorem d8a(a b:ByteArray):i8 P (do eqGuard .eql t x y (.string a) (.string b);binOp .eql t (.string a) (.string b))=some (.one (.c (.d (.v (.bool (a.toList==b.toList)))))):=by
 simp[i8,eqGuard,binOp,Op.stringOp,m9,Pure.pure,Bind.bind,Sem.bind,G3,G2]
theorem d8b(a b:ByteArray):i8 P (do eqGuard .neq t x y (.string a) (.string b);binOp .neq t (.string a) (.string b))=some (.one (.c (.d (.v (.bool (!(a.toList==b.toList))))))):=by
 simp[i8,eqGuard,binOp,Op.stringOp,m9,Pure.pure,Bind.bind,Sem.bind,G3,G2]
theorem d8c(a b:ByteArray):i8 P (do eqGuard .lss t x y (.string a) (.string b);binOp .lss t (.string a) (.string b))=some (.one (.c (.d (.v (.bool (Op.bytesLess a.toList b.toList)))))):=by
 simp[i8,eqGuard,binOp,Op.stringOp,m9,Pure.pure,Bind.bind,Sem.bind,G3,G2]
theorem d8d(a b:ByteArray)(h:a.size+b.size<=9223372036854775807):i8 P (do eqGuard .add t x y (.string a) (.string b);binOp .add t (.string a) (.string b))=some (.one (.c (.d (.v (.string (a++b)))))):=by
 have h2:IntKind.i64.max=9223372036854775807:=rfl
 have h': ¬(((a.size+b.size:Nat):Int)>IntKind.i64.max):=by rw[h2];omega
 have e:m9 P (do eqGuard .add t x y (.string a) (.string b);binOp .add t (.string a) (.string b))=some (.string (a++b)):=by
  rw[D2]
  show(some ()).bind _=_
  simp only[Option.bind_some]
  show m9 P (if((a.size+b.size:Nat):Int)>IntKind.i64.max then _ else _)=_
  rw[if_neg h']
  rfl
 unfold i8
 rw[e]
 rfl
theorem d8e(h:P.underlying t=some .bool)(a b:Bool):i8 P (do eqGuard .eql t x y (.bool a) (.bool b);binOp .eql t (.bool a) (.bool b))=some (.one (.c (.d (.v (.bool (a==b)))))):=by
 have e:m9 P (do eqGuard .eql t x y (.bool a) (.bool b);binOp .eql t (.bool a) (.bool b))=some (.bool (a==b)):=by
  rw[D2]
  show(some ()).bind _=_
  simp only[Option.bind_some]
  show m9 P (Op.equal t (.bool a) (.bool b)>>=_)=_
  rw[D2,a5a h]
  rfl
 unfold i8
 rw[e]
 rfl
theorem d8f(h:P.underlying t=some .bool)(a b:Bool):i8 P (do eqGuard .neq t x y (.bool a) (.bool b);binOp .neq t (.bool a) (.bool b))=some (.one (.c (.d (.v (.bool (!(a==b))))))):=by
 have e:m9 P (do eqGuard .neq t x y (.bool a) (.bool b);binOp .neq t (.bool a) (.bool b))=some (.bool (!(a==b))):=by
  rw[D2]
  show(some ()).bind _=_
  simp only[Option.bind_some]
  show m9 P (Op.equal t (.bool a) (.bool b)>>=_)=_
  rw[D2,a5a h]
  rfl
 unfold i8
 rw[e]
 rfl
theorem e8k(a:Bool):i8 P (Op.unary .not (.bool a))=some (.one (.c (.d (.v (.bool (!a)))))):=by
 simp[i8,Op.unary,m9,Pure.pure,G3,G2]
theorem e2r{ts:Array TypeId}{u:TypeId}(h0:ts[0]?=some u)(hu:P.underlying u=some .string)(s:ByteArray):i8 P (Builtin.len_ ts 0 #[.string s])=some (.one (.c (.d (.v (.int .i64 s.size))))):=by
 have e:m9 P (Builtin.len_ ts 0 #[.string s])=some (.int .i64 s.size):=by
  unfold Builtin.len_
  simp only[h0]
  show m9 P (underlying u>>=_)=_
  rw[D2,J9 hu]
  rfl
 unfold i8
 rw[e]
 rfl
theorem e8l{u:TypeId}(hu:P.underlying u=some .string)(s:ByteArray)(k:IntKind)(i:Int)(b:UInt8)(h0:0<=i)(hb:s[i.toNat]?=some b):i8 P (Instr.index u (.string s) (.int k i))=some (.one (.c (.d (.v (.int .u8 b.toNat))))):=by
 have e:m9 P (Instr.index u (.string s) (.int k i))=some (.int .u8 b.toNat):=by
  unfold Instr.index
  show m9 P (underlying u>>=_)=_
  rw[D2,J9 hu]
  show m9 P (match (if 0<=i then s[i.toNat]? else none)with|some b=>_|none=>_)=_
  rw[if_pos h0,hb]
  rfl
 unfold i8
 rw[e]
 rfl
theorem a3z{src dst:TypeId}{a b:IntKind}(hs:P.underlying src=some (.int a))(hd:P.underlying dst=some (.int b))(k:IntKind)(n:Int):i8 P (convert src dst (.int k n))=some (.one (.c (.d (.v (.int b (b.wrap n)))))):=by
 have e:m9 P (convert src dst (.int k n))=some (.int b (b.wrap n)):=by
  unfold convert
  rw[D2,J9 hs]
  show m9 P (underlying dst>>=_)=_
  rw[D2,J9 hd]
  rfl
 unfold i8
 rw[e]
 rfl
theorem e2s(ts:Array TypeId)(k k':IntKind)(a b:Int):i8 P (Builtin.min_ ts 0 #[.int k a,.int k' b])=some (.one (.c (.d (.v (.int k (if b<a then b else a)))))):=by
 have e:m9 P (Builtin.min_ ts 0 #[.int k a,.int k' b])=some (.int k (if b<a then b else a)):=rfl
 unfold i8
 rw[e]
 rfl
theorem e2t(ts:Array TypeId)(k k':IntKind)(a b:Int):i8 P (Builtin.max_ ts 0 #[.int k a,.int k' b])=some (.one (.c (.d (.v (.int k (if b>a then b else a)))))):=by
 have e:m9 P (Builtin.max_ ts 0 #[.int k a,.int k' b])=some (.int k (if b>a then b else a)):=rfl
 unfold i8
 rw[e]
 rfl
end
end Go.Vsi
namespace Go.Vsi
def B(l:List UInt8):ByteArray:=⟨l.toArray⟩
theorem e8m(n:Int)(h0: -9223372036854775808<=n)(h1:n<=9223372036854775807):IntKind.i64.wrap n=n:=by
 show(if(IntKind.i64.signed&&decide (n%2^IntKind.i64.bits≥2^(IntKind.i64.bits-1)))=true then n%2^IntKind.i64.bits-2^IntKind.i64.bits else n%2^IntKind.i64.bits)=n
 have e2:(2:Int)^IntKind.i64.bits=18446744073709551616:=rfl
 have e3:(2:Int)^(IntKind.i64.bits-1)=9223372036854775808:=rfl
 rw[e2,e3]
 have e4:IntKind.i64.signed=true:=rfl
 rw[e4,Bool.true_and]
 split
 ·rename_i h
  simp only[ge_iff_le,decide_eq_true_eq]at h
  omega
 ·rename_i h
  simp only[ge_iff_le,decide_eq_true_eq]at h
  omega
end Go.Vsi
namespace Go.Vsi
section
variable{P:Program}{T:C0}{call:Call}{f:FuncId}{α:Type}
def toB:W->Option Bool
 |.one (.c (.d (.v (.bool b))))=>some b
 |_=>none
theorem e2u{w:W}{b:Bool}(h:toB w=some b):w=.one (.c (.d (.v (.bool b)))):=by
 cases w with
 |tup l=>cases h
 |one v=>cases v with
  |agg l=>cases h
  |junk=>cases h
  |c s=>cases s with
   |d x=>cases x with
    |sl k r=>cases h
    |any=>cases h
    |lit=>cases h
    |v y=>cases y with
     |bool t=>injection h with h;rw[h]
     |_=>cases h
   |_=>cases h
inductive Kt where
 |seq (b:Code)
 |blk (id:Nat)
noncomputable def B5(P:Program)(T:C0)(call:Call)(f:FuncId)(F:Ex->St->Option α):List Kt->Ex->St->Option α
 |[],ex,st=>F ex st
 |.seq b::ks,.normal,st=>match o5 P T r7 call f b st with
  |some (ex,st')=>B5 P T call f F ks ex st'
  |none=>none
 |.seq _::ks,.exit i,st=>B5 P T call f F ks (.exit i) st
 |.seq _::ks,.ret,st=>B5 P T call f F ks .ret st
 |.blk id::ks,.exit j,st=>match Nat.beq j id with
  |true=>B5 P T call f F ks .normal st
  |false=>B5 P T call f F ks (.exit j) st
 |.blk _::ks,.normal,st=>B5 P T call f F ks .normal st
 |.blk _::ks,.ret,st=>B5 P T call f F ks .ret st
noncomputable def s9(P:Program)(T:C0)(call:Call)(f:FuncId)(F:Ex->St->Option α)(c:Code)(st:St)(ks:List Kt):Option α:=
 match o5 P T r7 call f c st with
 |some (ex,st')=>B5 P T call f F ks ex st'
 |none=>none
variable{F:Ex->St->Option α}{ks:List Kt}{st:St}
theorem d8g{ex:Ex}:B5 P T call f F [] ex st=F ex st:=by cases ex<;>rfl
theorem d8h{b:Code}:B5 P T call f F (.seq b::ks) .normal st=s9 P T call f F b st ks:=rfl
theorem d3a{b:Code}{i:Nat}:B5 P T call f F (.seq b::ks) (.exit i) st=B5 P T call f F ks (.exit i) st:=rfl
theorem d3b{b:Code}:B5 P T call f F (.seq b::ks) .ret st=B5 P T call f F ks .ret st:=rfl
theorem d8i{id:Nat}:B5 P T call f F (.blk id::ks) .normal st=B5 P T call f F ks .normal st:=rfl
theorem d3c{id:Nat}:B5 P T call f F (.blk id::ks) .ret st=B5 P T call f F ks .ret st:=rfl
theorem d3d{id j:Nat}:B5 P T call f F (.blk id::ks) (.exit j) st=match Nat.beq j id with|true=>B5 P T call f F ks .normal st|false=>B5 P T call f F ks (.exit j) st:=rfl
theorem d3e:s9 P T call f F .skip st ks=B5 P T call f F ks .normal st:=rfl
theorem d8j:s9 P T call f F .ret st ks=B5 P T call f F ks .ret st:=rfl
theorem d3f{i:Nat}:s9 P T call f F (.exit i) st ks=B5 P T call f F ks (.exit i) st:=rfl
theorem d8k{a b:Code}:s9 P T call f F (.seq a b) st ks=s9 P T call f F a st (.seq b::ks):=by
 unfold s9
 rw[d7z]
 cases o5 P T r7 call f a st with
 |none=>rfl
 |some x=>obtain⟨ex,st'⟩:=x;cases ex<;>rfl
theorem d0c{id:Nat}{b:Code}:s9 P T call f F (.block id b) st ks=s9 P T call f F b st (.blk id::ks):=by
 unfold s9
 rw[c9z]
 cases o5 P T r7 call f b st with
 |none=>rfl
 |some x=>
  obtain⟨ex,st'⟩:=x
  cases ex with
  |normal=>rfl
  |ret=>rfl
  |exit j=>simp only[B5];cases Nat.beq j id<;>rfl
noncomputable def a5r(P:Program)(T:C0)(call:Call)(f:FuncId)(F:Ex->St->Option α)(a b:Code)(st:St)(ks:List Kt)(w:W):Option α:=
 match toB w with
 |some t=>if t=true then s9 P T call f F a st ks else s9 P T call f F b st ks
 |none=>none
theorem C2{a b:Code}{t:Bool}:a5r P T call f F a b st ks (.one (.c (.d (.v (.bool t)))))=if t=true then s9 P T call f F a st ks else s9 P T call f F b st ks:=rfl
theorem d3g{c:Operand}{a b:Code}:s9 P T call f F (.cond c a b) st ks=a5r P T call f F a b st ks (evA st.tm c):=by
 unfold a5r s9
 rw[d2y]
 cases h:toB (evA st.tm c)with
 |some t=>rw[e2u h];cases t<;>rfl
 |none=>
  cases hw:evA st.tm c with
  |tup l=>rfl
  |one v=>cases v with
   |agg l=>rfl
   |junk=>rfl
   |c s=>cases s with
    |d x=>cases x with
     |sl k r=>rfl
     |any=>rfl
     |lit=>rfl
     |v y=>cases y with
      |bool t=>rw[hw]at h;cases h
      |_=>rfl
    |_=>rfl
noncomputable def O7(P:Program)(T:C0)(call:Call)(f:FuncId)(F:Ex->St->Option α)(n:Nat)(st:St)(ks:List Kt):Option (List W×Hp)->Option α
 |some (tm,h)=>B5 P T call f F ks .normal {st with tm:=tm,h:=h,next:=st.next+n*64}
 |none=>none
theorem d3h{n next io:Nat}{tm tm':List W}{h h':Hp}:O7 P T call f F n ⟨tm',h',next,io⟩ ks (some (tm,h))=B5 P T call f F ks .normal ⟨tm,h,next+n*64,io⟩:=rfl
theorem H5{n:Nat}{c:Prop}[Decidable c]{x y:Option (List W×Hp)}:O7 P T call f F n st ks (if c then x else y)=if c then O7 P T call f F n st ks x else O7 P T call f F n st ks y:=by split<;>rfl
def b2e(g:St->Option α):Option St->Option α
 |some st=>g st
 |none=>none
theorem b4e{id:Nat}{ops:Array Oper}:s9 P T call f F (.region id ops false) st ks=
 b2e (fun s=>O7 P T call f F ops.toList.length s ks (E5 P T.lend call ops.toList s.next 0 ops.toList s.tm s.h)) (X7 (T.pre f id) (a1p (T.frz f id) st)):=by
 unfold s9
 rw[b4d]
 simp only[a5i]
 cases X7 (T.pre f id) (a1p (T.frz f id) st)with
 |none=>rfl
 |some s=>
  simp only[b2e]
  cases E5 P T.lend call ops.toList s.next 0 ops.toList s.tm s.h<;>rfl
noncomputable def M8(P:Program)(T:C0)(call:Call)(f:FuncId)(F:Ex->St->Option α)(ops:List Oper)(ord:List Nat)(n:Nat)(st:St)(ks:List Kt):Option (List W×Hp×List K6)->Option α
 |some (tm,h,rs)=>match z9 ops ord rs with
  |true=>B5 P T call f F ks .normal {st with tm:=tm,h:=h,next:=st.next+n*64}
  |false=>none
 |none=>none
theorem x4{ops:List Oper}{ord:List Nat}{n next io:Nat}{tm tm':List W}{h h':Hp}{rs:List K6}:M8 P T call f F ops ord n ⟨tm',h',next,io⟩ ks (some (tm,h,rs))=match z9 ops ord rs with|true=>B5 P T call f F ks .normal ⟨tm,h,next+n*64,io⟩|false=>none:=rfl
theorem H6{ops:List Oper}{ord:List Nat}{n:Nat}{c:Prop}[Decidable c]{x y:Option (List W×Hp×List K6)}:M8 P T call f F ops ord n st ks (if c then x else y)=if c then M8 P T call f F ops ord n st ks x else M8 P T call f F ops ord n st ks y:=by split<;>rfl
theorem c0e{id:Nat}{ops:Array Oper}:s9 P T call f F (.region id ops true) st ks=
 b2e (fun s=>M8 P T call f F ops.toList (a5l (T.ord f id) ops.toList.length) ops.toList.length s ks (z0 P T.lend call ops.toList s.next (a5l (T.ord f id) ops.toList.length) s.tm s.h [])) (X7 (T.pre f id) (a1p (T.frz f id) st)):=by
 unfold s9
 rw[b4d]
 simp only[a5i,b2x]
 cases X7 (T.pre f id) (a1p (T.frz f id) st)with
 |none=>rfl
 |some s=>
  simp only[b2e]
  cases z0 P T.lend call ops.toList s.next (a5l (T.ord f id) ops.toList.length) s.tm s.h []with
  |none=>rfl
  |some x=>
   simp only[M8]
   cases z9 ops.toList (a5l (T.ord f id) ops.toList.length) x.2.2<;>rfl
noncomputable def b5k(P:Program)(T:C0)(call:Call)(f:FuncId)(F:Ex->St->Option α)(ks:List Kt):Option (Ex×St)->Option α
 |some (ex,st)=>B5 P T call f F ks ex st
 |none=>none
theorem d3i{ex:Ex}:b5k P T call f F ks (some (ex,st))=B5 P T call f F ks ex st:=rfl
theorem d8l{c:Prop}[Decidable c]{x y:Option (Ex×St)}:b5k P T call f F ks (if c then x else y)=if c then b5k P T call f F ks x else b5k P T call f F ks y:=by split<;>rfl
theorem d3j{b:Code}:s9 P T call f F (.loop b) st ks=b5k P T call f F ks (g8 P T call f b (G4 (T.keep f (e7 b)) st)):=by
 unfold s9
 rw[c0d]
 rfl
variable{lend:FuncId->Bool}{ops:List Oper}{n0:Nat}
def a7b(P:Program)(lend:FuncId->Bool)(call:Call)(ops:List Oper)(n0 i:Nat)(r:List Oper)(dst:Option Tmp)(tm:List W)(h:Hp):Option Z2->Option (List W×Hp)
 |some (w,up)=>E5 P lend call ops n0 (i+1) r (C9 tm dst w) (m0 h up)
 |none=>none
def b5l(P:Program)(lend:FuncId->Bool)(call:Call)(ops:List Oper)(n0 i:Nat)(o:Oper)(r:List Oper)(tm:List W)(h:Hp):Option Bool->Option (List W×Hp)
 |some b=>if b=true then a7b P lend call ops n0 i r o.dst tm h (B8 P lend call (fun k=>n0+i+ops.length*k) (evA tm) h o.op)else E5 P lend call ops n0 (i+1) r (C9 tm o.dst (.tup [])) h
 |none=>none
theorem d3k{i:Nat}{r:List Oper}{dst:Option Tmp}{tm:List W}{h:Hp}{w:W}{up:List (Nat×Option k7)}:a7b P lend call ops n0 i r dst tm h (some (w,up))=E5 P lend call ops n0 (i+1) r (C9 tm dst w) (m0 h up):=rfl
theorem H7{i:Nat}{r:List Oper}{dst:Option Tmp}{tm:List W}{h:Hp}{c:Prop}[Decidable c]{x y:Option Z2}:a7b P lend call ops n0 i r dst tm h (if c then x else y)=if c then a7b P lend call ops n0 i r dst tm h x else a7b P lend call ops n0 i r dst tm h y:=by split<;>rfl
theorem F0{i:Nat}{o:Oper}{r:List Oper}{tm:List W}{h:Hp}{b:Bool}:b5l P lend call ops n0 i o r tm h (some b)=if b=true then a7b P lend call ops n0 i r o.dst tm h (B8 P lend call (fun k=>n0+i+ops.length*k) (evA tm) h o.op)else E5 P lend call ops n0 (i+1) r (C9 tm o.dst (.tup [])) h:=rfl
theorem d8m{i:Nat}{tm:List W}{h:Hp}:E5 P lend call ops n0 i [] tm h=some (tm,h):=rfl
theorem d3l{i:Nat}{o:Oper}{r:List Oper}{tm:List W}{h:Hp}:E5 P lend call ops n0 i (o::r) tm h=b5l P lend call ops n0 i o r tm h (G7 ops tm o):=by
 simp only[E5,a5j]
 cases G7 ops tm o with
 |none=>rfl
 |some b=>
  cases b with
  |false=>rfl
  |true=>
   simp only[b5l,if_true]
   cases B8 P lend call (fun k=>n0+i+ops.length*k) (evA tm) h o.op<;>rfl
def a0x(P:Program)(lend:FuncId->Bool)(call:Call)(ops:List Oper)(n0 i:Nat)(r:List Nat)(o:Oper)(tm:List W)(h:Hp)(rs:List K6):Option Z2->Option (List W×Hp×List K6)
 |some (w,up)=>match a4u lend (O6 (A3 o.op) tm) (cut (Y1 (O6 (A3 o.op) tm) h o.op) h) o.op with
  |true=>z0 P lend call ops n0 r (C9 tm o.dst w) (m0 h up) (⟨i,Y1 (O6 (A3 o.op) tm) h o.op,up.map (·.1)⟩::rs)
  |false=>none
 |none=>none
def b2f(P:Program)(lend:FuncId->Bool)(call:Call)(ops:List Oper)(n0 i:Nat)(o:Oper)(r:List Nat)(tm:List W)(h:Hp)(rs:List K6):Option Bool->Option (List W×Hp×List K6)
 |some b=>if b=true then a0x P lend call ops n0 i r o tm h rs (B8 P lend call (fun k=>n0+i+ops.length*k) (O6 (A3 o.op) tm) (cut (Y1 (O6 (A3 o.op) tm) h o.op) h) o.op)else z0 P lend call ops n0 r (C9 tm o.dst (.tup [])) h rs
 |none=>none
theorem d3m{i:Nat}{o:Oper}{r:List Nat}{tm:List W}{h:Hp}{rs:List K6}{w:W}{up:List (Nat×Option k7)}:a0x P lend call ops n0 i r o tm h rs (some (w,up))=match a4u lend (O6 (A3 o.op) tm) (cut (Y1 (O6 (A3 o.op) tm) h o.op) h) o.op with
 |true=>z0 P lend call ops n0 r (C9 tm o.dst w) (m0 h up) (⟨i,Y1 (O6 (A3 o.op) tm) h o.op,up.map (·.1)⟩::rs)
 |false=>none:=rfl
theorem H8{i:Nat}{o:Oper}{r:List Nat}{tm:List W}{h:Hp}{rs:List K6}{c:Prop}[Decidable c]{x y:Option Z2}:a0x P lend call ops n0 i r o tm h rs (if c then x else y)=if c then a0x P lend call ops n0 i r o tm h rs x else a0x P lend call ops n0 i r o tm h rs y:=by split<;>rfl
theorem F3{i:Nat}{o:Oper}{r:List Nat}{tm:List W}{h:Hp}{rs:List K6}{b:Bool}:b2f P lend call ops n0 i o r tm h rs (some b)=if b=true then a0x P lend call ops n0 i r o tm h rs (B8 P lend call (fun k=>n0+i+ops.length*k) (O6 (A3 o.op) tm) (cut (Y1 (O6 (A3 o.op) tm) h o.op) h) o.op)else z0 P lend call ops n0 r (C9 tm o.dst (.tup [])) h rs:=rfl
def d8n(P:Program)(lend:FuncId->Bool)(call:Call)(ops:List Oper)(n0 i:Nat)(r:List Nat)(tm:List W)(h:Hp)(rs:List K6):Option Oper->Option (List W×Hp×List K6)
 |some o=>b2f P lend call ops n0 i o r tm h rs (G7 ops tm o)
 |none=>none
theorem d3n{i:Nat}{o:Oper}{r:List Nat}{tm:List W}{h:Hp}{rs:List K6}:d8n P lend call ops n0 i r tm h rs (some o)=b2f P lend call ops n0 i o r tm h rs (G7 ops tm o):=rfl
theorem d3o{tm:List W}{h:Hp}{rs:List K6}:z0 P lend call ops n0 [] tm h rs=some (tm,h,rs):=rfl
theorem d0d{i:Nat}{r:List Nat}{tm:List W}{h:Hp}{rs:List K6}:z0 P lend call ops n0 (i::r) tm h rs=d8n P lend call ops n0 i r tm h rs ops[i]?:=by
 simp only[z0]
 cases ops[i]? with
 |none=>rfl
 |some o=>
  simp only[d8n]
  cases G7 ops tm o with
  |none=>rfl
  |some b=>
   cases b with
   |false=>rfl
   |true=>
    simp only[b2f,if_true]
    cases B8 P lend call (fun k=>n0+i+ops.length*k) (O6 (A3 o.op) tm) (cut (Y1 (O6 (A3 o.op) tm) h o.op) h) o.op with
    |none=>rfl
    |some x=>
     obtain⟨w,up⟩:=x
     simp only[a0x]
     cases a4u lend (O6 (A3 o.op) tm) (cut (Y1 (O6 (A3 o.op) tm) h o.op) h) o.op<;>rfl
def a5s(c:V)(x y:W):Option Z2:=
 match toB (.one c)with
 |some t=>if t=true then some (x,[])else some (y,[])
 |none=>none
theorem C3{t:Bool}{x y:W}:a5s (.c (.d (.v (.bool t)))) x y=if t=true then some (x,[])else some (y,[]):=rfl
theorem d8o{fr:Nat->Nat}{ev:Operand->W}{h:Hp}{c a b:Operand}:B8 P lend call fr ev h (.pick c a b)=a5s (n5 (ev c)) (ev a) (ev b):=by
 simp only[B8,a5s]
 generalize n5 (ev c)=v
 cases v with
 |agg l=>rfl
 |junk=>rfl
 |c s=>cases s with
  |d x=>cases x with
   |sl k r=>rfl
   |any=>rfl
   |lit=>rfl
   |v y=>cases y with
    |bool t=>cases t<;>rfl
    |_=>rfl
  |_=>rfl
noncomputable def b3b(P:Program)(T:C0)(call:Call)(f:FuncId)(b:Code):Ex->St->Option (Ex×St)
 |.normal,st=>g8 P T call f b (G4 (T.keep f (e7 b)) st)
 |.exit i,st=>some (.exit i,G4 (T.out f (e7 b)) st)
 |.ret,st=>some (.ret,G4 (T.out f (e7 b)) st)
theorem i1{b:Code}{s:St}:g8 P T call f b s=s9 P T call f (b3b P T call f b) b s []:=by
 unfold s9
 cases hb:o5 P T r7 call f b s with
 |none=>unfold g8;rw[hb]
 |some x=>
  obtain⟨ex,st'⟩:=x
  cases ex with
  |normal=>exact d0a hb rfl
  |exit i=>exact d0b hb rfl
  |ret=>exact d2z hb rfl
def b8i(P:Program)(fin:Bool)(fn:Func):Ex->St->Option (W×List (Option k7))
 |.normal,st=>b0m P fin fn st
 |.ret,st=>b0m P fin fn st
 |.exit _,_=>none
theorem c5d{fin:Bool}{fn:Func}:b8i P fin fn .normal st=b0m P fin fn st:=rfl
theorem d8p{fin:Bool}{fn:Func}:b8i P fin fn .ret st=b0m P fin fn st:=rfl
theorem e2v{T:C0}{lib:Call}{f:FuncId}{fn:Func}{c:Code}{args:List V}{bs:List (Option k7)}{r:W×List (Option k7)}(hl:lib f args bs=none)(hon:T.on f=true)(hf:P.funcs[f]?=some fn)(hb:fn.body=some c)
 (h:s9 P T (c6 P T lib) f (b8i P (T.fin f) fn) c (a1c fn.ntmps args bs) []=some r):c6 P T lib f args bs=some r:=
 e8f hl hon hf hb (by
  rw[<-h]
  unfold a2o s9
  cases o5 P T r7 (c6 P T lib) f c (a1c fn.ntmps args bs)with
  |none=>rfl
  |some x=>obtain⟨ex,st⟩:=x;cases ex<;>rfl)
end
def sub:List Nat->Code->Code
 |[],c=>c
 |k::r,.seq a b=>match k with|0=>sub r a|_=>sub r b
 |k::r,.cond _ a b=>match k with|0=>sub r a|_=>sub r b
 |_::r,.block _ b=>sub r b
 |_::r,.loop b=>sub r b
 |_,_=>.skip
def a2y:Code->List Oper
 |.region _ ops _=>ops.toList
 |_=>[]
section
variable{P:Program}{T:C0}{call:Call}{f:FuncId}{α:Type}{F:Ex->St->Option α}{ks:List Kt}{st:St}
theorem e2w{c a b:Code}(h:c=.seq a b):s9 P T call f F c st ks=s9 P T call f F a st (.seq b::ks):=by subst h;exact d8k
theorem d3p{c b:Code}{id:Nat}(h:c=.block id b):s9 P T call f F c st ks=s9 P T call f F b st (.blk id::ks):=by subst h;exact d0c
theorem d8q{c:Code}(h:c=.skip):s9 P T call f F c st ks=B5 P T call f F ks .normal st:=by subst h;exact d3e
theorem e2x{c:Code}(h:c=.ret):s9 P T call f F c st ks=B5 P T call f F ks .ret st:=by subst h;exact d8j
theorem d8r{c:Code}{i:Nat}(h:c=.exit i):s9 P T call f F c st ks=B5 P T call f F ks (.exit i) st:=by subst h;exact d3f
theorem d8s{c a b:Code}{o:Operand}(h:c=.cond o a b):s9 P T call f F c st ks=a5r P T call f F a b st ks (evA st.tm o):=by subst h;exact d3g
theorem d8t{c b:Code}{k:Nat}(h:c=.loop b)(hk:e7 b=k):s9 P T call f F c st ks=b5k P T call f F ks (g8 P T call f b (G4 (T.keep f k) st)):=by subst h;subst hk;exact d3j
theorem d0e{c:Code}{id:Nat}{ops:Array Oper}(h:c=.region id ops false)(hf:T.frz f id=[])(hp:T.pre f id=[]):s9 P T call f F c st ks=O7 P T call f F (a2y c).length st ks (E5 P T.lend call (a2y c) st.next 0 (a2y c) st.tm st.h):=by
 subst h
 rw[b4e,hf,hp]
 rfl
theorem c5e{c:Code}{id:Nat}{ops:Array Oper}(h:c=.region id ops false){fr:List Nat}{ps:List Pre}(hf:T.frz f id=fr)(hp:T.pre f id=ps):s9 P T call f F c st ks=b2e (fun s=>O7 P T call f F (a2y c).length s ks (E5 P T.lend call (a2y c) s.next 0 (a2y c) s.tm s.h)) (X7 ps (a1p fr st)):=by
 subst h
 rw[b4e,hf,hp]
 rfl
theorem d8u{c:Code}{id n:Nat}{ops:Array Oper}(h:c=.region id ops true)(hf:T.frz f id=[])(hp:T.pre f id=[])(ho:T.ord f id=[])(hn:ops.toList.length=n):s9 P T call f F c st ks=M8 P T call f F (a2y c) (List.range n) n st ks (z0 P T.lend call (a2y c) st.next (List.range n) st.tm st.h []):=by
 subst h
 subst hn
 rw[c0e,hf,hp,ho]
 rfl
theorem d3q{c:Code}{id n:Nat}{ops:Array Oper}(h:c=.region id ops true){fr od:List Nat}{ps:List Pre}(hf:T.frz f id=fr)(hp:T.pre f id=ps)(ho:a5l (T.ord f id) n=od)(hn:ops.toList.length=n):s9 P T call f F c st ks=b2e (fun s=>M8 P T call f F (a2y c) od n s ks (z0 P T.lend call (a2y c) s.next od s.tm s.h [])) (X7 ps (a1p fr st)):=by
 subst h
 subst hn
 rw[c0e,hf,hp,ho]
 rfl
theorem d8v{st:St}:X7 [] st=some st:=rfl
def e1g(ps:List Pre):Option St->Option St
 |some st=>X7 ps st
 |none=>none
theorem d0f{ps:List Pre}{st:St}:e1g ps (some st)=X7 ps st:=rfl
theorem d3r{p:Pre}{ps:List Pre}{st:St}:X7 (p::ps) st=e1g ps (b0l p st):=by
 simp only[X7]
 cases b0l p st<;>rfl
end
def BC(b:Bool)(B1 B2:Prop):Prop:=(b=true∧B1)∨(b=false∧B2)
theorem b8j{b:Bool}:BC b (b=true) (b=false):=by cases b<;>simp[BC]
theorem a9k{p:Prop}[Decidable p]:BC (decide p) p (¬p):=by by_cases h:p<;>simp[BC,h]
theorem d3s{b:Bool}{B1 B2:Prop}(h:BC b B1 B2):BC (!b) B2 B1:=by
 rcases h with⟨rfl,h⟩|⟨rfl,h⟩
 ·exact .inr ⟨rfl,h⟩
 ·exact .inl ⟨rfl,h⟩
theorem g7{α:Type}{c:Prop}[Decidable c]{x y r:Option α}(h1:c->x=r)(h2: ¬c->y=r):(if c then x else y)=r:=by
 split
 ·exact h1 (by assumption)
 ·exact h2 (by assumption)
section
variable{P:Program}{T:C0}{call:Call}{f:FuncId}{α:Type}{F:Ex->St->Option α}{ks:List Kt}{st:St}{b:Bool}{B1 B2:Prop}{r:Option α}
theorem c5f{x y:Code}(hb:BC b B1 B2)(h1:B1->s9 P T call f F x st ks=r)(h2:B2->s9 P T call f F y st ks=r):a5r P T call f F x y st ks (.one (.c (.d (.v (.bool b)))))=r:=by
 rcases hb with⟨rfl,h⟩|⟨rfl,h⟩
 ·exact h1 h
 ·exact h2 h
theorem d0g{n n0 i:Nat}{ops:List Oper}{lend:FuncId->Bool}{o:Oper}{rs:List Oper}{tm:List W}{h:Hp}(hb:BC b B1 B2)
 (h1:B1->O7 P T call f F n st ks (a7b P lend call ops n0 i rs o.dst tm h (B8 P lend call (fun k=>n0+i+ops.length*k) (evA tm) h o.op))=r)
 (h2:B2->O7 P T call f F n st ks (E5 P lend call ops n0 (i+1) rs (C9 tm o.dst (.tup [])) h)=r):O7 P T call f F n st ks (b5l P lend call ops n0 i o rs tm h (some b))=r:=by
 rcases hb with⟨rfl,h⟩|⟨rfl,h⟩
 ·exact h1 h
 ·exact h2 h
theorem c5g{n n0 i:Nat}{ops:List Oper}{lend:FuncId->Bool}{rs:List Oper}{dst:Option Tmp}{tm:List W}{h:Hp}{x y:W}(hb:BC b B1 B2)
 (h1:B1->O7 P T call f F n st ks (E5 P lend call ops n0 (i+1) rs (C9 tm dst x) h)=r)
 (h2:B2->O7 P T call f F n st ks (E5 P lend call ops n0 (i+1) rs (C9 tm dst y) h)=r):O7 P T call f F n st ks (a7b P lend call ops n0 i rs dst tm h (a5s (.c (.d (.v (.bool b)))) x y))=r:=by
 rcases hb with⟨rfl,h⟩|⟨rfl,h⟩
 ·exact h1 h
 ·exact h2 h
theorem d0h{opl:List Oper}{ord:List Nat}{n n0 i:Nat}{ops:List Oper}{lend:FuncId->Bool}{o:Oper}{rs:List Nat}{tm:List W}{h:Hp}{rc:List K6}(hb:BC b B1 B2)
 (h1:B1->M8 P T call f F opl ord n st ks (a0x P lend call ops n0 i rs o tm h rc (B8 P lend call (fun k=>n0+i+ops.length*k) (O6 (A3 o.op) tm) (cut (Y1 (O6 (A3 o.op) tm) h o.op) h) o.op))=r)
 (h2:B2->M8 P T call f F opl ord n st ks (z0 P lend call ops n0 rs (C9 tm o.dst (.tup [])) h rc)=r):M8 P T call f F opl ord n st ks (b2f P lend call ops n0 i o rs tm h rc (some b))=r:=by
 rcases hb with⟨rfl,h⟩|⟨rfl,h⟩
 ·exact h1 h
 ·exact h2 h
theorem c5h{opl:List Oper}{ord:List Nat}{n n0 i:Nat}{ops:List Oper}{lend:FuncId->Bool}{o:Oper}{rs:List Nat}{tm:List W}{h:Hp}{rc:List K6}{x y:W}(hb:BC b B1 B2)
 (h1:B1->M8 P T call f F opl ord n st ks (a0x P lend call ops n0 i rs o tm h rc (some (x,[])))=r)
 (h2:B2->M8 P T call f F opl ord n st ks (a0x P lend call ops n0 i rs o tm h rc (some (y,[])))=r):M8 P T call f F opl ord n st ks (a0x P lend call ops n0 i rs o tm h rc (a5s (.c (.d (.v (.bool b)))) x y))=r:=by
 rcases hb with⟨rfl,h⟩|⟨rfl,h⟩
 ·exact h1 h
 ·exact h2 h
theorem d0i{x y:Code}:a5r P T call f F x y st ks (.one (.c (.d (.v (.bool true)))))=s9 P T call f F x st ks:=rfl
theorem c5i{x y:Code}:a5r P T call f F x y st ks (.one (.c (.d (.v (.bool false)))))=s9 P T call f F y st ks:=rfl
theorem d0j{x y:W}:a5s (.c (.d (.v (.bool true)))) x y=some (x,[]):=rfl
theorem c5j{x y:W}:a5s (.c (.d (.v (.bool false)))) x y=some (y,[]):=rfl
variable{lend:FuncId->Bool}{ops:List Oper}{n0 i:Nat}{o:Oper}{tm:List W}{h:Hp}
theorem d3t{rs:List Oper}:b5l P lend call ops n0 i o rs tm h (some true)=a7b P lend call ops n0 i rs o.dst tm h (B8 P lend call (fun k=>n0+i+ops.length*k) (evA tm) h o.op):=rfl
theorem d0k{rs:List Oper}:b5l P lend call ops n0 i o rs tm h (some false)=E5 P lend call ops n0 (i+1) rs (C9 tm o.dst (.tup [])) h:=rfl
theorem d3u{rs:List Nat}{rc:List K6}:b2f P lend call ops n0 i o rs tm h rc (some true)=a0x P lend call ops n0 i rs o tm h rc (B8 P lend call (fun k=>n0+i+ops.length*k) (O6 (A3 o.op) tm) (cut (Y1 (O6 (A3 o.op) tm) h o.op) h) o.op):=rfl
theorem d0l{rs:List Nat}{rc:List K6}:b2f P lend call ops n0 i o rs tm h rc (some false)=z0 P lend call ops n0 rs (C9 tm o.dst (.tup [])) h rc:=rfl
end
section
variable{P:Program}
theorem d8w{lend:FuncId->Bool}{call:Call}{fr:Nat->Nat}{ev:Operand->W}{h:Hp} x:B8 P lend call fr ev h (.move x)=(some (ev x,[])):=rfl
theorem d0m{lend:FuncId->Bool}{call:Call}{fr:Nat->Nat}{ev:Operand->W}{h:Hp} x:B8 P lend call fr ev h (.assign x)=(some (ev x,[])):=rfl
theorem c5k{lend:FuncId->Bool}{call:Call}{fr:Nat->Nat}{ev:Operand->W}{h:Hp} x i:B8 P lend call fr ev h (.extract x i)=(match ev x with
 |.tup l=>match l[i]? with|some v=>some (.one v,[])|none=>none
 |.one _=>none):=rfl
theorem c2u{lend:FuncId->Bool}{call:Call}{fr:Nat->Nat}{ev:Operand->W}{h:Hp} x:B8 P lend call fr ev h (.nilCheck x)=(match n5 (ev x)with
 |.c (.ptr id r o)=>match h id with|some _=>some (one (.ptr id r o),[])|none=>none
 |.c (.dp r o)=>some (one (.dp r o),[])
 |.c (.fn f cs)=>some (one (.fn f cs),[])
 |_=>none):=rfl
theorem d8x{lend:FuncId->Bool}{call:Call}{fr:Nat->Nat}{ev:Operand->W}{h:Hp} op z x:B8 P lend call fr ev h (.unOp op z x)=(match C7 (n5 (ev x))with
 |some a=>U0 (i8 P (Op.unary op a))
 |none=>none):=rfl
theorem d3v{lend:FuncId->Bool}{call:Call}{fr:Nat->Nat}{ev:Operand->W}{h:Hp} op t x y z:B8 P lend call fr ev h (.binOp op t x y z)=(match C7 (n5 (ev x)),C7 (n5 (ev y))with
 |some a,some b=>U0 (i8 P (do eqGuard op t x y a b;binOp op t a b))
 |_,_=>none):=rfl
theorem c5l{lend:FuncId->Bool}{call:Call}{fr:Nat->Nat}{ev:Operand->W}{h:Hp} src dst x:B8 P lend call fr ev h (.convert src dst x)=(match P.underlying src,P.underlying dst,n5 (ev x)with
 |some (.slice e),some .string,v=>match P.underlying e,w8 h v,v with
  |some (.int .u8),some _,.c (.d (.v (.string _)))=>none
  |some (.int .u8),some rows,_=>
   match rows.mapM (fun r=>match r with|[.v (.int .u8 n)]=>some (UInt8.ofNat n.toNat)|_=>none)with
   |some bs=>some (one (.d (.v (.string ⟨bs.toArray⟩))),[])
   |none=>none
  |_,_,_=>none
 |some .string,some (.slice e),.c (.d (.v (.string s)))=>match P.underlying e with
  |some (.int .u8)=>some (one (.arr (fr 0) 0 s.size),[(fr 0,some (.arr 1 (s.data.toList.map fun b=>[.v (.int .u8 b.toNat)])))])
  |_=>none
 |some (.slice _),some (.slice _),_=>none
 |_,_,v=>match C7 v with
  |some a=>U0 (i8 P (convert src dst a))
  |none=>none):=rfl
theorem d3w{lend:FuncId->Bool}{call:Call}{fr:Nat->Nat}{ev:Operand->W}{h:Hp} t x i:B8 P lend call fr ev h (.index t x i)=(match C7 (n5 (ev x)),C7 (n5 (ev i))with
 |some a,some b=>U0 (i8 P (Instr.index t a b))
 |_,_=>none):=rfl
theorem d3x{lend:FuncId->Bool}{call:Call}{fr:Nat->Nat}{ev:Operand->W}{h:Hp} t x i:B8 P lend call fr ev h (.field t x i)=(match n5 (ev x),P.underlying t with
 |.agg l,some (.struct fs)=>match fs[i]? with
  |some f=>match M0 P f.type l f.offset with|some v=>some (.one v,[])|none=>none
  |none=>none
 |_,_=>none):=rfl
theorem d3y{lend:FuncId->Bool}{call:Call}{fr:Nat->Nat}{ev:Operand->W}{h:Hp} t:B8 P lend call fr ev h (.alloc t)=(match zeroCells P t with
 |some cells=>some (one (.ptr (fr 0) 0 0),[(fr 0,some (.var cells))])
 |none=>none):=rfl
theorem e2y{lend:FuncId->Bool}{call:Call}{fr:Nat->Nat}{ev:Operand->W}{h:Hp} z x:B8 P lend call fr ev h (.box z x)=(match n5 (ev x)with
 |.junk=>none
 |v=>some (one (.ptr (fr 0) 0 0),[(fr 0,some (.var (t7 v)))])):=rfl
theorem d3z{lend:FuncId->Bool}{call:Call}{fr:Nat->Nat}{ev:Operand->W}{h:Hp} t parts:B8 P lend call fr ev h (.build t parts)=(match P.underlying t,zeroCells P t with
 |some (.struct fs),some z=>match fs.all fun f=>(P.info? f.type).isSome with
  |false=>none
  |true=>
  match Y0 (fun i=>(fs[i]?).map fun f=>(f.offset,P.cellsOf f.type)) z (parts.toList.map fun(i,x)=>(i,n5 (ev x)))with
  |some l=>some (.one (.agg l),[])
  |none=>none
 |_,_=>none):=rfl
theorem b8k{lend:FuncId->Bool}{call:Call}{fr:Nat->Nat}{ev:Operand->W}{h:Hp} t n parts:B8 P lend call fr ev h (.buildSlice t n parts)=(match D6 P t with
 |none=>none
 |some e=>
  let k:=P.cellsOf e
  match zeroCells P e with
  |none=>none
  |some z=>
  match Nat.beq z.length k&&Nat.ble (n*k) 16777216 with
  |false=>none
  |true=>
   match Y0 (fun i=>some (i*k,k)) ((List.replicate n z).flatten) (parts.toList.map fun(i,x)=>(i,n5 (ev x)))with
   |some l=>match b2u lend&&l.any c9e with
    |false=>match W4 h (L7 k n l)with
     |some (rows,kills)=>some (one (.arr (fr 0) 0 n),kills++[(fr 0,some (.arr k rows))])
     |none=>none
    |true=>match S6 h (L7 k n l)with
     |some (rows,kills)=>match a1a (kills.map (·.1))with
      |true=>some (one (.arr (fr 0) 0 n),kills++[(fr 0,some (.nar k rows []))])
      |false=>none
     |none=>none
   |none=>none):=rfl
theorem c1e{lend:FuncId->Bool}{call:Call}{fr:Nat->Nat}{ev:Operand->W}{h:Hp} t len cap:B8 P lend call fr ev h (.makeSlice t len cap)=(match D6 P t,a1u (n5 (ev len)),a1u (n5 (ev cap))with
 |some e,some n,some c=>
  match zeroCells P e,decide (0<=n)&&decide (n<=c)&&decide (c*P.bytesOf e<=room)&&decide (c<=room)with
  |some z,true=>match Nat.beq z.length (P.cellsOf e),Z6 h z with
   |true,some (row,[])=>some (one (.arr (fr 0) 0 n.toNat),[(fr 0,some (.arr (P.cellsOf e) (List.replicate n.toNat row)))])
   |_,_=>none
  |_,_=>none
 |_,_,_=>none):=rfl
theorem d8y{lend:FuncId->Bool}{call:Call}{fr:Nat->Nat}{ev:Operand->W}{h:Hp} t a:B8 P lend call fr ev h (.load t a)=(match n5 (ev a)with
 |.c (.ptr id row off)=>match h id with
  |some (.var cells)=>match row with
   |0=>match M0 P t cells off with|some v=>some (.one v,[])|none=>none
   |_=>none
  |some (.arr _ rows)=>match rows[row]? with
   |some r=>match M0 P t (r.map .d) off with|some v=>some (.one v,[])|none=>none
   |none=>none
  |some (.nar _ rows outs)=>match rows[row]? with
   |some r=>match W3 h outs row 0 r with
    |some l=>match M0 P t l off with|some v=>some (.one v,[])|none=>none
    |none=>none
   |none=>none
  |none=>none
 |.c (.dp r off)=>match M0 P t (r.map .d) off with|some v=>some (.one v,[])|none=>none
 |_=>none):=rfl
theorem d4a{lend:FuncId->Bool}{call:Call}{fr:Nat->Nat}{ev:Operand->W}{h:Hp} t a x:B8 P lend call fr ev h (.store t a x)=(match n5 (ev a),n5 (ev x)with
 |_,.junk=>none
 |.c (.ptr id row off),v=>
  let l:=t7 v
  match (match P.info? t with|some i=>Nat.beq l.length i.size|none=>false)with
  |false=>none
  |true=>match h id with
   |some (.var cells)=>match row,Nat.ble (off+l.length) cells.length with
    |0,true=>some (.one .junk,[(id,some (.var (cells.take off++l++cells.drop (off+l.length))))])
    |_,_=>none
   |some (.arr k rows)=>match b2u lend&&l.any c1u with
    |false=>match rows[row]?,Z6 h l with
     |some r,some (ds,kills)=>match Nat.ble (off+l.length) r.length&&!(kills.any fun u=>Nat.beq u.1 id)with
      |true=>some (.one .junk,kills++[(id,some (.arr k (rows.set row (r.take off++ds++r.drop (off+l.length)))))])
      |false=>none
     |_,_=>none
    |true=>match rows[row]?,C8 h l with
     |some r,some (ds,kills)=>match Nat.ble (off+l.length) r.length&&!(kills.any fun u=>Nat.beq u.1 id)&&a1a (kills.map (·.1))with
      |true=>some (.one .junk,kills++[(id,some (.nar k ((rows.map (List.map O.d)).set row ((r.map O.d).take off++ds++(r.map O.d).drop (off+l.length))) []))])
      |false=>none
     |_,_=>none
   |some (.nar k rows [])=>match rows[row]?,C8 h l with
    |some r,some (ds,kills)=>match Nat.ble (off+l.length) r.length&&!(kills.any fun u=>Nat.beq u.1 id)&&a1a (kills.map (·.1))with
     |true=>some (.one .junk,kills++[(id,some (.nar k (rows.set row (r.take off++ds++r.drop (off+l.length))) []))])
     |false=>none
    |_,_=>none
   |some (.nar _ _ (_::_))=>none
   |none=>none
 |_,_=>none):=rfl
theorem c1f{lend:FuncId->Bool}{call:Call}{fr:Nat->Nat}{ev:Operand->W}{h:Hp} t x i:B8 P lend call fr ev h (.fieldAddr t x i)=(match P.underlying t with
 |some (.struct fs)=>match fs[i]? with
  |some f=>match Nat.ble 1 (P.cellsOf f.type),n5 (ev x)with
   |true,.c (.ptr id r o)=>match h id with|some _=>some (one (.ptr id r (o+f.offset)),[])|none=>none
   |true,.c (.dp r o)=>some (one (.dp r (o+f.offset)),[])
   |_,_=>none
  |none=>none
 |_=>none):=rfl
theorem c1g{lend:FuncId->Bool}{call:Call}{fr:Nat->Nat}{ev:Operand->W}{h:Hp} t x i:B8 P lend call fr ev h (.indexAddr t x i)=(match D6 P t,a1u (n5 (ev i))with
 |some e,some n=>match P.info? e with
  |none=>none
  |some _=>match n5 (ev x)with
  |.c (.arr id off len)=>match decide (0<=n)&&decide (n<len),h id with
   |true,some (.arr k _)=>match Nat.beq k (P.cellsOf e)with
    |true=>some (one (.ptr id (off+n.toNat) 0),[])
    |false=>none
   |true,some (.nar k _ _)=>match Nat.beq k (P.cellsOf e)with
    |true=>some (one (.ptr id (off+n.toNat) 0),[])
    |false=>none
   |_,_=>none
  |.c (.d (.sl k rows))=>match decide (0<=n),rows[n.toNat]?,Nat.beq k (P.cellsOf e)with
   |true,some r,true=>some (one (.dp r 0),[])
   |_,_,_=>none
  |_=>none
 |_,_=>none):=rfl
theorem d4b{lend:FuncId->Bool}{call:Call}{fr:Nat->Nat}{ev:Operand->W}{h:Hp} t x lo hi:B8 P lend call fr ev h (.slice t x lo hi none)=(U0 (a4r P h t (n5 (ev x)) (lo.map fun x=>n5 (ev x)) (hi.map fun x=>n5 (ev x)))):=rfl
theorem c2v{lend:FuncId->Bool}{call:Call}{fr:Nat->Nat}{ev:Operand->W}{h:Hp} f first captured:B8 P lend call fr ev h (.makeFunc (.func f) first captured)=(match first.toList,(captured.toList.map fun x=>n5 (ev x)).mapM a4s with
 |[],some ids=>some (one (.fn f ids),[])
 |_,_=>none):=rfl
theorem c5m{lend:FuncId->Bool}{call:Call}{fr:Nat->Nat}{ev:Operand->W}{h:Hp} b args argTypes:B8 P lend call fr ev h (.call ⟨.builtin b,args,argTypes⟩)=(
 match b,(args.toList.map fun x=>n5 (ev x))with
 |.len,[x]=>match A1 h x with
  |some n=>match (argTypes[0]?).bind (D6 P)with
   |some _=>some (one (.d (.v (.int .i64 n))),[])
   |none=>none
  |none=>match C7 x with
   |some a=>U0 (i8 P (Builtin.len_ argTypes 0 #[a]))
   |none=>none
 |.append,[s,x]=>match argTypes[0]?,argTypes[1]? with
  |some t,some u=>match P.underlying u with
   |some (.slice _)=>match x with
    |.c (.arr x5 0 len)=>match h x5 with
     |some (.nar _ new [])=>a2d P fr h t s x5 new len
     |_=>F7 P fr h t s x
    |_=>F7 P fr h t s x
   |some .string=>F7 P fr h t s x
   |_=>none
  |_,_=>none
 |.copy,[d,s]=>match argTypes[0]? with
  |some t=>a7x P h t d s
  |none=>none
 |.min,[x,y]=>match C7 x,C7 y with
  |some a,some b=>U0 (i8 P (Builtin.min_ argTypes 0 #[a,b]))
  |_,_=>none
 |.max,[x,y]=>match C7 x,C7 y with
  |some a,some b=>U0 (i8 P (Builtin.max_ argTypes 0 #[a,b]))
  |_,_=>none
 |_,_=>none):=rfl
theorem e8n{lend:FuncId->Bool}{call:Call}{fr:Nat->Nat}{ev:Operand->W}{h:Hp} f args ats:B8 P lend call fr ev h (.call ⟨.value f,args,ats⟩)=(match n5 (ev f)with
 |.c (.fn g caps)=>match a6a P g,caps.all (fun id=>(h id).isSome)with
  |true,true=>S3 lend call fr h g ((args.toList.map fun x=>n5 (ev x))++caps.map fun id=>.c (.ptr id 0 0))
  |_,_=>none
 |_=>none):=rfl
end
theorem c7g(n:Int)(h: -9223372036854775808<=n∧n<=9223372036854775807):IntKind.i64.wrap n=n:=e8m n h.1 h.2
theorem c7h(n:Int)(h:0<=n∧n<=255):IntKind.u8.wrap n=n:=by
 show(if(IntKind.u8.signed&&decide (n%2^IntKind.u8.bits≥2^(IntKind.u8.bits-1)))=true then n%2^IntKind.u8.bits-2^IntKind.u8.bits else n%2^IntKind.u8.bits)=n
 have e2:(2:Int)^IntKind.u8.bits=256:=rfl
 rw[e2]
 have e4:IntKind.u8.signed=false:=rfl
 rw[e4,Bool.false_and,if_neg (by decide)]
 omega
theorem c2w(n:Int)(h: -2147483648<=n∧n<=2147483647):IntKind.i32.wrap n=n:=by
 show(if(IntKind.i32.signed&&decide (n%2^IntKind.i32.bits≥2^(IntKind.i32.bits-1)))=true then n%2^IntKind.i32.bits-2^IntKind.i32.bits else n%2^IntKind.i32.bits)=n
 have e2:(2:Int)^IntKind.i32.bits=4294967296:=rfl
 have e3:(2:Int)^(IntKind.i32.bits-1)=2147483648:=rfl
 rw[e2,e3]
 have e4:IntKind.i32.signed=true:=rfl
 rw[e4,Bool.true_and]
 split
 ·rename_i h;simp only[ge_iff_le,decide_eq_true_eq]at h;omega
 ·rename_i h;simp only[ge_iff_le,decide_eq_true_eq]at h;omega
theorem c5n(b:UInt8):IntKind.i64.wrap (b.toNat:Int)=b.toNat:=c7g _ (by have:=b.toNat_lt;omega)
theorem d0n(b:UInt8):IntKind.u8.wrap (b.toNat:Int)=b.toNat:=c7h _ (by have:=b.toNat_lt;omega)
theorem c5o(b:UInt8):IntKind.i32.wrap (b.toNat:Int)=b.toNat:=c2w _ (by have:=b.toNat_lt;omega)
theorem d8z{p:Prop}[Decidable p](h:p):decide p=true:=decide_eq_true h
theorem v7{p:Prop}[Decidable p](h: ¬p):decide p=false:=decide_eq_false h
theorem e2z[h:Decidable True]:decide True=true:=decide_eq_true trivial
theorem d9a[h:Decidable False]:decide False=false:=decide_eq_false id
theorem e3a{α:Type}{p:Prop}[Decidable p]{x y:α}:(if decide p=true then x else y)=if p then x else y:=by
 by_cases h:p<;>simp[h]
theorem L3{α:Type}{b:Bool}{x y:α}:(if(!b)=true then x else y)=if b=true then y else x:=by cases b<;>rfl
theorem P9{α:Type}{x y:α}:(if true=true then x else y)=x:=rfl
theorem Q0{α:Type}{x y:α}:(if false=true then x else y)=y:=rfl
theorem b3c{α:Type}(xs:List α)(i:Int)(h:0<=i∧i.toNat<xs.length):xs.drop i.toNat=xs[i.toNat]'h.2::xs.drop (i+1).toNat:=by
 rw[List.drop_eq_getElem_cons h.2,show(i+1).toNat=i.toNat+1 by omega]
theorem b0z{α:Type}(xs:List α)(i:Int)(h:(xs.length:Int)<=i):xs.drop i.toNat=[]:=List.drop_eq_nil_of_le (by omega)
theorem a9l{α β:Type}(xs:List α)(g:α->β)(i:Nat)(h:i<xs.length):(xs.map g)[i]?=some (g xs[i]):=by
 rw[List.getElem?_map,List.getElem?_eq_getElem h]
 rfl
theorem d4c(l:List UInt8):(B l).size=l.length:=rfl
theorem f7c(a:Array UInt8):Value.string (ByteArray.mk a)=Value.string (B a.toList):=rfl
theorem n6:Value.string ByteArray.empty=Value.string (B []):=rfl
theorem f3f(l:List UInt8)(i:Nat):(B l)[i]?=l[i]?:=by
 by_cases h:i<l.length
 ·rw[getElem?_pos (B l) i h,List.getElem?_eq_getElem h]
  rfl
 ·rw[getElem?_neg (B l) i h,List.getElem?_eq_none (by omega)]
theorem c2x(l m:List UInt8):B l++B m=B (l++m):=by
 have:(B l++B m).data=(B (l++m)).data:=by simp[B]
 cases h:B l++B m
 rw[h]at this
 simp only at this
 rw[this]
theorem d4d(l:List UInt8)(a b:Nat):(B l).extract a b=B ((l.drop a).take (b-a)):=by
 have:((B l).extract a b).data=(B ((l.drop a).take (b-a))).data:=by
  simp[B]
 cases h:(B l).extract a b
 rw[h]at this
 simp only at this
 rw[this]
theorem J2(l:List UInt8):(B l).toList=l:=by
 rw[Go.Lib.toList_data]
 rfl
theorem b3d(a b:List UInt8):(a==b)=decide (a=b):=by
 by_cases h:a=b
 ·subst h;simp
 ·rw[decide_eq_false h,beq_eq_false_iff_ne.2 h]
section
variable{P:Program}(t:TypeId)(x y:Operand)
theorem e3b(a b:List UInt8):i8 P (do eqGuard .eql t x y (.string (B a)) (.string (B b));binOp .eql t (.string (B a)) (.string (B b)))=some (.one (.c (.d (.v (.bool (decide (a=b))))))):=by
 rw[d8a,J2,J2,b3d]
theorem e3c(a b:List UInt8):i8 P (do eqGuard .neq t x y (.string (B a)) (.string (B b));binOp .neq t (.string (B a)) (.string (B b)))=some (.one (.c (.d (.v (.bool (!decide (a=b))))))):=by
 rw[d8b,J2,J2,b3d]
theorem c2y(a b:List UInt8)(h:a.length+b.length<=9223372036854775807):i8 P (do eqGuard .add t x y (.string (B a)) (.string (B b));binOp .add t (.string (B a)) (.string (B b)))=some (.one (.c (.d (.v (.string (B (a++b))))))):=by
 rw[d8d t x y (B a) (B b) h,c2x]
def f8(a b:Int):Bool:=decide (a=b)
theorem X5(a b:Int):(f8 a b=true)=(a=b):=by simp[f8]
theorem d9b(a:Int):f8 a a=true:=by simp[f8]
theorem b7d(a b:Int)(h:a=b):f8 a b=true:=by simp[f8,h]
theorem b7e(a b:Int)(h: ¬a=b):f8 a b=false:=by simp[f8,h]
theorem c9(k:IntKind)(a b:Int):i8 P (do eqGuard .eql t x y (.int k a) (.int k b);binOp .eql t (.int k a) (.int k b))=some (.one (.c (.d (.v (.bool (f8 a b)))))):=B6 t x y k a b
theorem d9(k:IntKind)(a b:Int):i8 P (do eqGuard .neq t x y (.int k a) (.int k b);binOp .neq t (.int k a) (.int k b))=some (.one (.c (.d (.v (.bool (!f8 a b)))))):=B7 t x y k a b
theorem f7d{u:TypeId}(hu:P.underlying u=some .string)(l:List UInt8)(k:IntKind)(i:Int)(h:0<=i∧i.toNat<l.length):i8 P (Instr.index u (.string (B l)) (.int k i))=some (.one (.c (.d (.v (.int .u8 (l[i.toNat]'h.2).toNat))))):=
 e8l hu (B l) k i _ h.1 (by rw[f3f,List.getElem?_eq_getElem h.2])
end
end Go.Vsi
namespace Go.Vsi
def C4(k:Nat):Code->Code
 |.seq a b=>match k with|0=>a|_=>b
 |.cond _ a b=>match k with|0=>a|_=>b
 |.block _ b=>b
 |.loop b=>b
 |_=>.skip
def v8:List Nat->Code->Code
 |[],c=>c
 |k::r,c=>C4 k (v8 r c)
def cq(fn:Func)(path:List Nat):Code:=match fn.body with|some c=>v8 path c|none=>.skip
theorem b2g{p:Prop}[Decidable p]:BC (!decide p) (¬p) p:=d3s a9k
theorem b2h{b:Bool}:BC (!b) (b=false) (b=true):=d3s b8j
section
variable{P:Program}{T:C0}{call:Call}{f:FuncId}{α:Type}{F:Ex->St->Option α}{ks:List Kt}{st:St}{b:Bool}{B1 B2:Prop}{r:Option α}
theorem o8{x y:Code}(h1:B1->s9 P T call f F x st ks=r)(h2:B2->s9 P T call f F y st ks=r)
 (hb:BC b B1 B2:=by with_reducible first|exact a9k|exact b2g|exact b2h|exact b8j):a5r P T call f F x y st ks (.one (.c (.d (.v (.bool b)))))=r:=c5f hb h1 h2
theorem o9{n n0 i:Nat}{ops:List Oper}{lend:FuncId->Bool}{o:Oper}{rs:List Oper}{tm:List W}{h:Hp}(h1:B1->O7 P T call f F n st ks (a7b P lend call ops n0 i rs o.dst tm h (B8 P lend call (fun k=>n0+i+ops.length*k) (evA tm) h o.op))=r)(h2:B2->O7 P T call f F n st ks (E5 P lend call ops n0 (i+1) rs (C9 tm o.dst (.tup [])) h)=r)
 (hb:BC b B1 B2:=by with_reducible first|exact a9k|exact b2g|exact b2h|exact b8j):O7 P T call f F n st ks (b5l P lend call ops n0 i o rs tm h (some b))=r:=d0g hb h1 h2
theorem p8{n n0 i:Nat}{ops:List Oper}{lend:FuncId->Bool}{rs:List Oper}{dst:Option Tmp}{tm:List W}{h:Hp}{x y:W}(h1:B1->O7 P T call f F n st ks (E5 P lend call ops n0 (i+1) rs (C9 tm dst x) h)=r)(h2:B2->O7 P T call f F n st ks (E5 P lend call ops n0 (i+1) rs (C9 tm dst y) h)=r)
 (hb:BC b B1 B2:=by with_reducible first|exact a9k|exact b2g|exact b2h|exact b8j):O7 P T call f F n st ks (a7b P lend call ops n0 i rs dst tm h (a5s (.c (.d (.v (.bool b)))) x y))=r:=c5g hb h1 h2
theorem p9{opl:List Oper}{ord:List Nat}{n n0 i:Nat}{ops:List Oper}{lend:FuncId->Bool}{o:Oper}{rs:List Nat}{tm:List W}{h:Hp}{rc:List K6}(h1:B1->M8 P T call f F opl ord n st ks (a0x P lend call ops n0 i rs o tm h rc (B8 P lend call (fun k=>n0+i+ops.length*k) (O6 (A3 o.op) tm) (cut (Y1 (O6 (A3 o.op) tm) h o.op) h) o.op))=r)(h2:B2->M8 P T call f F opl ord n st ks (z0 P lend call ops n0 rs (C9 tm o.dst (.tup [])) h rc)=r)
 (hb:BC b B1 B2:=by with_reducible first|exact a9k|exact b2g|exact b2h|exact b8j):M8 P T call f F opl ord n st ks (b2f P lend call ops n0 i o rs tm h rc (some b))=r:=d0h hb h1 h2
theorem q7{opl:List Oper}{ord:List Nat}{n n0 i:Nat}{ops:List Oper}{lend:FuncId->Bool}{o:Oper}{rs:List Nat}{tm:List W}{h:Hp}{rc:List K6}{x y:W}(h1:B1->M8 P T call f F opl ord n st ks (a0x P lend call ops n0 i rs o tm h rc (some (x,[])))=r)(h2:B2->M8 P T call f F opl ord n st ks (a0x P lend call ops n0 i rs o tm h rc (some (y,[])))=r)
 (hb:BC b B1 B2:=by with_reducible first|exact a9k|exact b2g|exact b2h|exact b8j):M8 P T call f F opl ord n st ks (a0x P lend call ops n0 i rs o tm h rc (a5s (.c (.d (.v (.bool b)))) x y))=r:=c5h hb h1 h2
end
end Go.Vsi
namespace Go.Vsi
theorem i0{P:Program}{T:C0}{call:Call}{f:FuncId}{α:Type}{F:Ex->St->Option α}{ks:List Kt}{ops:List Oper}{ord:List Nat}{n next io:Nat}{tm tm':List W}{h h':Hp}{rs:List K6}(hp:z9 ops ord rs=true):M8 P T call f F ops ord n ⟨tm',h',next,io⟩ ks (some (tm,h,rs))=B5 P T call f F ks .normal ⟨tm,h,next+n*64,io⟩:=by
 rw[x4,hp]
theorem i3{α:Type}(l:List α)(p:α->Bool):(l.toArray).all p=l.all p:=by simp
theorem d9c{P:Program}(t:TypeId)(x y:Operand)(a:UInt8)(b:List UInt8)(h:b.length<=9223372036854775806):i8 P (do eqGuard .add t x y (.string (B [a])) (.string (B b));binOp .add t (.string (B [a])) (.string (B b)))=some (.one (.c (.d (.v (.string (B (a::b))))))):=
 c2y t x y [a] b (by simp;omega)
abbrev J:W:=.one .junk
section
variable{P:Program}(t:TypeId)(x y:Operand)
theorem e3d(a b:List UInt8):i8 P (do eqGuard .lss t x y (.string (B a)) (.string (B b));binOp .lss t (.string (B a)) (.string (B b)))=some (.one (.c (.d (.v (.bool (Op.bytesLess a b)))))):=by
 rw[d8c,J2,J2]
theorem e3e(a b:List UInt8):i8 P (do eqGuard .geq t x y (.string (B a)) (.string (B b));binOp .geq t (.string (B a)) (.string (B b)))=some (.one (.c (.d (.v (.bool (!Op.bytesLess a b)))))):=by
 have h:i8 P (do eqGuard .geq t x y (.string (B a)) (.string (B b));binOp .geq t (.string (B a)) (.string (B b)))=some (.one (.c (.d (.v (.bool (!Op.bytesLess (B a).toList (B b).toList)))))):=by
  simp[i8,eqGuard,binOp,Op.stringOp,m9,Pure.pure,Bind.bind,Sem.bind,G3,G2]
 rw[h,J2,J2]
theorem e3f(a b:List UInt8):i8 P (do eqGuard .leq t x y (.string (B a)) (.string (B b));binOp .leq t (.string (B a)) (.string (B b)))=some (.one (.c (.d (.v (.bool (Op.bytesLess a b||decide (a=b))))))):=by
 have h:i8 P (do eqGuard .leq t x y (.string (B a)) (.string (B b));binOp .leq t (.string (B a)) (.string (B b)))=some (.one (.c (.d (.v (.bool (Op.bytesLess (B a).toList (B b).toList||(B a).toList==(B b).toList)))))):=by
  simp[i8,eqGuard,binOp,Op.stringOp,m9,Pure.pure,Bind.bind,Sem.bind,G3,G2]
 rw[h,J2,J2,b3d]
theorem e3g(a b:List UInt8):i8 P (do eqGuard .gtr t x y (.string (B a)) (.string (B b));binOp .gtr t (.string (B a)) (.string (B b)))=some (.one (.c (.d (.v (.bool (!(Op.bytesLess a b||decide (a=b)))))))):=by
 have h:i8 P (do eqGuard .gtr t x y (.string (B a)) (.string (B b));binOp .gtr t (.string (B a)) (.string (B b)))=some (.one (.c (.d (.v (.bool (!(Op.bytesLess (B a).toList (B b).toList||(B a).toList==(B b).toList))))))):=by
  simp[i8,eqGuard,binOp,Op.stringOp,m9,Pure.pure,Bind.bind,Sem.bind,G3,G2]
 rw[h,J2,J2,b3d]
end
section
variable{P:Program}{T:C0}
def FWB(P:Program)(T:C0)(n:FuncId)(fin lend:Bool):Bool:=(T.fin n==fin)&&(T.lend n==lend)&&T.on n&&a6a P n
abbrev FW(P:Program)(T:C0)(n:FuncId)(fin lend:Bool):Prop:=T.fin n=fin∧T.lend n=lend∧T.on n=true∧a6a P n=true
theorem f3g{n:FuncId}{fin lend:Bool}(h:FWB P T n fin lend=true):FW P T n fin lend:=by
 simp only[FWB,Bool.and_eq_true,beq_iff_eq]at h
 exact⟨h.1.1.1,h.1.1.2,h.1.2,h.2⟩
abbrev NF(T:C0)(n:FuncId):Prop:= ∀k,T.frz n k=[]∧T.pre n k=[]∧T.ord n k=[]
def a9m:List (Nat×Nat×List Nat)->Nat->Nat->List Nat
 |[],_,_=>[]
 |(a,b,l)::r,f,k=>match Nat.beq a f&&Nat.beq b k with|true=>l|false=>a9m r f k
def b7f:List (Nat×Nat×List Pre)->Nat->Nat->List Pre
 |[],_,_=>[]
 |(a,b,l)::r,f,k=>match Nat.beq a f&&Nat.beq b k with|true=>l|false=>b7f r f k
def mkT(kT oT zT:List (Nat×Nat×List Nat))(pT:List (Nat×Nat×List Pre))(lT rT fT:List Nat):C0 where
 keep:=a9m kT
 out:=a9m oT
 frz:=a9m zT
 pre:=b7f pT
 fin:=fun f=>!rT.elem f
 lend:=fun f=>lT.elem f
 ord:=fun _ _=>[]
 on:=fun f=>!fT.elem f
theorem c0f{f:Nat}: ∀{l:List (Nat×Nat×List Nat)}(k:Nat),l.all (fun e=>!Nat.beq e.1 f)=true->a9m l f k=[]
 |[],_,_=>rfl
 |(a,b,x)::r,k,h=>by
  simp only[List.all_cons,Bool.and_eq_true,Bool.not_eq_true']at h
  unfold a9m
  rw[h.1,Bool.false_and]
  exact c0f k h.2
theorem c0g{f:Nat}: ∀{l:List (Nat×Nat×List Pre)}(k:Nat),l.all (fun e=>!Nat.beq e.1 f)=true->b7f l f k=[]
 |[],_,_=>rfl
 |(a,b,x)::r,k,h=>by
  simp only[List.all_cons,Bool.and_eq_true,Bool.not_eq_true']at h
  unfold b7f
  rw[h.1,Bool.false_and]
  exact c0g k h.2
abbrev m8(P:Program)(T:C0)(n:FuncId)(fin lend:Bool):Prop:=FW P T n fin lend∧NF T n
theorem h9{kT oT zT:List (Nat×Nat×List Nat)}{pT:List (Nat×Nat×List Pre)}{lT rT fT:List Nat}{n:FuncId}{fin lend:Bool}
 (h:(FWB P (mkT kT oT zT pT lT rT fT) n fin lend&&zT.all (fun e=>!Nat.beq e.1 n)&&pT.all (fun e=>!Nat.beq e.1 n))=true):m8 P (mkT kT oT zT pT lT rT fT) n fin lend:=by
 simp only[Bool.and_eq_true]at h
 exact⟨f3g h.1.1,fun k=>⟨c0f k h.1.2,c0g k h.2,rfl⟩⟩
abbrev TY(P:Program)(t:TypeId)(i:TypeInfo)(s b:Nat)(a:Bool):Prop:=P.info? t=some i∧i.size=s∧P.cellsOf t=s∧S5 P t=a∧P.bytesOf t=b
noncomputable def e8o{α:Type}(P:Program)(T:C0)(call:Call)(n:FuncId)(F:Ex->St->Option α)(l:List Oper)(m:Nat)(ks:List Kt)(o:Option St):Option α:=b2e (fun s=>O7 P T call n F m s ks (E5 P T.lend call l s.next 0 l s.tm s.h)) o
theorem d4e{call:Call}{n:FuncId}{α:Type}{F:Ex->St->Option α}{l:List Oper}{m:Nat}{ks:List Kt}{s:St}:e8o P T call n F l m ks (some s)=O7 P T call n F m s ks (E5 P T.lend call l s.next 0 l s.tm s.h):=rfl
noncomputable def e8p{α:Type}(P:Program)(T:C0)(call:Call)(n:FuncId)(F:Ex->St->Option α)(l:List Oper)(od:List Nat)(m:Nat)(ks:List Kt)(o:Option St):Option α:=b2e (fun s=>M8 P T call n F l od m s ks (z0 P T.lend call l s.next od s.tm s.h [])) o
theorem d4f{call:Call}{n:FuncId}{α:Type}{F:Ex->St->Option α}{l:List Oper}{od:List Nat}{m:Nat}{ks:List Kt}{s:St}:e8p P T call n F l od m ks (some s)=M8 P T call n F l od m s ks (z0 P T.lend call l s.next od s.tm s.h []):=rfl
def m7(P:Program)(T:C0)(n:FuncId)(g:Func)(nf:Bool):Code->List Nat->Prop
 |.seq a b,p=>(∀{call:Call}{α:Type}{F:Ex->St->Option α}{ks:List Kt}{st:St},s9 P T call n F (cq g p) st ks=s9 P T call n F (cq g (0::p)) st (.seq (cq g (1::p))::ks))∧m7 P T n g nf a (0::p)∧m7 P T n g nf b (1::p)
 |.block i b,p=>(∀{call:Call}{α:Type}{F:Ex->St->Option α}{ks:List Kt}{st:St},s9 P T call n F (cq g p) st ks=s9 P T call n F (cq g (0::p)) st (.blk i::ks))∧m7 P T n g nf b (0::p)
 |.cond o a b,p=>(∀{call:Call}{α:Type}{F:Ex->St->Option α}{ks:List Kt}{st:St},s9 P T call n F (cq g p) st ks=a5r P T call n F (cq g (0::p)) (cq g (1::p)) st ks (evA st.tm o))∧m7 P T n g nf a (0::p)∧m7 P T n g nf b (1::p)
 |.loop b,p=>(∀{call:Call}{α:Type}{F:Ex->St->Option α}{ks:List Kt}{st:St},s9 P T call n F (cq g p) st ks=b5k P T call n F ks (g8 P T call n (cq g (0::p)) (G4 (T.keep n (e7 b)) st)))∧e7 (cq g (0::p))=e7 b∧m7 P T n g nf b (0::p)
 |.region id ⟨l⟩ d,p=>match nf,d with
  |true,false=> ∀{call:Call}{α:Type}{F:Ex->St->Option α}{ks:List Kt}{st:St},s9 P T call n F (cq g p) st ks=O7 P T call n F l.length st ks (E5 P T.lend call l st.next 0 l st.tm st.h)
  |true,true=> ∀{call:Call}{α:Type}{F:Ex->St->Option α}{ks:List Kt}{st:St},s9 P T call n F (cq g p) st ks=M8 P T call n F l (List.range l.length) l.length st ks (z0 P T.lend call l st.next (List.range l.length) st.tm st.h [])
  |false,false=> ∀{call:Call}{α:Type}{F:Ex->St->Option α}{ks:List Kt}{st:St},s9 P T call n F (cq g p) st ks=e8o P T call n F l l.length ks (X7 (T.pre n id) (a1p (T.frz n id) st))
  |false,true=> ∀{call:Call}{α:Type}{F:Ex->St->Option α}{ks:List Kt}{st:St},s9 P T call n F (cq g p) st ks=e8p P T call n F l (a5l (T.ord n id) l.length) l.length ks (X7 (T.pre n id) (a1p (T.frz n id) st))
 |.skip,p=> ∀{call:Call}{α:Type}{F:Ex->St->Option α}{ks:List Kt}{st:St},s9 P T call n F (cq g p) st ks=B5 P T call n F ks .normal st
 |.ret,p=> ∀{call:Call}{α:Type}{F:Ex->St->Option α}{ks:List Kt}{st:St},s9 P T call n F (cq g p) st ks=B5 P T call n F ks .ret st
 |.exit i,p=> ∀{call:Call}{α:Type}{F:Ex->St->Option α}{ks:List Kt}{st:St},s9 P T call n F (cq g p) st ks=B5 P T call n F ks (.exit i) st
 |_,_=>True
theorem S9(g:Func)(k:Nat)(p:List Nat):cq g (k::p)=C4 k (cq g p):=by
 unfold cq
 cases g.body<;>rfl
theorem c7i{n:FuncId}{g:Func}{nf:Bool}(hn:nf=true->NF T n): ∀(c:Code)(p:List Nat),cq g p=c->m7 P T n g nf c p:=by
 intro c
 induction c with
 |seq a b iha ihb=>exact fun p h=>⟨e2w (by rw[S9,S9,h];rfl),iha _ (by rw[S9,h];rfl),ihb _ (by rw[S9,h];rfl)⟩
 |cond o a b iha ihb=>exact fun p h=>⟨d8s (o:=o) (by rw[S9,S9,h];rfl),iha _ (by rw[S9,h];rfl),ihb _ (by rw[S9,h];rfl)⟩
 |block i b ihb=>exact fun p h=>⟨d3p (by rw[S9,h];rfl),ihb _ (by rw[S9,h];rfl)⟩
 |loop b ihb=>
  intro p h
  have e:cq g (0::p)=b:=by rw[S9,h];rfl
  exact⟨d8t (by rw[e,h]) (by rw[e]),by rw[e],ihb _ e⟩
 |region id ops d=>
  intro p h
  obtain⟨l⟩:=ops
  have eo:a2y (cq g p)=l:=by rw[h];rfl
  cases nf with
  |true=>
   obtain⟨h1,h2,h3⟩:=hn rfl id
   cases d with
   |false=>intro call α F ks st;rw[d0e h h1 h2,eo]
   |true=>intro call α F ks st;rw[d8u h h1 h2 h3 (n:=l.length) rfl,eo]
  |false=>
   cases d with
   |false=>intro call α F ks st;rw[c5e h rfl rfl,eo];rfl
   |true=>intro call α F ks st;rw[d3q h rfl rfl rfl (n:=l.length) rfl,eo];rfl
 |skip=>exact fun p h=>d8q h
 |ret=>exact fun p h=>e2x h
 |exit i=>exact fun p h=>d8r h
 |_=>exact fun p h=>trivial
theorem f3h{call:Call}{n:FuncId}{b:Code}{st:St}:b3b P T call n b .normal st=g8 P T call n b (G4 (T.keep n (e7 b)) st):=rfl
theorem f3i{call:Call}{n:FuncId}{b:Code}{st:St}{i:Nat}:b3b P T call n b (.exit i) st=some (.exit i,G4 (T.out n (e7 b)) st):=rfl
theorem f3j{call:Call}{n:FuncId}{b:Code}{st:St}:b3b P T call n b .ret st=some (.ret,G4 (T.out n (e7 b)) st):=rfl
attribute [go_sem] List.isEmpty_nil Bool.true_or Bool.and_true Bool.and_self Bool.false_eq_true Bool.not_true Bool.not_false List.set_cons_zero List.set_cons_succ a1p G7 evA d2c G3 G2 n5 U0 C7 W8 C9 a1c List.length_cons List.length_nil List.map_cons List.map_nil List.replicate List.cons_append List.nil_append List.getElem?_cons_succ List.getElem?_cons_zero List.getElem?_toArray List.set m0 Option.bind c9f a9e b6a a4v b2v C1 a6v b4v b1p a6s Z1 a2j a1t c9d b4x c1w a3t List.filter_nil List.range_zero List.flatMap_nil List.flatMap_cons List.append_nil List.range List.range.loop A1 a1u List.length_map one M0 a5l G4 S7 List.elem_cons List.elem_nil Bool.false_or Bool.or_false Bool.or_true cond_true cond_false O6 A3 Y1 cut a4u List.all_nil List.all_cons Op.operands Array.toList List.filterMap_cons List.filterMap_nil Z7 X0 a2n a2m S2 c1v b5v a1b List.zipIdx_nil c7 Array.toList_map d7a e8j beq_self_eq_true Int.toNat_natCast Option.map_some Option.map_none ix t7 Nat.zero_add List.any_nil List.any_cons List.take_zero List.take_succ_cons List.take_nil List.drop_succ_cons List.drop_zero List.drop_nil toD Z6 List.filter_cons Nat.zero_le Nat.le_refl b0k ite_true ite_false if_true if_false d3k d8m d3l d3m d3n d3o d0d e2z d9a S3 e8i d8z v7 d4c f7c n6 c2x d4d decide_eq_true_eq Bool.not_eq_true' decide_eq_false_iff_not Bool.and_eq_true Bool.or_eq_true W9 a4r J2 Bool.and_false Bool.false_and Bool.true_and a4t List.zipIdx_cons Option.getD_some Option.getD_none Nat.sub_self Y0 L7 W4 List.flatten_cons List.flatten_nil F7 w8 a2l a4s d8o d8w d0m c5k c2u d8x d3v c5l d3w d3x d3y e2y d3z b8k c1e d8y d4a c1f c1g d4b c2v c5m e8n d3h d3i d8l a9l b0m d3r d8v d0f b0l b5y b5z W3 a2c B3 F6 a3s a2k R9 C8 S6 a1a c1u c9e a2d a7x c6s O.flat Int.natCast_nonneg decide_true decide_false d4e d4f d0i c5i d3t d0k d3u d0l d0j c5j if_pos if_neg d9b b7d b7e true_and and_true and_self not_true_eq_false not_false_eq_true Bool.not_not Go.Call.operands b2w List.all_append List.filterMap_append Array.toList_append List.flatMap_append Bool.or_self List.getElem?_nil Bool.true_beq Bool.false_beq f3h f3i f3j i3 Option.isSome_some List.mapM_cons List.mapM_nil Option.bind_eq_bind Option.pure_def Option.bind_some List.toList_toArray List.map_replicate a6t d2a a6u b1q b5w d2b
attribute [go_sem ↓] e3a d8g d8h d3a d3b d8i d3c d3d c5d d8p e2i e2j e2k e2l e2m e2n e2o e8k e2s e2t c7g c7h c2w c5n d0n c5o e3b e3c c2y e2p e2q d9c e3d e3e e3f e3g
theorem y0{lib:Call}{n:FuncId}{fin lend:Bool}{f:Func}{a0 a1:String}{a2 a3 a4:Array TypeId}{a5 nt:Nat}{rs:List ResultVar}{c0:Code}{a9 a10:Bool}{a11:String}{a12:Nat}{a13:Option Nat}{a14:List Departure}{a15:Array String}{args:List V}{bs:List (Option k7)}{r:W×List (Option k7)}(nf:Bool)(hn:nf=true->NF T n)(w:FW P T n fin lend)(hf:P.funcs[n]?=some f)(hl:lib n args bs=none)(hm:f=⟨a0,a1,a2,a3,a4,a5,nt,⟨rs⟩,some c0,a9,a10,a11,a12,a13,a14,a15⟩)
 (H:m7 P T n f nf c0 []->f.ntmps=nt->f.results.toList=rs->s9 P T (c6 P T lib) n (b8i P fin f) (cq f []) (a1c f.ntmps args bs) []=some r):c6 P T lib n args bs=some r:=by
 have hb:f.body=some c0:=by rw[hm]
 have e:cq f []=c0:=by unfold cq;rw[hb];rfl
 refine e2v hl w.2.2.1 hf hb ?_
 rw[w.1,<-e]
 exact H (c7i hn c0 [] e) (by rw[hm]) (by rw[hm])
theorem D3{n:FuncId}{fin lend:Bool}{f:Func}{p:List Nat}{c0:Code}{call:Call}{s:St}{r:Option (Ex×St)}(nf:Bool)(hn:nf=true->NF T n)(w:FW P T n fin lend)(hb:f.body=some c0)
 (H:m7 P T n f nf (v8 p c0) p->e7 (cq f p)=e7 (v8 p c0)->s9 P T call n (b3b P T call n (cq f p)) (cq f p) s []=r):g8 P T call n (cq f p) s=r:=by
 have e:cq f p=v8 p c0:=by unfold cq;rw[hb]
 rw[i1]
 exact H (c7i hn _ p e) (by rw[e])
theorem fn{lib:Call}{n:FuncId}{fin lend:Bool}{f:Func}{a0 a1:String}{a2 a3 a4:Array TypeId}{a5 nt:Nat}{rs:List ResultVar}{c0:Code}{a9 a10:Bool}{a11:String}{a12:Nat}{a13:Option Nat}{a14:List Departure}{a15:Array String}{args:List V}{bs:List (Option k7)}{r:W×List (Option k7)}(w:m8 P T n fin lend)(hf:P.funcs[n]?=some f)(hm:f=⟨a0,a1,a2,a3,a4,a5,nt,⟨rs⟩,some c0,a9,a10,a11,a12,a13,a14,a15⟩:=by exact rfl)(hl:lib n args bs=none:=by exact rfl)
 (H:m7 P T n f true c0 []->f.ntmps=nt->f.results.toList=rs->s9 P T (c6 P T lib) n (b8i P fin f) (cq f []) (a1c f.ntmps args bs) []=some r:=by(intro c ht hr;simp only[m7,List.length_cons,List.length_nil,Nat.reduceAdd,e7,and_true]at c;(try simp(maxSteps:=4000000) (disch:=first|assumption|omega) only[go_sem, *,↓c9,↓d9,Nat.reduceAdd,Nat.reduceSub,Nat.reduceMul,Nat.reduceBEq,Nat.reduceLeDiff,Nat.reduceLT,Nat.reduceDiv,Nat.reduceMod]);repeat' ((first|with_reducible first|refine o8 (fun hb=>?_) fun hb=>?_|refine o9 (fun hb=>?_) fun hb=>?_|refine p8 (fun hb=>?_) fun hb=>?_|refine p9 (fun hb=>?_) fun hb=>?_|refine q7 (fun hb=>?_) fun hb=>?_|refine g7 (fun hb=>?_) fun hb=>?_|rw[i0 rfl])<;>try simp(maxSteps:=4000000) (disch:=first|assumption|omega) only[go_sem, *,↓c9,↓d9,Nat.reduceAdd,Nat.reduceSub,Nat.reduceMul,Nat.reduceBEq,Nat.reduceLeDiff,Nat.reduceLT,Nat.reduceDiv,Nat.reduceMod]))):c6 P T lib n args bs=some r:=y0 true (fun _=>w.2) w.1 hf hl hm H
theorem lp{n:FuncId}{fin lend:Bool}{f:Func}{p:List Nat}{c0:Code}{call:Call}{s:St}{r:Option (Ex×St)}(w:m8 P T n fin lend)(hb:f.body=some c0:=by exact rfl)
 (H:m7 P T n f true (v8 p c0) p->e7 (cq f p)=e7 (v8 p c0)->s9 P T call n (b3b P T call n (cq f p)) (cq f p) s []=r:=by(intro c hl;simp only[v8,C4,m7,List.length_cons,List.length_nil,Nat.reduceAdd,e7,and_true]at c hl;(try simp(maxSteps:=4000000) (disch:=first|assumption|omega) only[go_sem, *,↓c9,↓d9,Nat.reduceAdd,Nat.reduceSub,Nat.reduceMul,Nat.reduceBEq,Nat.reduceLeDiff,Nat.reduceLT,Nat.reduceDiv,Nat.reduceMod]);repeat' ((first|with_reducible first|refine o8 (fun hb=>?_) fun hb=>?_|refine o9 (fun hb=>?_) fun hb=>?_|refine p8 (fun hb=>?_) fun hb=>?_|refine p9 (fun hb=>?_) fun hb=>?_|refine q7 (fun hb=>?_) fun hb=>?_|refine g7 (fun hb=>?_) fun hb=>?_|rw[i0 rfl])<;>try simp(maxSteps:=4000000) (disch:=first|assumption|omega) only[go_sem, *,↓c9,↓d9,Nat.reduceAdd,Nat.reduceSub,Nat.reduceMul,Nat.reduceBEq,Nat.reduceLeDiff,Nat.reduceLT,Nat.reduceDiv,Nat.reduceMod]))):g8 P T call n (cq f p) s=r:=D3 true (fun _=>w.2) w.1 hb H
theorem fns{lib:Call}{n:FuncId}{fin lend:Bool}{f:Func}{a0 a1:String}{a2 a3 a4:Array TypeId}{a5 nt:Nat}{rs:List ResultVar}{c0:Code}{a9 a10:Bool}{a11:String}{a12:Nat}{a13:Option Nat}{a14:List Departure}{a15:Array String}{args:List V}{bs:List (Option k7)}{r:W×List (Option k7)}(w:m8 P T n fin lend)(hf:P.funcs[n]?=some f)(hm:f=⟨a0,a1,a2,a3,a4,a5,nt,⟨rs⟩,some c0,a9,a10,a11,a12,a13,a14,a15⟩:=by exact rfl)(hl:lib n args bs=none:=by exact rfl)
 (H:m7 P T n f true c0 []->f.ntmps=nt->f.results.toList=rs->s9 P T (c6 P T lib) n (b8i P fin f) (cq f []) (a1c f.ntmps args bs) []=some r:=by(intro c ht hr;simp only[m7,List.length_cons,List.length_nil,Nat.reduceAdd,e7,and_true]at c;(try simp(maxSteps:=4000000) (disch:=first|assumption|omega) only[go_sem, *,z9,↓B6,↓B7,x4,b0j,K7,a0w,Nat.reduceAdd,Nat.reduceSub,Nat.reduceMul,Nat.reduceBEq,Nat.reduceLeDiff,Nat.reduceLT,Nat.reduceDiv,Nat.reduceMod]);repeat' ((first|with_reducible first|refine o8 (fun hb=>?_) fun hb=>?_|refine o9 (fun hb=>?_) fun hb=>?_|refine p8 (fun hb=>?_) fun hb=>?_|refine p9 (fun hb=>?_) fun hb=>?_|refine q7 (fun hb=>?_) fun hb=>?_|refine g7 (fun hb=>?_) fun hb=>?_)<;>try simp(maxSteps:=4000000) (disch:=first|assumption|omega) only[go_sem, *,z9,↓B6,↓B7,x4,b0j,K7,a0w,Nat.reduceAdd,Nat.reduceSub,Nat.reduceMul,Nat.reduceBEq,Nat.reduceLeDiff,Nat.reduceLT,Nat.reduceDiv,Nat.reduceMod]))):c6 P T lib n args bs=some r:=y0 true (fun _=>w.2) w.1 hf hl hm H
end
end Go.Vsi
