/- What the functions of the program, of the reference and of the law do (a part of it). -/
import Derived.Test.YtbjkeppbogdgcaaGreatZX1
import Derived.WalkKit
import Derived.WalkMore
import Derived.Lib.Walk
import Derived.Lib.Strings
import Derived.Lib.IndexBytes
import Derived.Lib.AsciiSet
import Derived.Lib.IndexAny
import Derived.Lib.Builder
import Derived.Laws.Strings3
import Derived.Laws.ResultCell
import Derived.Deep.LoopGhost
import Derived.Deep.WholeRow
import Derived.Laws.RangeString
import Derived.Laws.RangeAny
import Derived.Lib.Bytealg
import Derived.Laws.Runes
import Derived.Below
namespace Go.Proofs.YtbjkeppbogdgcaaGreat.LibC
open Go.RowKit Go.Lib
set_option linter.unusedVariables false
set_option linter.unusedSimpArgs false
set_option maxRecDepth 1000000
set_option maxHeartbeats 4000000
theorem c111(s:ByteArray)(c:Int)(w:World):
 Calls Tryz.prog 111 #[.string s,.int .u8 c] w fun e w'=>e=.returned (.int .i64 (Lib.indexByte s.data.toList c.toNat.toUInt8))∧w'=w:=by
 go_enter Tryz.func111,Tryz.ntmps111
 go_wp2
 rw[run_callFunc_extern Tryz.func113 (by kernel_rfl) (by kernel_rfl) (by kernel_rfl) (e:=Extern.BytealgIndexByte.indexByte) (by kernel_rfl),Lib.run_indexByteString]
 simp only[Result.andThen]
 rw[Oper.upon_value]
 go_wp2
 go_ret
 exact⟨rfl,rfl⟩
theorem c81(s t:ByteArray)(w:World):
 Calls Tryz.prog 81 #[.string s,.string t] w fun e w'=>e=.returned (.int .i64 (Lib.compareBytes s.data.toList t.data.toList))∧w'=w:=by
 go_enter Tryz.func81,Tryz.ntmps81
 go_wp2
 rw[run_callFunc_extern Tryz.func87 (by kernel_rfl) (by kernel_rfl) (by kernel_rfl) (e:=Extern.BytealgCompare.compare) (by kernel_rfl),Lib.run_compareString]
 simp only[Result.andThen]
 rw[Oper.upon_value]
 go_wp2
 go_ret
 exact⟨rfl,rfl⟩
end Go.Proofs.YtbjkeppbogdgcaaGreat.LibC
namespace Go.Vsi
open Go.Proofs
set_option maxRecDepth 100000
set_option linter.unusedVariables false
theorem b3p{c:Cx}{x v:Value}(h:r9 c (.c (.d (.v x))) v):v=x:=by
 have h:t8 c.w c.N (.v x) v:=h
 cases h
 rfl
theorem c4r{c:Cx}{a b:V}{vs:Array Value}(hs:vs.size=2)(hv:l0 (r9 c) vs 0 [a,b]): ∃x y,vs= #[x,y]∧r9 c a x∧r9 c b y:=by
 obtain⟨x,hx,hx2⟩:=hv 0 a rfl
 obtain⟨y,hy,hy2⟩:=hv 1 b rfl
 refine⟨x,y,?_,hx2,hy2⟩
 apply Array.ext_getElem?
 intro i
 match i with
 |0=>simpa using hx
 |1=>simpa using hy
 |n+2=>rw[Array.getElem?_eq_none (by omega),Array.getElem?_eq_none (by simp)]
theorem f2y:J8 Tryz.prog L0:=fun f args bs r bs' h c vs hc hh hU hs hv=>by
 unfold L0 at h
 split at h
 ·split at h
  ·rename_i s t
   obtain⟨rfl,rfl⟩:=Prod.mk.inj (Option.some.inj h)
   obtain⟨x,y,rfl,hx,hy⟩:=c4r hs hv
   obtain rfl:=b3p hx
   obtain rfl:=b3p hy
   refine(YtbjkeppbogdgcaaGreat.LibC.c81 s t c.w).mono ?_
   rintro e w' ⟨rfl,rfl⟩
   exact⟨_,c,rfl,rfl,hh,fun i hi=>(hU i).1 hi,.v rfl,u7.refl hc⟩
  ·cases h
 ·split at h
  ·rename_i s k
   obtain⟨rfl,rfl⟩:=Prod.mk.inj (Option.some.inj h)
   obtain⟨x,y,rfl,hx,hy⟩:=c4r hs hv
   obtain rfl:=b3p hx
   obtain rfl:=b3p hy
   refine(YtbjkeppbogdgcaaGreat.LibC.c111 s k c.w).mono ?_
   rintro e w' ⟨rfl,rfl⟩
   exact⟨_,c,rfl,rfl,hh,fun i hi=>(hU i).1 hi,.v rfl,u7.refl hc⟩
  ·cases h
 ·cases h
end Go.Vsi
