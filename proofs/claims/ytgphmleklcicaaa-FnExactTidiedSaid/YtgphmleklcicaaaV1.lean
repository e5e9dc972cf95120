/- The abstract interpreter of the machine's code, and what its states mean. -/
import Derived.Orders
import Derived.Laws.Sem
import Derived.Laws.Append
import Derived.Laws.AppendOwn
import Derived.Deep.MidRow
import Derived.Laws.BytesString
set_option linter.unusedVariables false
set_option linter.unusedSimpArgs false
namespace Go.Vsi
inductive D where
  | v (x : Value)
  | sl (k : Nat) (rows : List (List D))
  | any
  | lit (x : Value)
  deriving Inhabited
inductive S where
  | d (x : D)
  | arr (id off len : Nat)
  | ptr (id row off : Nat)
  | dp (row : List D) (off : Nat)
  | fn (f : FuncId) (caps : List Nat)
  | junk
  deriving Inhabited
inductive V where
  | c (s : S)
  | agg (l : List S)
  | junk
  deriving Inhabited
inductive W where
  | one (v : V)
  | tup (l : List V)
  deriving Inhabited
inductive O where
  | d (x : D)
  | own (k : Nat) (rows : List (List D))
  deriving Inhabited
def O.flat : O → D
  | .d x => x
  | .own k rows => .sl k rows
inductive Blk where
  | var (cells : List S)
  | arr (k : Nat) (rows : List (List D))
  | nar (k : Nat) (rows : List (List O)) (outs : List (Nat × Nat × Nat))
  deriving Inhabited
abbrev Hp := Nat → Option Blk
structure St where
  tm : List W
  h : Hp
  next : Nat
  io : Nat
inductive Pre where
  | up (tmp cell row : Nat) (at' : Nat)
  | down (tmp cell row : Nat) (at' : Nat)
  | lose (tmp cell row : Nat) (at' : Nat)
  | nest (tmp cell : Nat)
structure Tab where
  keep : FuncId → Nat → List Nat
  out : FuncId → Nat → List Nat
  frz : FuncId → Nat → List Nat
  fin : FuncId → Bool
  lend : FuncId → Bool
  ord : FuncId → Nat → List Nat
  on : FuncId → Bool
  pre : FuncId → Nat → List Pre := fun _ _ => []
inductive Ex where
  | normal | exit (id : Nat) | ret
def plain : Value → Bool
  | .bool _ | .int _ _ | .string _ | .pointer none | .slice none 0 0 | .nilFunc | .nilIface => true
  | _ => false
def cellOf (x : Value) : S := match plain x with | true => .d (.v x) | false => .junk
def ofVal : Value → V
  | .agg cs => match cs.all (·.oneCell') with | true => .agg (cs.toList.map cellOf) | false => .junk
  | .tuple _ => .junk
  | x => match plain x with | true => .c (.d (.v x)) | false => .junk
def cellVal : S → Option Value
  | .d (.v x) => some x
  | _ => none
def cellVals : List S → Option (List Value)
  | [] => some []
  | s :: r => match cellVal s, cellVals r with
    | some v, some vs => some (v :: vs)
    | _, _ => none
def toVal : V → Option Value
  | .c s => cellVal s
  | .agg l => match cellVals l with | some vs => some (.agg vs.toArray) | none => none
  | .junk => none
def pureRun {α : Type} (P : Program) : Sem α → Option α
  | .pure a => some a
  | .program k => pureRun P (k P)
  | _ => none
def idsS : S → List Nat
  | .arr id _ _ => [id]
  | .ptr id _ _ => [id]
  | .fn _ caps => caps
  | _ => []
def idsV : V → List Nat
  | .c s => idsS s
  | .agg l => l.flatMap idsS
  | .junk => []
def idsW : W → List Nat
  | .one v => idsV v
  | .tup l => l.flatMap idsV
def idsB : Blk → List Nat
  | .var cells => cells.flatMap idsS
  | .arr _ _ => []
  | .nar _ _ outs => outs.map (·.2.2)
def reach (h : Hp) : Nat → List Nat → List Nat → List Nat
  | 0, _, seen => seen
  | _ + 1, [], seen => seen
  | k + 1, id :: r, seen =>
    match seen.elem id with
    | true => reach h k r seen
    | false => match h id with
      | some b => reach h k (idsB b ++ r) (seen ++ [id])
      | none => reach h k r seen
def ix : List Nat → Nat → Option Nat
  | [], _ => none
  | x :: r, id => match Nat.beq x id with | true => some 0 | false => (ix r id).map (· + 1)
def renS (f : Nat → Option Nat) : S → S
  | .arr id o l => match f id with | some j => .arr j o l | none => .junk
  | .ptr id r o => match f id with | some j => .ptr j r o | none => .junk
  | .fn g caps => match caps.mapM f with | some cs => .fn g cs | none => .junk
  | s => s
def renV (f : Nat → Option Nat) : V → V
  | .c s => .c (renS f s)
  | .agg l => .agg (l.map (renS f))
  | .junk => .junk
def renW (f : Nat → Option Nat) : W → W
  | .one v => .one (renV f v)
  | .tup l => .tup (l.map (renV f))
def setO (rows : List (List O)) (i j : Nat) (o : O) : List (List O) := match rows[i]? with
  | some r => rows.set i (r.set j o)
  | none => rows
def dropOut (row j : Nat) : List (Nat × Nat × Nat) → List (Nat × Nat × Nat)
  | [] => []
  | (r, c, id) :: os => match Nat.beq r row && Nat.beq c j with | true => dropOut row j os | false => (r, c, id) :: dropOut row j os
def renO (f : Nat → Option Nat) : List (Nat × Nat × Nat) → List (List O) → List (List O) × List (Nat × Nat × Nat)
  | [], rows => (rows, [])
  | (i, j, id) :: r, rows => match f id with
    | some id' => ((renO f r rows).1, (i, j, id') :: (renO f r rows).2)
    | none => (setO (renO f r rows).1 i j (.d .any), dropOut i j (renO f r rows).2)
def renB (f : Nat → Option Nat) : Blk → Blk
  | .var cells => .var (cells.map (renS f))
  | .arr k rows => .arr k rows
  | .nar k rows outs => .nar k (renO f outs rows).1 (renO f outs rows).2
def hpOf (bs : List (Option Blk)) : Hp := fun i => match bs[i]? with | some b => b | none => none
def upd (h : Hp) : List (Nat × Option Blk) → Hp
  | [] => h
  | (i, b) :: r => upd (fun j => match Nat.beq j i with | true => b | false => h j) r
abbrev Call := FuncId → List V → List (Option Blk) → Option (W × List (Option Blk))
abbrev Eff := W × List (Nat × Option Blk)
def toD (h : Hp) : S → Option (D × List (Nat × Option Blk))
  | .d x => some (x, [])
  | .arr id off len => match h id with
    | some (.arr k rows) => some (.sl k ((rows.drop off).take len), [(id, none)])
    | _ => none
  | _ => none
def toDs (h : Hp) : List S → Option (List D × List (Nat × Option Blk))
  | [] => some ([], [])
  | s :: r => match toD h s, toDs h r with
    | some (x, u), some (xs, us) => some (x :: xs, u ++ us)
    | _, _ => none
def toO (h : Hp) : S → Option (O × List (Nat × Option Blk))
  | .d x => some (.d x, [])
  | .arr id off len => match h id with
    | some (.arr k rows) => some (.own k ((rows.drop off).take len), [(id, none)])
    | _ => none
  | _ => none
def toOs (h : Hp) : List S → Option (List O × List (Nat × Option Blk))
  | [] => some ([], [])
  | s :: r => match toO h s, toOs h r with
    | some (x, u), some (xs, us) => some (x :: xs, u ++ us)
    | _, _ => none
def nodupB : List Nat → Bool
  | [] => true
  | x :: r => !r.elem x && nodupB r
def isSlS : S → Bool
  | .arr _ _ _ => true
  | .d (.sl _ _) => true
  | .d (.v (.slice none 0 0)) => true
  | _ => false
def isArrS : S → Bool
  | .arr _ _ _ => true
  | _ => false
def nestB (lend : FuncId → Bool) : Bool := lend 1000000
def outOf (row j : Nat) : List (Nat × Nat × Nat) → Option Nat
  | [] => none
  | (r, c, id) :: os => match Nat.beq r row && Nat.beq c j with | true => some id | false => outOf row j os
def narCell (h : Hp) (out : Option Nat) (o : O) : Option S := match out with
  | some id => match h id with | some (.arr _ rs) => some (.arr id 0 rs.length) | _ => none
  | none => match o with | .d x => some (.d x) | .own _ _ => some .junk
def narRow (h : Hp) (outs : List (Nat × Nat × Nat)) (row : Nat) : Nat → List O → Option (List S)
  | _, [] => some []
  | j, o :: r => match narCell h (outOf row j outs) o, narRow h outs row (j + 1) r with
    | some x, some xs => some (x :: xs)
    | _, _ => none
def cellsV : V → List S
  | .c s => [s]
  | .agg l => l
  | .junk => []
def isAggB (P : Program) (t : TypeId) : Bool :=
  match P.underlying t with
  | some (.struct _) => true
  | some (.array _ _) => true
  | _ => false
def partA (P : Program) (t : TypeId) (l : List S) (off : Nat) : Option V :=
  match P.underlying t, P.info? t with
  | some _, some i => match isAggB P t with
    | true => match Nat.ble (off + i.size) l.length with
      | true => some (.agg ((l.drop off).take i.size))
      | false => none
    | false => match l[off]? with
      | some s => some (.c s)
      | none => none
  | _, _ => none
def zeroCells (P : Program) (t : TypeId) : Option (List S) :=
  match P.info? t with
  | some i => match i.zero with
    | some z => match z.cells.all (·.oneCell') with
      | true => some (z.cells.toList.map cellOf)
      | false => none
    | none => none
  | none => none
def fillA (place : Nat → Option (Nat × Nat)) (cells : List S) : List (Nat × V) → Option (List S)
  | [] => some cells
  | (_, .junk) :: _ => none
  | (i, v) :: rest =>
    match place i with
    | none => none
    | some (off, size) =>
      match Nat.beq (cellsV v).length size && Nat.ble (off + size) cells.length with
      | true => fillA place (cells.take off ++ cellsV v ++ cells.drop (off + size)) rest
      | false => none
def rowsOf (k : Nat) : Nat → List S → List (List S)
  | 0, _ => []
  | n + 1, l => l.take k :: rowsOf k n (l.drop k)
def toRows (h : Hp) : List (List S) → Option (List (List D) × List (Nat × Option Blk))
  | [] => some ([], [])
  | s :: r => match toDs h s, toRows h r with
    | some (x, u), some (xs, us) => some (x :: xs, u ++ us)
    | _, _ => none
def toRowsO (h : Hp) : List (List S) → Option (List (List O) × List (Nat × Option Blk))
  | [] => some ([], [])
  | s :: r => match toOs h s, toRowsO h r with
    | some (x, u), some (xs, us) => some (x :: xs, u ++ us)
    | _, _ => none
def sliceRows (h : Hp) : V → Option (List (List D))
  | .c (.arr id off len) => match h id with
    | some (.arr _ rows) => some ((rows.drop off).take len)
    | _ => none
  | .c (.d (.sl _ rows)) => some rows
  | .c (.d (.v (.slice none 0 0))) => some []
  | .c (.d (.v (.string s))) => some (s.data.toList.map fun b => [.v (.int .u8 b.toNat)])
  | _ => none
def sliceLen (h : Hp) : V → Option Nat
  | .c (.arr id _ len) => match h id with | some _ => some len | none => none
  | .c (.d (.sl _ rows)) => some rows.length
  | .c (.d (.v (.slice none 0 0))) => some 0
  | _ => none
def intV : V → Option Int
  | .c (.d (.v (.int _ n))) => some n
  | _ => none
def elemT (P : Program) (t : TypeId) : Option TypeId :=
  match P.underlying t with
  | some (.slice e) => some e
  | _ => none
def room : Nat := 70368744177664
def one (s : S) : W := .one (.c s)
def appendA (P : Program) (fr : Nat → Nat) (h : Hp) (t : TypeId) (base x : V) : Option Eff :=
  match elemT P t with
  | none => none
  | some e =>
    match sliceRows h x, sliceLen h base with
    | some new, some n => match zeroCells P e with
      | none => none
      | some z =>
      match Nat.beq z.length (P.cellsOf e) && Nat.ble ((n + new.length) * P.bytesOf e) room && Nat.ble (n + new.length) room && new.all (fun r => Nat.beq r.length (P.cellsOf e)) with
      | false => none
      | true =>
        match base with
        | .c (.arr id off len) => match h id with
          | some (.arr k rows) => match Nat.beq k (P.cellsOf e) with
            | true => some (one (.arr (fr 0) 0 (len + new.length)), [(id, none), (fr 0, some (.arr k ((rows.drop off).take len ++ new)))])
            | false => none
          | _ => none
        | .c (.d (.v (.slice none 0 0))) =>
          match new with
          | [] => some (one (.d (.v (.slice none 0 0))), [])
          | _ :: _ => some (one (.arr (fr 0) 0 new.length), [(fr 0, some (.arr (P.cellsOf e) new))])
        | _ => none
    | _, _ => none
def appendN (P : Program) (fr : Nat → Nat) (h : Hp) (t : TypeId) (base : V) (ix0 : Nat) (new : List (List O)) (len : Nat) : Option Eff :=
  match elemT P t with
  | none => none
  | some e => match sliceLen h base, zeroCells P e with
    | some n, some z =>
      match Nat.beq z.length (P.cellsOf e) && Nat.ble ((n + new.length) * P.bytesOf e) room && Nat.ble (n + new.length) room && new.all (fun r => Nat.beq r.length (P.cellsOf e)) && Nat.beq len new.length with
      | false => none
      | true => match base with
        | .c (.arr id 0 m) => match Nat.beq id ix0, h id with
          | false, some (.nar k rows []) => match Nat.beq k (P.cellsOf e) && Nat.beq m rows.length with
            | true => some (one (.arr (fr 0) 0 (m + new.length)), [(ix0, none), (id, none), (fr 0, some (.nar k (rows ++ new) []))])
            | false => none
          | false, some (.arr k []) => match Nat.beq k (P.cellsOf e) && Nat.beq m 0 with
            | true => some (one (.arr (fr 0) 0 new.length), [(ix0, none), (id, none), (fr 0, some (.nar k new []))])
            | false => none
          | _, _ => none
        | .c (.d (.v (.slice none 0 0))) => match new with
          | [] => none
          | _ :: _ => some (one (.arr (fr 0) 0 new.length), [(ix0, none), (fr 0, some (.nar (P.cellsOf e) new []))])
        | _ => none
    | _, _ => none
def boundsA (n : Nat) (lo hi : Option V) : Option (Nat × Nat) :=
  match (match hi with | none => some (n : Int) | some v => intV v) with
  | none => none
  | some h => match (match lo with | none => some (0 : Int) | some v => intV v) with
    | none => none
    | some l => match decide (0 ≤ l) && decide (l ≤ h) && decide (h ≤ n) with
      | true => some (l.toNat, h.toNat)
      | false => none
def sliceA (P : Program) (h : Hp) (t : TypeId) (x : V) (lo hi : Option V) : Option W :=
  match x with
  | .c (.d (.v (.string s))) => match P.underlying t with
    | some .string => match boundsA s.size lo hi with
      | some (l, h) => some (one (.d (.v (.string (s.extract l h)))))
      | none => none
    | _ => none
  | .c (.arr id off len) => match elemT P t, h id with
    | some e, some (.arr k _) => match boundsA len lo hi, P.info? e with
      | some (l, h), some i => match Nat.beq k i.size with
        | true => some (one (.arr id (off + l) (h - l)))
        | false => none
      | _, _ => none
    | _, _ => none
  | .c (.d (.sl k rows)) => match elemT P t with
    | some e => match boundsA rows.length lo hi, P.info? e with
      | some (l, h), some i => match Nat.beq k i.size with
        | true => some (one (.d (.sl k ((rows.drop l).take (h - l)))))
        | false => none
      | _, _ => none
    | none => none
  | .c (.d (.v (.slice none 0 0))) => match elemT P t with
    | some e => match boundsA 0 lo hi, P.info? e with
      | some _, some _ => some (one (.d (.v (.slice none 0 0))))
      | _, _ => none
    | none => none
  | _ => none
def capPtr : V → Option Nat
  | .c (.ptr id 0 0) => some id
  | _ => none
def backOf (seen : List Nat) (fr : Nat → Nat) (j : Nat) : Option Nat := match seen[j]? with | some id => some id | none => some (fr (j - seen.length))
def ownCall (call : Call) (fr : Nat → Nat) (h : Hp) (f : FuncId) (args : List V) : Option Eff :=
  let seen := reach h 400 (args.flatMap idsV) []
  let m := seen.length
  match call f (args.map (renV (ix seen))) (seen.map fun id => (h id).map (renB (ix seen))) with
  | none => none
  | some (v, bs) =>
    match Nat.ble m bs.length && Nat.ble bs.length (m + 64) with
    | false => none
    | true =>
      some (renW (backOf seen fr) v, bs.zipIdx.map fun (b, j) => (((backOf seen fr) j).getD 0, b.map (renB (backOf seen fr))))
def lendS (h : Hp) : S → Option S
  | .d x => some (.d x)
  | .arr id off len => match h id with
    | some (.arr k rows) => some (.d (.sl k ((rows.drop off).take len)))
    | some (.nar k rows []) => some (.d (.sl k (((rows.drop off).take len).map (List.map O.flat))))
    | _ => none
  | .ptr id row off => match h id with
    | some (.var cells) => match row, toDs h cells with
      | 0, some (ds, _) => some (.dp ds off)
      | _, _ => none
    | some (.arr _ rows) => match rows[row]? with
      | some r => some (.dp r off)
      | none => none
    | some (.nar _ _ _) => none
    | none => none
  | .dp r o => some (.dp r o)
  | .fn f [] => some (.fn f [])
  | .fn _ _ => none
  | .junk => some .junk
def lendSs (h : Hp) : List S → Option (List S)
  | [] => some []
  | s :: r => match lendS h s, lendSs h r with
    | some x, some xs => some (x :: xs)
    | _, _ => none
def lendV (h : Hp) : V → Option V
  | .c s => match lendS h s with | some x => some (.c x) | none => none
  | .agg l => match lendSs h l with | some xs => some (.agg xs) | none => none
  | .junk => some .junk
def lendVs (h : Hp) : List V → Option (List V)
  | [] => some []
  | s :: r => match lendV h s, lendVs h r with
    | some x, some xs => some (x :: xs)
    | _, _ => none
def plainS : S → Bool
  | .d (.v _) => true
  | .junk => true
  | _ => false
def plainV : V → Bool
  | .c s => plainS s
  | .agg l => l.all plainS
  | .junk => true
def plainW : W → Bool
  | .one v => plainV v
  | .tup l => l.all plainV
def plainD : D → Bool
  | .v _ => true
  | _ => false
def plainO : O → Bool
  | .d x => plainD x
  | .own _ rows => rows.all fun r => r.all plainD
def freshB : Option Blk → Bool
  | none => true
  | some (.var _) => false
  | some (.arr _ rows) => rows.all fun r => r.all plainD
  | some (.nar _ rows outs) => outs.isEmpty && rows.all fun r => r.all plainO
def freshS : S → Bool
  | .arr _ _ _ => true
  | s => plainS s
def freshV : V → Bool
  | .c s => freshS s
  | .agg l => l.all freshS
  | .junk => true
def freshW : W → Bool
  | .one v => freshV v
  | .tup l => l.all freshV
def lendCall (call : Call) (fr : Nat → Nat) (h : Hp) (f : FuncId) (args : List V) : Option Eff :=
  match lendVs h args with
  | none => none
  | some as => match call f as [] with
    | none => none
    | some (r, bs) => match plainW r with
      | true => some (r, [])
      | false => match freshW r && bs.all freshB && Nat.ble bs.length 64 with
        | true => some (renW (fun j => some (fr j)) r, bs.zipIdx.map fun (b, j) => (fr j, b))
        | false => none
def callA (lend : FuncId → Bool) (call : Call) (fr : Nat → Nat) (h : Hp) (f : FuncId) (args : List V) : Option Eff :=
  match lend f with
  | true => lendCall call fr h f args
  | false => ownCall call fr h f args
def pure1 (P : Program) (s : Sem Value) : Option W :=
  match pureRun P s with
  | some (.tuple _) => none
  | some x => some (.one (ofVal x))
  | none => none
def hasBody (P : Program) (g : FuncId) : Bool := match P.funcs[g]? with | some fn => fn.body.isSome | none => false
def oneOf : W → V
  | .one v => v
  | .tup _ => .junk
def noUp : Option W → Option Eff
  | some w => some (w, [])
  | none => none
def opA (P : Program) (lend : FuncId → Bool) (call : Call) (fr : Nat → Nat) (ev : Operand → W) (h : Hp) (o : Op) : Option Eff :=
  match o with
  | .move x => some (ev x, [])
  | .assign x => some (ev x, [])
  | .pick c a b => match oneOf (ev c) with
    | .c (.d (.v (.bool true))) => some (ev a, [])
    | .c (.d (.v (.bool false))) => some (ev b, [])
    | _ => none
  | .extract x i => match ev x with
    | .tup l => match l[i]? with | some v => some (.one v, []) | none => none
    | .one _ => none
  | .nilCheck x => match oneOf (ev x) with
    | .c (.ptr id r o) => match h id with | some _ => some (one (.ptr id r o), []) | none => none
    | .c (.dp r o) => some (one (.dp r o), [])
    | .c (.fn f cs) => some (one (.fn f cs), [])
    | _ => none
  | .unOp op _ x => match toVal (oneOf (ev x)) with
    | some a => noUp (pure1 P (Op.unary op a))
    | none => none
  | .binOp op t x y _ => match toVal (oneOf (ev x)), toVal (oneOf (ev y)) with
    | some a, some b => noUp (pure1 P (do eqGuard op t x y a b; binOp op t a b))
    | _, _ => none
  | .convert src dst x => match P.underlying src, P.underlying dst, oneOf (ev x) with
    | some (.slice e), some .string, v => match P.underlying e, sliceRows h v, v with
      | some (.int .u8), some _, .c (.d (.v (.string _))) => none
      | some (.int .u8), some rows, _ =>
        match rows.mapM (fun r => match r with | [.v (.int .u8 n)] => some (UInt8.ofNat n.toNat) | _ => none) with
        | some bs => some (one (.d (.v (.string ⟨bs.toArray⟩))), [])
        | none => none
      | _, _, _ => none
    | some .string, some (.slice e), .c (.d (.v (.string s))) => match P.underlying e with
      | some (.int .u8) => some (one (.arr (fr 0) 0 s.size), [(fr 0, some (.arr 1 (s.data.toList.map fun b => [.v (.int .u8 b.toNat)])))])
      | _ => none
    | some (.slice _), some (.slice _), _ => none
    | _, _, v => match toVal v with
      | some a => noUp (pure1 P (convert src dst a))
      | none => none
  | .index t x i => match toVal (oneOf (ev x)), toVal (oneOf (ev i)) with
    | some a, some b => noUp (pure1 P (Instr.index t a b))
    | _, _ => none
  | .field t x i => match oneOf (ev x), P.underlying t with
    | .agg l, some (.struct fs) => match fs[i]? with
      | some f => match partA P f.type l f.offset with | some v => some (.one v, []) | none => none
      | none => none
    | _, _ => none
  | .alloc t => match zeroCells P t with
    | some cells => some (one (.ptr (fr 0) 0 0), [(fr 0, some (.var cells))])
    | none => none
  | .box _ x => match oneOf (ev x) with
    | .junk => none
    | v => some (one (.ptr (fr 0) 0 0), [(fr 0, some (.var (cellsV v)))])
  | .build t parts => match P.underlying t, zeroCells P t with
    | some (.struct fs), some z => match fs.all fun f => (P.info? f.type).isSome with
      | false => none
      | true =>
      match fillA (fun i => (fs[i]?).map fun f => (f.offset, P.cellsOf f.type)) z (parts.toList.map fun (i, x) => (i, oneOf (ev x))) with
      | some l => some (.one (.agg l), [])
      | none => none
    | _, _ => none
  | .buildSlice t n parts => match elemT P t with
    | none => none
    | some e =>
      let k := P.cellsOf e
      match zeroCells P e with
      | none => none
      | some z =>
      match Nat.beq z.length k && Nat.ble (n * k) 16777216 with
      | false => none
      | true =>
        match fillA (fun i => some (i * k, k)) ((List.replicate n z).flatten) (parts.toList.map fun (i, x) => (i, oneOf (ev x))) with
        | some l => match nestB lend && l.any isSlS with
          | false => match toRows h (rowsOf k n l) with
            | some (rows, kills) => some (one (.arr (fr 0) 0 n), kills ++ [(fr 0, some (.arr k rows))])
            | none => none
          | true => match toRowsO h (rowsOf k n l) with
            | some (rows, kills) => match nodupB (kills.map (·.1)) with
              | true => some (one (.arr (fr 0) 0 n), kills ++ [(fr 0, some (.nar k rows []))])
              | false => none
            | none => none
        | none => none
  | .makeSlice t len cap => match elemT P t, intV (oneOf (ev len)), intV (oneOf (ev cap)) with
    | some e, some n, some c =>
      match zeroCells P e, decide (0 ≤ n) && decide (n ≤ c) && decide (c * P.bytesOf e ≤ room) && decide (c ≤ room) with
      | some z, true => match Nat.beq z.length (P.cellsOf e), toDs h z with
        | true, some (row, []) => some (one (.arr (fr 0) 0 n.toNat), [(fr 0, some (.arr (P.cellsOf e) (List.replicate n.toNat row)))])
        | _, _ => none
      | _, _ => none
    | _, _, _ => none
  | .load t a => match oneOf (ev a) with
    | .c (.ptr id row off) => match h id with
      | some (.var cells) => match row with
        | 0 => match partA P t cells off with | some v => some (.one v, []) | none => none
        | _ => none
      | some (.arr _ rows) => match rows[row]? with
        | some r => match partA P t (r.map .d) off with | some v => some (.one v, []) | none => none
        | none => none
      | some (.nar _ rows outs) => match rows[row]? with
        | some r => match narRow h outs row 0 r with
          | some l => match partA P t l off with | some v => some (.one v, []) | none => none
          | none => none
        | none => none
      | none => none
    | .c (.dp r off) => match partA P t (r.map .d) off with | some v => some (.one v, []) | none => none
    | _ => none
  | .store t a x => match oneOf (ev a), oneOf (ev x) with
    | _, .junk => none
    | .c (.ptr id row off), v =>
      let l := cellsV v
      match (match P.info? t with | some i => Nat.beq l.length i.size | none => false) with
      | false => none
      | true => match h id with
        | some (.var cells) => match row, Nat.ble (off + l.length) cells.length with
          | 0, true => some (.one .junk, [(id, some (.var (cells.take off ++ l ++ cells.drop (off + l.length))))])
          | _, _ => none
        | some (.arr k rows) => match nestB lend && l.any isArrS with
          | false => match rows[row]?, toDs h l with
            | some r, some (ds, kills) => match Nat.ble (off + l.length) r.length && !(kills.any fun u => Nat.beq u.1 id) with
              | true => some (.one .junk, kills ++ [(id, some (.arr k (rows.set row (r.take off ++ ds ++ r.drop (off + l.length)))))])
              | false => none
            | _, _ => none
          | true => match rows[row]?, toOs h l with
            | some r, some (ds, kills) => match Nat.ble (off + l.length) r.length && !(kills.any fun u => Nat.beq u.1 id) && nodupB (kills.map (·.1)) with
              | true => some (.one .junk, kills ++ [(id, some (.nar k ((rows.map (List.map O.d)).set row ((r.map O.d).take off ++ ds ++ (r.map O.d).drop (off + l.length))) []))])
              | false => none
            | _, _ => none
        | some (.nar k rows []) => match rows[row]?, toOs h l with
          | some r, some (ds, kills) => match Nat.ble (off + l.length) r.length && !(kills.any fun u => Nat.beq u.1 id) && nodupB (kills.map (·.1)) with
            | true => some (.one .junk, kills ++ [(id, some (.nar k (rows.set row (r.take off ++ ds ++ r.drop (off + l.length))) []))])
            | false => none
          | _, _ => none
        | some (.nar _ _ (_ :: _)) => none
        | none => none
    | _, _ => none
  | .fieldAddr t x i => match P.underlying t with
    | some (.struct fs) => match fs[i]? with
      | some f => match Nat.ble 1 (P.cellsOf f.type), oneOf (ev x) with
        | true, .c (.ptr id r o) => match h id with | some _ => some (one (.ptr id r (o + f.offset)), []) | none => none
        | true, .c (.dp r o) => some (one (.dp r (o + f.offset)), [])
        | _, _ => none
      | none => none
    | _ => none
  | .indexAddr t x i => match elemT P t, intV (oneOf (ev i)) with
    | some e, some n => match P.info? e with
      | none => none
      | some _ => match oneOf (ev x) with
      | .c (.arr id off len) => match decide (0 ≤ n) && decide (n < len), h id with
        | true, some (.arr k _) => match Nat.beq k (P.cellsOf e) with
          | true => some (one (.ptr id (off + n.toNat) 0), [])
          | false => none
        | true, some (.nar k _ _) => match Nat.beq k (P.cellsOf e) with
          | true => some (one (.ptr id (off + n.toNat) 0), [])
          | false => none
        | _, _ => none
      | .c (.d (.sl k rows)) => match decide (0 ≤ n), rows[n.toNat]?, Nat.beq k (P.cellsOf e) with
        | true, some r, true => some (one (.dp r 0), [])
        | _, _, _ => none
      | _ => none
    | _, _ => none
  | .slice t x lo hi none => noUp (sliceA P h t (oneOf (ev x)) (lo.map fun x => oneOf (ev x)) (hi.map fun x => oneOf (ev x)))
  | .makeFunc (.func f) first captured => match first.toList, (captured.toList.map fun x => oneOf (ev x)).mapM capPtr with
    | [], some ids => some (one (.fn f ids), [])
    | _, _ => none
  | .call { callee := .builtin b, args, argTypes } =>
    match b, (args.toList.map fun x => oneOf (ev x)) with
    | .len, [x] => match sliceLen h x with
      | some n => match (argTypes[0]?).bind (elemT P) with
        | some _ => some (one (.d (.v (.int .i64 n))), [])
        | none => none
      | none => match toVal x with
        | some a => noUp (pure1 P (Builtin.len_ argTypes 0 #[a]))
        | none => none
    | .append, [s, x] => match argTypes[0]?, argTypes[1]? with
      | some t, some u => match P.underlying u with
        | some (.slice _) => match x with
          | .c (.arr ix0 0 len) => match h ix0 with
            | some (.nar _ new []) => appendN P fr h t s ix0 new len
            | _ => appendA P fr h t s x
          | _ => appendA P fr h t s x
        | some .string => appendA P fr h t s x
        | _ => none
      | _, _ => none
    | .min, [x, y] => match toVal x, toVal y with
      | some a, some b => noUp (pure1 P (Builtin.min_ argTypes 0 #[a, b]))
      | _, _ => none
    | .max, [x, y] => match toVal x, toVal y with
      | some a, some b => noUp (pure1 P (Builtin.max_ argTypes 0 #[a, b]))
      | _, _ => none
    | _, _ => none
  | .call { callee := .value f, args, .. } => match oneOf (ev f) with
    | .c (.fn g caps) => match hasBody P g, caps.all (fun id => (h id).isSome) with
      | true, true => callA lend call fr h g ((args.toList.map fun x => oneOf (ev x)) ++ caps.map fun id => .c (.ptr id 0 0))
      | _, _ => none
    | _ => none
  | _ => none
def constW (v : Value) : W := .one (ofVal v)
def evA (tm : List W) : Operand → W
  | .tmp t => match tm[t]? with | some w => w | none => .one .junk
  | .const v => constW v
  | .global _ => .one .junk
  | .func f => one (.fn f [])
def putA (tm : List W) (dst : Option Tmp) (w : W) : List W :=
  match dst with
  | some d => tm.set d w
  | none => tm
def wantedA (ops : List Oper) (tm : List W) (o : Oper) : Option Bool :=
  match o.guard with
  | none => some true
  | some (j, want) => match (ops[j]?).bind (·.dst) with
    | none => none
    | some d => match tm[d]? with
      | some (.one (.c (.d (.v (.bool b))))) => some (match want with | true => b | false => !b)
      | some (.tup []) => some false
      | _ => none
def stepA (P : Program) (lend : FuncId → Bool) (call : Call) (ops : List Oper) (n0 : Nat) (i : Nat) (o : Oper) (tm : List W) (h : Hp) : Option (List W × Hp) :=
  match wantedA ops tm o with
  | none => none
  | some false => some (putA tm o.dst (.tup []), h)
  | some true =>
    match opA P lend call (fun k => n0 + i + ops.length * k) (evA tm) h o.op with
    | some (w, up) => some (putA tm o.dst w, upd h up)
    | none => none
def opsA (P : Program) (lend : FuncId → Bool) (call : Call) (ops : List Oper) (n0 : Nat) : Nat → List Oper → List W → Hp → Option (List W × Hp)
  | _, [], tm, h => some (tm, h)
  | i, o :: r, tm, h => match stepA P lend call ops n0 i o tm h with
    | some (tm', h') => opsA P lend call ops n0 (i + 1) r tm' h'
    | none => none
def opTmps (o : Op) : List Nat := o.operands.toList.filterMap fun | .tmp t => some t | _ => none
def evL (ts : List Nat) (tm : List W) : Operand → W
  | .tmp t => match ts.elem t with | true => evA tm (.tmp t) | false => .one .junk
  | x => evA tm x
def idsAt (h : Hp) (i : Nat) : List Nat := match h i with | some b => idsB b | none => []
def narOuts (h : Hp) (i : Nat) : List Nat := match h i with | some (.nar _ _ outs) => outs.map (·.2.2) | _ => []
def footA (ev : Operand → W) (h : Hp) (o : Op) : List Nat :=
  match o with
  | .call { callee := .value _, .. } => reach h 400 (o.operands.toList.flatMap fun x => idsW (ev x)) []
  | .load _ a => idsW (ev a) ++ (idsW (ev a)).flatMap (narOuts h)
  | _ => o.operands.toList.flatMap fun x => idsW (ev x)
def cut (ft : List Nat) (h : Hp) : Hp := fun id => match ft.elem id with | true => h id | false => none
def closedB (h : Hp) (ids : List Nat) : Bool := (ids ++ (reach h 400 ids []).flatMap (idsAt h)).all fun x => (reach h 400 ids []).elem x
def callOk (lend : FuncId → Bool) (ev : Operand → W) (h : Hp) : Op → Bool
  | .call { callee := .value f, args, .. } => match oneOf (ev f) with
    | .c (.fn g caps) => lend g || closedB h (((args.toList.map fun x => oneOf (ev x)) ++ caps.map fun id => V.c (.ptr id 0 0)).flatMap idsV)
    | _ => false
  | _ => true
structure Rec where
  i : Nat
  foot : List Nat
  keys : List Nat
def drawGo (P : Program) (lend : FuncId → Bool) (call : Call) (ops : List Oper) (n0 : Nat) : List Nat → List W → Hp → List Rec → Option (List W × Hp × List Rec)
  | [], tm, h, rs => some (tm, h, rs)
  | i :: r, tm, h, rs => match ops[i]? with
    | none => none
    | some o => match wantedA ops tm o with
      | none => none
      | some false => drawGo P lend call ops n0 r (putA tm o.dst (.tup [])) h rs
      | some true =>
        let ev := evL (opTmps o.op) tm
        let ft := footA ev h o.op
        match opA P lend call (fun k => n0 + i + ops.length * k) ev (cut ft h) o.op, callOk lend ev (cut ft h) o.op with
        | some (w, up), true => drawGo P lend call ops n0 r (putA tm o.dst w) (upd h up) (⟨i, ft, up.map (·.1)⟩ :: rs)
        | _, _ => none
def edgesOf (ops : List Oper) (i : Nat) : List Nat :=
  match ops[i]? with
  | some o => o.after.toList.filterMap fun e => match Region.binds .any e with | true => some e.on | false => none
  | none => []
def union (l m : List Nat) : List Nat := l ++ m.filter fun x => !l.elem x
def ancOf : List (Nat × List Nat) → Nat → List Nat
  | [], _ => []
  | (j, l) :: r, i => match Nat.beq j i with | true => l | false => ancOf r i
def ancs (ops : List Oper) : List Nat → List (Nat × List Nat) → List (Nat × List Nat)
  | [], acc => acc
  | i :: r, acc => ancs ops r ((i, (edgesOf ops i).foldl (fun l e => union l (ancOf acc e)) (edgesOf ops i)) :: acc)
def ordered (A : List (Nat × List Nat)) (i j : Nat) : Bool := (ancOf A i).elem j || (ancOf A j).elem i
def disj (l m : List Nat) : Bool := l.all fun x => !m.elem x
def pairsOk (ops : List Oper) (ord : List Nat) (rs : List Rec) : Bool :=
  rs.all fun p => p.keys.isEmpty || rs.all fun q => Nat.beq p.i q.i || (disj p.keys q.foot && disj p.keys q.keys) || ordered (ancs ops ord []) p.i q.i
def before (ops : List Oper) : List Nat → List Nat → Bool
  | _, [] => true
  | done, i :: r => (edgesOf ops i).all (fun e => done.elem e) && !done.elem i && before ops (i :: done) r
def apartT (ops : List Oper) (i j : Nat) : Bool :=
  match ops[i]?, ops[j]? with
  | some x, some y => x.apart ops.toArray y
  | _, _ => false
def staticOk (ops : List Oper) (ord : List Nat) : Bool :=
  let A := ancs ops ord []
  Nat.beq ord.length ops.length && before ops [] ord && Region.noSelect ops.toArray && (List.range ops.length).all (fun i => ord.elem i) &&
    ord.all fun i => ord.all fun j => Nat.beq i j || apartT ops i j || ordered A i j
def drawA (P : Program) (lend : FuncId → Bool) (call : Call) (ops : List Oper) (ord : List Nat) (st : St) : Option St :=
  match drawGo P lend call ops st.next ord st.tm st.h [] with
  | none => none
  | some (tm, h, rs) =>
    if pairsOk ops ord rs = true then some { st with tm, h, next := st.next + ops.length * 64 } else none
def frzS (h : Hp) (F : List Nat) : S → S
  | .arr id off len => match F.elem id, h id with
    | true, some (.arr k rows) => .d (.sl k ((rows.drop off).take len))
    | true, some (.nar k rows []) => .d (.sl k (((rows.drop off).take len).map (List.map O.flat)))
    | _, _ => .arr id off len
  | s => s
def frzV (h : Hp) (F : List Nat) : V → V
  | .c s => .c (frzS h F s)
  | .agg l => .agg (l.map (frzS h F))
  | .junk => .junk
def frzW (h : Hp) (F : List Nat) : W → W
  | .one v => .one (frzV h F v)
  | .tup l => .tup (l.map (frzV h F))
def frzH (h : Hp) (F : List Nat) : Hp := fun id =>
  match h id with
  | some (.var cells) => some (.var (cells.map (frzS h F)))
  | some (.arr k rows) => match F.elem id with | true => none | false => some (.arr k rows)
  | some (.nar k rows []) => match F.elem id with | true => none | false => some (.nar k rows [])
  | some (.nar k rows (o :: os)) => some (.nar k rows (o :: os))
  | none => none
def frzSt (ts : List Nat) (st : St) : St :=
  match ts with
  | [] => st
  | _ =>
    let F := reach st.h 400 (ts.flatMap fun t => match st.tm[t]? with | some w => idsW w | none => []) []
    { st with tm := st.tm.map (frzW st.h F), h := frzH st.h F }
def preId (st : St) (t c : Nat) : Option (Nat × Nat) := match st.tm[t]? with
  | some (.one (.c (.arr id off _))) => some (id, off)
  | some (.one (.agg l)) => match l[c]? with | some (.arr id off _) => some (id, off) | _ => none
  | some (.one (.c (.ptr id 0 0))) => match st.h id with
    | some (.var cells) => match cells[c]? with | some (.arr id' off _) => some (id', off) | _ => none
    | _ => none
  | _ => none
def preRow (st : St) (r : Nat) : Option Nat := match st.tm[r]? with
  | some (.one (.c (.d (.v (.int _ n))))) => match decide (0 ≤ n) with | true => some n.toNat | false => none
  | _ => none
def pre1 : Pre → St → Option St
  | .up t c r j, st => match preId st t c, preRow st r with
    | some (id, off), some i => match st.h id with
      | some (.nar k rows outs) => match rows[off + i]?, outOf (off + i) j outs with
        | some row, none => match row[j]? with
          | some (.own k' rs) => some { st with h := upd st.h [(id, some (.nar k rows ((off + i, j, st.next) :: outs))), (st.next, some (.arr k' rs))], next := st.next + 1 }
          | some (.d _) => some st
          | none => none
        | _, _ => none
      | _ => none
    | _, _ => none
  | .down t c r j, st => match preId st t c, preRow st r with
    | some (id, off), some i => match st.h id with
      | some (.nar k rows outs) => match outOf (off + i) j outs with
        | some id' => match st.h id' with
          | some (.arr k' rs) => some { st with h := upd st.h [(id', none), (id, some (.nar k (setO rows (off + i) j (.own k' rs)) (dropOut (off + i) j outs)))] }
          | _ => none
        | none => some st
      | _ => none
    | _, _ => none
  | .lose t c r j, st => match preId st t c, preRow st r with
    | some (id, off), some i => match st.h id with
      | some (.nar k rows outs) => some { st with h := upd st.h [(id, some (.nar k (setO rows (off + i) j (.d .any)) (dropOut (off + i) j outs)))] }
      | _ => none
    | _, _ => none
  | .nest t c, st => match preId st t c with
    | some (id, _) => match st.h id with
      | some (.arr k rows) => some { st with h := upd st.h [(id, some (.nar k (rows.map (List.map O.d)) []))] }
      | _ => none
    | none => none
def preA : List Pre → St → Option St
  | [], st => some st
  | p :: ps, st => match pre1 p st with | some st' => preA ps st' | none => none
def ordOf (ord : List Nat) (n : Nat) : List Nat := match ord with | [] => List.range n | l => l
def regA (P : Program) (T : Tab) (call : Call) (f : FuncId) (id : Nat) (ops : List Oper) (draw : Bool) (st0 : St) : Option St :=
  match preA (T.pre f id) (frzSt (T.frz f id) st0) with
  | none => none
  | some st =>
  match draw with
  | false => match opsA P T.lend call ops st.next 0 ops st.tm st.h with
    | some (tm, h) => some { st with tm, h, next := st.next + ops.length * 64 }
    | none => none
  | true => drawA P T.lend call ops (ordOf (T.ord f id) ops.length) st
def drawsOk (T : Tab) (f : FuncId) : Code → Bool
  | .region id ops true => staticOk ops.toList (ordOf (T.ord f id) ops.toList.length)
  | .seq a b => drawsOk T f a && drawsOk T f b
  | .cond _ a b => drawsOk T f a && drawsOk T f b
  | .block _ b => drawsOk T f b
  | .loop b => drawsOk T f b
  | _ => true
def junkBut (keep : List Nat) : Nat → List W → List W
  | _, [] => []
  | i, w :: r => (match keep.elem i with | true => w | false => .one .junk) :: junkBut keep (i + 1) r
def seenOf (st : St) (roots : List Nat) : List Nat :=
  reach st.h 400 ((List.range st.io).flatMap (idsAt st.h) ++ roots) (List.range st.io)
def renH (seen : List Nat) (h : Hp) : List (Option Blk) := seen.map fun id => (h id).map (renB (ix seen))
def canon (keep : List Nat) (st : St) : St :=
  let tm := junkBut keep 0 st.tm
  let seen := seenOf st (tm.flatMap idsW)
  { tm := tm.map (renW (ix seen)), h := hpOf (renH seen st.h), next := seen.length, io := st.io }
def loopA (body : St → Option (Ex × St)) (keep : List Nat) : Nat → St → Option (Ex × St)
  | 0, _ => none
  | k + 1, st => match body (canon keep st) with
    | some (.normal, st') => loopA body keep k st'
    | r => r
def firstReg : Code → Nat
  | .region id _ _ => id
  | .seq a _ => firstReg a
  | .block _ b => firstReg b
  | .cond _ a _ => firstReg a
  | .loop b => firstReg b
  | _ => 0
abbrev LoopF := (St → Option (Ex × St)) → List Nat → St → Option (Ex × St)
def codeA (P : Program) (T : Tab) (lp : LoopF) (call : Call) (f : FuncId) : Code → St → Option (Ex × St)
  | .skip, st => some (.normal, st)
  | .region id ops draw, st => match regA P T call f id ops.toList draw st with | some st' => some (.normal, st') | none => none
  | .seq a b, st => match codeA P T lp call f a st with
    | some (.normal, st') => codeA P T lp call f b st'
    | r => r
  | .cond c a b, st => match evA st.tm c with
    | .one (.c (.d (.v (.bool t)))) => match t with | true => codeA P T lp call f a st | false => codeA P T lp call f b st
    | _ => none
  | .block id b, st => match codeA P T lp call f b st with
    | some (.exit j, st') => match Nat.beq j id with | true => some (.normal, st') | false => some (.exit j, st')
    | r => r
  | .loop b, st => match lp (fun s => codeA P T lp call f b s) (T.keep f (firstReg b)) st with
    | some (ex, st') => some (ex, canon (T.out f (firstReg b)) st')
    | none => none
  | .exit id, st => some (.exit id, st)
  | .ret, st => some (.ret, st)
  | _, _ => none
def resOne (P : Program) (st : St) : ResultVar → Option V
  | .tmp t => match st.tm[t]? with | some (.one v) => some v | _ => none
  | .cell t ty => match st.tm[t]? with
    | some (.one (.c (.ptr id 0 off))) => match st.h id with
      | some (.var cells) => partA P ty cells off
      | _ => none
    | _ => none
def resOnes (P : Program) (st : St) : List ResultVar → Option (List V)
  | [] => some []
  | r :: rs => match resOne P st r, resOnes P st rs with
    | some x, some xs => some (x :: xs)
    | _, _ => none
def resA (P : Program) (st : St) (rs : List ResultVar) : Option W :=
  match rs with
  | [r] => match resOne P st r with | some v => some (.one v) | none => none
  | rs => match resOnes P st rs with | some l => some (.tup l) | none => none
def startA (n : Nat) (args : List V) (bs : List (Option Blk)) : St :=
  { tm := args.map .one ++ List.replicate (n - args.length) (.one .junk), h := hpOf bs, next := bs.length, io := bs.length }
def giveA (st : St) (w : W) : W × List (Option Blk) :=
  let seen := seenOf st (idsW w)
  (renW (ix seen) w, renH seen st.h)
def endA (P : Program) (fin : Bool) (fn : Func) (st : St) : Option (W × List (Option Blk)) :=
  match resA P st fn.results.toList with
  | none => none
  | some w => match fin with
    | false => some (giveA st w)
    | true =>
      let F := (reach st.h 400 (idsW w) []).filter fun id => Nat.ble st.io id
      some (giveA { st with h := frzH st.h F } (frzW st.h F w))
def bodyA (P : Program) (T : Tab) (lp : LoopF) (call : Call) (f : FuncId) (fn : Func) (c : Code) (args : List V) (bs : List (Option Blk)) : Option (W × List (Option Blk)) :=
  match codeA P T lp call f c (startA fn.ntmps args bs) with
  | some (.normal, st) => endA P (T.fin f) fn st
  | some (.ret, st) => endA P (T.fin f) fn st
  | _ => none
def fnA (P : Program) (T : Tab) (lp : Nat → LoopF) (lib : Call) : Nat → Call
  | 0, _, _, _ => none
  | k + 1, f, args, bs =>
    match lib f args bs with
    | some r => some r
    | none =>
      match T.on f, P.funcs[f]? with
      | true, some fn => match fn.body with
        | none => none
        | some c => bodyA P T (lp k) (fnA P T lp lib k) f fn c args bs
      | _, _ => none
def loopK (k : Nat) : LoopF := fun body keep st => loopA body keep k st
noncomputable def lim {α : Type} (f : Nat → Option α) : Option α := open Classical in if h : ∃ k r, f k = some r then f (Classical.choose h) else none
noncomputable def loopL : LoopF := fun body keep st => lim fun k => loopA body keep k st
noncomputable def fnL (P : Program) (T : Tab) (lib : Call) : Call := fun f args bs => lim fun k => fnA P T (fun _ => loopL) lib k f args bs
end Go.Vsi
namespace Go.Vsi
def CellsAt {α : Type} (R : α → Value → Prop) (cs : Array Value) (o : Nat) (l : List α) : Prop :=
  ∀ j s, l[j]? = some s → ∃ v, cs[o + j]? = some v ∧ R s v
inductive RdD (w : World) (N : Nat → Prop) : D → Value → Prop
  | v {x : Value} : plain x = true → RdD w N (.v x) x
  | nil {k : Nat} {a : Option Addr} {c : Nat} : RdD w N (.sl k []) (.slice a 0 c)
  | sl {k : Nat} {rows : List (List D)} {b o c : Nat} (val : Nat → Nat → Value) : rows.length ≤ c → N b →
      (∀ i r, rows[i]? = some r → r.length = k ∧ ∀ j, j < k → w.cell? ⟨b, o + i * k + j, none⟩ = some (val i j)) →
      (∀ i r j d, rows[i]? = some r → r[j]? = some d → RdD w N d (val i j)) →
      RdD w N (.sl k rows) (.slice (some ⟨b, o, none⟩) rows.length c)
  | any {x : Value} : x.oneCell' = true → RdD w N .any x
  | lit {x : Value} : x.oneCell' = true → RdD w N (.lit x) x
structure Loc where
  blk : Nat
  off : Nat
  room : Nat
  deriving Inhabited
structure Emb where
  loc : Nat → Loc
  own : Nat → Option (Nat × Nat)
instance : CoeFun Emb (fun _ => Nat → Loc) := ⟨Emb.loc⟩
def Blk.stride : Blk → Nat
  | .var _ => 0
  | .arr k _ => k
  | .nar k _ _ => k
def Blk.arrOf : Blk → Option (Nat × Nat)
  | .var _ => none
  | .arr k rows => some (k, rows.length)
  | .nar k rows _ => some (k, rows.length)
structure Cx where
  w : World
  N : Nat → Prop
  E : Emb
  U : Nat → Prop
  h : Hp
def RelS (c : Cx) : S → Value → Prop
  | .d x, v => RdD c.w c.N x v
  | .arr id off len, v => v.oneCell' = true ∧ c.U id ∧ ∀ b, c.h id = some b → ∃ k n, b.arrOf = some (k, n) ∧ off + len ≤ n ∧ ∃ a cap, v = .slice a len cap ∧ len ≤ cap ∧ off + cap ≤ (c.E id).room ∧ (cap = 0 ∨ a = some ⟨(c.E id).blk, (c.E id).off + off * k, none⟩)
  | .ptr id row off, v => v.oneCell' = true ∧ c.U id ∧ ∀ b, c.h id = some b → v = .pointer (some ⟨(c.E id).blk, (c.E id).off + row * b.stride + off, none⟩)
  | .dp r off, v => ∃ b o, v = .pointer (some ⟨b, o + off, none⟩) ∧ c.N b ∧ ∀ j d, r[j]? = some d → ∃ x, c.w.cell? ⟨b, o + j, none⟩ = some x ∧ RdD c.w c.N d x
  | .fn f caps, v => ∃ cs : Array Value, v = .func (.func f) #[] cs ∧ cs.size = caps.length ∧ ∀ (i id : Nat), caps[i]? = some id → c.U id ∧ ∃ x : Value, cs[i]? = some x ∧ x.oneCell' = true ∧ ∀ b, c.h id = some b → x = .pointer (some ⟨(c.E id).blk, (c.E id).off, none⟩)
  | .junk, v => v.oneCell' = true
def RelV (c : Cx) : V → Value → Prop
  | .c s, v => RelS c s v
  | .agg l, v => ∃ cs : Array Value, v = .agg cs ∧ cs.size = l.length ∧ CellsAt (RelS c) cs 0 l
  | .junk, _ => True
def RelW (c : Cx) : W → Value → Prop
  | .one v, x => RelV c v x
  | .tup l, x => ∃ vs : Array Value, x = .tuple vs ∧ vs.size = l.length ∧ CellsAt (RelV c) vs 0 l
def RelA (c : Cx) (k : Nat) (rows : List (List D)) (p : Loc) : Prop :=
  ∃ cs ty fz, c.w.heap[p.blk]? = some (.cells cs ty fz) ∧ (∀ i, i < cs.size → ¬ (fz.1 ≤ i ∧ i < fz.2)) ∧
    rows.length ≤ p.room ∧ p.off + p.room * k ≤ cs.size ∧ ∀ i r, rows[i]? = some r → r.length = k ∧ CellsAt (RdD c.w c.N) cs (p.off + i * k) r
def RelO (c : Cx) (g a : Nat) : Option Nat → O → Value → Prop
  | some id, _, v => v.oneCell' = true ∧ c.U id ∧ ∀ b, c.h id = some b → ∃ k n, b.arrOf = some (k, n) ∧ n ≤ (c.E id).room ∧ ∃ a0, v = .slice a0 n (c.E id).room ∧ ((c.E id).room = 0 ∨ a0 = some ⟨(c.E id).blk, (c.E id).off, none⟩)
  | none, .d x, v => RdD c.w c.N x v
  | none, .own k rows, v => ∃ p : Loc, (∃ a0, v = .slice a0 rows.length p.room ∧ (p.room = 0 ∨ a0 = some ⟨p.blk, p.off, none⟩)) ∧ c.E.own p.blk = some (g, a) ∧ RelA c k rows p
def RelB (c : Cx) (b : Blk) (p : Loc) : Prop :=
  ∃ cs ty fz, c.w.heap[p.blk]? = some (.cells cs ty fz) ∧ (∀ i, i < cs.size → ¬ (fz.1 ≤ i ∧ i < fz.2)) ∧
    match b with
    | .var cells => p.off + cells.length ≤ cs.size ∧ CellsAt (RelS c) cs p.off cells
    | .arr k rows => rows.length ≤ p.room ∧ p.off + p.room * k ≤ cs.size ∧ ∀ i r, rows[i]? = some r → r.length = k ∧ CellsAt (RdD c.w c.N) cs (p.off + i * k) r
    | .nar k rows outs => rows.length ≤ p.room ∧ p.off + p.room * k ≤ cs.size ∧ ∀ i r, rows[i]? = some r → r.length = k ∧ ∀ j o, r[j]? = some o → ∃ v, cs[p.off + i * k + j]? = some v ∧ RelO c p.blk (p.off + i * k + j) (outOf i j outs) o v
structure RelH (c : Cx) : Prop where
  blk : ∀ id b, c.h id = some b → RelB c b (c.E id)
  used : ∀ id b, c.h id = some b → c.U id
  inj : ∀ id id' b b', c.h id = some b → c.h id' = some b' → id ≠ id' → (c.E id).blk ≠ (c.E id').blk
  apart : ∀ id b, c.h id = some b → ¬ c.N (c.E id).blk
  low : ∀ g, c.N g → g < c.w.heap.size
  nest : ∀ g a id b, c.E.own g = some a → c.h id = some b → (c.E id).blk = a.1 → ¬ c.N g ∧ ∀ id' b', c.h id' = some b' → (c.E id').blk ≠ g
  olow : ∀ g a, c.E.own g = some a → g < c.w.heap.size ∧ a.1 < c.w.heap.size
theorem RdD.one {w : World} {N : Nat → Prop} {d : D} {v : Value} (h : RdD w N d v) : v.oneCell' = true := by
  cases h with
  | v hp => revert hp; cases v <;> simp [plain, Value.oneCell']
  | nil => rfl
  | sl => rfl
  | any h => exact h
  | lit h => exact h
theorem RelS.one {c : Cx} {s : S} {v : Value} (h : RelS c s v) : v.oneCell' = true := by
  cases s with
  | d x => exact RdD.one h
  | arr id off len => exact h.1
  | ptr id row off => exact h.1
  | dp r off => obtain ⟨b, o, rfl, _⟩ := h; rfl
  | fn f caps => obtain ⟨cs, rfl, _⟩ := h; rfl
  | junk => exact h
def Compat : Blk → Blk → Prop
  | .var l, .var l' => l.length = l'.length
  | .var _, _ => False
  | _, .var _ => False
  | a, b => a.arrOf = b.arrOf
theorem Compat.refl (b : Blk) : Compat b b := by cases b <;> simp [Compat]
theorem Compat.trans {a b c : Blk} (h : Compat a b) (k : Compat b c) : Compat a c := by
  cases a <;> cases b <;> cases c <;> simp_all [Compat]
theorem Compat.stride {a b : Blk} (h : Compat a b) : a.stride = b.stride := by
  cases a <;> cases b <;> simp_all [Compat, Blk.stride, Blk.arrOf]
theorem Compat.arrOf {a b : Blk} (h : Compat a b) : a.arrOf = b.arrOf := by
  cases a <;> cases b <;> simp_all [Compat, Blk.arrOf]
structure Step (c c' : Cx) : Prop where
  use : ∀ id, c.U id → c'.U id
  emb : ∀ id, c.U id → c'.E id = c.E id
  old : ∀ id b', c.U id → c'.h id = some b' → ∃ b, c.h id = some b ∧ Compat b b'
  n : ∀ g, c.N g → c'.N g ∧ c'.w.heap[g]? = c.w.heap[g]?
theorem Step.refl (c : Cx) : Step c c := ⟨fun _ h => h, fun _ _ => rfl, fun _ b _ h => ⟨b, h, Compat.refl b⟩, fun _ h => ⟨h, rfl⟩⟩
theorem Step.trans {a b c : Cx} (h : Step a b) (k : Step b c) : Step a c :=
  ⟨fun id hu => k.use id (h.use id hu), fun id hu => (k.emb id (h.use id hu)).trans (h.emb id hu),
   fun id b' hu hb => by
     obtain ⟨b1, h1, c1⟩ := k.old id b' (h.use id hu) hb
     obtain ⟨b2, h2, c2⟩ := h.old id b1 hu h1
     exact ⟨b2, h2, c2.trans c1⟩,
   fun g hg => ⟨(k.n g (h.n g hg).1).1, (k.n g (h.n g hg).1).2.trans (h.n g hg).2⟩⟩
theorem cell_same {w w' : World} {g : Nat} (h : w'.heap[g]? = w.heap[g]?) (o : Nat) : w'.cell? ⟨g, o, none⟩ = w.cell? ⟨g, o, none⟩ := by
  simp only [World.cell?, h]
theorem RdD.mono {w w' : World} {N N' : Nat → Prop} (hn : ∀ g, N g → N' g ∧ w'.heap[g]? = w.heap[g]?) {d : D} {v : Value} (h : RdD w N d v) : RdD w' N' d v := by
  induction h with
  | v hp => exact .v hp
  | nil => exact .nil
  | any h => exact .any h
  | lit h => exact .lit h
  | sl val hl hb hc _ ih =>
    refine .sl val hl (hn _ hb).1 (fun i r hr => ⟨(hc i r hr).1, fun j hj => ?_⟩) (fun i r j d hr hd => ih i r j d hr hd)
    rw [cell_same (hn _ hb).2]
    exact (hc i r hr).2 j hj
theorem RelS.mono {c c' : Cx} (k : Step c c') {s : S} {v : Value} (h : RelS c s v) : RelS c' s v := by
  cases s with
  | d x => exact RdD.mono k.n h
  | arr id off len =>
    obtain ⟨h1, h2, h3⟩ := h
    refine ⟨h1, k.use _ h2, fun b' hb' => ?_⟩
    obtain ⟨b, hb, hc⟩ := k.old _ _ h2 hb'
    obtain ⟨q, n, hq, hl, a, cap, hv, hlc, hr, ha⟩ := h3 b hb
    refine ⟨q, n, hc.arrOf ▸ hq, by omega, a, cap, hv, hlc, ?_, ?_⟩
    · rw [k.emb _ h2]; exact hr
    · rw [k.emb _ h2]; exact ha
  | ptr id row off =>
    obtain ⟨h1, h2, h3⟩ := h
    refine ⟨h1, k.use _ h2, fun b' hb' => ?_⟩
    obtain ⟨b, hb, hc⟩ := k.old _ _ h2 hb'
    rw [k.emb _ h2, ← hc.stride]
    exact h3 b hb
  | dp r off =>
    obtain ⟨b, o, rfl, hb, hc⟩ := h
    refine ⟨b, o, rfl, (k.n _ hb).1, fun j d hj => ?_⟩
    obtain ⟨x, hx, hd⟩ := hc j d hj
    exact ⟨x, by rw [cell_same (k.n _ hb).2]; exact hx, RdD.mono k.n hd⟩
  | fn f caps =>
    obtain ⟨cs, rfl, hs, hc⟩ := h
    refine ⟨cs, rfl, hs, fun i id hi => ?_⟩
    obtain ⟨hu, x, hx, ho, hb⟩ := hc i id hi
    refine ⟨k.use _ hu, x, hx, ho, fun b' hb' => ?_⟩
    obtain ⟨b, hb1, _⟩ := k.old _ _ hu hb'
    rw [k.emb _ hu]
    exact hb b hb1
  | junk => exact h
theorem CellsAt.imp {α : Type} {R R' : α → Value → Prop} (hr : ∀ s v, R s v → R' s v) {cs : Array Value} {o : Nat} {l : List α} (h : CellsAt R cs o l) : CellsAt R' cs o l :=
  fun j s hj => let ⟨v, hv, hs⟩ := h j s hj; ⟨v, hv, hr _ _ hs⟩
theorem RelV.mono {c c' : Cx} (k : Step c c') {s : V} {v : Value} (h : RelV c s v) : RelV c' s v := by
  cases s with
  | c s => exact RelS.mono k h
  | agg l => obtain ⟨cs, rfl, hs, hc⟩ := h; exact ⟨cs, rfl, hs, hc.imp fun _ _ => RelS.mono k⟩
  | junk => trivial
theorem RelW.mono {c c' : Cx} (k : Step c c') {s : W} {v : Value} (h : RelW c s v) : RelW c' s v := by
  cases s with
  | one s => exact RelV.mono k h
  | tup l => obtain ⟨cs, rfl, hs, hc⟩ := h; exact ⟨cs, rfl, hs, hc.imp fun _ _ => RelV.mono k⟩
theorem RelA.mono {c c' : Cx} (k : Step c c') {q : Nat} {rows : List (List D)} {p : Loc} (h : RelA c q rows p) (hw : c'.w.heap[p.blk]? = c.w.heap[p.blk]?) : RelA c' q rows p := by
  obtain ⟨cs, ty, fz, h1, h2, h3⟩ := h
  exact ⟨cs, ty, fz, hw.trans h1, h2, h3.1, h3.2.1, fun i r hr => ⟨(h3.2.2 i r hr).1, (h3.2.2 i r hr).2.imp fun _ _ => RdD.mono k.n⟩⟩
def Kept (c c' : Cx) (g : Nat) : Prop := ∀ x o, c.E.own x = some (g, o) → c'.E.own x = some (g, o) ∧ c'.w.heap[x]? = c.w.heap[x]?
theorem RelO.mono {c c' : Cx} (k : Step c c') {g a : Nat} {i : Option Nat} {o : O} {v : Value} (h : RelO c g a i o v) (hn : Kept c c' g) : RelO c' g a i o v := by
  cases i with
  | some id =>
    obtain ⟨h1, h2, h3⟩ := h
    refine ⟨h1, k.use _ h2, fun b' hb' => ?_⟩
    obtain ⟨b, hb, hc⟩ := k.old _ _ h2 hb'
    obtain ⟨q, n, hq, hl, hv⟩ := h3 b hb
    refine ⟨q, n, hc.arrOf ▸ hq, ?_, ?_⟩
    · rw [k.emb _ h2]; exact hl
    · rw [k.emb _ h2]; exact hv
  | none =>
    cases o with
    | d x => exact RdD.mono k.n h
    | own q rows =>
      obtain ⟨p, h1, h2, h3⟩ := h
      exact ⟨p, h1, (hn _ _ h2).1, h3.mono k (hn _ _ h2).2⟩
theorem RelB.mono {c c' : Cx} (k : Step c c') {b : Blk} {p : Loc} (h : RelB c b p) (hw : c'.w.heap[p.blk]? = c.w.heap[p.blk]?) (hn : Kept c c' p.blk) : RelB c' b p := by
  obtain ⟨cs, ty, fz, h1, h2, h3⟩ := h
  refine ⟨cs, ty, fz, hw.trans h1, h2, ?_⟩
  cases b with
  | var cells => exact ⟨h3.1, h3.2.imp fun _ _ => RelS.mono k⟩
  | arr q rows =>
    refine ⟨h3.1, h3.2.1, fun i r hr => ⟨(h3.2.2 i r hr).1, (h3.2.2 i r hr).2.imp fun _ _ => RdD.mono k.n⟩⟩
  | nar q rows outs =>
    refine ⟨h3.1, h3.2.1, fun i r hr => ⟨(h3.2.2 i r hr).1, fun j o ho => ?_⟩⟩
    obtain ⟨v, hv, hr2⟩ := (h3.2.2 i r hr).2 j o ho
    exact ⟨v, hv, hr2.mono k hn⟩
theorem RelB.arr {c : Cx} {k : Nat} {rows : List (List D)} {p : Loc} : RelB c (.arr k rows) p ↔ RelA c k rows p := Iff.rfl
theorem CellsAt.nil {α : Type} {R : α → Value → Prop} {cs : Array Value} {o : Nat} : CellsAt R cs o [] := fun j s h => by simp at h
theorem CellsAt.cons {α : Type} {R : α → Value → Prop} {cs : Array Value} {o : Nat} {x : α} {l : List α} {v : Value} (h : cs[o]? = some v) (hx : R x v) (hl : CellsAt R cs (o + 1) l) : CellsAt R cs o (x :: l) := by
  intro j s hj
  cases j with
  | zero => simp at hj; subst hj; exact ⟨v, by simpa using h, hx⟩
  | succ j =>
    obtain ⟨v', hv', hs⟩ := hl j s (by simpa using hj)
    exact ⟨v', by rw [show o + (j + 1) = o + 1 + j by omega]; exact hv', hs⟩
theorem CellsAt.drop {α : Type} {R : α → Value → Prop} {cs : Array Value} {o : Nat} {l : List α} (h : CellsAt R cs o l) (n : Nat) : CellsAt R cs (o + n) (l.drop n) := by
  intro j s hj
  obtain ⟨v, hv, hs⟩ := h (n + j) s (by simpa using hj)
  exact ⟨v, by rw [Nat.add_assoc]; exact hv, hs⟩
theorem CellsAt.take {α : Type} {R : α → Value → Prop} {cs : Array Value} {o : Nat} {l : List α} (h : CellsAt R cs o l) (n : Nat) : CellsAt R cs o (l.take n) := by
  intro j s hj
  rw [List.getElem?_take] at hj
  split at hj
  · exact h j s hj
  · cases hj
theorem CellsAt.append {α : Type} {R : α → Value → Prop} {cs : Array Value} {o : Nat} {l l' : List α} (h : CellsAt R cs o l) (h' : CellsAt R cs (o + l.length) l') : CellsAt R cs o (l ++ l') := by
  intro j s hj
  by_cases hl : j < l.length
  · rw [List.getElem?_append_left hl] at hj; exact h j s hj
  · rw [List.getElem?_append_right (by omega)] at hj
    obtain ⟨v, hv, hs⟩ := h' _ s hj
    exact ⟨v, by rw [← hv]; congr 1; omega, hs⟩
end Go.Vsi
namespace Go.Vsi
def own (c : Cx) (g : Nat) : Prop := (∃ id b, c.h id = some b ∧ (c.E id).blk = g) ∨ ∃ a id b, c.E.own g = some a ∧ c.h id = some b ∧ (c.E id).blk = a.1
theorem nest_ne {c : Cx} (h : RelH c) {x o id : Nat} {b : Blk} (hx : c.E.own x = some ((c.E id).blk, o)) (hb : c.h id = some b) {id' : Nat} {b' : Blk} (hb' : c.h id' = some b') : (c.E id').blk ≠ x :=
  (h.nest x _ id b hx hb rfl).2 id' b' hb'
structure Eff' (c c' : Cx) : Prop where
  step : Step c c'
  relh : RelH c'
  os : c'.w.os = c.w.os
  tape : c'.w.tape = c.w.tape
  output : c'.w.output = c.w.output
  size : c.w.heap.size ≤ c'.w.heap.size
  keep : ∀ g, g < c.w.heap.size → ¬ own c g → c'.w.heap[g]? = c.w.heap[g]?
  news : ∀ g, c'.N g → c.N g ∨ c.w.heap.size ≤ g ∨ own c g
  owns : ∀ g, own c' g → own c g ∨ c.w.heap.size ≤ g
  ownk : ∀ g, g < c.w.heap.size → ¬ own c g → (∀ a, c.E.own g = some a → ¬ own c a.1 ∧ a.1 < c.w.heap.size) → c'.E.own g = c.E.own g
  ownr : ∀ g a, c'.E.own g = some a → c.E.own g = some a ∨ own c a.1 ∨ c.w.heap.size ≤ a.1
theorem Eff'.refl {c : Cx} (h : RelH c) : Eff' c c :=
  ⟨Step.refl c, h, rfl, rfl, rfl, Nat.le_refl _, fun _ _ _ => rfl, fun _ h => .inl h, fun _ h => .inl h, fun _ _ _ _ => rfl, fun _ _ h => .inl h⟩
theorem Eff'.trans {a b c : Cx} (h : Eff' a b) (k : Eff' b c) : Eff' a c where
  step := h.step.trans k.step
  relh := k.relh
  os := k.os.trans h.os
  tape := k.tape.trans h.tape
  output := k.output.trans h.output
  size := Nat.le_trans h.size k.size
  keep := fun g hg ho => by
    have h1 := h.keep g hg ho
    have h2 : ¬ own b g := fun hb => (h.owns g hb).elim ho fun hs => by omega
    exact (k.keep g (Nat.lt_of_lt_of_le hg h.size) h2).trans h1
  news := fun g hg => by
    rcases k.news g hg with h1 | h1 | h1
    · exact h.news g h1
    · exact .inr (.inl (Nat.le_trans h.size h1))
    · rcases h.owns g h1 with h2 | h2
      · exact .inr (.inr h2)
      · exact .inr (.inl h2)
  owns := fun g hg => by
    rcases k.owns g hg with h1 | h1
    · exact h.owns g h1
    · exact .inr (Nat.le_trans h.size h1)
  ownk := fun g hg ho ha => by
    have h2 : ¬ own b g := fun hb => (h.owns g hb).elim ho fun hs => by omega
    have h1 := h.ownk g hg ho ha
    have h3 := h.size
    refine (k.ownk g (Nat.lt_of_lt_of_le hg h.size) h2 fun x hx => ?_).trans h1
    rw [h1] at hx
    obtain ⟨y1, y2⟩ := ha x hx
    exact ⟨fun h' => (h.owns _ h').elim y1 (fun hs => by omega), by omega⟩
  ownr := fun g a hg => by
    rcases k.ownr g a hg with h1 | h1 | h1
    · exact h.ownr g a h1
    · rcases h.owns _ h1 with h2 | h2
      · exact .inr (.inl h2)
      · exact .inr (.inr h2)
    · exact .inr (.inr (Nat.le_trans h.size h1))
theorem upd_nil (h : Hp) : upd h [] = h := rfl
theorem upd_cons (h : Hp) (i : Nat) (b : Option Blk) (r : List (Nat × Option Blk)) : upd h ((i, b) :: r) = upd (upd h [(i, b)]) r := rfl
theorem upd_append (h : Hp) (r s : List (Nat × Option Blk)) : upd h (r ++ s) = upd (upd h r) s := by
  induction r generalizing h with
  | nil => rfl
  | cons x r ih => obtain ⟨i, b⟩ := x; simp only [List.cons_append]; rw [upd_cons, ih, ← upd_cons]
theorem upd_one (h : Hp) (i : Nat) (b : Option Blk) (j : Nat) : upd h [(i, b)] j = if j = i then b else h j := by
  show (match Nat.beq j i with | true => b | false => h j) = _
  by_cases e : j = i
  · subst e; simp
  · rw [if_neg e]
    have : Nat.beq j i = false := by
      cases hq : Nat.beq j i with
      | false => rfl
      | true => exact absurd (Nat.eq_of_beq_eq_true hq) e
    rw [this]
theorem eff_drawn {c : Cx} (h : RelH c) (w' : World) (hh : w'.heap = c.w.heap) (ho : w'.os = c.w.os) (ht : w'.tape = c.w.tape) (hp : w'.output = c.w.output) : Eff' c { c with w := w' } := by
  have st : Step c { c with w := w' } := ⟨fun _ h => h, fun _ _ => rfl, fun _ b _ h => ⟨b, h, Compat.refl b⟩, fun g hg => ⟨hg, by simp only [hh]⟩⟩
  refine ⟨st, ⟨fun id b hb => (h.blk id b hb).mono st (by simp only [hh]) (fun x o hx => ⟨hx, by simp only [hh]⟩), h.used, h.inj, h.apart, fun g hg => ?_, h.nest, fun g a hg => by simp only [hh]; exact h.olow g a hg⟩, ho, ht, hp, by simp only [hh]; omega, fun g _ _ => by simp only [hh], fun g hg => .inl hg, fun g hg => .inl hg, fun _ _ _ _ => rfl, fun _ _ h => .inl h⟩
  have := h.low g hg
  simp only [hh]
  exact this
def putE (E : Emb) (i : Nat) (p : Loc) : Emb := ⟨fun j => if j = i then p else E j, E.own⟩
theorem eff_alloc {c : Cx} (h : RelH c) (cs : Array Value) (ty : TypeId) (fz : Nat × Nat) (i : Nat) (hi : ¬ c.U i) (b : Blk) (p : Loc) (hp : p.blk = c.w.heap.size)
    (c' : Cx) (hc' : c' = ⟨{ c.w with heap := c.w.heap.push (.cells cs ty fz) }, c.N, putE c.E i p, fun j => c.U j ∨ j = i, upd c.h [(i, some b)]⟩)
    (hb : Step c c' → RelB c' b p) : Eff' c c' := by
  have hE : ∀ id, c.U id → c'.E id = c.E id := fun id hu => by
    subst hc'; show (if id = i then p else c.E id) = _; rw [if_neg]; rintro rfl; exact hi hu
  have hEi : c'.E i = p := by subst hc'; show (if i = i then p else c.E i) = p; rw [if_pos rfl]
  have hO : ∀ x, c'.E.own x = c.E.own x := fun x => by subst hc'; rfl
  have hh : ∀ id, c'.h id = if id = i then some b else c.h id := fun id => by subst hc'; exact upd_one _ _ _ _
  have hold : ∀ g, g < c.w.heap.size → c'.w.heap[g]? = c.w.heap[g]? := fun g hg => by
    subst hc'; show (c.w.heap.push _)[g]? = _; rw [Array.getElem?_push]; rw [if_neg (by omega)]
  have hsz : c'.w.heap.size = c.w.heap.size + 1 := by subst hc'; simp
  have hN : c'.N = c.N := by subst hc'; rfl
  have hU : ∀ j, c'.U j ↔ (c.U j ∨ j = i) := fun j => by subst hc'; exact Iff.rfl
  have st : Step c c' := by
    refine ⟨fun id hu => (hU id).2 (.inl hu), hE, fun id b' hu hb' => ?_, fun g hg => ⟨by rw [hN]; exact hg, hold g (h.low g hg)⟩⟩
    rw [hh] at hb'
    split at hb'
    · rename_i e; subst e; exact absurd hu hi
    · exact ⟨b', hb', Compat.refl _⟩
  have lt : ∀ id b', c.h id = some b' → (c.E id).blk < c.w.heap.size := fun id b' hb' => by
    obtain ⟨cs, ty, fz, h1, _⟩ := h.blk id b' hb'
    exact (Array.getElem?_eq_some_iff.1 h1).1
  have old : ∀ id b', c'.h id = some b' → id ≠ i → c.h id = some b' ∧ c'.E id = c.E id := fun id b' hb' hne => by
    rw [hh, if_neg hne] at hb'
    exact ⟨hb', hE id (h.used id b' hb')⟩
  refine ⟨st, ⟨?_, ?_, ?_, ?_, ?_, ?_, ?_⟩, by subst hc'; rfl, by subst hc'; rfl, by subst hc'; rfl, by omega, fun g hg _ => hold g hg, fun g hg => .inl (by rw [← hN]; exact hg), ?_, fun g _ _ _ => hO g, fun g a hg => .inl (by rw [← hO]; exact hg)⟩
  · intro id b' hb'
    by_cases e : id = i
    · subst e
      rw [hh, if_pos rfl] at hb'
      obtain rfl := Option.some.inj hb'
      rw [hEi]
      exact hb st
    · obtain ⟨h1, h2⟩ := old id b' hb' e
      rw [h2]
      exact (h.blk id b' h1).mono st (hold _ (lt id b' h1)) (fun x o hx => ⟨by rw [hO]; exact hx, hold _ (h.olow _ _ hx).1⟩)
  · intro id b' hb'
    by_cases e : id = i
    · exact (hU id).2 (.inr e)
    · exact (hU id).2 (.inl (h.used id b' (old id b' hb' e).1))
  · intro id id' b1 b2 h1 h2 hne
    by_cases e : id = i
    · subst e
      have e' : id' ≠ id := fun e => hne e.symm
      obtain ⟨h3, h4⟩ := old id' b2 h2 e'
      rw [hEi, h4, hp]
      have := lt id' b2 h3
      omega
    · obtain ⟨h3, h4⟩ := old id b1 h1 e
      by_cases e' : id' = i
      · subst e'
        rw [hEi, h4, hp]
        have := lt id b1 h3
        omega
      · obtain ⟨h5, h6⟩ := old id' b2 h2 e'
        rw [h4, h6]
        exact h.inj id id' b1 b2 h3 h5 hne
  · intro id b' hb' hn
    rw [hN] at hn
    by_cases e : id = i
    · subst e
      rw [hEi, hp] at hn
      have := h.low _ hn
      omega
    · obtain ⟨h1, h2⟩ := old id b' hb' e
      rw [h2] at hn
      exact h.apart id b' h1 hn
  · intro g hg
    rw [hN] at hg
    have := h.low g hg
    omega
  · intro g a id b' ho hb' ha
    rw [hO] at ho
    have hl := h.olow g a ho
    by_cases e : id = i
    · subst e
      rw [hEi, hp] at ha
      omega
    · obtain ⟨h1, h2⟩ := old id b' hb' e
      rw [h2] at ha
      obtain ⟨n1, n2⟩ := h.nest g a id b' ho h1 ha
      refine ⟨by rw [hN]; exact n1, fun id' b2 hb2 => ?_⟩
      by_cases e' : id' = i
      · subst e'
        rw [hEi, hp]
        omega
      · obtain ⟨h3, h4⟩ := old id' b2 hb2 e'
        rw [h4]
        exact n2 id' b2 h3
  · intro g a ho
    rw [hO] at ho
    have := h.olow g a ho
    omega
  · rintro g (⟨id, b', hb', hg⟩ | ⟨a, id, b', ho, hb', hg⟩)
    · by_cases e : id = i
      · subst e
        rw [hEi, hp] at hg
        exact .inr (by omega)
      · obtain ⟨h1, h2⟩ := old id b' hb' e
        rw [h2] at hg
        exact .inl (.inl ⟨id, b', h1, hg⟩)
    · rw [hO] at ho
      have hl := h.olow g a ho
      by_cases e : id = i
      · subst e
        rw [hEi, hp] at hg
        omega
      · obtain ⟨h1, h2⟩ := old id b' hb' e
        rw [h2] at hg
        exact .inl (.inr ⟨a, id, b', ho, h1, hg⟩)
theorem eff_kill {c : Cx} (h : RelH c) (i : Nat) (b : Blk) (hb : c.h i = some b) : Eff' c { c with h := upd c.h [(i, none)], N := fun g => c.N g ∨ g = (c.E i).blk } := by
  have old : ∀ id b', upd c.h [(i, none)] id = some b' → c.h id = some b' ∧ id ≠ i := fun id b' hb' => by
    rw [upd_one] at hb'
    split at hb'
    · cases hb'
    · rename_i e; exact ⟨hb', e⟩
  have st : Step c { c with h := upd c.h [(i, none)], N := fun g => c.N g ∨ g = (c.E i).blk } :=
    ⟨fun _ h => h, fun _ _ => rfl, fun id b' _ hb' => ⟨b', (old id b' hb').1, Compat.refl _⟩, fun g hg => ⟨.inl hg, rfl⟩⟩
  refine ⟨st, ⟨fun id b' hb' => (h.blk id b' (old id b' hb').1).mono st rfl (fun x o hx => ⟨hx, rfl⟩), fun id b' hb' => h.used id b' (old id b' hb').1, fun id id' b1 b2 h1 h2 hne => h.inj id id' b1 b2 (old id b1 h1).1 (old id' b2 h2).1 hne, ?_, ?_, ?_, h.olow⟩, rfl, rfl, rfl, Nat.le_refl _, fun _ _ _ => rfl, ?_, ?_, fun _ _ _ _ => rfl, fun _ _ h => .inl h⟩
  · rintro id b' hb' (hn | hn)
    · exact h.apart id b' (old id b' hb').1 hn
    · exact h.inj id i b' b (old id b' hb').1 hb (old id b' hb').2 hn
  · rintro g (hn | hn)
    · exact h.low g hn
    · subst hn
      obtain ⟨cs, ty, fz, h1, _⟩ := h.blk i b hb
      exact (Array.getElem?_eq_some_iff.1 h1).1
  · intro g a id b' ho hb' ha
    obtain ⟨n1, n2⟩ := h.nest g a id b' ho (old id b' hb').1 ha
    refine ⟨?_, fun id' b2 hb2 => n2 id' b2 (old id' b2 hb2).1⟩
    rintro (hn | hn)
    · exact n1 hn
    · exact n2 i b hb hn.symm
  · rintro g (hn | hn)
    · exact .inl hn
    · exact .inr (.inr (.inl ⟨i, b, hb, hn.symm⟩))
  · rintro g (⟨id, b', hb', hg⟩ | ⟨a, id, b', ho, hb', hg⟩)
    · exact .inl (.inl ⟨id, b', (old id b' hb').1, hg⟩)
    · exact .inl (.inr ⟨a, id, b', ho, (old id b' hb').1, hg⟩)
theorem eff_write {c : Cx} (h : RelH c) (i : Nat) (b0 : Blk) (hb0 : c.h i = some b0) (j : Nat) (hj : j = i ∨ ¬ c.U j) (b : Blk) (p : Loc) (hp : p.blk = (c.E i).blk) (hcm : j = i → Compat b0 b ∧ p = c.E i)
    (w' : World) (hs : w'.heap.size = c.w.heap.size) (hw : ∀ g, g ≠ (c.E i).blk → w'.heap[g]? = c.w.heap[g]?) (ho : w'.os = c.w.os) (ht : w'.tape = c.w.tape) (hpt : w'.output = c.w.output)
    (c' : Cx) (hc' : c' = ⟨w', c.N, putE c.E j p, fun x => c.U x ∨ x = j, upd (upd c.h [(i, none)]) [(j, some b)]⟩)
    (hb : Step c c' → RelB c' b p) : Eff' c c' := by
  have hE : ∀ id, c.U id → c'.E id = c.E id := fun id hu => by
    subst hc'; show (if id = j then p else c.E id) = _
    split
    · rename_i e
      subst e
      rcases hj with rfl | hj
      · exact (hcm rfl).2
      · exact absurd hu hj
    · rfl
  have hEj : c'.E j = p := by subst hc'; show (if j = j then p else c.E j) = p; rw [if_pos rfl]
  have hO : ∀ x, c'.E.own x = c.E.own x := fun x => by subst hc'; rfl
  have hh : ∀ id, c'.h id = if id = j then some b else if id = i then none else c.h id := fun id => by subst hc'; show upd (upd c.h [(i, none)]) [(j, some b)] id = _; rw [upd_one, upd_one]
  have hN : c'.N = c.N := by subst hc'; rfl
  have hU : ∀ x, c'.U x ↔ (c.U x ∨ x = j) := fun x => by subst hc'; exact Iff.rfl
  have hW : c'.w = w' := by subst hc'; rfl
  have old : ∀ id b', c'.h id = some b' → id ≠ j → c.h id = some b' ∧ id ≠ i ∧ c'.E id = c.E id := fun id b' hb' hne => by
    rw [hh, if_neg hne] at hb'
    split at hb'
    · cases hb'
    · rename_i e; exact ⟨hb', e, hE id (h.used id b' hb')⟩
  have st : Step c c' := by
    refine ⟨fun id hu => (hU id).2 (.inl hu), hE, fun id b' hu hb' => ?_, fun g hg => ⟨by rw [hN]; exact hg, by rw [hW]; exact hw g fun e => h.apart i b0 hb0 (e ▸ hg)⟩⟩
    by_cases e : id = j
    · subst e
      rw [hh, if_pos rfl] at hb'
      obtain rfl := Option.some.inj hb'
      rcases hj with rfl | hj
      · exact ⟨b0, hb0, (hcm rfl).1⟩
      · exact absurd hu hj
    · exact ⟨b', (old id b' hb' e).1, Compat.refl _⟩
  refine ⟨st, ⟨?_, ?_, ?_, ?_, ?_, ?_, ?_⟩, by rw [hW, ho], by rw [hW, ht], by rw [hW, hpt], by rw [hW, hs]; omega, fun g _ hno => by rw [hW]; exact hw g fun e => hno (.inl ⟨i, b0, hb0, e.symm⟩), fun g hg => .inl (by rw [← hN]; exact hg), ?_, fun g _ _ _ => hO g, fun g a hg => .inl (by rw [← hO]; exact hg)⟩
  · intro id b' hb'
    by_cases e : id = j
    · subst e
      rw [hh, if_pos rfl] at hb'
      obtain rfl := Option.some.inj hb'
      rw [hEj]
      exact hb st
    · obtain ⟨h1, h2, h3⟩ := old id b' hb' e
      rw [h3]
      exact (h.blk id b' h1).mono st (by rw [hW]; exact hw _ (h.inj id i b' b0 h1 hb0 h2)) (fun x o hx => ⟨by rw [hO]; exact hx, by rw [hW]; exact hw _ (nest_ne h hx h1 hb0).symm⟩)
  · intro id b' hb'
    by_cases e : id = j
    · exact (hU id).2 (.inr e)
    · exact (hU id).2 (.inl (h.used id b' (old id b' hb' e).1))
  · intro id id' b1 b2 h1 h2 hne
    by_cases e : id = j
    · subst e
      obtain ⟨h3, h4, h5⟩ := old id' b2 h2 (fun e => hne e.symm)
      rw [hEj, h5, hp]
      exact h.inj i id' b0 b2 hb0 h3 (fun e => h4 e.symm)
    · obtain ⟨h3, h4, h5⟩ := old id b1 h1 e
      by_cases e' : id' = j
      · subst e'
        rw [hEj, h5, hp]
        exact h.inj id i b1 b0 h3 hb0 h4
      · obtain ⟨h6, h7, h8⟩ := old id' b2 h2 e'
        rw [h5, h8]
        exact h.inj id id' b1 b2 h3 h6 hne
  · intro id b' hb' hn
    rw [hN] at hn
    by_cases e : id = j
    · subst e
      rw [hEj, hp] at hn
      exact h.apart i b0 hb0 hn
    · obtain ⟨h1, h2, h3⟩ := old id b' hb' e
      rw [h3] at hn
      exact h.apart id b' h1 hn
  · intro g hg
    rw [hN] at hg
    have := h.low g hg
    rw [hW]
    omega
  · intro g a id b' ho hb' ha
    rw [hO] at ho
    have key : ¬ c.N g ∧ ∀ id' b2, c.h id' = some b2 → (c.E id').blk ≠ g := by
      by_cases e : id = j
      · subst e
        rw [hEj, hp] at ha
        exact h.nest g a i b0 ho hb0 ha
      · obtain ⟨h1, h2, h3⟩ := old id b' hb' e
        rw [h3] at ha
        exact h.nest g a id b' ho h1 ha
    refine ⟨by rw [hN]; exact key.1, fun id' b2 hb2 => ?_⟩
    by_cases e' : id' = j
    · subst e'
      rw [hEj, hp]
      exact key.2 i b0 hb0
    · obtain ⟨h1, h2, h3⟩ := old id' b2 hb2 e'
      rw [h3]
      exact key.2 id' b2 h1
  · intro g a ho
    rw [hO] at ho
    have := h.olow g a ho
    rw [hW]
    omega
  · rintro g (⟨id, b', hb', hg⟩ | ⟨a, id, b', ho, hb', hg⟩)
    · by_cases e : id = j
      · subst e
        rw [hEj, hp] at hg
        exact .inl (.inl ⟨i, b0, hb0, hg⟩)
      · obtain ⟨h1, h2, h3⟩ := old id b' hb' e
        rw [h3] at hg
        exact .inl (.inl ⟨id, b', h1, hg⟩)
    · rw [hO] at ho
      by_cases e : id = j
      · subst e
        rw [hEj, hp] at hg
        exact .inl (.inr ⟨a, i, b0, ho, hb0, hg⟩)
      · obtain ⟨h1, h2, h3⟩ := old id b' hb' e
        rw [h3] at hg
        exact .inl (.inr ⟨a, id, b', ho, h1, hg⟩)
end Go.Vsi
namespace Go.Vsi
theorem pureRun_run {α : Type} {P : Program} (s : Sem α) {a : α} (h : pureRun P s = some a) (w : World) : s.run P w = .ok a w := by
  induction s with
  | pure x => simp [pureRun] at h; subst h; rfl
  | program k ih => exact ih P h
  | _ => simp [pureRun] at h
theorem wp_value {P : Program} {o : Oper} {a : Act} {w w' : World} {K : Act → World → Prop} {Q : Exit → Act → World → Prop} {s : Sem Value} {v : Value}
    (ho : execOp a.eval o = (do pure (.value (← s)))) (hr : s.run P w = .ok v w') (hK : K (a.put o.dst v) w') : o.wp P a w K Q := by
  unfold Oper.wp
  rw [ho]
  simp only [Sem.run_bind, hr, Result.andThen_ok, Sem.run_pure, Oper.upon_value]
  exact hK
theorem wp_skip {P : Program} {o : Oper} {a : Act} {w w' : World} {K : Act → World → Prop} {Q : Exit → Act → World → Prop} {s : Sem Unit}
    (ho : execOp a.eval o = (do s; pure .skip)) (hr : s.run P w = .ok () w') (hK : K (a.put o.dst undef) w') : o.wp P a w K Q := by
  unfold Oper.wp
  rw [ho]
  simp only [Sem.run_bind, hr, Result.andThen_ok, Sem.run_pure, Oper.upon_skip]
  exact hK
theorem cellVal_eq {c : Cx} {s : S} {v x : Value} (h : cellVal s = some x) (hr : RelS c s v) : v = x := by
  cases s with
  | d d =>
    cases d with
    | v y => simp [cellVal] at h; subst h; cases hr; rfl
    | sl => simp [cellVal] at h
    | any => simp [cellVal] at h
    | lit => simp [cellVal] at h
  | _ => simp [cellVal] at h
theorem cellVals_eq {c : Cx} : ∀ (l : List S) {vs : List Value} {cs : Array Value} {o : Nat}, cellVals l = some vs → CellsAt (RelS c) cs o l → vs.length = l.length ∧ ∀ j x, vs[j]? = some x → cs[o + j]? = some x
  | [], vs, cs, o, h, _ => by simp [cellVals] at h; subst h; simp
  | s :: r, vs, cs, o, h, hc => by
    simp only [cellVals] at h
    split at h
    · rename_i v vs' hv hvs
      obtain rfl := Option.some.inj h
      have hc' : CellsAt (RelS c) cs (o + 1) r := by simpa using hc.drop 1
      obtain ⟨h1, h2⟩ := cellVals_eq r hvs hc'
      refine ⟨by simp [h1], fun j x hx => ?_⟩
      cases j with
      | zero =>
        simp at hx; subst hx
        obtain ⟨y, hy, hs⟩ := hc 0 s (by simp)
        rw [hy, cellVal_eq hv hs]
      | succ j =>
        have := h2 j x (by simpa using hx)
        rw [← this]; congr 1; omega
    · cases h
theorem toVal_eq {c : Cx} {s : V} {v x : Value} (h : toVal s = some x) (hr : RelV c s v) : v = x := by
  cases s with
  | c s => exact cellVal_eq h hr
  | agg l =>
    obtain ⟨cs, rfl, hs, hc⟩ := hr
    simp only [toVal] at h
    split at h
    · rename_i vs hvs
      obtain rfl := Option.some.inj h
      obtain ⟨h1, h2⟩ := cellVals_eq l hvs hc
      congr 1
      apply Array.ext_getElem?
      intro i
      by_cases hi : i < vs.length
      · have := h2 i vs[i] (by simp [hi])
        simp only [Nat.zero_add] at this
        rw [this]; simp [hi]
      · rw [Array.getElem?_eq_none (by omega), Array.getElem?_eq_none (by simpa using hi)]
    · cases h
  | junk => simp [toVal] at h
theorem cellOf_rel (c : Cx) {x : Value} (h : x.oneCell' = true) : RelS c (cellOf x) x := by
  unfold cellOf
  split
  · rename_i hp; exact RdD.v hp
  · exact h
theorem ofVal_rel (c : Cx) (x : Value) : RelV c (ofVal x) x := by
  unfold ofVal
  split
  · rename_i cs
    split
    · rename_i hall
      refine ⟨cs, rfl, by simp, fun j s hj => ?_⟩
      rw [List.getElem?_map] at hj
      cases hq : cs.toList[j]? with
      | none => simp [hq] at hj
      | some y =>
        simp [hq] at hj
        subst hj
        have hy : cs[j]? = some y := by simpa using hq
        have hm : y ∈ cs := Array.mem_of_getElem? hy
        exact ⟨y, by simpa using hy, cellOf_rel c ((Array.all_eq_true_iff_forall_mem.1 hall) y hm)⟩
    · trivial
  · trivial
  · split
    · rename_i hp; exact RdD.v hp
    · trivial
theorem pure1_rel {P : Program} {s : Sem Value} {r : W} (h : pure1 P s = some r) (c : Cx) : ∃ v, (∀ w, s.run P w = .ok v w) ∧ RelW c r v := by
  unfold pure1 at h
  split at h
  · cases h
  · rename_i x _ hx
    obtain rfl := Option.some.inj h
    exact ⟨x, fun w => pureRun_run s hx w, ofVal_rel c x⟩
  · cases h
theorem info_cells {P : Program} {t : TypeId} {n : Nat} (h : P.cellsOf t = n) (h0 : 0 < n) : ∃ i, P.info? t = some i ∧ i.size = n := by
  unfold Program.cellsOf at h
  cases hi : P.info? t with
  | none => simp [hi] at h; omega
  | some i => simp [hi] at h; exact ⟨i, rfl, h⟩
theorem isAgg_run {P : Program} {t : TypeId} {d : TypeDesc} (hu : P.underlying t = some d) (w : World) : (isAgg t).run P w = .ok (isAggB P t) w := by
  unfold isAgg isAggB
  rw [Sem.run_bind, run_underlying hu w, hu]
  cases d <;> rfl
def RowAt (c : Cx) (b o : Nat) (l : List S) : Prop := ∀ j s, l[j]? = some s → ∃ v, c.w.cell? ⟨b, o + j, none⟩ = some v ∧ RelS c s v
theorem getCells {c : Cx} {b o : Nat} : ∀ (l : List S), RowAt c b o l → ∃ vs : List Value, vs.length = l.length ∧ ∀ j s, l[j]? = some s → ∃ v, vs[j]? = some v ∧ c.w.cell? ⟨b, o + j, none⟩ = some v ∧ RelS c s v
  | [], _ => ⟨[], rfl, fun j s h => by simp at h⟩
  | s :: r, h => by
    obtain ⟨v, hv, hs⟩ := h 0 s (by simp)
    have h' : RowAt c b (o + 1) r := fun j x hj => by
      obtain ⟨y, hy, hx⟩ := h (j + 1) x (by simpa using hj)
      exact ⟨y, by rw [show o + 1 + j = o + (j + 1) by omega]; exact hy, hx⟩
    obtain ⟨vs, hl, hvs⟩ := getCells r h'
    refine ⟨v :: vs, by simp [hl], fun j x hj => ?_⟩
    cases j with
    | zero => simp at hj; subst hj; exact ⟨v, by simp, hv, hs⟩
    | succ j =>
      obtain ⟨y, h1, h2, h3⟩ := hvs j x (by simpa using hj)
      exact ⟨y, by simpa using h1, by rw [show o + (j + 1) = o + 1 + j by omega]; exact h2, h3⟩
theorem load_part {P : Program} {c : Cx} {t : TypeId} {l : List S} {off : Nat} {r : V} {b o : Nat} (h : partA P t l off = some r) (hr : RowAt c b o l) :
    ∃ v, (loadVar t ⟨b, o + off, none⟩).run P c.w = .ok v c.w ∧ RelV c r v := by
  unfold partA at h
  split at h
  · rename_i d i hu hi
    split at h
    · rename_i hagg
      split at h
      · rename_i hle
        obtain rfl := Option.some.inj h
        have hle := Nat.le_of_ble_eq_true hle
        have hrow : RowAt c b (o + off) ((l.drop off).take i.size) := fun j s hj => by
          rw [List.getElem?_take] at hj
          split at hj
          · rw [List.getElem?_drop] at hj
            obtain ⟨v, hv, hs⟩ := hr _ s hj
            exact ⟨v, by rw [Nat.add_assoc]; exact hv, hs⟩
          · cases hj
        obtain ⟨vs, hl, hvs⟩ := getCells _ hrow
        have hlen : ((l.drop off).take i.size).length = i.size := by simp; omega
        have hsz : (P.info? t).map (·.size) = some vs.length := by
          rw [hi]; simp only [Option.map_some, Option.some.injEq]
          rw [hl, hlen]
        have hd : d.isRow = true := by
          unfold isAggB at hagg; rw [hu] at hagg; cases d <;> simp_all
        have hrange : c.w.rangeAt b (o + off) vs := fun j v hj => by
          have hjl : j < ((l.drop off).take i.size).length := by
            rw [← hl]; exact (List.getElem?_eq_some_iff.1 hj).1
          obtain ⟨v', h1, h2, _⟩ := hvs j _ (List.getElem?_eq_getElem hjl)
          rw [hj] at h1
          obtain rfl := Option.some.inj h1
          exact h2
        refine ⟨_, run_loadVar_mid c.w b (o + off) t vs d hrange hu hd hsz, vs.toArray, rfl, by simp [hl], fun j s hj => ?_⟩
        obtain ⟨v', h1, _, h3⟩ := hvs j s hj
        exact ⟨v', by simpa using h1, h3⟩
      · cases h
    · rename_i hagg
      split at h
      · rename_i s hs
        obtain rfl := Option.some.inj h
        obtain ⟨v, hv, hrel⟩ := hr off s hs
        refine ⟨v, ?_, hrel⟩
        unfold loadVar
        rw [Sem.run_bind, isAgg_run hu, hagg]
        simp [hv]
      · cases h
  · cases h
def setRange (cs : Array Value) : Nat → List Value → Array Value
  | _, [] => cs
  | o, v :: r => setRange (cs.setIfInBounds o v) (o + 1) r
theorem size_setRange : ∀ (vs : List Value) (cs : Array Value) (o : Nat), (setRange cs o vs).size = cs.size
  | [], _, _ => rfl
  | v :: r, cs, o => by rw [setRange, size_setRange r]; simp
theorem setRange_out : ∀ (vs : List Value) (cs : Array Value) (o j : Nat), (j < o ∨ o + vs.length ≤ j) → (setRange cs o vs)[j]? = cs[j]?
  | [], _, _, _, _ => rfl
  | v :: r, cs, o, j, h => by
    rw [setRange, setRange_out r _ _ _ (by simp at h; omega)]
    rw [Array.getElem?_setIfInBounds]
    rw [if_neg (by simp at h; omega)]
theorem setRange_in : ∀ (vs : List Value) (cs : Array Value) (o j : Nat) (v : Value), o + vs.length ≤ cs.size → vs[j]? = some v → (setRange cs o vs)[o + j]? = some v
  | [], _, _, _, _, _, h => by simp at h
  | x :: r, cs, o, 0, v, hl, h => by
    simp at h; subst h
    rw [setRange, setRange_out r _ _ _ (by omega)]
    simp at hl
    rw [Nat.add_zero, Array.getElem?_setIfInBounds_self]
    simp; omega
  | x :: r, cs, o, j + 1, v, hl, h => by
    rw [setRange, show o + (j + 1) = o + 1 + j by omega]
    exact setRange_in r _ _ _ _ (by simp at hl ⊢; omega) (by simpa using h)
theorem setCells_heap (b : Nat) (ty : TypeId) (fz : Nat × Nat) : ∀ (vs : List Value) (o : Nat) (cs : Array Value) (w : World), w.heap[b]? = some (.cells cs ty fz) →
    (w.setCells b o vs).heap[b]? = some (.cells (setRange cs o vs) ty fz) ∧ (w.setCells b o vs).heap.size = w.heap.size ∧ (∀ g, g ≠ b → (w.setCells b o vs).heap[g]? = w.heap[g]?) ∧
      (w.setCells b o vs).os = w.os ∧ (w.setCells b o vs).tape = w.tape ∧ (w.setCells b o vs).output = w.output
  | [], o, cs, w, h => ⟨h, rfl, fun _ _ => rfl, rfl, rfl, rfl⟩
  | v :: r, o, cs, w, h => by
    have h1 : (w.setCell ⟨b, o, none⟩ v).heap[b]? = some (.cells (cs.setIfInBounds o v) ty fz) := by
      have hlt : b < w.heap.size := (Array.getElem?_eq_some_iff.1 h).1
      have hv : w.heap[b] = .cells cs ty fz := (Array.getElem?_eq_some_iff.1 h).2
      unfold World.setCell
      rw [Array.getElem?_eq_getElem (by simpa using hlt), Array.getElem_modify]
      simp [hv]
    have h2 : ∀ g, g ≠ b → (w.setCell ⟨b, o, none⟩ v).heap[g]? = w.heap[g]? := fun g hg => by
      simp [World.setCell, Array.getElem?_modify, Ne.symm hg]
    obtain ⟨k1, k2, k3, k4, k5, k6⟩ := setCells_heap b ty fz r (o + 1) _ _ h1
    exact ⟨k1, by rw [World.setCells, k2]; simp [World.setCell], fun g hg => (k3 g hg).trans (h2 g hg), k4, k5, k6⟩
theorem store_run {P : Program} {w : World} {b o : Nat} {cs : Array Value} {ty t : TypeId} {fz : Nat × Nat} {v : Value} (hb : w.heap[b]? = some (.cells cs ty fz)) (hf : ∀ i, i < cs.size → ¬ (fz.1 ≤ i ∧ i < fz.2))
    (hs : P.cellsOf t = v.cells.size) (hi : ∃ i, P.info? t = some i) (hl : o + v.cells.size ≤ cs.size) (h1 : ∀ x ∈ v.cells, x.oneCell' = true) :
    (storeVar t ⟨b, o, none⟩ v).run P w = .ok () (w.setCells b o v.cells.toList) := by
  obtain ⟨i, hi⟩ := hi
  have hcell : ∀ j, w.cell? ⟨b, j, none⟩ = cs[j]? := fun j => cell_of_row w b j cs ty fz hb
  have hfz : ∀ j, j < cs.size → w.frozen? ⟨b, j, none⟩ = false := fun j hj => by
    have := hf j hj
    simp only [World.frozen?, hb]
    simp only [Bool.and_eq_false_iff, decide_eq_false_iff_not]
    omega
  have := run_storeCells_cells (P := P) b o v.cells.toList 0 w
    (fun j hj => by rw [hcell]; simp at hj; simp; omega)
    (fun j hj => hfz _ (by simp at hj; omega))
    (fun x hx => h1 x (by simpa using hx))
  have hsz : i.size = v.cells.size := by rw [← hs]; simp [Program.cellsOf, hi]
  simp only [Nat.add_zero] at this
  simp [storeVar, sizeOf, typeInfo, hi, hsz, this]
end Go.Vsi
namespace Go.Vsi
def RelTm (c : Cx) (tm : List W) (tmps : Array Value) : Prop := tmps.size = tm.length ∧ CellsAt (RelW c) tmps 0 tm
theorem RelTm.mono {c c' : Cx} (k : Step c c') {tm : List W} {tmps : Array Value} (h : RelTm c tm tmps) : RelTm c' tm tmps :=
  ⟨h.1, h.2.imp fun _ _ => RelW.mono k⟩
theorem rel_ev {c : Cx} {tm : List W} {a : Act} (h : RelTm c tm a.tmps) (x : Operand) : RelW c (evA tm x) (a.eval x) := by
  cases x with
  | tmp t =>
    simp only [evA]
    split
    · rename_i w hw
      obtain ⟨v, hv, hr⟩ := h.2 t w hw
      have : a.eval (.tmp t) = v := by
        show a.tmps.getD t undef = v
        rw [Nat.zero_add] at hv
        simp [Array.getD_eq_getD_getElem?, hv]
      rw [this]; exact hr
    · trivial
  | const v => exact ofVal_rel c v
  | global g => trivial
  | func f => exact ⟨#[], rfl, rfl, fun i id hi => by simp at hi⟩
abbrev Ups := List (Nat × Option Blk)
def OpSound (P : Program) (o : Oper) (fr : Nat → Nat) (c : Cx) (a : Act) (r : W) (up : Ups) : Prop :=
  ∀ (K : Act → World → Prop) (Q : Exit → Act → World → Prop),
    (∀ v c', Eff' c c' → c'.h = upd c.h up → (∀ id, c'.U id → c.U id ∨ ∃ k, k < 64 ∧ id = fr k) → RelW c' r v → K (a.put o.dst v) c'.w) → o.wp P a c.w K Q
section
variable {P : Program} {o : Oper} {fr : Nat → Nat} {c : Cx} {a : Act} {r : W}
theorem sound_same (hc : RelH c) {s : Sem Value} {v : Value} (ho : execOp a.eval o = (do pure (.value (← s)))) (hs : s.run P c.w = .ok v c.w) (hv : RelW c r v) : OpSound P o fr c a r [] :=
  fun _ _ hK => wp_value ho hs (hK v c (Eff'.refl hc) rfl (fun _ h => .inl h) hv)
theorem sound_move (hc : RelH c) {x : Operand} (ho : o.op = .move x ∨ o.op = .assign x) (hv : RelW c r (a.eval x)) : OpSound P o fr c a r [] := by
  refine sound_same hc (s := pure (a.eval x)) ?_ rfl hv
  unfold execOp
  rcases ho with ho | ho <;> rw [ho] <;> rfl
theorem sound_pick (hc : RelH c) {x y z : Operand} {b : Bool} (ho : o.op = .pick x y z) (hb : a.eval x = .bool b) (hv : RelW c r (if b then a.eval y else a.eval z)) : OpSound P o fr c a r [] := by
  refine sound_same hc (s := pure (if b then a.eval y else a.eval z)) ?_ rfl hv
  unfold execOp
  rw [ho]
  simp only [hb, asBool]
  rfl
theorem sound_pure (hc : RelH c) {s : Sem Value} (ho : execOp a.eval o = (do pure (.value (← s)))) (h : pure1 P s = some r) : OpSound P o fr c a r [] := by
  obtain ⟨v, hr, hv⟩ := pure1_rel h c
  exact sound_same hc ho (hr c.w) hv
theorem sound_extract (hc : RelH c) {x : Operand} {i : Nat} {l : List V} {v : V} (ho : o.op = .extract x i) (hx : RelW c (.tup l) (a.eval x)) (hl : l[i]? = some v) : OpSound P o fr c a (.one v) [] := by
  obtain ⟨vs, hvs, hs, hcell⟩ := hx
  obtain ⟨y, hy, hr⟩ := hcell i v hl
  rw [Nat.zero_add] at hy
  refine sound_same hc (s := Instr.extract (a.eval x) i) (by unfold execOp; rw [ho]) ?_ hr
  rw [hvs]
  simp [Instr.extract, hy]
theorem sound_nilCheck (hc : RelH c) {x : Operand} (ho : o.op = .nilCheck x) (hp : (∃ p, a.eval x = .pointer (some p)) ∨ ∃ f cs, a.eval x = .func (.func f) #[] cs) (hv : RelW c r (a.eval x)) : OpSound P o fr c a r [] := by
  refine sound_same hc (s := pure (a.eval x)) ?_ rfl hv
  unfold execOp
  rw [ho]
  rcases hp with ⟨p, hp⟩ | ⟨f, cs, hp⟩ <;> simp only [hp] <;> rfl
theorem part_run {t : TypeId} {l : List S} {off : Nat} {v : V} {cs : Array Value} (h : partA P t l off = some v) (hl : cs.size = l.length) (hr : CellsAt (RelS c) cs 0 l) (w : World) :
    ∃ x, (part t cs off).run P w = .ok x w ∧ RelV c v x := by
  unfold partA at h
  split at h
  · rename_i d i hu hi
    split at h
    · rename_i hagg
      split at h
      · rename_i hle
        obtain rfl := Option.some.inj h
        have hle := Nat.le_of_ble_eq_true hle
        refine ⟨.agg (cs.extract off (off + i.size)), ?_, _, rfl, ?_, ?_⟩
        · unfold part
          rw [Sem.run_bind, isAgg_run hu, hagg]
          simp [sizeOf, typeInfo, hi]
        · simp; omega
        · intro j s hj
          rw [List.getElem?_take] at hj
          split at hj
          · rename_i hlt
            rw [List.getElem?_drop] at hj
            obtain ⟨x, hx, hs⟩ := hr _ s hj
            refine ⟨x, ?_, hs⟩
            rw [Nat.zero_add] at hx ⊢
            rw [Array.getElem?_extract, if_pos (by omega)]
            exact hx
          · cases hj
      · cases h
    · rename_i hagg
      split at h
      · rename_i s hs
        obtain rfl := Option.some.inj h
        obtain ⟨x, hx, hrel⟩ := hr off s hs
        rw [Nat.zero_add] at hx
        refine ⟨x, ?_, hrel⟩
        unfold part
        rw [Sem.run_bind, isAgg_run hu, hagg]
        simp [hx]
      · cases h
  · cases h
theorem sound_field (hc : RelH c) {x : Operand} {t : TypeId} {i : Nat} {l : List S} {v : V} {fs : Array Field} {f : Field} (ho : o.op = .field t x i) (hx : RelV c (.agg l) (a.eval x)) (hu : P.underlying t = some (.struct fs)) (hf : fs[i]? = some f)
    (hp : partA P f.type l f.offset = some v) : OpSound P o fr c a (.one v) [] := by
  obtain ⟨cs, hcs, hs, hcell⟩ := hx
  obtain ⟨y, hy, hr⟩ := part_run hp hs hcell c.w
  refine sound_same hc (s := Instr.field t (a.eval x) i) (by unfold execOp; rw [ho]) ?_ hr
  rw [hcs]
  simp [Instr.field, run_underlying hu, hf, asAgg, hy]
theorem addr_add (b o n : Nat) : (⟨b, o, none⟩ : Addr).add n = ⟨b, o + n, none⟩ := Addr.add_mid b o n
theorem sound_fieldAddr (hc : RelH c) {x : Operand} {t : TypeId} {i : Nat} {fs : Array Field} {f : Field} (ho : o.op = .fieldAddr t x i) (hu : P.underlying t = some (.struct fs)) (hf : fs[i]? = some f) (h1 : 1 ≤ P.cellsOf f.type)
    {b q : Nat} (hx : a.eval x = .pointer (some ⟨b, q, none⟩)) (hr : RelW c r (.pointer (some ⟨b, q + f.offset, none⟩))) : OpSound P o fr c a r [] := by
  obtain ⟨j, hj, hsz⟩ := info_cells (P := P) (t := f.type) rfl h1
  refine sound_same hc (s := Instr.fieldAt t (a.eval x) i) (by unfold execOp; rw [ho]) ?_ hr
  rw [hx]
  have hne : ¬ j.size = 0 := by omega
  simp [Instr.fieldAt, run_underlying hu, hf, Instr.sureAddr, fieldPlace, sizeOf, typeInfo, hj, hne, addr_add]
theorem sound_indexAddr (hc : RelH c) {x y : Operand} {t e : TypeId} {k : IntKind} {n : Int} (ho : o.op = .indexAddr t x y) (hu : P.underlying t = some (.slice e)) (hi : ∃ i, P.info? e = some i)
    {b q len cap : Nat} (hx : a.eval x = .slice (some ⟨b, q, none⟩) len cap) (hy : a.eval y = .int k n) (h0 : 0 ≤ n) (hn : n < len) (hr : RelW c r (.pointer (some ⟨b, q + n.toNat * P.cellsOf e, none⟩))) : OpSound P o fr c a r [] := by
  obtain ⟨i, hi⟩ := hi
  refine sound_same hc (s := Instr.indexAt t (a.eval x) (a.eval y)) (by unfold execOp; rw [ho]) ?_ hr
  rw [hx, hy]
  have hsz : P.cellsOf e = i.size := by simp [Program.cellsOf, hi]
  simp [Instr.indexAt, asIntOf, run_underlying hu, h0, hn, sizeOf, typeInfo, hi, addr_add, hsz]
theorem sound_load (hc : RelH c) {x : Operand} {t : TypeId} {l : List S} {off : Nat} {v : V} {b q : Nat} (ho : o.op = .load t x) (hx : a.eval x = .pointer (some ⟨b, q + off, none⟩)) (hp : partA P t l off = some v) (hrow : RowAt c b q l) :
    OpSound P o fr c a (.one v) [] := by
  obtain ⟨y, hy, hr⟩ := load_part hp hrow
  refine sound_same hc (s := Instr.loadAt t (a.eval x)) (by unfold execOp; rw [ho]) ?_ hr
  rw [hx]
  simp [Instr.loadAt, Instr.sureAddr, hy]
end
end Go.Vsi
namespace Go.Vsi
theorem upd_dead (h : Hp) (i : Nat) (hi : h i = none) : upd h [(i, none)] = h := by
  funext j
  rw [upd_one]
  split
  · rename_i e; subst e; exact hi.symm
  · rfl
theorem kills_eff : ∀ (u : Ups) (c : Cx), RelH c → (∀ x ∈ u, x.2 = none) → ∃ c', Eff' c c' ∧ c'.w = c.w ∧ c'.E = c.E ∧ c'.U = c.U ∧ c'.h = upd c.h u ∧ ∀ x ∈ u, ∀ b, c.h x.1 = some b → c'.N (c.E x.1).blk
  | [], c, hc, _ => ⟨c, Eff'.refl hc, rfl, rfl, rfl, rfl, fun x hx => by simp at hx⟩
  | (i, b) :: r, c, hc, hu => by
    obtain rfl : b = none := hu (i, b) (by simp)
    have hr : ∀ x ∈ r, x.2 = none := fun x hx => hu x (by simp [hx])
    cases hi : c.h i with
    | none =>
      obtain ⟨c', h1, h2, h3, h4, h5, h6⟩ := kills_eff r c hc hr
      refine ⟨c', h1, h2, h3, h4, by rw [upd_cons, upd_dead _ _ hi]; exact h5, fun x hx b hb => ?_⟩
      rcases List.mem_cons.1 hx with rfl | hx
      · rw [hi] at hb; cases hb
      · exact h6 x hx b hb
    | some b =>
      have e1 := eff_kill hc i b hi
      obtain ⟨c', h1, h2, h3, h4, h5, h6⟩ := kills_eff r _ e1.relh hr
      refine ⟨c', e1.trans h1, h2, h3, h4, by rw [upd_cons]; exact h5, fun x hx b' hb' => ?_⟩
      by_cases e : x.1 = i
      · rw [e]
        exact (h1.step.n _ (.inr rfl)).1
      · rcases List.mem_cons.1 hx with rfl | hx
        · exact absurd rfl e
        · refine h6 x hx b' ?_
          show upd c.h [(i, none)] x.1 = _
          rw [upd_one, if_neg e]
          exact hb'
theorem toD_none {h : Hp} {s : S} {x : D} {u : Ups} (hs : toD h s = some (x, u)) : ∀ y ∈ u, y.2 = none := by
  cases s with
  | d d => simp [toD] at hs; obtain ⟨_, rfl⟩ := hs; simp
  | arr id off len =>
    simp only [toD] at hs
    split at hs
    · simp at hs; obtain ⟨_, rfl⟩ := hs; simp
    · cases hs
  | _ => simp [toD] at hs
theorem toD_rel {c : Cx} (hc : RelH c) {w' : World} {N' : Nat → Prop} (hw : ∀ g, c.N g ∨ (∃ id b, c.h id = some b ∧ g = (c.E id).blk) → w'.heap[g]? = c.w.heap[g]?) (hn : ∀ g, c.N g → N' g) {s : S} {x : D} {u : Ups} {v : Value} (hs : toD c.h s = some (x, u)) (hv : RelS c s v)
    (hu : ∀ y ∈ u, ∀ b, c.h y.1 = some b → N' (c.E y.1).blk) : RdD w' N' x v := by
  cases s with
  | d d =>
    simp [toD] at hs
    obtain ⟨rfl, rfl⟩ := hs
    exact RdD.mono (fun g hg => ⟨hn g hg, hw g (.inl hg)⟩) hv
  | arr id off len =>
    simp only [toD] at hs
    split at hs
    · rename_i k rows hid
      simp at hs
      obtain ⟨rfl, rfl⟩ := hs
      obtain ⟨_, _, h3⟩ := hv
      obtain ⟨k', rows', he, hle, a, cap, rfl, hlc, hroom, ha⟩ := h3 _ hid
      simp only [Blk.arrOf, Option.some.injEq, Prod.mk.injEq] at he
      obtain ⟨rfl, rfl⟩ := he
      by_cases h0 : len = 0
      · subst h0
        simp only [List.take_zero]
        exact .nil
      · have hcap : ¬ cap = 0 := by omega
        obtain rfl := ha.resolve_left hcap
        obtain ⟨cs, ty, fz, hb, _, hrl, hsz, hcell⟩ := hc.blk id _ hid
        have hlen : ((rows.drop off).take len).length = len := by simp; omega
        have hN := hu (id, none) (by simp) _ hid
        have hcl : ∀ j, w'.cell? ⟨(c.E id).blk, j, none⟩ = cs[j]? := fun j => by
          rw [cell_same (hw _ (.inr ⟨id, _, hid, rfl⟩))]
          exact cell_of_row c.w _ j cs ty fz hb
        have hget : ∀ i r, ((rows.drop off).take len)[i]? = some r → rows[off + i]? = some r := fun i r hi => by
          rw [List.getElem?_take] at hi
          split at hi
          · rwa [List.getElem?_drop] at hi
          · cases hi
        have key : RdD w' N' (.sl k ((rows.drop off).take len)) (.slice (some ⟨(c.E id).blk, (c.E id).off + off * k, none⟩) ((rows.drop off).take len).length cap) := by
          refine .sl (fun i j => (cs[(c.E id).off + off * k + i * k + j]?).getD undef) (by omega) hN (fun i r hi => ?_) (fun i r j d hi hd => ?_)
          · obtain ⟨hrk, hcr⟩ := hcell _ r (hget i r hi)
            refine ⟨hrk, fun j hj => ?_⟩
            rw [hcl]
            obtain ⟨y, hy, _⟩ := hcr j r[j] (by simp)
            have e : (c.E id).off + (off + i) * k + j = (c.E id).off + off * k + i * k + j := by rw [Nat.add_mul]; omega
            rw [e] at hy
            rw [hy]; rfl
          · obtain ⟨hrk, hcr⟩ := hcell _ r (hget i r hi)
            obtain ⟨y, hy, hd'⟩ := hcr j d hd
            have e : (c.E id).off + (off + i) * k + j = (c.E id).off + off * k + i * k + j := by rw [Nat.add_mul]; omega
            rw [e] at hy
            rw [hy]
            exact RdD.mono (fun g hg => ⟨hn g hg, hw g (.inl hg)⟩) hd'
        rw [hlen] at key
        exact key
    · cases hs
  | _ => simp [toD] at hs
theorem toDs_get {h : Hp} : ∀ (l : List S) {xs : List D} {u : Ups}, toDs h l = some (xs, u) → xs.length = l.length ∧ (∀ y ∈ u, y.2 = none) ∧ ∀ (j : Nat) (s : S), l[j]? = some s → ∃ x u', xs[j]? = some x ∧ toD h s = some (x, u') ∧ ∀ y ∈ u', y ∈ u
  | [], xs, u, h => by simp [toDs] at h; obtain ⟨rfl, rfl⟩ := h; simp
  | s :: r, xs, u, hd => by
    simp only [toDs] at hd
    split at hd
    · rename_i x u1 xs1 us1 h1 h2
      simp at hd
      obtain ⟨rfl, rfl⟩ := hd
      obtain ⟨k1, k2, k3⟩ := toDs_get r h2
      refine ⟨by simp [k1], fun y hy => ?_, fun j s' hj => ?_⟩
      · rcases List.mem_append.1 hy with hy | hy
        · exact toD_none h1 y hy
        · exact k2 y hy
      · cases j with
        | zero => simp at hj; subst hj; exact ⟨x, u1, by simp, h1, fun y hy => List.mem_append.2 (.inl hy)⟩
        | succ j =>
          obtain ⟨x', u', e1, e2, e3⟩ := k3 j s' (by simpa using hj)
          exact ⟨x', u', by simpa using e1, e2, fun y hy => List.mem_append.2 (.inr (e3 y hy))⟩
    · cases hd
theorem toRows_get {h : Hp} : ∀ (l : List (List S)) {xs : List (List D)} {u : Ups}, toRows h l = some (xs, u) → xs.length = l.length ∧ (∀ y ∈ u, y.2 = none) ∧ ∀ (j : Nat) (s : List S), l[j]? = some s → ∃ x u', xs[j]? = some x ∧ toDs h s = some (x, u') ∧ ∀ y ∈ u', y ∈ u
  | [], xs, u, h => by simp [toRows] at h; obtain ⟨rfl, rfl⟩ := h; simp
  | s :: r, xs, u, hd => by
    simp only [toRows] at hd
    split at hd
    · rename_i x u1 xs1 us1 h1 h2
      simp at hd
      obtain ⟨rfl, rfl⟩ := hd
      obtain ⟨k1, k2, k3⟩ := toRows_get r h2
      refine ⟨by simp [k1], fun y hy => ?_, fun j s' hj => ?_⟩
      · rcases List.mem_append.1 hy with hy | hy
        · exact (toDs_get s h1).2.1 y hy
        · exact k2 y hy
      · cases j with
        | zero => simp at hj; subst hj; exact ⟨x, u1, by simp, h1, fun y hy => List.mem_append.2 (.inl hy)⟩
        | succ j =>
          obtain ⟨x', u', e1, e2, e3⟩ := k3 j s' (by simpa using hj)
          exact ⟨x', u', by simpa using e1, e2, fun y hy => List.mem_append.2 (.inr (e3 y hy))⟩
    · cases hd
theorem rowsOf_len (k : Nat) : ∀ (n : Nat) (l : List S), (rowsOf k n l).length = n
  | 0, _ => rfl
  | n + 1, l => by simp [rowsOf, rowsOf_len k n]
theorem rowsOf_get (k : Nat) : ∀ (n : Nat) (l : List S) (i : Nat), i < n → (rowsOf k n l)[i]? = some ((l.drop (i * k)).take k)
  | n + 1, l, 0, _ => by simp [rowsOf]
  | n + 1, l, i + 1, h => by
    simp only [rowsOf, List.getElem?_cons_succ]
    rw [rowsOf_get k n (l.drop k) i (by omega), List.drop_drop, Nat.succ_mul, Nat.add_comm]
theorem eff_new {c : Cx} (h : RelH c) (cs : Array Value) (ty : TypeId) (fz : Nat × Nat) (w' : World) (hw : w'.heap = c.w.heap.push (.cells cs ty fz)) (ho : w'.os = c.w.os) (ht : w'.tape = c.w.tape) (hp : w'.output = c.w.output)
    (i : Nat) (hi : ¬ c.U i) (b : Blk) (p : Loc) (hpb : p.blk = c.w.heap.size) (c' : Cx) (hc' : c' = ⟨w', c.N, putE c.E i p, fun j => c.U j ∨ j = i, upd c.h [(i, some b)]⟩) (hb : Step c c' → RelB c' b p) : Eff' c c' := by
  have e1 := eff_drawn h { w' with heap := c.w.heap } rfl ho ht hp
  have e : c' = ⟨{ ({ w' with heap := c.w.heap } : World) with heap := c.w.heap.push (.cells cs ty fz) }, c.N, putE c.E i p, fun j => c.U j ∨ j = i, upd c.h [(i, some b)]⟩ := by
    rw [hc', ← hw]
  refine e1.trans (eff_alloc e1.relh cs ty fz i hi b p hpb c' e fun st => hb (e1.step.trans st))
section
variable {P : Program} {o : Oper} {fr : Nat → Nat} {c : Cx} {a : Act} {r : W}
theorem sound_new (hc : RelH c) (hfr : ¬ c.U (fr 0)) {s : Sem Value} {v : Value} {w' : World} (ho : execOp a.eval o = (do pure (.value (← s)))) (hs : s.run P c.w = .ok v w')
    {cs : Array Value} {ty : TypeId} {fz : Nat × Nat} (hw : w'.heap = c.w.heap.push (.cells cs ty fz)) (h1 : w'.os = c.w.os) (h2 : w'.tape = c.w.tape) (h3 : w'.output = c.w.output)
    (kills : Ups) (hk : ∀ x ∈ kills, x.2 = none) (b : Blk) (p : Loc) (hp : p.blk = c.w.heap.size)
    (hb : ∀ c', c'.w = w' → Step c c' → (∀ x ∈ kills, ∀ b, c.h x.1 = some b → c'.N (c.E x.1).blk) → (∀ g, (c.N g ∨ ∃ id b, c.h id = some b ∧ g = (c.E id).blk) → c'.w.heap[g]? = c.w.heap[g]?) → RelB c' b p)
    (hr : ∀ c', Step c c' → c'.w = w' → c'.h (fr 0) = some b → c'.E (fr 0) = p → c'.U (fr 0) → RelW c' r v) : OpSound P o fr c a r (kills ++ [(fr 0, some b)]) := by
  intro K Q hK
  obtain ⟨c1, e1, f1, f2, f3, f4, f5⟩ := kills_eff kills c hc hk
  have hfr1 : ¬ c1.U (fr 0) := by rw [f3]; exact hfr
  let c2 : Cx := ⟨w', c1.N, putE c1.E (fr 0) p, fun j => c1.U j ∨ j = fr 0, upd c1.h [(fr 0, some b)]⟩
  have e2 : Eff' c1 c2 := eff_new e1.relh cs ty fz w' (by rw [f1]; exact hw) (by rw [f1]; exact h1) (by rw [f1]; exact h2) (by rw [f1]; exact h3) (fr 0) hfr1 b p (by rw [f1]; exact hp) c2 rfl fun st =>
    hb c2 rfl (e1.step.trans st) (fun x hx b hb => (st.n _ (f5 x hx b hb)).1) (fun g hg => by
      show w'.heap[g]? = _
      rw [hw, Array.getElem?_push, if_neg]
      rcases hg with hg | ⟨id, b, hid, rfl⟩
      · have := hc.low g hg; omega
      · obtain ⟨cs, ty, fz, hb, _⟩ := hc.blk id b hid
        have := (Array.getElem?_eq_some_iff.1 hb).1
        omega)
  have eh : c2.h = upd c.h (kills ++ [(fr 0, some b)]) := by
    show upd c1.h [(fr 0, some b)] = _
    rw [f4, ← upd_append]
  refine wp_value ho hs (hK v c2 (e1.trans e2) eh (fun id hid => ?_) (hr c2 (e1.trans e2).step rfl ?_ ?_ (.inr rfl)))
  · rcases hid with hid | hid
    · exact .inl (by rw [← f3]; exact hid)
    · exact .inr ⟨0, by omega, hid⟩
  · show upd c1.h [(fr 0, some b)] (fr 0) = _
    rw [upd_one, if_pos rfl]
  · show (if fr 0 = fr 0 then p else c1.E (fr 0)) = p
    rw [if_pos rfl]
theorem zeroCells_spec {t : TypeId} {z : List S} (h : zeroCells P t = some z) : ∃ i v, P.info? t = some i ∧ i.zero = some v ∧ z.length = v.cells.size ∧ ∀ c : Cx, CellsAt (RelS c) v.cells 0 z := by
  unfold zeroCells at h
  split at h
  · rename_i i hi
    split at h
    · rename_i v hz
      split at h
      · rename_i hall
        obtain rfl := Option.some.inj h
        refine ⟨i, v, hi, hz, by simp, fun c j s hj => ?_⟩
        rw [List.getElem?_map] at hj
        cases hq : v.cells.toList[j]? with
        | none => simp [hq] at hj
        | some y =>
          simp [hq] at hj
          subst hj
          have hy : v.cells[j]? = some y := by simpa using hq
          exact ⟨y, by simpa using hy, cellOf_rel c ((Array.all_eq_true_iff_forall_mem.1 hall) y (Array.mem_of_getElem? hy))⟩
      · cases h
    · cases h
  · cases h
theorem ptr_rel {c : Cx} {id : Nat} {cells : List S} {p : Loc} (hh : c.h id = some (.var cells)) (hE : c.E id = p) (hU : c.U id) (h0 : p.off = 0) : RelW c (one (.ptr id 0 0)) (.pointer (some ⟨p.blk, 0, none⟩)) := by
  refine ⟨rfl, hU, fun b hb => ?_⟩
  rw [hh] at hb
  obtain rfl := Option.some.inj hb
  rw [hE, h0]
  simp
theorem arr_rel {c : Cx} {id n cap : Nat} {k : Nat} {rows : List (List D)} {p : Loc} (hh : c.h id = some (.arr k rows)) (hE : c.E id = p) (hU : c.U id) (hn : n ≤ rows.length) (hc1 : n ≤ cap) (hc2 : cap ≤ p.room) (h0 : p.off = 0) : RelW c (one (.arr id 0 n)) (.slice (some ⟨p.blk, 0, none⟩) n cap) := by
  refine ⟨rfl, hU, fun b hb => ?_⟩
  rw [hh] at hb
  obtain rfl := Option.some.inj hb
  refine ⟨k, rows.length, rfl, by omega, _, cap, rfl, hc1, by rw [hE]; omega, .inr ?_⟩
  rw [hE, h0]
  simp
theorem unfrozen0 (n : Nat) : ∀ i, i < n → ¬ ((0, 0).1 ≤ i ∧ i < (0, 0).2) := fun i _ h => by simp at h
theorem sound_alloc (hc : RelH c) (hfr : ¬ c.U (fr 0)) {t : TypeId} {z : List S} (ho : o.op = .alloc t) (hz : zeroCells P t = some z) : OpSound P o fr c a (one (.ptr (fr 0) 0 0)) [(fr 0, some (.var z))] := by
  obtain ⟨i, v, hi, hv, hl, hcell⟩ := zeroCells_spec hz
  refine sound_new (kills := []) hc hfr (s := Instr.alloc t true (.tuple #[])) (by unfold execOp; rw [ho]) (v := .pointer (some ⟨c.w.heap.size, 0, none⟩)) (w' := { c.w with heap := c.w.heap.push (.cells v.cells t) }) ?_ rfl rfl rfl rfl (by simp) (.var z) ⟨c.w.heap.size, 0, 0⟩ rfl ?_ ?_
  · simp [Instr.alloc, zeroValue, typeInfo, hi, hv, newVar, newRow]
  · intro c' hw _ _ _
    refine ⟨v.cells, t, (0, 0), by rw [hw]; simp, unfrozen0 _, by simp [hl], hcell c'⟩
  · intro c' _ _ hh hE hU
    exact ptr_rel hh hE hU rfl
theorem cells_one {x : Value} (h : x.oneCell' = true) : x.cells = #[x] := by cases x <;> simp_all [Value.oneCell', Value.cells]
theorem cells_rel {c : Cx} {v : V} {x : Value} (h : RelV c v x) (hj : v ≠ .junk) : x.cells.size = (cellsV v).length ∧ CellsAt (RelS c) x.cells 0 (cellsV v) := by
  cases v with
  | c s =>
    rw [cells_one (RelS.one h)]
    refine ⟨by simp [cellsV], fun j s' hj => ?_⟩
    cases j with
    | zero => simp [cellsV] at hj; subst hj; exact ⟨x, by simp, h⟩
    | succ j => simp [cellsV] at hj
  | agg l =>
    obtain ⟨cs, rfl, hs, hcell⟩ := h
    exact ⟨hs, hcell⟩
  | junk => exact absurd rfl hj
theorem sound_box (hc : RelH c) (hfr : ¬ c.U (fr 0)) {t : TypeId} {x : Operand} {v : V} (ho : o.op = .box t x) (hv : RelV c v (a.eval x)) (hj : v ≠ .junk) : OpSound P o fr c a (one (.ptr (fr 0) 0 0)) [(fr 0, some (.var (cellsV v)))] := by
  obtain ⟨hl, hcell⟩ := cells_rel hv hj
  refine sound_new (kills := []) hc hfr (s := Instr.box t (a.eval x)) (by unfold execOp; rw [ho]) (v := .pointer (some ⟨c.w.heap.size, 0, none⟩)) (w' := { c.w with heap := c.w.heap.push (.cells (a.eval x).cells t) }) ?_ rfl rfl rfl rfl (by simp) (.var (cellsV v)) ⟨c.w.heap.size, 0, 0⟩ rfl ?_ ?_
  · simp [Instr.box, newVar, newRow]
  · intro c' hw st _ _
    refine ⟨(a.eval x).cells, t, (0, 0), by rw [hw]; simp, unfrozen0 _, by simp [hl], hcell.imp fun _ _ => RelS.mono st⟩
  · intro c' _ _ hh hE hU
    exact ptr_rel hh hE hU rfl
end
end Go.Vsi
namespace Go.Vsi
theorem CellsAt.setRange {α : Type} {R : α → Value → Prop} {cs : Array Value} {o off : Nat} {l new : List α} {vs : List Value} (h : CellsAt R cs o l) (hl : vs.length = new.length)
    (hv : ∀ (j : Nat) (s : α), new[j]? = some s → ∃ v, vs[j]? = some v ∧ R s v) (hle : off + new.length ≤ l.length) (hs : o + l.length ≤ cs.size) :
    CellsAt R (setRange cs (o + off) vs) o (l.take off ++ new ++ l.drop (off + new.length)) := by
  intro j s hj
  have h1 : (l.take off).length = off := by simp; omega
  by_cases hj1 : j < off
  · rw [List.append_assoc, List.getElem?_append_left (by omega), List.getElem?_take, if_pos hj1] at hj
    obtain ⟨v, hv', hr⟩ := h j s hj
    exact ⟨v, by rw [setRange_out _ _ _ _ (by omega)]; exact hv', hr⟩
  · by_cases hj2 : j < off + new.length
    · rw [List.getElem?_append_left (by simp; omega), List.getElem?_append_right (by omega), h1] at hj
      obtain ⟨v, hv', hr⟩ := hv _ s hj
      have := setRange_in vs cs (o + off) (j - off) v (by omega) hv'
      rw [show o + off + (j - off) = o + j by omega] at this
      exact ⟨v, this, hr⟩
    · rw [List.getElem?_append_right (by simp; omega)] at hj
      have e : (l.take off ++ new).length = off + new.length := by simp; omega
      rw [e, List.getElem?_drop] at hj
      obtain ⟨v, hv', hr⟩ := h _ s hj
      refine ⟨v, ?_, hr⟩
      rw [setRange_out _ _ _ _ (by omega), ← hv']
      congr 1; omega
theorem foldl_setRange (off : Nat) : ∀ (vs : List Value) (k : Nat) (cs : Array Value), (vs.zipIdx k).foldl (fun (cs : Array Value) (p : Value × Nat) => cs.setIfInBounds (off + p.2) p.1) cs = setRange cs (off + k) vs
  | [], _, _ => rfl
  | v :: r, k, cs => by
    simp only [List.zipIdx_cons, List.foldl_cons]
    rw [foldl_setRange off r (k + 1)]
    rfl
inductive Parts (c : Cx) : List (Nat × V) → List (Nat × Value) → Prop
  | nil : Parts c [] []
  | cons {i : Nat} {v : V} {x : Value} {l : List (Nat × V)} {m : List (Nat × Value)} : RelV c v x → Parts c l m → Parts c ((i, v) :: l) ((i, x) :: m)
theorem fillA_cons {place : Nat → Option (Nat × Nat)} {l : List S} {i : Nat} {v : V} {r : List (Nat × V)} (h : v ≠ .junk) : fillA place l ((i, v) :: r) = match place i with
    | none => none
    | some (off, size) => match Nat.beq (cellsV v).length size && Nat.ble (off + size) l.length with
      | true => fillA place (l.take off ++ cellsV v ++ l.drop (off + size)) r
      | false => none := by cases v <;> first | rfl | exact absurd rfl h
theorem fill_rel {c : Cx} {place : Nat → Option (Nat × Nat)} {l : List S} {parts : List (Nat × V)} {vparts : List (Nat × Value)} {l' : List S} {cs : Array Value} (hp : Parts c parts vparts) :
    fillA place l parts = some l' → cs.size = l.length → CellsAt (RelS c) cs 0 l → ∃ cs', Instr.fill place cs vparts = some cs' ∧ cs'.size = l'.length ∧ l'.length = l.length ∧ CellsAt (RelS c) cs' 0 l' := by
  induction hp generalizing l cs with
  | nil =>
    intro h hs hc
    simp [fillA] at h
    subst h
    exact ⟨cs, rfl, hs, rfl, hc⟩
  | @cons i v x r m hv _ ih =>
    intro h hs hc
    by_cases hv0 : v = .junk
    · subst hv0; simp [fillA] at h
    · rw [fillA_cons hv0] at h
      split at h
      · cases h
      · rename_i off size hpl
        split at h
        · rename_i hb
          simp only [Bool.and_eq_true] at hb
          have hb1 := Nat.eq_of_beq_eq_true hb.1
          have hb2 := Nat.le_of_ble_eq_true hb.2
          obtain ⟨hl, hcell⟩ := cells_rel hv hv0
          have hset := hc.setRange (off := off) (new := cellsV v) (vs := x.cells.toList) (by simpa using hl) (fun j s hj => by
            obtain ⟨y, hy, hr⟩ := hcell j s hj
            exact ⟨y, by simpa using hy, hr⟩) (by omega) (by omega)
          rw [hb1] at hset
          have hlen : ((l.take off) ++ cellsV v ++ l.drop (off + size)).length = l.length := by simp [hb1]; omega
          obtain ⟨cs', k1, k2, k3, k4⟩ := ih (cs := setRange cs off x.cells.toList) h (by rw [size_setRange, hs]; exact hlen.symm) (by simpa using hset)
          refine ⟨cs', ?_, k2, by rw [k3, hlen], k4⟩
          simp only [Instr.fill, hpl]
          rw [if_neg (by simp [hs, hl, hb1]; omega)]
          have hf : (Array.foldl (fun (cs : Array Value) (p : Value × Nat) => cs.setIfInBounds (off + p.2) p.1) cs x.cells.zipIdx) = setRange cs off x.cells.toList := by
            rw [← Array.foldl_toList, Array.toList_zipIdx]
            exact foldl_setRange off _ 0 cs
          rw [← k1, ← hf]
        · cases h
theorem parts_of {c : Cx} {ev : Operand → W} {a : Act} (hev : ∀ x, RelW c (ev x) (a.eval x)) : ∀ (l : List (Nat × Operand)), Parts c (l.map fun (i, x) => (i, match ev x with | .one v => v | .tup _ => .junk)) (l.map fun (i, x) => (i, a.eval x))
  | [] => .nil
  | (i, x) :: r => by
    refine .cons ?_ (parts_of hev r)
    have := hev x
    cases h : ev x with
    | one v => rw [h] at this; exact this
    | tup l => trivial
section
variable {P : Program} {o : Oper} {fr : Nat → Nat} {c : Cx} {a : Act} {r : W}
theorem mapM_places {fs : List Field} (h : ∀ f ∈ fs, (P.info? f.type).isSome = true) (w : World) :
    (fs.mapM (fun f => (do pure (f.offset, ← sizeOf f.type) : Sem (Nat × Nat)))).run P w = .ok (fs.map fun f => (f.offset, P.cellsOf f.type)) w := by
  induction fs with
  | nil => rfl
  | cons f r ih =>
    obtain ⟨i, hi⟩ := Option.isSome_iff_exists.1 (h f (by simp))
    have := ih fun g hg => h g (by simp [hg])
    simp only [List.mapM_cons, Sem.run_bind, sizeOf, typeInfo, run_program, Result.andThen_ok, hi, Sem.run_pure, List.map_cons]
    simp only [sizeOf, typeInfo] at this
    rw [this]
    simp [Program.cellsOf, hi]
theorem sound_build (hc : RelH c) {ev : Operand → W} (hev : ∀ x, RelW c (ev x) (a.eval x)) {t : TypeId} {parts : Array (Nat × Operand)} {fs : Array Field} {z l : List S} (ho : o.op = .build t parts)
    (hu : P.underlying t = some (.struct fs)) (hz : zeroCells P t = some z) (hfs : (fs.all fun f => (P.info? f.type).isSome) = true)
    (hf : fillA (fun i => (fs[i]?).map fun f => (f.offset, P.cellsOf f.type)) z (parts.toList.map fun (i, x) => (i, match ev x with | .one v => v | .tup _ => .junk)) = some l) : OpSound P o fr c a (.one (.agg l)) [] := by
  obtain ⟨i, v, hi, hv, hl, hcell⟩ := zeroCells_spec hz
  obtain ⟨cs', k1, k2, _, k4⟩ := fill_rel (parts_of hev parts.toList) hf hl.symm (hcell c)
  refine sound_same hc (s := Instr.build t (parts.map fun (i, x) => (i, a.eval x))) (by unfold execOp; rw [ho]) (v := .agg cs') ?_ ⟨cs', rfl, k2, k4⟩
  have hpl : (fs.mapM (fun f => (do pure (f.offset, ← sizeOf f.type) : Sem (Nat × Nat)))).run P c.w = .ok (fs.map fun f => (f.offset, P.cellsOf f.type)) c.w := by
    have hm := mapM_places (P := P) (fs := fs.toList) (fun f hf => (Array.all_eq_true_iff_forall_mem.1 hfs) f (by simpa using hf)) c.w
    have e : fs.mapM (fun f => (do pure (f.offset, ← sizeOf f.type) : Sem (Nat × Nat))) = (List.toArray <$> fs.toList.mapM (fun f => (do pure (f.offset, ← sizeOf f.type) : Sem (Nat × Nat)))) := by
      rw [Array.mapM_eq_mapM_toList]
    rw [e, Sem.run_map, hm]
    simp
    apply Array.ext'
    simp
  have hk : Instr.fill (fun x => (fs.map fun f => (f.offset, P.cellsOf f.type))[x]?) v.cells (parts.map fun (i, x) => (i, a.eval x)).toList = some cs' := by
    rw [Array.toList_map, ← k1]
    congr 1
    funext x
    rw [Array.getElem?_map]
  unfold Instr.build
  simp only [Sem.run_bind, zeroValue, typeInfo, run_program, Result.andThen_ok, hi, hv, Sem.run_pure, run_underlying hu, hpl, hk]
end
theorem flat_get (z : List S) : ∀ (n j : Nat), 0 < z.length → ((List.replicate n z).flatten)[j]? = if j < n * z.length then z[j % z.length]? else none
  | 0, j, _ => by simp
  | n + 1, j, h => by
    rw [List.replicate_succ, List.flatten_cons]
    by_cases hj : j < z.length
    · rw [List.getElem?_append_left hj, if_pos (by rw [Nat.succ_mul]; omega), Nat.mod_eq_of_lt hj]
    · rw [List.getElem?_append_right (by omega), flat_get z n _ h]
      have e : (j - z.length) % z.length = j % z.length := by
        conv => rhs; rw [show j = j - z.length + z.length by omega, Nat.add_mod_right]
      rw [e]
      by_cases h2 : j < (n + 1) * z.length
      · rw [if_pos h2, if_pos (by rw [Nat.succ_mul] at h2; omega)]
      · rw [if_neg h2, if_neg (by rw [Nat.succ_mul] at h2; omega)]
theorem flat_len (z : List S) (n : Nat) : ((List.replicate n z).flatten).length = n * z.length := by simp
theorem zeros_rel {c : Cx} {z : List S} {v : Value} {k : Nat} (hk : z.length = k) (hl : z.length = v.cells.size) (hcell : CellsAt (RelS c) v.cells 0 z) (n : Nat) (cs : Array Value)
    (hcs : cs = (Array.range (n * k)).map (v.cells[· % v.cells.size]!)) : cs.size = ((List.replicate n z).flatten).length ∧ CellsAt (RelS c) cs 0 ((List.replicate n z).flatten) := by
  subst hcs
  refine ⟨by rw [flat_len, hk]; simp, fun j s hj => ?_⟩
  by_cases h0 : z.length = 0
  · have : (List.replicate n z).flatten = [] := by rw [List.eq_nil_iff_length_eq_zero, flat_len, h0]; rfl
    rw [this] at hj; simp at hj
  · rw [flat_get z n j (by omega)] at hj
    split at hj
    · rename_i hlt
      obtain ⟨y, hy, hr⟩ := hcell _ s hj
      rw [Nat.zero_add] at hy
      refine ⟨y, ?_, hr⟩
      rw [Nat.zero_add, Array.getElem?_map, Array.getElem?_range, if_pos (by rw [← hk]; omega)]
      simp only [Option.map_some, Option.some.injEq]
      rw [← hl]
      rw [hl] at hy ⊢
      simp [getElem!_def, hy]
    · cases hj
theorem rows_rel {c : Cx} {w' : World} {N' : Nat → Prop} {k n : Nat} {l : List S} {rows : List (List D)} {kills : Ups} {cs : Array Value} (hl : l.length = n * k) (hrows : toRows c.h (rowsOf k n l) = some (rows, kills)) (hcell : CellsAt (RelS c) cs 0 l)
    (hd : ∀ s x u v, toD c.h s = some (x, u) → RelS c s v → (∀ y ∈ u, y ∈ kills) → RdD w' N' x v) :
    rows.length = n ∧ ∀ i r, rows[i]? = some r → r.length = k ∧ CellsAt (RdD w' N') cs (0 + i * k) r := by
  obtain ⟨h1, h2, h3⟩ := toRows_get _ hrows
  rw [rowsOf_len] at h1
  refine ⟨h1, fun i r hi => ?_⟩
  have hin : i < n := by rw [← h1]; exact (List.getElem?_eq_some_iff.1 hi).1
  obtain ⟨x, u', e1, e2, e3⟩ := h3 i _ (rowsOf_get k n l i hin)
  rw [hi] at e1
  obtain rfl := Option.some.inj e1
  obtain ⟨g1, g2, g3⟩ := toDs_get _ e2
  have hlt : i * k + k ≤ n * k := by
    have := Nat.mul_le_mul_right k (show i + 1 ≤ n from hin)
    rw [Nat.succ_mul] at this; exact this
  have hlen : ((l.drop (i * k)).take k).length = k := by simp; omega
  refine ⟨by rw [g1, hlen], fun j d hj => ?_⟩
  have hjk : j < k := by rw [← hlen, ← g1]; exact (List.getElem?_eq_some_iff.1 hj).1
  obtain ⟨d', u2, f1, f2, f3⟩ := g3 j _ (List.getElem?_eq_getElem (by omega))
  rw [hj] at f1
  obtain rfl := Option.some.inj f1
  have hs : l[i * k + j]? = some ((l.drop (i * k)).take k)[j] := by
    rw [← List.getElem?_eq_getElem (by omega), List.getElem?_take, if_pos hjk, List.getElem?_drop]
  obtain ⟨v, hv, hr⟩ := hcell _ _ hs
  exact ⟨v, by rw [Nat.zero_add] at hv ⊢; exact hv, hd _ _ _ _ f2 hr fun y hy => e3 y (f3 y hy)⟩
section
variable {P : Program} {o : Oper} {fr : Nat → Nat} {c : Cx} {a : Act} {r : W}
theorem sound_buildSlice (hc : RelH c) (hfr : ¬ c.U (fr 0)) {ev : Operand → W} (hev : ∀ x, RelW c (ev x) (a.eval x)) {t e : TypeId} {n k : Nat} {parts : Array (Nat × Operand)} {z l : List S} {rows : List (List D)} {kills : Ups} (ho : o.op = .buildSlice t n parts)
    (hu : P.underlying t = some (.slice e)) (hk : k = P.cellsOf e) (hz : zeroCells P e = some z) (hzk : z.length = k) (h24 : n * k ≤ 16777216)
    (hf : fillA (fun i => some (i * k, k)) ((List.replicate n z).flatten) (parts.toList.map fun (i, x) => (i, match ev x with | .one v => v | .tup _ => .junk)) = some l) (hrows : toRows c.h (rowsOf k n l) = some (rows, kills)) :
    OpSound P o fr c a (one (.arr (fr 0) 0 n)) (kills ++ [(fr 0, some (.arr k rows))]) := by
  obtain ⟨i, v, hi, hv, hl, hcell⟩ := zeroCells_spec hz
  have hik : i.size = k := by rw [hk]; simp [Program.cellsOf, hi]
  obtain ⟨q1, q2⟩ := zeros_rel hzk hl (hcell c) n _ rfl
  obtain ⟨cs', k1, k2, k3, k4⟩ := fill_rel (parts_of hev parts.toList) hf q1 q2
  have hll : l.length = n * k := by rw [k3, flat_len, hzk]
  refine sound_new hc hfr (s := Instr.buildSlice t n (parts.map fun (i, x) => (i, a.eval x))) (by unfold execOp; rw [ho]) (v := .slice (some ⟨c.w.heap.size, 0, none⟩) n n) (w' := { c.w with heap := c.w.heap.push (.cells cs' e) }) ?_ rfl rfl rfl rfl kills (toRows_get _ hrows).2.1 (.arr k rows) ⟨c.w.heap.size, 0, n⟩ rfl ?_ ?_
  · have hfill : Instr.fill (fun i => some (i * k, k)) ((Array.range (n * k)).map (v.cells[· % v.cells.size]!)) (parts.map fun (i, x) => (i, a.eval x)).toList = some cs' := by
      rw [Array.toList_map]; exact k1
    unfold Instr.buildSlice
    simp only [Sem.run_bind, run_underlying hu, Result.andThen_ok, sizeOf, typeInfo, run_program, hi, Sem.run_pure, hik]
    rw [if_neg (by omega)]
    by_cases h0 : n * k = 0
    · rw [if_pos h0]
      have e0 : (Array.map (fun x => (#[] : Array Value)[x % (#[] : Array Value).size]!) (Array.range (n * k))) = (Array.range (n * k)).map (v.cells[· % v.cells.size]!) := by rw [h0]; simp
      simp only [Sem.run_pure, Result.andThen_ok, e0, hfill, Sem.run_bind, newRow, run_newObj]
    · rw [if_neg h0]
      simp only [Sem.run_bind, zeroValue, typeInfo, run_program, Result.andThen_ok, hi, hv, Sem.run_pure, hfill, newRow, run_newObj]
  · intro c' hw st hkn hsame
    obtain ⟨r1, r2⟩ := rows_rel (w' := c'.w) (N' := c'.N) hll hrows k4 (fun s x u y hs hy hu => toD_rel hc hsame (fun g hg => (st.n g hg).1) hs hy fun y hy b hb => hkn y (hu y hy) b hb)
    refine ⟨cs', e, (0, 0), by rw [hw]; simp, unfrozen0 _, by simp [r1], by simp [k2, hll], r2⟩
  · intro c' _ _ hh hE hU
    refine arr_rel hh hE hU ?_ (Nat.le_refl _) (Nat.le_refl _) rfl
    have h1 := (toRows_get _ hrows).1
    rw [rowsOf_len] at h1
    omega
end
end Go.Vsi
namespace Go.Vsi
theorem upd_put (h : Hp) (i : Nat) (b : Option Blk) : upd (upd h [(i, none)]) [(i, b)] = upd h [(i, b)] := by
  funext j
  rw [upd_one, upd_one, upd_one]
  split <;> rfl
theorem upd_other {id : Nat} : ∀ (r : Ups) (h : Hp), (∀ x ∈ r, x.1 ≠ id) → upd h r id = h id
  | [], _, _ => rfl
  | (i, y) :: r, h, hk => by
    rw [upd_cons, upd_other r _ (fun x hx => hk x (by simp [hx])), upd_one, if_neg]
    intro e
    exact hk (i, y) (by simp) e.symm
theorem write_eff {c : Cx} (hc : RelH c) (kills : Ups) (hk : ∀ x ∈ kills, x.2 = none) {id : Nat} (hk2 : ∀ x ∈ kills, x.1 ≠ id) {b0 b : Blk} (hid : c.h id = some b0) (hcm : Compat b0 b)
    {cs : Array Value} {ty : TypeId} {fz : Nat × Nat} (hcs : c.w.heap[(c.E id).blk]? = some (.cells cs ty fz)) (q : Nat) (vs : List Value)
    (hb : ∀ c1 c2, c1.w = c.w → Step c c1 → (∀ x ∈ kills, ∀ b, c.h x.1 = some b → c1.N (c.E x.1).blk) → Step c1 c2 → c2.w.heap[(c.E id).blk]? = some (.cells (setRange cs q vs) ty fz) → RelB c2 b (c.E id)) :
    ∃ c', Eff' c c' ∧ c'.w = c.w.setCells (c.E id).blk q vs ∧ c'.h = upd c.h (kills ++ [(id, some b)]) ∧ ∀ x, c'.U x → c.U x := by
  obtain ⟨c1, e1, f1, f2, f3, f4, f5⟩ := kills_eff kills c hc hk
  have hid1 : c1.h id = some b0 := by
    rw [f4, upd_other kills c.h hk2]
    exact hid
  have hE1 : c1.E id = c.E id := by rw [f2]
  obtain ⟨k1, k2, k3, k4, k5, k6⟩ := setCells_heap (c.E id).blk ty fz vs q cs c.w hcs
  let c2 : Cx := ⟨c.w.setCells (c.E id).blk q vs, c1.N, putE c1.E id (c.E id), fun x => c1.U x ∨ x = id, upd (upd c1.h [(id, none)]) [(id, some b)]⟩
  have e2 : Eff' c1 c2 := eff_write e1.relh id b0 hid1 id (.inl rfl) b (c.E id) (by rw [hE1]) (fun _ => ⟨hcm, hE1.symm⟩) (c.w.setCells (c.E id).blk q vs) (by rw [f1]; exact k2) (fun g hg => by rw [f1]; exact k3 g (by rw [hE1] at hg; exact hg)) (by rw [f1]; exact k4) (by rw [f1]; exact k5) (by rw [f1]; exact k6) c2 rfl
    fun st => hb c1 c2 f1 e1.step f5 st k1
  refine ⟨c2, e1.trans e2, rfl, ?_, fun x hx => ?_⟩
  · show upd (upd c1.h [(id, none)]) [(id, some b)] = _
    rw [upd_put, f4, ← upd_append]
  · rcases hx with hx | rfl
    · rw [← f3]; exact hx
    · exact hc.used _ _ hid
section
variable {P : Program} {o : Oper} {fr : Nat → Nat} {c : Cx} {a : Act} {r : W}
theorem sound_store_var (hc : RelH c) {x y : Operand} {t : TypeId} {v : V} {id off : Nat} {cells : List S} (ho : o.op = .store t x y) (hx : RelS c (.ptr id 0 off) (a.eval x)) (hv : RelV c v (a.eval y)) (hj : v ≠ .junk)
    {i : TypeInfo} (hi : P.info? t = some i) (hl : (cellsV v).length = i.size) (hid : c.h id = some (.var cells)) (hle : off + (cellsV v).length ≤ cells.length) :
    OpSound P o fr c a (.one .junk) [(id, some (.var (cells.take off ++ cellsV v ++ cells.drop (off + (cellsV v).length))))] := by
  intro K Q hK
  obtain ⟨cs, ty, fz, hcs, hfz, hsz, hcell⟩ := hc.blk id _ hid
  obtain ⟨g1, g2⟩ := cells_rel hv hj
  obtain ⟨c', e, hw, hh, hU⟩ := write_eff (c := c) hc [] (by simp) (by simp) hid (b := .var (cells.take off ++ cellsV v ++ cells.drop (off + (cellsV v).length))) (by simp only [Compat]; simp; omega) hcs ((c.E id).off + off) (a.eval y).cells.toList
    (fun c1 c2 f1 st1 _ st2 hb => by
      refine ⟨_, ty, fz, hb, by rw [size_setRange]; exact hfz, by rw [size_setRange]; simp; omega, ?_⟩
      refine (hcell.imp fun _ _ => RelS.mono (st1.trans st2)).setRange (by simpa using g1) (fun j s hj => ?_) hle hsz
      obtain ⟨u, hu, hr⟩ := g2 j s hj
      exact ⟨u, by simpa using hu, RelS.mono (st1.trans st2) hr⟩)
  have hp : a.eval x = .pointer (some ⟨(c.E id).blk, (c.E id).off + off, none⟩) := by
    have := hx.2.2 _ hid
    rw [this]
    simp
  have hone : ∀ u ∈ (a.eval y).cells, u.oneCell' = true := fun u hu => by
    obtain ⟨j, hj⟩ := Array.getElem?_of_mem hu
    have hlt : j < (cellsV v).length := by rw [← g1]; exact (Array.getElem?_eq_some_iff.1 hj).1
    obtain ⟨u', hu', hr⟩ := g2 j _ (List.getElem?_eq_getElem hlt)
    rw [Nat.zero_add, hj] at hu'
    obtain rfl := Option.some.inj hu'
    exact hr.one
  refine wp_skip (s := Instr.storeAt t (a.eval x) (a.eval y)) (by unfold execOp; rw [ho]) ?_ (hK undef c' e (by simpa using hh) (fun u hu => .inl (hU u hu)) trivial)
  rw [hw, hp]
  simp only [Instr.storeAt, Instr.sureAddr, Sem.run_bind, Sem.run_pure, Result.andThen_ok]
  exact store_run hcs hfz (by simp [Program.cellsOf, hi, g1, hl]) ⟨i, hi⟩ (by rw [g1]; omega) hone
theorem sound_store_arr (hc : RelH c) {x y : Operand} {t : TypeId} {v : V} {id row off k : Nat} {rows : List (List D)} {rr : List D} {ds : List D} {kills : Ups} (ho : o.op = .store t x y) (hx : RelS c (.ptr id row off) (a.eval x)) (hv : RelV c v (a.eval y)) (hj : v ≠ .junk)
    {i : TypeInfo} (hi : P.info? t = some i) (hl : (cellsV v).length = i.size) (hid : c.h id = some (.arr k rows)) (hrow : rows[row]? = some rr) (hle : off + (cellsV v).length ≤ rr.length) (hds : toDs c.h (cellsV v) = some (ds, kills)) (hkn : ∀ x ∈ kills, x.1 ≠ id) :
    OpSound P o fr c a (.one .junk) (kills ++ [(id, some (.arr k (rows.set row (rr.take off ++ ds ++ rr.drop (off + (cellsV v).length)))))]) := by
  intro K Q hK
  obtain ⟨cs, ty, fz, hcs, hfz, hrl, hsz, hcell⟩ := hc.blk id _ hid
  obtain ⟨g1, g2⟩ := cells_rel hv hj
  obtain ⟨d1, d2, d3⟩ := toDs_get _ hds
  have hrowlt : row < rows.length := (List.getElem?_eq_some_iff.1 hrow).1
  obtain ⟨hrk, hrc⟩ := hcell row rr hrow
  have hq : row * k + k ≤ (c.E id).room * k := by
    have := Nat.mul_le_mul_right k (show row + 1 ≤ (c.E id).room by omega)
    rw [Nat.succ_mul] at this; exact this
  obtain ⟨c', e, hw, hh, hU⟩ := write_eff (c := c) hc kills d2 hkn hid (b := .arr k (rows.set row (rr.take off ++ ds ++ rr.drop (off + (cellsV v).length)))) (by simp [Compat, Blk.arrOf]) hcs ((c.E id).off + row * k + off) (a.eval y).cells.toList
    (fun c1 c2 f1 st1 hkN st2 hb => by
      refine ⟨_, ty, fz, hb, by rw [size_setRange]; exact hfz, by simpa using hrl, by rw [size_setRange]; exact hsz, fun j r hj => ?_⟩
      by_cases hjr : j = row
      · subst hjr
        rw [List.getElem?_set_self hrowlt] at hj
        obtain rfl := Option.some.inj hj
        refine ⟨by simp; omega, ?_⟩
        have base : CellsAt (RdD c2.w c2.N) cs ((c.E id).off + j * k) rr := hrc.imp fun _ _ hd => RdD.mono (st1.trans st2).n hd
        rw [← d1] at hle ⊢
        refine base.setRange (by simp; omega) (fun m d hm => ?_) hle (by omega)
        have hml : m < (cellsV v).length := by rw [← d1]; exact (List.getElem?_eq_some_iff.1 hm).1
        obtain ⟨d', u', q1, q2, q3⟩ := d3 m _ (List.getElem?_eq_getElem hml)
        rw [hm] at q1
        obtain rfl := Option.some.inj q1
        obtain ⟨z, hz, hr⟩ := g2 m _ (List.getElem?_eq_getElem hml)
        rw [Nat.zero_add] at hz
        refine ⟨z, by simpa using hz, ?_⟩
        refine RdD.mono st2.n (toD_rel (w' := c1.w) (N' := c1.N) hc (fun g _ => by rw [f1]) (fun g hg => (st1.n g hg).1) q2 hr fun y hy b hb => hkN y (q3 y hy) b hb)
      · rw [List.getElem?_set_ne (Ne.symm hjr)] at hj
        obtain ⟨h1, h2⟩ := hcell j r hj
        refine ⟨h1, fun m d hm => ?_⟩
        obtain ⟨z, hz, hr⟩ := h2 m d hm
        refine ⟨z, ?_, RdD.mono (st1.trans st2).n hr⟩
        rw [setRange_out, hz]
        have hmk : m < k := by rw [← h1]; exact (List.getElem?_eq_some_iff.1 hm).1
        simp only [Array.length_toList, g1]
        rcases Nat.lt_or_gt_of_ne hjr with hlt | hgt
        · left
          have := Nat.mul_le_mul_right k (show j + 1 ≤ row from hlt)
          rw [Nat.succ_mul] at this; omega
        · right
          have := Nat.mul_le_mul_right k (show row + 1 ≤ j from hgt)
          rw [Nat.succ_mul] at this; omega)
  have hp : a.eval x = .pointer (some ⟨(c.E id).blk, (c.E id).off + row * k + off, none⟩) := hx.2.2 _ hid
  have hone : ∀ u ∈ (a.eval y).cells, u.oneCell' = true := fun u hu => by
    obtain ⟨j, hj⟩ := Array.getElem?_of_mem hu
    have hlt : j < (cellsV v).length := by rw [← g1]; exact (Array.getElem?_eq_some_iff.1 hj).1
    obtain ⟨u', hu', hr⟩ := g2 j _ (List.getElem?_eq_getElem hlt)
    rw [Nat.zero_add, hj] at hu'
    obtain rfl := Option.some.inj hu'
    exact hr.one
  refine wp_skip (s := Instr.storeAt t (a.eval x) (a.eval y)) (by unfold execOp; rw [ho]) ?_ (hK undef c' e hh (fun u hu => .inl (hU u hu)) trivial)
  rw [hw, hp]
  simp only [Instr.storeAt, Instr.sureAddr, Sem.run_bind, Sem.run_pure, Result.andThen_ok]
  exact store_run hcs hfz (by simp [Program.cellsOf, hi, g1, hl]) ⟨i, hi⟩ (by rw [g1]; omega) hone
end
end Go.Vsi
