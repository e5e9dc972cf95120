/- Its operations keep what they mean. -/
import Derived.Test.YtgphmleklcicaaaV1
import Derived.Laws.IdiomStrings
set_option linter.unusedVariables false
set_option linter.unusedSimpArgs false
namespace Go.Vsi
theorem intV_eq {c : Cx} {v : V} {x : Value} {n : Int} (h : intV v = some n) (hr : RelV c v x) : ∃ k, x = .int k n := by
  unfold intV at h
  split at h
  · rename_i k m
    obtain rfl := Option.some.inj h
    cases hr with
    | v hp => exact ⟨k, rfl⟩
  · cases h
theorem elemT_eq {P : Program} {t e : TypeId} (h : elemT P t = some e) : P.underlying t = some (.slice e) := by
  unfold elemT at h
  split at h
  · rename_i e' hu
    obtain rfl := Option.some.inj h
    exact hu
  · cases h
theorem wrap_id (n : Int) (h0 : 0 ≤ n) (h1 : n ≤ 70368744177664) : IntKind.i64.wrap n = n := by
  have e1 : n % 18446744073709551616 = n := Int.emod_eq_of_lt h0 (by omega)
  show (if (IntKind.i64.signed && decide (n % 2 ^ IntKind.i64.bits ≥ 2 ^ (IntKind.i64.bits - 1))) = true then _ else _) = n
  have e2 : (2 : Int) ^ IntKind.i64.bits = 18446744073709551616 := rfl
  have e3 : (2 : Int) ^ (IntKind.i64.bits - 1) = 9223372036854775808 := rfl
  rw [e2, e3, e1, if_neg]
  simp
  omega
section
variable {P : Program} {o : Oper} {fr : Nat → Nat} {c : Cx} {a : Act} {r : W}
theorem sound_makeSlice (hc : RelH c) (hfr : ¬ c.U (fr 0)) {x y : Operand} {t e : TypeId} {vx vy : V} {n m : Int} {z : List S} {row : List D} (ho : o.op = .makeSlice t x y) (hu : elemT P t = some e)
    (hx : RelV c vx (a.eval x)) (hxn : intV vx = some n) (hy : RelV c vy (a.eval y)) (hyn : intV vy = some m) (hz : zeroCells P e = some z) (h0 : 0 ≤ n) (h1 : n ≤ m) (h2 : m * P.bytesOf e ≤ room) (h3 : m ≤ room)
    (hzk : z.length = P.cellsOf e) (hrow : toDs c.h z = some (row, [])) :
    OpSound P o fr c a (one (.arr (fr 0) 0 n.toNat)) [(fr 0, some (.arr (P.cellsOf e) (List.replicate n.toNat row)))] := by
  obtain ⟨i, v, hi, hv, hl, hcell⟩ := zeroCells_spec hz
  have hik : i.size = P.cellsOf e := by simp [Program.cellsOf, hi]
  have hib : P.bytesOf e = i.bytes := by simp [Program.bytesOf, hi]
  obtain ⟨kx, ex⟩ := intV_eq hxn hx
  obtain ⟨ky, ey⟩ := intV_eq hyn hy
  obtain ⟨q1, q2⟩ := zeros_rel (c := c) hzk hl (hcell c) m.toNat _ rfl
  refine sound_new (kills := []) hc hfr (s := Instr.makeSlice t (a.eval x) (a.eval y)) (by unfold execOp; rw [ho]) (v := .slice (some ⟨c.w.heap.size, 0, none⟩) n.toNat m.toNat)
    (w' := { c.w with heap := c.w.heap.push (.cells ((Array.range (m.toNat * P.cellsOf e)).map (v.cells[· % v.cells.size]!)) e) }) ?_ rfl rfl rfl rfl (by simp) (.arr (P.cellsOf e) (List.replicate n.toNat row)) ⟨c.w.heap.size, 0, m.toNat⟩ rfl ?_ ?_
  · rw [ex, ey]
    have w1 := wrap_id n h0 (by simp only [room] at h3; omega)
    have w2 := wrap_id m (by omega) (by simp only [room] at h3; omega)
    rw [hib] at h2
    have h2' : ¬ (281474976710656 < (i.bytes : Int) * m) := by
      rw [Int.mul_comm]; simp only [room] at h2; omega
    have hm0 : ¬ m < 0 := by omega
    have hn0 : ¬ n < 0 := by omega
    have hnm : ¬ m < n := by omega
    unfold Instr.makeSlice
    simp only [Sem.run_bind, run_underlying (elemT_eq hu), Result.andThen_ok, asInt, asIntOf, Sem.run_pure, typeInfo, run_program, hi, w1, w2]
    by_cases hz0 : m.toNat * i.size = 0
    · have e0 : (Array.map (fun x => (#[] : Array Value)[x % (#[] : Array Value).size]!) (Array.range (m.toNat * i.size))) = (Array.range (m.toNat * P.cellsOf e)).map (v.cells[· % v.cells.size]!) := by rw [← hik, hz0]; simp
      simp [h2', hm0, hn0, hnm, sizeOf, typeInfo, hi, hz0, newRow, ← hik]
      congr 2
      simp
    · simp [h2', hm0, hn0, hnm, sizeOf, typeInfo, hi, hz0, newRow, zeroValue, hv, ← hik]
  · intro c' hw st _ _
    obtain ⟨d1, d2, d3⟩ := toDs_get _ hrow
    refine ⟨(Array.range (m.toNat * P.cellsOf e)).map (v.cells[· % v.cells.size]!), e, (0, 0), by rw [hw]; simp, unfrozen0 _, by simp; omega, by simp, fun j r hj => ?_⟩
    have hjn : j < n.toNat := by
      have := (List.getElem?_eq_some_iff.1 hj).1
      simpa using this
    obtain rfl : row = r := by
      rw [List.getElem?_replicate, if_pos hjn] at hj
      exact Option.some.inj hj
    refine ⟨by rw [d1, hzk], fun k d hk => ?_⟩
    have hkl : k < z.length := by rw [← d1]; exact (List.getElem?_eq_some_iff.1 hk).1
    obtain ⟨d', u', g1, g2, g3⟩ := d3 k _ (List.getElem?_eq_getElem hkl)
    rw [hk] at g1
    obtain rfl := Option.some.inj g1
    have hlt : j * P.cellsOf e + k < m.toNat * P.cellsOf e := by
      have := Nat.mul_le_mul_right (P.cellsOf e) (show j + 1 ≤ m.toNat by omega)
      rw [Nat.succ_mul] at this
      omega
    have hf : ((List.replicate m.toNat z).flatten)[j * P.cellsOf e + k]? = some z[k] := by
      rw [flat_get z _ _ (by omega), hzk, if_pos hlt, Nat.mul_comm, Nat.mul_add_mod, Nat.mod_eq_of_lt (by omega)]
      simp [hkl]
    obtain ⟨u, hu', hr⟩ := q2 _ _ hf
    refine ⟨u, by rw [← hu']; congr 1; show 0 + _ + _ = _; omega, ?_⟩
    exact toD_rel (w' := c'.w) (N' := c'.N) hc (fun g hg => by
      rw [hw]
      show (c.w.heap.push _)[g]? = _
      rw [Array.getElem?_push, if_neg]
      rcases hg with hg | ⟨id, b, hid, rfl⟩
      · have := hc.low g hg; omega
      · obtain ⟨cs, ty, fz, hb, _⟩ := hc.blk id b hid
        have := (Array.getElem?_eq_some_iff.1 hb).1
        omega) (fun g hg => (st.n g hg).1) g2 hr (fun y hy => by
          have := g3 y hy
          simp at this)
  · intro c' _ _ hh hE hU
    refine arr_rel hh hE hU (by simp) (by omega) (Nat.le_refl _) rfl
theorem boundsA_spec {n : Nat} {lo hi : Option V} {l h : Nat} (hb : boundsA n lo hi = some (l, h)) : l ≤ h ∧ h ≤ n ∧ (∀ v, lo = some v → intV v = some (l : Int)) ∧ (lo = none → l = 0) ∧ (∀ v, hi = some v → intV v = some (h : Int)) ∧ (hi = none → h = n) := by
  unfold boundsA at hb
  split at hb
  · cases hb
  · rename_i H hH
    split at hb
    · cases hb
    · rename_i L hL
      split at hb
      · rename_i hd
        simp only [Bool.and_eq_true, decide_eq_true_eq] at hd
        obtain ⟨rfl, rfl⟩ := Prod.mk.inj (Option.some.inj hb)
        refine ⟨by omega, by omega, ?_, ?_, ?_, ?_⟩
        · rintro v rfl; simp only at hL; rw [hL]; congr 1; omega
        · rintro rfl; simp at hL; omega
        · rintro v rfl; simp only at hH; rw [hH]; congr 1; omega
        · rintro rfl; simp at hH; omega
      · cases hb
theorem bounds_run {c : Cx} {a : Act} {isSl : Bool} {n cap : Nat} {lo hi : Option Operand} {ev : Operand → V} (hev : ∀ x, RelV c (ev x) (a.eval x)) {l h : Nat} (hb : boundsA n (lo.map ev) (hi.map ev) = some (l, h)) (hn : n ≤ cap) (w : World) :
    (Instr.sliceBounds isSl n cap (lo.map a.eval) (hi.map a.eval) none).run P w = .ok (l, h, cap) w := by
  obtain ⟨h1, h2, h3, h4, h5, h6⟩ := boundsA_spec hb
  have hlo : ∀ v, lo = some v → ∃ k, a.eval v = .int k l := fun v hv => intV_eq (h3 _ (by rw [hv]; rfl)) (hev v)
  have hhi : ∀ v, hi = some v → ∃ k, a.eval v = .int k h := fun v hv => intV_eq (h5 _ (by rw [hv]; rfl)) (hev v)
  cases lo with
  | none =>
    obtain rfl := h4 rfl
    cases hi with
    | none =>
      obtain rfl := h6 rfl
      simp [Instr.sliceBounds]
    | some y =>
      obtain ⟨k, hk⟩ := hhi y rfl
      simp [Instr.sliceBounds, Instr.sliceBound, asIntOf, hk, show h ≤ cap by omega]
  | some x =>
    obtain ⟨k, hk⟩ := hlo x rfl
    cases hi with
    | none =>
      obtain rfl := h6 rfl
      simp [Instr.sliceBounds, Instr.sliceBound, asIntOf, hk, h1]
    | some y =>
      obtain ⟨k', hk'⟩ := hhi y rfl
      simp [Instr.sliceBounds, Instr.sliceBound, asIntOf, hk, hk', show h ≤ cap by omega, h1]
theorem sound_slice (hc : RelH c) {x : Operand} {lo hi : Option Operand} {t : TypeId} {ev : Operand → V} (hev : ∀ x, RelV c (ev x) (a.eval x)) (ho : o.op = .slice t x lo hi none) (h : sliceA P c.h t (ev x) (lo.map ev) (hi.map ev) = some r) : OpSound P o fr c a r [] := by
  have hx := hev x
  have hex : execOp a.eval o = (do pure (.value (← Instr.sliceAt t (a.eval x) (lo.map a.eval) (hi.map a.eval) none))) := by unfold execOp; rw [ho]; rfl
  unfold sliceA at h
  split at h
  · rename_i s hs
    rw [hs] at hx
    have hx' := toVal_eq (c := c) (s := .c (.d (.v (.string s)))) (v := a.eval x) rfl hx
    split at h
    · rename_i hu
      split at h
      · rename_i l m hb
        obtain rfl := Option.some.inj h
        refine sound_same hc hex (v := .string (s.extract l m)) ?_ (.v rfl)
        have := bounds_run (P := P) (isSl := false) (cap := s.size) hev hb (Nat.le_refl _) c.w
        rw [hx']
        simp [Instr.sliceAt, Instr.slice, run_underlying hu, this]
      · cases h
    · cases h
  · rename_i id off len hs
    rw [hs] at hx
    split at h
    · rename_i e k rows he hid
      split at h
      · rename_i l m i hb hi
        split at h
        · rename_i hk
          have hk := Nat.eq_of_beq_eq_true hk
          obtain rfl := Option.some.inj h
          obtain ⟨_, hU, hx3⟩ := hx
          obtain ⟨k', rows', heq, hle, ad, cap, hv, hlc, hrm, had⟩ := hx3 _ hid
          simp only [Blk.arrOf, Option.some.injEq, Prod.mk.injEq] at heq
          obtain ⟨rfl, rfl⟩ := heq
          obtain ⟨b1, b2, _⟩ := boundsA_spec hb
          have := bounds_run (P := P) (isSl := true) (cap := cap) hev hb hlc c.w
          refine sound_same hc hex (v := .slice (if cap = l then ad else ad.map (·.add (l * i.size))) (m - l) (cap - l)) ?_ ⟨rfl, hU, fun b hb' => ?_⟩
          · rw [hv]
            simp [Instr.sliceAt, Instr.slice, run_underlying (elemT_eq he), this, sizeOf, typeInfo, hi]
          · rw [hid] at hb'
            obtain rfl := Option.some.inj hb'
            refine ⟨k, rows.length, rfl, by omega, _, _, rfl, by omega, by omega, ?_⟩
            by_cases hcl : cap = l
            · left; omega
            · right
              have hcap : ¬ cap = 0 := by omega
              rw [had.resolve_left hcap, if_neg hcl]
              simp only [Option.map_some, addr_add, Option.some.injEq, Addr.mk.injEq, and_true, true_and]
              rw [← hk, Nat.add_mul]
              omega
        · cases h
      · cases h
    · cases h
  · rename_i k rows hs
    rw [hs] at hx
    split at h
    · rename_i e he
      split at h
      · rename_i l m i hb hi
        split at h
        · rename_i hk
          have hk := Nat.eq_of_beq_eq_true hk
          obtain rfl := Option.some.inj h
          obtain ⟨b1, b2, _⟩ := boundsA_spec hb
          have hx' : RdD c.w c.N (.sl k rows) (a.eval x) := hx
          generalize hq : a.eval x = vx at hx'
          cases hx' with
          | @nil _ ad cp =>
            simp at b2
            obtain rfl : m = 0 := b2
            obtain rfl : l = 0 := by omega
            have := bounds_run (P := P) (isSl := true) (cap := cp) hev hb (by simp) c.w
            refine sound_same hc hex (v := .slice (if cp = 0 then ad else ad.map (·.add 0)) 0 cp) ?_ ?_
            · rw [hq]
              simp at this
              simp [Instr.sliceAt, Instr.slice, run_underlying (elemT_eq he), this, sizeOf, typeInfo, hi]
            · simp only [List.drop_nil, List.take_nil]
              exact RdD.nil
          | @sl _ _ b q cp val hlc hN hcell hval =>
            have := bounds_run (P := P) (isSl := true) (cap := cp) hev hb hlc c.w
            refine sound_same hc hex (v := .slice (if cp = l then some ⟨b, q, none⟩ else some ⟨b, q + l * k, none⟩) (m - l) (cp - l)) ?_ ?_
            · rw [hq]
              simp [Instr.sliceAt, Instr.slice, run_underlying (elemT_eq he), this, sizeOf, typeInfo, hi, hk, addr_add]
            · have hlen : ((rows.drop l).take (m - l)).length = m - l := by simp; omega
              by_cases hcl : cp = l
              · have e0 : (rows.drop l).take (m - l) = [] := by rw [List.eq_nil_iff_length_eq_zero, hlen]; omega
                have e1 : m - l = 0 := by omega
                rw [e0, e1]
                exact RdD.nil
              · rw [if_neg hcl]
                have hget : ∀ j r, ((rows.drop l).take (m - l))[j]? = some r → rows[l + j]? = some r := fun j r hj => by
                  rw [List.getElem?_take] at hj
                  split at hj
                  · rwa [List.getElem?_drop] at hj
                  · cases hj
                have key : RdD c.w c.N (.sl k ((rows.drop l).take (m - l))) (.slice (some ⟨b, q + l * k, none⟩) ((rows.drop l).take (m - l)).length (cp - l)) := by
                  refine .sl (fun j u => val (l + j) u) (by omega) hN (fun j r hj => ?_) (fun j r u d hj hd => hval _ r u d (hget j r hj) hd)
                  obtain ⟨g1, g2⟩ := hcell _ r (hget j r hj)
                  refine ⟨g1, fun u hu => ?_⟩
                  rw [← g2 u hu]
                  congr 2
                  rw [Nat.add_mul]
                  omega
                rw [hlen] at key
                exact key
        · cases h
      · cases h
    · cases h
  · rename_i hs
    rw [hs] at hx
    have hx' := toVal_eq (c := c) (s := .c (.d (.v (.slice none 0 0)))) (v := a.eval x) rfl hx
    split at h
    · rename_i e he
      split at h
      · rename_i lm i hb hi
        obtain ⟨l, m⟩ := lm
        obtain rfl := Option.some.inj h
        obtain ⟨b1, b2, _⟩ := boundsA_spec hb
        obtain rfl : m = 0 := by omega
        obtain rfl : l = 0 := by omega
        have := bounds_run (P := P) (isSl := true) (cap := 0) hev hb (Nat.le_refl _) c.w
        refine sound_same hc hex (v := .slice none 0 0) ?_ (.v rfl)
        rw [hx']
        simp [Instr.sliceAt, Instr.slice, run_underlying (elemT_eq he), this, sizeOf, typeInfo, hi]
      · cases h
    · cases h
  · cases h
theorem sound_makeFunc (hc : RelH c) {f : FuncId} {cap : Array Operand} {ids : List Nat} {ev : Operand → V} (hev : ∀ x, RelV c (ev x) (a.eval x)) (ho : o.op = .makeFunc (.func f) #[] cap) (h : (cap.toList.map ev).mapM capPtr = some ids) : OpSound P o fr c a (one (.fn f ids)) [] := by
  refine sound_same hc (s := Instr.makeFunc (.func f) #[] (cap.map a.eval)) (v := .func (.func f) #[] (cap.map a.eval)) (by unfold execOp; rw [ho]; simp) rfl ?_
  have key : ∀ (l : List Operand) (ids : List Nat), (l.map ev).mapM capPtr = some ids → l.length = ids.length ∧ ∀ (i id : Nat), ids[i]? = some id → ∃ x, l[i]? = some x ∧ ev x = .c (.ptr id 0 0) := by
    intro l
    induction l with
    | nil => intro ids h; simp at h; subst h; simp
    | cons x r ih =>
      intro ids h
      simp only [List.map_cons, List.mapM_cons] at h
      cases hx : capPtr (ev x) with
      | none => simp [hx] at h
      | some id =>
        cases hr : (r.map ev).mapM capPtr with
        | none => simp [hx, hr] at h
        | some ids' =>
          simp [hx, hr] at h
          subst h
          obtain ⟨h1, h2⟩ := ih ids' hr
          refine ⟨by simp [h1], fun i j hj => ?_⟩
          cases i with
          | zero =>
            simp at hj; subst hj
            refine ⟨x, rfl, ?_⟩
            unfold capPtr at hx
            split at hx
            · rename_i id' he; obtain rfl := Option.some.inj hx; exact he
            · cases hx
          | succ i => exact h2 i j (by simpa using hj)
  obtain ⟨k1, k2⟩ := key _ _ h
  refine ⟨_, rfl, by simp [← k1], fun i id hi => ?_⟩
  obtain ⟨x, hx, he⟩ := k2 i id hi
  have hr := hev x
  rw [he] at hr
  obtain ⟨h1, h2, h3⟩ := hr
  refine ⟨h2, a.eval x, ?_, h1, fun b hb => ?_⟩
  · rw [Array.getElem?_map]
    have : cap[i]? = some x := by simpa using hx
    rw [this]; rfl
  · rw [h3 b hb]; simp
theorem builtin_exec {b : Builtin} {args : Array Operand} {ts : Array TypeId} {s : Sem Value} {c0 : Go.Call} (ho : o.op = .call c0) (hb : c0.callee = .builtin b) (ha : c0.args = args) (ht : c0.argTypes = ts) (hs : ∀ consts, builtin b ts o.type consts (args.map a.eval) = (do pure (.value (← s)))) :
    execOp a.eval o = (do pure (.value (← s))) := by
  unfold execOp
  rw [ho]
  simp only [resolve, hb, ha, ht]
  exact hs _
theorem sliceLen_val {c : Cx} {v : V} {x : Value} {n : Nat} (h : sliceLen c.h v = some n) (hr : RelV c v x) : ∃ ad cp, x = .slice ad n cp := by
  unfold sliceLen at h
  split at h
  · rename_i id off len
    split at h
    · rename_i b hb
      obtain rfl := Option.some.inj h
      obtain ⟨_, _, h3⟩ := hr
      obtain ⟨_, _, _, _, ad, cp, hv, _⟩ := h3 _ hb
      exact ⟨ad, cp, hv⟩
    · cases h
  · obtain rfl := Option.some.inj h
    cases hr with
    | nil => exact ⟨_, _, rfl⟩
    | sl => exact ⟨_, _, rfl⟩
  · obtain rfl := Option.some.inj h
    cases hr
    exact ⟨_, _, rfl⟩
  · cases h
theorem sound_len (hc : RelH c) {x : Operand} {v : V} {n : Nat} {t e : TypeId} {ts : Array TypeId} {c0 : Go.Call} (ho : o.op = .call c0) (hb : c0.callee = .builtin .len) (ha : c0.args.toList = [x]) (ht : c0.argTypes = ts) (ht0 : ts[0]? = some t) (he : elemT P t = some e)
    (hv : RelV c v (a.eval x)) (hn : sliceLen c.h v = some n) : OpSound P o fr c a (one (.d (.v (.int .i64 n)))) [] := by
  obtain ⟨ad, cp, hx⟩ := sliceLen_val hn hv
  have ha' : c0.args = #[x] := by apply Array.ext'; simpa using ha
  refine sound_same hc (s := Builtin.len_ ts o.type (#[x].map a.eval)) (v := .int .i64 n) (builtin_exec ho hb ha' ht fun _ => rfl) ?_ (.v rfl)
  simp [Builtin.len_, ht0, hx, run_underlying (elemT_eq he), goInt]
end
end Go.Vsi
namespace Go.Vsi
def RowsIn (c : Cx) (k : Nat) (rows : List (List D)) (vs : List Value) : Prop :=
  vs.length = rows.length * k ∧ ∀ i r, rows[i]? = some r → r.length = k ∧ ∀ j d, r[j]? = some d → ∃ u, vs[i * k + j]? = some u ∧ RdD c.w c.N d u
theorem rows_flat {c : Cx} {k : Nat} {rows : List (List D)} (get : Nat → Value) (h : ∀ i r, rows[i]? = some r → r.length = k ∧ ∀ j d, r[j]? = some d → RdD c.w c.N d (get (i * k + j))) :
    RowsIn c k rows ((List.range (rows.length * k)).map get) := by
  refine ⟨by simp, fun i r hr => ⟨(h i r hr).1, fun j d hj => ⟨get (i * k + j), ?_, (h i r hr).2 j d hj⟩⟩⟩
  have h1 : j < k := by rw [← (h i r hr).1]; exact (List.getElem?_eq_some_iff.1 hj).1
  have h2 : i < rows.length := (List.getElem?_eq_some_iff.1 hr).1
  have h3 := Nat.mul_le_mul_right k (show i + 1 ≤ rows.length from h2)
  rw [Nat.succ_mul] at h3
  rw [List.getElem?_map, List.getElem?_range (by omega)]
  rfl
section
variable {P : Program} {o : Oper} {fr : Nat → Nat} {c : Cx} {a : Act} {r : W}
theorem cells_run (hc : RelH c) {v : V} {x : Value} {rows : List (List D)} {k : Nat} (h : sliceRows c.h v = some rows) (hr : RelV c v x) (hk : ∀ r ∈ rows, r.length = k) :
    ∃ vs, RowsIn c k rows vs ∧ (∀ w, (Builtin.lenOf x).run P w = .ok rows.length w) ∧ (∀ w' : World, w'.heap = c.w.heap → (Builtin.firstCells k rows.length x).run P w' = .ok vs.toArray w') := by
  have hkk : ∀ (i : Nat) (r : List D), rows[i]? = some r → r.length = k := fun i r hr => hk r (List.mem_of_getElem? hr)
  have split_ix : ∀ (n j : Nat), j < n * k → j / k < n ∧ j % k < k ∧ j / k * k + j % k = j := fun n j hj => by
    have h0 : 0 < k := by
      rcases Nat.eq_zero_or_pos k with e | e
      · rw [e] at hj; simp at hj
      · exact e
    refine ⟨Nat.div_lt_of_lt_mul (by rw [Nat.mul_comm]; exact hj), Nat.mod_lt _ h0, ?_⟩
    rw [Nat.mul_comm]
    exact Nat.div_add_mod j k
  have from_cells : ∀ (n b q cap : Nat) (get : Nat → Value), n = rows.length → (∀ i r, rows[i]? = some r → ∀ j, j < k → c.w.cell? ⟨b, q + i * k + j, none⟩ = some (get (i * k + j))) → ∀ w' : World, w'.heap = c.w.heap →
      (Builtin.firstCells k rows.length (.slice (some ⟨b, q, none⟩) n cap)).run P w' = .ok ((List.range (rows.length * k)).map get).toArray w' := by
    intro n b q cap get hn hg w' hw
    refine run_firstCells_some (P := P) w' k rows.length ⟨b, q, none⟩ n cap _ (by simp) fun j u hj => ?_
    have hlt : j < rows.length * k := by
      have := (List.getElem?_eq_some_iff.1 hj).1
      simpa using this
    rw [List.getElem?_map, List.getElem?_range hlt] at hj
    obtain rfl := Option.some.inj hj
    obtain ⟨g1, g2, g3⟩ := split_ix _ _ hlt
    have := hg (j / k) _ (List.getElem?_eq_getElem g1) (j % k) g2
    rw [g3] at this
    rw [addr_add, show q + j = q + j / k * k + j % k by omega, cell_same (w := c.w) (by rw [hw])]
    exact this
  unfold sliceRows at h
  split at h
  · rename_i id off len
    split at h
    · rename_i k' R hid
      obtain rfl := Option.some.inj h
      obtain ⟨_, _, h3⟩ := hr
      obtain ⟨_, _, heq, hle, ad, cap, hv, hlc, hrm, had⟩ := h3 _ hid
      simp only [Blk.arrOf, Option.some.injEq, Prod.mk.injEq] at heq
      obtain ⟨rfl, rfl⟩ := heq
      obtain ⟨cs, ty, fz, hcs, _, hrl, hsz, hcell⟩ := hc.blk id _ hid
      have hlen : ((R.drop off).take len).length = len := by simp; omega
      have hget : ∀ i r, ((R.drop off).take len)[i]? = some r → R[off + i]? = some r := fun i r hi => by
        rw [List.getElem?_take] at hi
        split at hi
        · rwa [List.getElem?_drop] at hi
        · cases hi
      have hkeq : ∀ i r, ((R.drop off).take len)[i]? = some r → k = k' := fun i r hi => by
        rw [← hkk i r hi, (hcell _ r (hget i r hi)).1]
      have hmain := rows_flat (c := c) (rows := (R.drop off).take len) (k := k) (fun m => (cs[(c.E id).off + off * k' + m]?).getD undef) (fun i r hi => ⟨hkk i r hi, fun j d hd => by
        obtain ⟨_, h2⟩ := hcell _ r (hget i r hi)
        obtain ⟨u, hu, hrel⟩ := h2 j d hd
        have e : (c.E id).off + (off + i) * k' + j = (c.E id).off + off * k' + (i * k + j) := by rw [hkeq i r hi, Nat.add_mul]; omega
        rw [e] at hu
        show RdD c.w c.N d ((cs[(c.E id).off + off * k' + (i * k + j)]?).getD undef)
        rw [hu]; exact hrel⟩)
      refine ⟨_, hmain, fun w => by rw [hv, hlen]; simp [Builtin.lenOf], fun w' hw => ?_⟩
      rw [hv]
      by_cases h0 : cap = 0
      · have hl0 : ((R.drop off).take len).length = 0 := by rw [hlen]; omega
        rw [hl0]
        cases ad with
        | none => simp [Builtin.firstCells]
        | some ad => simp [Builtin.firstCells, loadCells, loadCellsFrom]
      · rw [had.resolve_left h0]
        refine from_cells _ _ _ _ _ hlen.symm (fun i r hi j hj => ?_) w' hw
        obtain ⟨h1, h2⟩ := hcell _ r (hget i r hi)
        have hjr : j < r.length := by rw [hkk i r hi]; exact hj
        obtain ⟨u, hu, _⟩ := h2 j _ (List.getElem?_eq_getElem hjr)
        have e : (c.E id).off + (off + i) * k' + j = (c.E id).off + off * k' + (i * k + j) := by rw [hkeq i r hi, Nat.add_mul]; omega
        rw [e] at hu
        rw [cell_of_row c.w _ _ cs ty fz hcs, Nat.add_assoc, hu]
        rfl
    · cases h
  · rename_i k' R
    obtain rfl := Option.some.inj h
    have hr' : RdD c.w c.N (.sl k' R) x := hr
    cases hr' with
    | @nil _ ad cp =>
      refine ⟨[], ⟨by simp, by simp⟩, fun w => by simp [Builtin.lenOf], fun w' _ => ?_⟩
      cases ad with
      | none => simp [Builtin.firstCells]
      | some ad => simp [Builtin.firstCells, loadCells, loadCellsFrom]
    | @sl _ _ b q cp val hlc hN hcell hval =>
      have hkeq : ∀ i r, R[i]? = some r → k = k' := fun i r hi => by rw [← hkk i r hi, (hcell i r hi).1]
      have hval' : ∀ i r, R[i]? = some r → ∀ j, j < k → val ((i * k + j) / k) ((i * k + j) % k) = val i j := fun i r _ j hj => by
        rw [Nat.mul_comm, Nat.mul_add_div (by omega), Nat.mul_add_mod, Nat.mod_eq_of_lt hj, Nat.div_eq_of_lt hj, Nat.add_zero]
      refine ⟨_, rows_flat (fun m => val (m / k) (m % k)) (fun i r hi => ⟨hkk i r hi, fun j d hd => ?_⟩), fun w => by simp [Builtin.lenOf], fun w' hw => from_cells _ _ _ _ _ rfl (fun i r hi j hj => ?_) w' hw⟩
      · have hjk : j < k := by rw [← hkk i r hi]; exact (List.getElem?_eq_some_iff.1 hd).1
        rw [hval' i r hi j hjk]
        exact hval i r j d hi hd
      · rw [hval' i r hi j hj]
        have := (hcell i r hi).2 j (by rw [← hkeq i r hi]; exact hj)
        rw [← hkeq i r hi] at this
        exact this
  · obtain rfl := Option.some.inj h
    cases hr
    exact ⟨[], ⟨by simp, by simp⟩, fun w => by simp [Builtin.lenOf], fun w' _ => by simp [Builtin.firstCells]⟩
  · rename_i s
    obtain rfl := Option.some.inj h
    have hx := toVal_eq (c := c) (s := .c (.d (.v (.string s)))) (v := x) rfl hr
    subst hx
    have hsz : s.data.toList.length = s.size := rfl
    refine ⟨s.data.toList.map fun b => .int .u8 b.toNat, ⟨?_, ?_⟩, fun w => ?_, fun w' _ => ?_⟩
    · by_cases h0 : s.data.toList = []
      · simp [h0]
      · obtain ⟨b, rest, hb⟩ := List.exists_cons_of_ne_nil h0
        have : k = 1 := by
          have := hk [.v (.int .u8 b.toNat)] (by rw [hb]; simp)
          simpa using this.symm
        subst this
        simp
    · intro i r hi
      rw [List.getElem?_map] at hi
      cases hq : s.data.toList[i]? with
      | none => simp [hq] at hi
      | some b =>
        have hmem : [D.v (.int .u8 b.toNat)] ∈ s.data.toList.map fun b => [D.v (.int .u8 b.toNat)] := List.mem_map.2 ⟨b, List.mem_of_getElem? hq, rfl⟩
        have hk1 : k = 1 := by have := hk _ hmem; simpa using this.symm
        subst hk1
        simp only [hq, Option.map_some, Option.some.injEq] at hi
        subst hi
        refine ⟨rfl, fun j d hj => ?_⟩
        cases j with
        | succ j => simp at hj
        | zero =>
          simp at hj
          subst hj
          exact ⟨.int .u8 b.toNat, by simp [hq], .v rfl⟩
    · simp only [List.length_map, hsz]
      simp [Builtin.lenOf]
    · simp only [List.length_map, hsz, Builtin.firstCells]
      have : s.extract 0 s.size = s := by
        have := ByteArray.extract_zero_size (b := s)
        exact this
      rw [this, Sem.run_pure]
      congr 1
      apply Array.ext'
      simp
  · cases h
theorem append_room {ts : Array TypeId} {ty t u e : TypeId} {i : TypeInfo} {d : TypeDesc} {base : Option Addr} {n cap m : Nat} {x : Value} {news : List Value} {w w' : World} (h0 : ts[0]? = some t) (h1 : ts[1]? = some u) (ht : P.underlying t = some (.slice e)) (hu : P.underlying u = some d) (hd : (∃ q, d = .slice q) ∨ d = .string) (hi : P.info? e = some i)
    (hl : (Builtin.lenOf x).run P w = .ok m w) (hf : (Builtin.firstCells i.size m x).run P w = .ok news.toArray w) (hfit : n + m ≤ cap)
    (hst : match base with | some ad => (storeCells (ad.add (n * i.size)) news).run P w = .ok () w' | none => w' = w) :
    (Builtin.append_ ts ty #[.slice base n cap, x]).run P w = .ok (.slice base (n + m) cap) w' := by
  cases base with
  | none =>
    subst hst
    rcases hd with ⟨q, rfl⟩ | rfl <;> simp [Builtin.append_, h0, h1, run_underlying ht, run_underlying hu, sizeOf, typeInfo, hi, hl, hf, hfit]
  | some ad =>
    simp only at hst
    rcases hd with ⟨q, rfl⟩ | rfl <;> simp [Builtin.append_, h0, h1, run_underlying ht, run_underlying hu, sizeOf, typeInfo, hi, hl, hf, hfit, hst]
theorem append_grow {ts : Array TypeId} {ty t u e : TypeId} {i : TypeInfo} {z : Value} {d : TypeDesc} {base : Option Addr} {n cap m : Nat} {x : Value} {olds news : List Value} {w : World} (h0 : ts[0]? = some t) (h1 : ts[1]? = some u) (ht : P.underlying t = some (.slice e)) (hu : P.underlying u = some d) (hd : (∃ q, d = .slice q) ∨ d = .string) (hi : P.info? e = some i) (hz : i.zero = some z)
    (hl : (Builtin.lenOf x).run P w = .ok m w) (ho : (Builtin.firstCells i.size n (.slice base n cap)).run P w.drew = .ok olds.toArray w.drew) (hf : (Builtin.firstCells i.size m x).run P w.drew = .ok news.toArray w.drew) (hg : cap < n + m) (h63 : n + m ≤ room) (h48 : (n + m) * i.bytes ≤ room) :
    (Builtin.append_ ts ty #[.slice base n cap, x]).run P w = .ok (.slice (some ⟨w.heap.size, 0, none⟩) (n + m) (grownCap w (n + m) cap e)) (w.drew.alloc (.cells (olds.toArray ++ news.toArray ++ Builtin.zeroCells z.cells (grownCap w (n + m) cap e - (n + m))) e)) := by
  have hn : ¬ (n + m ≤ cap) := by omega
  have h63' : ¬ (9223372036854775807 < ((n : Int) + (m : Int))) := by simp only [room] at h63; omega
  have h48' : ¬ (281474976710656 < Builtin.nextslicecap (n + m) cap * i.bytes) := by
    have := growslice_fits (old := cap) (need := n + m) (bytes := i.bytes) hg (by simp only [room] at h48; omega)
    omega
  rcases hd with ⟨q, rfl⟩ | rfl
  all_goals
    simp [Builtin.append_, h0, h1, run_underlying ht, run_underlying hu, sizeOf, typeInfo, zeroValue, hi, hz, hl, hn, h63', h48', Question.forced, hf, ho, newRow, grownCap]
    congr 2
    apply Array.ext'
    simp [List.append_assoc]
theorem RowsIn.get {k : Nat} {rows : List (List D)} {vs : List Value} (h : RowsIn c k rows vs) : ∀ i r, rows[i]? = some r → r.length = k ∧ CellsAt (RdD c.w c.N) vs.toArray (i * k) r :=
  fun i r hi => ⟨(h.2 i r hi).1, fun j d hj => by
    obtain ⟨u, hu, hr⟩ := (h.2 i r hi).2 j d hj
    exact ⟨u, by simpa using hu, hr⟩⟩
theorem RowsIn.app {k : Nat} {rows rows' : List (List D)} {vs vs' : List Value} (h : RowsIn c k rows vs) (h' : RowsIn c k rows' vs') : RowsIn c k (rows ++ rows') (vs ++ vs') := by
  refine ⟨by rw [List.length_append, List.length_append, h.1, h'.1, Nat.add_mul], fun i r hi => ?_⟩
  by_cases hl : i < rows.length
  · rw [List.getElem?_append_left hl] at hi
    refine ⟨(h.2 i r hi).1, fun j d hj => ?_⟩
    obtain ⟨u, hu, hr⟩ := (h.2 i r hi).2 j d hj
    exact ⟨u, by rw [List.getElem?_append_left (List.getElem?_eq_some_iff.1 hu).1]; exact hu, hr⟩
  · rw [List.getElem?_append_right (by omega)] at hi
    refine ⟨(h'.2 _ r hi).1, fun j d hj => ?_⟩
    obtain ⟨u, hu, hr⟩ := (h'.2 _ r hi).2 j d hj
    refine ⟨u, ?_, hr⟩
    have e : i * k + j = vs.length + ((i - rows.length) * k + j) := by
      rw [h.1, ← Nat.add_assoc, ← Nat.add_mul]
      congr 2
      omega
    rw [e, List.getElem?_append_right (by omega)]
    rw [Nat.add_sub_cancel_left]
    exact hu
theorem RowsIn.mono {c' : Cx} (st : Step c c') {k : Nat} {rows : List (List D)} {vs : List Value} (h : RowsIn c k rows vs) : RowsIn c' k rows vs :=
  ⟨h.1, fun i r hi => ⟨(h.2 i r hi).1, fun j d hj => let ⟨u, hu, hr⟩ := (h.2 i r hi).2 j d hj; ⟨u, hu, RdD.mono st.n hr⟩⟩⟩
theorem RowsIn.one {k : Nat} {rows : List (List D)} {vs : List Value} (h : RowsIn c k rows vs) : ∀ u ∈ vs, u.oneCell' = true := by
  intro u hu
  obtain ⟨j, hj⟩ := List.getElem?_of_mem hu
  have hlt : j < rows.length * k := by rw [← h.1]; exact (List.getElem?_eq_some_iff.1 hj).1
  have h0 : 0 < k := by
    rcases Nat.eq_zero_or_pos k with e | e
    · rw [e] at hlt; simp at hlt
    · exact e
  have g1 : j / k < rows.length := Nat.div_lt_of_lt_mul (by rw [Nat.mul_comm]; exact hlt)
  have g3 : j / k * k + j % k = j := by rw [Nat.mul_comm]; exact Nat.div_add_mod j k
  obtain ⟨q1, q2⟩ := h.2 _ _ (List.getElem?_eq_getElem g1)
  have g4 : j % k < (rows[j / k]).length := by rw [q1]; exact Nat.mod_lt _ h0
  obtain ⟨v, hv, hr⟩ := q2 _ _ (List.getElem?_eq_getElem g4)
  rw [g3, hj] at hv
  obtain rfl := Option.some.inj hv
  exact hr.one
theorem mkCells_block {c' : Cx} {k n cap : Nat} {rows : List (List D)} {vs : List Value} (zs : Array Value) (h : RowsIn c' k rows vs) (hn : rows.length = n) (hcap : n ≤ cap) (hz : zs.size = (cap - n) * k) (ty : TypeId) (g : Nat) (hh : c'.w.heap[g]? = some (.cells (vs.toArray ++ zs) ty (0, 0))) :
    RelB c' (.arr k rows) ⟨g, 0, cap⟩ := by
  refine ⟨_, ty, (0, 0), hh, unfrozen0 _, by simp only; omega, ?_, fun i r hi => ?_⟩
  · simp only [Array.size_append, hz, List.size_toArray, h.1, hn, ← Nat.add_mul]
    have : n + (cap - n) = cap := by omega
    rw [this]; omega
  · obtain ⟨g1, g2⟩ := h.get i r hi
    refine ⟨g1, fun j d hj => ?_⟩
    obtain ⟨u, hu, hr⟩ := g2 j d hj
    refine ⟨u, ?_, hr⟩
    simp only [Nat.zero_add]
    rw [Array.getElem?_append_left (Array.getElem?_eq_some_iff.1 hu).1]
    exact hu
theorem sound_append (hc : RelH c) (hfr : ¬ c.U (fr 0)) {ev : Operand → V} (hev : ∀ x, RelV c (ev x) (a.eval x)) {x y : Operand} {t u : TypeId} {ts : Array TypeId} {d : TypeDesc} {c0 : Go.Call} {e : W × Ups} (ho : o.op = .call c0) (hb : c0.callee = .builtin .append) (ha : c0.args.toList = [x, y]) (ht : c0.argTypes = ts)
    (h0 : ts[0]? = some t) (h1 : ts[1]? = some u) (hu : P.underlying u = some d) (hd : (∃ q, d = .slice q) ∨ d = .string) (h : appendA P fr c.h t (ev x) (ev y) = some e) : OpSound P o fr c a e.1 e.2 := by
  have ha' : c0.args = #[x, y] := by apply Array.ext'; simpa using ha
  have hex : execOp a.eval o = (do pure (.value (← Builtin.append_ ts o.type #[a.eval x, a.eval y]))) := builtin_exec ho hb ha' ht fun _ => by simp [builtin]
  have hx := hev x
  have hy := hev y
  unfold appendA at h
  split at h
  · cases h
  rename_i el hel
  have hu' := elemT_eq hel
  split at h
  case h_2 => cases h
  rename_i new n hnew hlen
  split at h
  · cases h
  rename_i z hz
  obtain ⟨i, zv, hi, hzv, hl, hcell⟩ := zeroCells_spec hz
  have hik : P.cellsOf el = i.size := by simp [Program.cellsOf, hi]
  have hib : P.bytesOf el = i.bytes := by simp [Program.bytesOf, hi]
  split at h
  · cases h
  rename_i hcond
  simp only [Bool.and_eq_true] at hcond
  obtain ⟨⟨⟨c1, c2⟩, c3⟩, c4⟩ := hcond
  have c1 := Nat.eq_of_beq_eq_true c1
  have c2 := Nat.le_of_ble_eq_true c2
  have c3 := Nat.le_of_ble_eq_true c3
  rw [hib] at c2
  have hnk : ∀ r ∈ new, r.length = i.size := fun r hr => by
    have := List.all_eq_true.1 c4 r hr
    rw [← hik]
    exact Nat.eq_of_beq_eq_true this
  obtain ⟨news, r1, r2, r3⟩ := cells_run (P := P) hc hnew hy hnk
  split at h
  · -- an own array
    rename_i id off len hbase
    split at h
    case h_2 => cases h
    rename_i k rows hid
    split at h
    case h_2 => cases h
    rename_i hk
    have hk := Nat.eq_of_beq_eq_true hk
    obtain rfl := Option.some.inj h
    rw [hik] at hk
    subst hk
    rw [hbase] at hx hlen
    obtain ⟨_, hU, hx3⟩ := hx
    obtain ⟨_, _, heq, hle, ad, cap, hv, hlc, hrm, had⟩ := hx3 _ hid
    simp only [Blk.arrOf, Option.some.injEq, Prod.mk.injEq] at heq
    obtain ⟨rfl, rfl⟩ := heq
    have hn : n = len := by
      simp only [sliceLen, hid] at hlen
      exact (Option.some.inj hlen).symm
    subst hn
    obtain ⟨cs, ty, fz, hcs, hfz, hrl, hsz, hcl⟩ := hc.blk id _ hid
    have holdlen : ((rows.drop off).take n).length = n := by simp; omega
    have hget : ∀ j r, ((rows.drop off).take n)[j]? = some r → rows[off + j]? = some r := fun j r hj => by
      rw [List.getElem?_take] at hj
      split at hj
      · rwa [List.getElem?_drop] at hj
      · cases hj
    by_cases hfit : n + new.length ≤ cap
    · -- there is room
      have hroomsz : (c.E id).off + (off + cap) * i.size ≤ cs.size := by
        have := Nat.mul_le_mul_right i.size hrm
        omega
      have hq : (off + n) * i.size + new.length * i.size ≤ (off + cap) * i.size := by
        rw [← Nat.add_mul]; exact Nat.mul_le_mul_right _ (by omega)
      let q := (c.E id).off + (off + n) * i.size
      have hstore : (storeCells ⟨(c.E id).blk, q, none⟩ news).run P c.w = .ok () (c.w.setCells (c.E id).blk q news) := by
        have := run_storeCells_cells (P := P) (c.E id).blk q news 0 c.w
          (fun j hj => by rw [cell_of_row c.w _ _ cs ty fz hcs]; rw [r1.1] at hj; simp [q]; omega)
          (fun j hj => by
            have hlt : q + 0 + j < cs.size := by rw [r1.1] at hj; simp only [q]; omega
            have := hfz _ hlt
            simp only [World.frozen?, hcs]
            simp only [Bool.and_eq_false_iff, decide_eq_false_iff_not]
            omega)
          r1.one
        simpa using this
      obtain ⟨k1, k2, k3, k4, k5, k6⟩ := setCells_heap (c.E id).blk ty fz news q cs c.w hcs
      let p : Loc := ⟨(c.E id).blk, (c.E id).off + off * i.size, cap⟩
      let b : Blk := .arr i.size ((rows.drop off).take n ++ new)
      let c' : Cx := ⟨c.w.setCells (c.E id).blk q news, c.N, putE c.E (fr 0) p, fun x => c.U x ∨ x = fr 0, upd (upd c.h [(id, none)]) [(fr 0, some b)]⟩
      have eff : Eff' c c' := eff_write hc id _ hid (fr 0) (.inr hfr) b p rfl (fun e => absurd (e ▸ hU) hfr) _ k2 k3 k4 k5 k6 c' rfl fun st => by
        refine ⟨_, ty, fz, k1, by rw [size_setRange]; exact hfz, by simp only [p]; simp; omega, by rw [size_setRange]; simp only [p]; rw [Nat.add_mul] at hroomsz; omega, fun j r hj => ?_⟩
        by_cases hjn : j < n
        · rw [List.getElem?_append_left (by omega)] at hj
          obtain ⟨g1, g2⟩ := hcl _ r (hget j r hj)
          refine ⟨g1, fun m d hm => ?_⟩
          obtain ⟨v, hv, hr⟩ := g2 m d hm
          have hmk : m < i.size := by rw [← g1]; exact (List.getElem?_eq_some_iff.1 hm).1
          have e1 : (c.E id).off + (off + j) * i.size + m = (c.E id).off + off * i.size + j * i.size + m := by rw [Nat.add_mul]; omega
          refine ⟨v, ?_, RdD.mono st.n hr⟩
          rw [setRange_out, ← hv, e1]
          left
          have := Nat.mul_le_mul_right i.size (show off + j + 1 ≤ off + n by omega)
          rw [Nat.succ_mul] at this
          simp only [p, q]
          omega
        · rw [List.getElem?_append_right (by omega), holdlen] at hj
          obtain ⟨g1, g2⟩ := r1.get _ r hj
          refine ⟨g1, fun m d hm => ?_⟩
          obtain ⟨v, hv, hr⟩ := g2 m d hm
          refine ⟨v, ?_, RdD.mono st.n hr⟩
          have hmk : m < i.size := by rw [← g1]; exact (List.getElem?_eq_some_iff.1 hm).1
          have e1 : p.off + j * i.size + m = q + ((j - n) * i.size + m) := by
            have : j * i.size = (j - n) * i.size + n * i.size := by rw [← Nat.add_mul]; congr 1; omega
            simp only [p, q]
            rw [Nat.add_mul]
            omega
          rw [e1]
          refine setRange_in news cs q _ v ?_ (by simpa using hv)
          rw [r1.1]
          simp only [q]
          omega
      intro K Q hK
      refine wp_value hex (v := .slice ad (n + new.length) cap) (w' := c'.w) ?_ (hK _ c' eff rfl (fun x hx => hx.elim .inl fun e => .inr ⟨0, by omega, e⟩) ⟨rfl, .inr rfl, fun b' hb' => ?_⟩)
      · rw [hv]
        refine append_room h0 h1 hu' hu hd hi (r2 _) (r3 _ rfl) hfit ?_
        cases ad with
        | none =>
          have hc0 : cap = 0 := by
            rcases had with h | h
            · exact h
            · cases h
          have hn0 : news = [] := by
            apply List.eq_nil_of_length_eq_zero
            rw [r1.1, show new.length = 0 by omega]; simp
          show c.w.setCells (c.E id).blk q news = c.w
          rw [hn0]; rfl
        | some ad =>
          by_cases hc0 : cap = 0
          · have hn0 : news = [] := by
              apply List.eq_nil_of_length_eq_zero
              rw [r1.1, show new.length = 0 by omega]; simp
            show _ = Result.ok () (c.w.setCells (c.E id).blk q news)
            rw [hn0]; rfl
          · obtain rfl := Option.some.inj (had.resolve_left hc0)
            show (storeCells _ _).run P c.w = _
            rw [addr_add]
            have : (c.E id).off + off * i.size + n * i.size = q := by simp only [q]; rw [Nat.add_mul]; omega
            rw [this]
            exact hstore
      · have e1 : c'.h (fr 0) = some b := by show upd (upd c.h [(id, none)]) [(fr 0, some b)] (fr 0) = _; rw [upd_one, if_pos rfl]
        rw [e1] at hb'
        obtain rfl := Option.some.inj hb'
        have e2 : c'.E (fr 0) = p := by show (if fr 0 = fr 0 then p else c.E (fr 0)) = p; rw [if_pos rfl]
        refine ⟨_, _, rfl, by simp; omega, ad, cap, rfl, hfit, by rw [e2]; simp [p], ?_⟩
        rcases had with h | h
        · exact .inl h
        · right; rw [h, e2]; simp [p]
    · -- a new array
      have hfit : cap < n + new.length := by omega
      have hold : sliceRows c.h (.c (.arr id off n)) = some ((rows.drop off).take n) := by simp only [sliceRows, hid]
      have hxr : RelV c (.c (.arr id off n)) (a.eval x) := ⟨by rw [hv]; rfl, hU, hx3⟩
      obtain ⟨olds, o1, o2, o3⟩ := cells_run (P := P) hc hold hxr (k := i.size) (fun r hr => by
        obtain ⟨j, hj⟩ := List.getElem?_of_mem hr
        exact (hcl _ r (hget j r hj)).1)
      rw [holdlen] at o3
      have hall := o1.app r1
      rw [hv] at o3
      have hge := grownCap_ge c.w (n + new.length) cap el
      refine sound_new hc hfr hex (v := .slice (some ⟨c.w.heap.size, 0, none⟩) (n + new.length) (grownCap c.w (n + new.length) cap el)) (w' := c.w.drew.alloc (.cells (olds.toArray ++ news.toArray ++ Builtin.zeroCells zv.cells (grownCap c.w (n + new.length) cap el - (n + new.length))) el)) (by rw [hv]; exact append_grow h0 h1 hu' hu hd hi hzv (r2 _) (o3 _ rfl) (r3 _ rfl) hfit c3 c2) rfl rfl rfl rfl [(id, none)] (by simp) (.arr i.size ((rows.drop off).take n ++ new)) ⟨c.w.heap.size, 0, grownCap c.w (n + new.length) cap el⟩ rfl ?_ ?_
      · intro c' hw st _ _
        have := mkCells_block (c' := c') (n := n + new.length) (cap := grownCap c.w (n + new.length) cap el) (Builtin.zeroCells zv.cells (grownCap c.w (n + new.length) cap el - (n + new.length))) (hall.mono st) (by simp; omega) hge (by rw [size_zeroCells, ← hl, c1, hik]) el c.w.heap.size (by rw [hw]; refine (heap_alloc_new c.w.drew _).trans ?_; simp)
        exact this
      · intro c' _ _ hh hE hU'
        exact arr_rel hh hE hU' (by simp; omega) hge (Nat.le_refl _) rfl
  · -- no slice yet
    rename_i hbase
    have hxv := toVal_eq (c := c) (s := .c (.d (.v (.slice none 0 0)))) (v := a.eval x) rfl (hbase ▸ hx)
    have hn : n = 0 := by
      rw [hbase] at hlen
      exact (Option.some.inj hlen).symm
    subst hn
    cases new with
    | nil =>
      obtain rfl := Option.some.inj h
      refine sound_same hc hex (v := .slice none 0 0) ?_ (.v rfl)
      rw [hxv]
      exact append_room (base := none) h0 h1 hu' hu hd hi (r2 _) (r3 _ rfl) (by simp) rfl
    | cons hd1 tl1 =>
      obtain rfl := Option.some.inj h
      simp only [Nat.zero_add] at c2 c3
      have hge := grownCap_ge c.w (0 + (hd1 :: tl1).length) 0 el
      refine sound_new (kills := []) hc hfr hex (v := .slice (some ⟨c.w.heap.size, 0, none⟩) (0 + (hd1 :: tl1).length) (grownCap c.w (0 + (hd1 :: tl1).length) 0 el)) (w' := c.w.drew.alloc (.cells (([] : List Value).toArray ++ news.toArray ++ Builtin.zeroCells zv.cells (grownCap c.w (0 + (hd1 :: tl1).length) 0 el - (0 + (hd1 :: tl1).length))) el))
        (by rw [hxv]; exact append_grow (olds := []) h0 h1 hu' hu hd hi hzv (r2 _) (run_firstCells_none _ _ _ _ _) (r3 _ rfl) (by simp) (by rw [Nat.zero_add]; exact c3) (by rw [Nat.zero_add]; exact c2)) rfl rfl rfl rfl (by simp) (.arr (P.cellsOf el) (hd1 :: tl1)) ⟨c.w.heap.size, 0, grownCap c.w (0 + (hd1 :: tl1).length) 0 el⟩ rfl ?_ ?_
      · intro c' hw st _ _
        rw [hik]
        have := mkCells_block (c' := c') (n := 0 + (hd1 :: tl1).length) (cap := grownCap c.w (0 + (hd1 :: tl1).length) 0 el) (Builtin.zeroCells zv.cells (grownCap c.w (0 + (hd1 :: tl1).length) 0 el - (0 + (hd1 :: tl1).length))) (r1.mono st) (by simp) hge (by rw [size_zeroCells, ← hl, c1, hik]) el c.w.heap.size (by rw [hw]; refine (heap_alloc_new c.w.drew _).trans ?_; simp)
        exact this
      · intro c' _ _ hh hE hU'
        have := arr_rel (n := 0 + (hd1 :: tl1).length) hh hE hU' (by simp) hge (Nat.le_refl _) rfl
        rw [Nat.zero_add] at this ⊢
        exact this
  · cases h
end
end Go.Vsi
namespace Go.Vsi
theorem bytes_rows : ∀ (rows : List (List D)) (bs : List UInt8), rows.mapM (fun r => match r with | [.v (.int .u8 n)] => some (UInt8.ofNat n.toNat) | _ => none) = some bs →
    ∃ ns : List Int, rows = ns.map (fun n => [D.v (.int .u8 n)]) ∧ bs = ns.map fun n => UInt8.ofNat n.toNat
  | [], bs, h => by simp at h; subst h; exact ⟨[], rfl, rfl⟩
  | r :: rest, bs, h => by
    simp only [List.mapM_cons] at h
    split at h
    · rename_i n
      cases hr : rest.mapM (fun r => match r with | [D.v (.int .u8 n)] => some (UInt8.ofNat n.toNat) | _ => none) with
      | none => simp [hr] at h
      | some bs' =>
        simp [hr] at h
        subst h
        obtain ⟨ns, h1, h2⟩ := bytes_rows rest bs' hr
        exact ⟨n :: ns, by rw [h1]; rfl, by rw [h2]; rfl⟩
    · simp at h
theorem foldl_push_ints : ∀ (l : List Int) (r : ByteArray), l.foldl (fun r n => r.push (UInt8.ofNat n.toNat)) r = ⟨r.data ++ (l.map fun n => UInt8.ofNat n.toNat).toArray⟩
  | [], r => by simp
  | b :: l, r => by
    simp only [List.foldl_cons]
    rw [foldl_push_ints l]
    simp [ByteArray.push]
theorem sliceRows_val {c : Cx} {v : V} {x : Value} {rows : List (List D)} (h : sliceRows c.h v = some rows) (hr : RelV c v x) (hs : ∀ s, v ≠ .c (.d (.v (.string s)))) : ∃ ad cp, x = .slice ad rows.length cp := by
  unfold sliceRows at h
  split at h
  · rename_i id off len
    split at h
    · rename_i k R hid
      obtain rfl := Option.some.inj h
      obtain ⟨_, _, h3⟩ := hr
      obtain ⟨_, _, heq, hle, ad, cap, hv, _⟩ := h3 _ hid
      simp only [Blk.arrOf, Option.some.injEq, Prod.mk.injEq] at heq
      obtain ⟨rfl, rfl⟩ := heq
      refine ⟨ad, cap, ?_⟩
      rw [hv]
      congr 1
      simp
      omega
    · cases h
  · obtain rfl := Option.some.inj h
    have hr' : RdD c.w c.N (.sl _ _) x := hr
    cases hr' with
    | nil => exact ⟨_, _, rfl⟩
    | sl => exact ⟨_, _, rfl⟩
  · obtain rfl := Option.some.inj h
    cases hr
    exact ⟨_, _, rfl⟩
  · rename_i s
    exact absurd rfl (hs s)
  · cases h
section
variable {P : Program} {o : Oper} {fr : Nat → Nat} {c : Cx} {a : Act} {r : W}
theorem sound_bytes_string (hc : RelH c) {x : Operand} {src dst e : TypeId} {v : V} {rows : List (List D)} {bs : List UInt8} (ho : o.op = .convert src dst x) (hs : P.underlying src = some (.slice e)) (hd : P.underlying dst = some .string) (he : P.underlying e = some (.int .u8))
    (hv : RelV c v (a.eval x)) (hr : sliceRows c.h v = some rows) (hns : ∀ s, v ≠ .c (.d (.v (.string s)))) (hb : rows.mapM (fun r => match r with | [.v (.int .u8 n)] => some (UInt8.ofNat n.toNat) | _ => none) = some bs) :
    OpSound P o fr c a (one (.d (.v (.string ⟨bs.toArray⟩)))) [] := by
  obtain ⟨ns, h1, h2⟩ := bytes_rows _ _ hb
  obtain ⟨vs, ⟨g1, g2⟩, g3, g4⟩ := cells_run (P := P) (k := 1) hc hr hv (fun r hr => by
    rw [h1] at hr
    obtain ⟨n, _, rfl⟩ := List.mem_map.1 hr
    rfl)
  have hvs : vs = ns.map (Value.int .u8) := by
    apply List.ext_getElem?
    intro i
    rw [h1] at g1 g2
    simp only [List.length_map, Nat.mul_one] at g1
    by_cases hi : i < ns.length
    · obtain ⟨_, q⟩ := g2 i [D.v (.int .u8 ns[i])] (by simp [hi])
      obtain ⟨u, hu, hrel⟩ := q 0 _ rfl
      simp only [Nat.mul_one, Nat.add_zero] at hu
      cases hrel
      rw [hu]; simp [hi]
    · rw [List.getElem?_eq_none (by omega), List.getElem?_eq_none (by simp; omega)]
  obtain ⟨ad, cp, hx⟩ := sliceRows_val hr hv hns
  refine sound_same hc (s := convert src dst (a.eval x)) (v := .string ⟨bs.toArray⟩) (by unfold execOp; rw [ho]) ?_ (.v rfl)
  rw [hx, run_convert_bytes_string c.w src dst e ad _ _ hs he hd]
  have hf := g4 c.w rfl
  rw [hx] at hf
  cases ad with
  | none =>
    rw [run_firstCells_none] at hf
    have : vs = [] := by
      have := (Result.ok.inj hf).1
      have := congrArg Array.toList this
      simpa using this.symm
    rw [this] at hvs
    have hn0 : ns = [] := by simpa using hvs.symm
    subst hn0
    subst h2
    simp [Conv.bytesToString]
    rfl
  | some ad =>
    simp only [Builtin.firstCells, Nat.mul_one] at hf
    rw [run_bytesToString c.w ad rows.length cp ns (by rw [hf, hvs]), foldl_push_ints, h2]
    have he0 : ByteArray.empty.data = #[] := rfl
    rw [he0]
    simp
theorem sound_string_bytes (hc : RelH c) (hfr : ¬ c.U (fr 0)) {x : Operand} {src dst e : TypeId} {s : ByteArray} (ho : o.op = .convert src dst x) (hs : P.underlying src = some .string) (hd : P.underlying dst = some (.slice e)) (he : P.underlying e = some (.int .u8)) (hx : a.eval x = .string s) :
    OpSound P o fr c a (one (.arr (fr 0) 0 s.size)) [(fr 0, some (.arr 1 (s.data.toList.map fun b => [.v (.int .u8 b.toNat)])))] := by
  have hge := grownCap_ge c.w s.size 0 e
  refine sound_new (kills := []) hc hfr (s := convert src dst (a.eval x)) (by unfold execOp; rw [ho]) (w' := c.w.drew.alloc (.cells (bytesRow s (grownCap c.w s.size 0 e)) e ((bytesRow s (grownCap c.w s.size 0 e)).size, (bytesRow s (grownCap c.w s.size 0 e)).size + 1))) (P := P) (by rw [hx]; exact run_bytes_of_string c.w src dst e s hs hd he) rfl rfl rfl rfl (by simp) (.arr 1 (s.data.toList.map fun b => [.v (.int .u8 b.toNat)])) ⟨c.w.heap.size, 0, grownCap c.w s.size 0 e⟩ rfl ?_ ?_
  · intro c' hw st _ _
    have hsz : s.data.size = s.size := rfl
    refine ⟨_, e, _, by rw [hw]; exact heap_alloc_new c.w.drew _, fun i hi h => by simp only at h; omega, by simp; omega, ?_, fun i r hi => ?_⟩
    · simp [bytesRow, hsz]; omega
    · rw [List.getElem?_map] at hi
      cases hq : s.data.toList[i]? with
      | none => simp [hq] at hi
      | some b =>
        simp only [hq, Option.map_some, Option.some.injEq] at hi
        subst hi
        refine ⟨rfl, fun j d hj => ?_⟩
        cases j with
        | succ j => simp at hj
        | zero =>
          simp at hj
          subst hj
          refine ⟨.int .u8 b.toNat, ?_, .v rfl⟩
          simp only [Nat.zero_add, Nat.mul_one, Nat.add_zero, bytesRow]
          have hlt : i < s.data.size := by
            have := (List.getElem?_eq_some_iff.1 hq).1
            simpa using this
          rw [Array.getElem?_append_left (by simpa using hlt), Array.getElem?_map]
          have : s.data[i]? = some b := by simpa using hq
          rw [this]; rfl
  · intro c' _ _ hh hE hU
    exact arr_rel hh hE hU (by simp) hge (Nat.le_refl _) rfl
end
end Go.Vsi
namespace Go.Vsi
structure Tr (c c' : Cx) (f : Nat → Option Nat) : Prop where
  n : ∀ g, c.N g → c'.N g ∧ c'.w.heap[g]? = c.w.heap[g]?
  ren : ∀ id j, f id = some j → c.U id → c'.U j ∧ c'.E j = c.E id ∧ ∀ b', c'.h j = some b' → ∃ b, c.h id = some b ∧ Compat b b'
theorem Tr.s {c c' : Cx} {f : Nat → Option Nat} (t : Tr c c' f) {s : S} {v : Value} (h : RelS c s v) : RelS c' (renS f s) v := by
  have h1 := h.one
  cases s with
  | d x => exact RdD.mono t.n h
  | arr id off len =>
    simp only [renS]
    cases hf : f id with
    | none => exact h1
    | some j =>
      obtain ⟨g1, g2, g3⟩ := h
      obtain ⟨t1, t2, t3⟩ := t.ren id j hf g2
      refine ⟨g1, t1, fun b' hb' => ?_⟩
      obtain ⟨b, hb, hc⟩ := t3 b' hb'
      obtain ⟨k, n, hk, hl, a, cap, hv, hlc, hr, ha⟩ := g3 b hb
      exact ⟨k, n, hc.arrOf ▸ hk, hl, a, cap, hv, hlc, by rw [t2]; exact hr, by rw [t2]; exact ha⟩
  | ptr id row off =>
    simp only [renS]
    cases hf : f id with
    | none => exact h1
    | some j =>
      obtain ⟨g1, g2, g3⟩ := h
      obtain ⟨t1, t2, t3⟩ := t.ren id j hf g2
      refine ⟨g1, t1, fun b' hb' => ?_⟩
      obtain ⟨b, hb, hc⟩ := t3 b' hb'
      rw [t2, ← hc.stride]
      exact g3 b hb
  | dp r off =>
    obtain ⟨b, o, rfl, hb, hc⟩ := h
    refine ⟨b, o, rfl, (t.n _ hb).1, fun j d hj => ?_⟩
    obtain ⟨x, hx, hd⟩ := hc j d hj
    exact ⟨x, by rw [cell_same (t.n _ hb).2]; exact hx, RdD.mono t.n hd⟩
  | fn g caps =>
    simp only [renS]
    cases hf : caps.mapM f with
    | none => exact h1
    | some ids =>
      obtain ⟨cs, rfl, hs, hc⟩ := h
      have key : ∀ (l m : List Nat), l.mapM f = some m → l.length = m.length ∧ ∀ (i j : Nat), m[i]? = some j → ∃ id, l[i]? = some id ∧ f id = some j := by
        intro l
        induction l with
        | nil => intro m h; simp at h; subst h; simp
        | cons x r ih =>
          intro m h
          simp only [List.mapM_cons] at h
          cases hx : f x with
          | none => simp [hx] at h
          | some y =>
            cases hr : r.mapM f with
            | none => simp [hx, hr] at h
            | some m' =>
              simp [hx, hr] at h
              subst h
              obtain ⟨k1, k2⟩ := ih m' hr
              refine ⟨by simp [k1], fun i j hj => ?_⟩
              cases i with
              | zero => simp at hj; subst hj; exact ⟨x, rfl, hx⟩
              | succ i => exact k2 i j (by simpa using hj)
      obtain ⟨k1, k2⟩ := key _ _ hf
      refine ⟨cs, rfl, by omega, fun i j hj => ?_⟩
      obtain ⟨id, hid, hfid⟩ := k2 i j hj
      obtain ⟨hu, x, hx, ho, hb⟩ := hc i id hid
      obtain ⟨t1, t2, t3⟩ := t.ren id j hfid hu
      refine ⟨t1, x, hx, ho, fun b' hb' => ?_⟩
      obtain ⟨b, hb1, _⟩ := t3 b' hb'
      rw [t2]
      exact hb b hb1
  | junk => exact h
theorem CellsAt.map {α β : Type} {R : α → Value → Prop} {R' : β → Value → Prop} (f : α → β) (hr : ∀ s v, R s v → R' (f s) v) {cs : Array Value} {o : Nat} {l : List α} (h : CellsAt R cs o l) : CellsAt R' cs o (l.map f) := by
  intro j s hj
  rw [List.getElem?_map] at hj
  cases hl : l[j]? with
  | none => simp [hl] at hj
  | some x =>
    simp only [hl, Option.map_some, Option.some.injEq] at hj
    subst hj
    obtain ⟨v, hv, hs⟩ := h j x hl
    exact ⟨v, hv, hr _ _ hs⟩
theorem Tr.v {c c' : Cx} {f : Nat → Option Nat} (t : Tr c c' f) {s : V} {v : Value} (h : RelV c s v) : RelV c' (renV f s) v := by
  cases s with
  | c s => exact t.s h
  | agg l => obtain ⟨cs, rfl, hs, hc⟩ := h; exact ⟨cs, rfl, by simp [hs], hc.map (renS f) fun _ _ => t.s⟩
  | junk => trivial
theorem Tr.w {c c' : Cx} {f : Nat → Option Nat} (t : Tr c c' f) {s : W} {v : Value} (h : RelW c s v) : RelW c' (renW f s) v := by
  cases s with
  | one s => exact t.v h
  | tup l => obtain ⟨cs, rfl, hs, hc⟩ := h; exact ⟨cs, rfl, by simp [hs], hc.map (renV f) fun _ _ => t.v⟩
theorem beq2_false {x y z w : Nat} (h : ¬ (x = y ∧ z = w)) : (Nat.beq x y && Nat.beq z w) = false := by
  cases h1 : Nat.beq x y with
  | false => rfl
  | true =>
    cases h2 : Nat.beq z w with
    | false => rfl
    | true => exact absurd ⟨Nat.eq_of_beq_eq_true h1, Nat.eq_of_beq_eq_true h2⟩ h
theorem outOf_drop {i j a b : Nat} : ∀ (l : List (Nat × Nat × Nat)), outOf i j (dropOut a b l) = if i = a ∧ j = b then none else outOf i j l
  | [] => by simp [dropOut, outOf]
  | (r, c, id) :: l => by
    have ih := outOf_drop (i := i) (j := j) (a := a) (b := b) l
    by_cases h1 : r = a ∧ c = b
    · obtain ⟨rfl, rfl⟩ := h1
      have e1 : dropOut r c ((r, c, id) :: l) = dropOut r c l := by simp [dropOut]
      rw [e1, ih]
      by_cases h2 : i = r ∧ j = c
      · rw [if_pos h2, if_pos h2]
      · rw [if_neg h2, if_neg h2]
        have : (Nat.beq r i && Nat.beq c j) = false := by
          exact beq2_false (by omega)
        simp only [outOf, this]
    · have hf : (Nat.beq r a && Nat.beq c b) = false := by
        exact beq2_false (by omega)
      have e1 : dropOut a b ((r, c, id) :: l) = (r, c, id) :: dropOut a b l := by simp only [dropOut, hf]
      rw [e1]
      by_cases h3 : r = i ∧ c = j
      · obtain ⟨rfl, rfl⟩ := h3
        rw [if_neg h1]
        simp [outOf]
      · have hf2 : (Nat.beq r i && Nat.beq c j) = false := by
          exact beq2_false (by omega)
        simp only [outOf, hf2, ih]
theorem setO_get {rows : List (List O)} {a b : Nat} {x : O} {i : Nat} {r' : List O} (h : (setO rows a b x)[i]? = some r') :
    ∃ r, rows[i]? = some r ∧ r'.length = r.length ∧ ∀ j o, r'[j]? = some o → ∃ o0, r[j]? = some o0 ∧ (if i = a ∧ j = b then o = x else o = o0) := by
  unfold setO at h
  split at h
  · rename_i ra hra
    by_cases hi : a = i
    · subst hi
      rw [List.getElem?_set_self (List.getElem?_eq_some_iff.1 hra).1] at h
      obtain rfl := Option.some.inj h
      refine ⟨ra, hra, by simp, fun j o ho => ?_⟩
      by_cases hj : b = j
      · subst hj
        have hlt : b < ra.length := by
          have := (List.getElem?_eq_some_iff.1 ho).1
          simpa using this
        rw [List.getElem?_set_self hlt] at ho
        obtain rfl := Option.some.inj ho
        exact ⟨_, List.getElem?_eq_getElem hlt, by simp⟩
      · rw [List.getElem?_set_ne hj] at ho
        exact ⟨o, ho, by rw [if_neg (by omega)]⟩
    · rw [List.getElem?_set_ne hi] at h
      exact ⟨r', h, rfl, fun j o ho => ⟨o, ho, by rw [if_neg (by omega)]⟩⟩
  · exact ⟨r', h, rfl, fun j o ho => by
      by_cases hc : i = a ∧ j = b
      · rename_i hn
        rw [hc.1] at h
        rw [h] at hn
        cases hn
      · exact ⟨o, ho, by rw [if_neg hc]⟩⟩
theorem setO_len (rows : List (List O)) (a b : Nat) (x : O) : (setO rows a b x).length = rows.length := by
  unfold setO
  split <;> simp
theorem renO_len (f : Nat → Option Nat) : ∀ (outs : List (Nat × Nat × Nat)) (rows : List (List O)), (renO f outs rows).1.length = rows.length
  | [], _ => rfl
  | (i, j, id) :: r, rows => by
    simp only [renO]
    split
    · exact renO_len f r rows
    · show (setO _ _ _ _).length = _
      rw [setO_len, renO_len f r rows]
theorem renO_get (f : Nat → Option Nat) : ∀ (outs : List (Nat × Nat × Nat)) (rows : List (List O)) (i : Nat) (r' : List O), (renO f outs rows).1[i]? = some r' →
    ∃ r, rows[i]? = some r ∧ r'.length = r.length ∧ ∀ j o', r'[j]? = some o' → ∃ o, r[j]? = some o ∧ match outOf i j outs with
      | none => outOf i j (renO f outs rows).2 = none ∧ o' = o
      | some id => match f id with
        | some id' => outOf i j (renO f outs rows).2 = some id'
        | none => outOf i j (renO f outs rows).2 = none ∧ o' = .d .any
  | [], rows, i, r', h => ⟨r', h, rfl, fun j o' ho => ⟨o', ho, rfl, rfl⟩⟩
  | (a, b, id) :: t, rows, i, r', h => by
    have ih := renO_get f t rows i
    simp only [renO] at h ⊢
    cases hf : f id with
    | some id' =>
      simp only [hf] at h ⊢
      obtain ⟨r, h1, h2, h3⟩ := ih r' h
      refine ⟨r, h1, h2, fun j o' ho => ?_⟩
      obtain ⟨o, k1, k2⟩ := h3 j o' ho
      refine ⟨o, k1, ?_⟩
      by_cases hc : a = i ∧ b = j
      · obtain ⟨rfl, rfl⟩ := hc
        simp [outOf, hf]
      · have hx : (Nat.beq a i && Nat.beq b j) = false := by
          exact beq2_false (by omega)
        simp only [outOf, hx]
        exact k2
    | none =>
      simp only [hf] at h ⊢
      obtain ⟨r1, g1, g2, g3⟩ := setO_get h
      obtain ⟨r, h1, h2, h3⟩ := ih r1 g1
      refine ⟨r, h1, by omega, fun j o' ho => ?_⟩
      obtain ⟨o1, g4, g5⟩ := g3 j o' ho
      obtain ⟨o, k1, k2⟩ := h3 j o1 g4
      refine ⟨o, k1, ?_⟩
      by_cases hc : i = a ∧ j = b
      · obtain ⟨rfl, rfl⟩ := hc
        rw [if_pos ⟨rfl, rfl⟩] at g5
        subst g5
        simp [outOf, hf, outOf_drop]
      · rw [if_neg hc] at g5
        subst g5
        have hx : (Nat.beq a i && Nat.beq b j) = false := by
          exact beq2_false (by omega)
        simp only [outOf, hx, outOf_drop, if_neg hc]
        exact k2
theorem Tr.b {c c' : Cx} {f : Nat → Option Nat} (t : Tr c c' f) {b : Blk} {p : Loc} (h : RelB c b p) (hw : c'.w.heap[p.blk]? = c.w.heap[p.blk]?) (hn : Kept c c' p.blk) : RelB c' (renB f b) p := by
  obtain ⟨cs, ty, fz, h1, h2, h3⟩ := h
  refine ⟨cs, ty, fz, hw.trans h1, h2, ?_⟩
  cases b with
  | var cells => exact ⟨by simpa using h3.1, h3.2.map (renS f) fun _ _ => t.s⟩
  | arr q rows => exact ⟨h3.1, h3.2.1, fun i r hr => ⟨(h3.2.2 i r hr).1, (h3.2.2 i r hr).2.imp fun _ _ => RdD.mono t.n⟩⟩
  | nar q rows outs =>
    refine ⟨by rw [renO_len]; exact h3.1, h3.2.1, fun i r' hr' => ?_⟩
    obtain ⟨r, g1, g2, g3⟩ := renO_get f outs rows i r' hr'
    obtain ⟨k1, k2⟩ := h3.2.2 i r g1
    refine ⟨by omega, fun j o' ho' => ?_⟩
    obtain ⟨o, q1, q2⟩ := g3 j o' ho'
    obtain ⟨v, hv, hr⟩ := k2 j o q1
    refine ⟨v, hv, ?_⟩
    cases ho : outOf i j outs with
    | none =>
      rw [ho] at q2 hr
      obtain ⟨q2, rfl⟩ := q2
      rw [q2]
      cases o' with
      | d x => exact RdD.mono t.n hr
      | own k2 rs =>
        obtain ⟨p2, z1, z2, cs2, ty2, fz2, z3, z4, z5, z6, z7⟩ := hr
        exact ⟨p2, z1, (hn _ _ z2).1, cs2, ty2, fz2, (hn _ _ z2).2.trans z3, z4, z5, z6, fun i r hr => ⟨(z7 i r hr).1, (z7 i r hr).2.imp fun _ _ => RdD.mono t.n⟩⟩
    | some id =>
      rw [ho] at q2 hr
      obtain ⟨z1, z2, z3⟩ := hr
      cases hf : f id with
      | none =>
        simp only [hf] at q2
        obtain ⟨q2, rfl⟩ := q2
        rw [q2]
        exact .any z1
      | some id' =>
        simp only [hf] at q2
        rw [q2]
        obtain ⟨t1, t2, t3⟩ := t.ren id id' hf z2
        refine ⟨z1, t1, fun b' hb' => ?_⟩
        obtain ⟨b, hb, hcm⟩ := t3 b' hb'
        obtain ⟨k0, n, y1, y2, y3⟩ := z3 b hb
        exact ⟨k0, n, hcm.arrOf ▸ y1, by rw [t2]; exact y2, by rw [t2]; exact y3⟩
theorem compat_ren (f : Nat → Option Nat) (b : Blk) : Compat b (renB f b) := by
  cases b with
  | var l => simp [Compat, renB]
  | arr k rows => simp [Compat, renB]
  | nar k rows outs => simp [Compat, renB, Blk.arrOf, renO_len]
theorem ix_some : ∀ (l : List Nat) (id j : Nat), ix l id = some j → l[j]? = some id
  | [], _, _, h => by simp [ix] at h
  | x :: r, id, j, h => by
    simp only [ix] at h
    split at h
    · rename_i hb
      obtain rfl := Nat.eq_of_beq_eq_true hb
      simp at h; subst h; rfl
    · cases hr : ix r id with
      | none => simp [hr] at h
      | some i =>
        simp [hr] at h
        subst h
        simpa using ix_some r id i hr
theorem ix_of : ∀ (l : List Nat) (id j : Nat), l.Nodup → l[j]? = some id → ix l id = some j
  | [], _, _, _, h => by simp at h
  | x :: r, id, 0, _, h => by simp at h; subst h; simp [ix]
  | x :: r, id, j + 1, hn, h => by
    have h' : r[j]? = some id := by simpa using h
    have hne : x ≠ id := by
      rintro rfl
      exact (List.nodup_cons.1 hn).1 (List.mem_of_getElem? h')
    simp only [ix]
    have hb : Nat.beq x id = false := by
      cases hq : Nat.beq x id with
      | false => rfl
      | true => exact absurd (Nat.eq_of_beq_eq_true hq) hne
    rw [hb, ix_of r id j (List.nodup_cons.1 hn).2 h']
    rfl
def renC (seen : List Nat) (c : Cx) : Cx := ⟨c.w, c.N, ⟨fun j => c.E (seen.getD j 0), c.E.own⟩, fun j => j < seen.length, hpOf (renH seen c.h)⟩
theorem hpOf_renH {seen : List Nat} {h : Hp} {j : Nat} {b : Blk} (hb : hpOf (renH seen h) j = some b) : ∃ id b0, seen[j]? = some id ∧ h id = some b0 ∧ b = renB (ix seen) b0 := by
  unfold hpOf renH at hb
  rw [List.getElem?_map] at hb
  cases hs : seen[j]? with
  | none => simp [hs] at hb
  | some id =>
    simp only [hs, Option.map_some] at hb
    cases hh : h id with
    | none => simp [hh] at hb
    | some b0 =>
      simp only [hh, Option.map_some, Option.some.injEq] at hb
      exact ⟨id, b0, rfl, hh, hb.symm⟩
theorem getD_of {l : List Nat} {j x : Nat} (h : l[j]? = some x) : l.getD j 0 = x := by
  rw [List.getD_eq_getElem?_getD, h]; rfl
theorem tr_ren (seen : List Nat) (c : Cx) : Tr c (renC seen c) (ix seen) where
  n := fun g hg => ⟨hg, rfl⟩
  ren := fun id j hf _ => by
    have hj := ix_some _ _ _ hf
    refine ⟨(List.getElem?_eq_some_iff.1 hj).1, by show c.E (seen.getD j 0) = _; rw [getD_of hj], fun b' hb' => ?_⟩
    obtain ⟨id', b0, h1, h2, rfl⟩ := hpOf_renH hb'
    rw [hj] at h1
    obtain rfl := Option.some.inj h1
    exact ⟨b0, h2, compat_ren _ _⟩
theorem relh_ren {seen : List Nat} {c : Cx} (hc : RelH c) (hn : seen.Nodup) : RelH (renC seen c) where
  blk := fun j b hb => by
    obtain ⟨id, b0, h1, h2, rfl⟩ := hpOf_renH hb
    show RelB _ _ (c.E (seen.getD j 0))
    rw [getD_of h1]
    exact (tr_ren seen c).b (hc.blk id b0 h2) rfl (fun x o hx => ⟨hx, rfl⟩)
  used := fun j b hb => by
    obtain ⟨id, b0, h1, h2, rfl⟩ := hpOf_renH hb
    exact (List.getElem?_eq_some_iff.1 h1).1
  inj := fun j j' b b' hb hb' hne => by
    obtain ⟨id, b0, h1, h2, rfl⟩ := hpOf_renH hb
    obtain ⟨id', b0', h1', h2', rfl⟩ := hpOf_renH hb'
    show (c.E (seen.getD j 0)).blk ≠ (c.E (seen.getD j' 0)).blk
    rw [getD_of h1, getD_of h1']
    refine hc.inj id id' b0 b0' h2 h2' ?_
    rintro rfl
    have e1 := ix_of seen id j hn h1
    have e2 := ix_of seen id j' hn h1'
    rw [e1] at e2
    exact hne (Option.some.inj e2)
  apart := fun j b hb => by
    obtain ⟨id, b0, h1, h2, rfl⟩ := hpOf_renH hb
    show ¬ c.N (c.E (seen.getD j 0)).blk
    rw [getD_of h1]
    exact hc.apart id b0 h2
  low := hc.low
  nest := fun g a j b ho hb ha => by
    obtain ⟨id, b0, h1, h2, rfl⟩ := hpOf_renH hb
    have ha' : (c.E (seen.getD j 0)).blk = a.1 := ha
    rw [getD_of h1] at ha'
    obtain ⟨n1, n2⟩ := hc.nest g a id b0 ho h2 ha'
    refine ⟨n1, fun j' b' hb' => ?_⟩
    obtain ⟨id', b0', h1', h2', rfl⟩ := hpOf_renH hb'
    show (c.E (seen.getD j' 0)).blk ≠ g
    rw [getD_of h1']
    exact n2 id' b0' h2'
  olow := hc.olow
theorem own_ren {seen : List Nat} {c : Cx} {g : Nat} (h : own (renC seen c) g) : own c g := by
  rcases h with ⟨j, b, hb, hg⟩ | ⟨a, j, b, ho, hb, hg⟩
  · obtain ⟨id, b0, h1, h2, rfl⟩ := hpOf_renH hb
    refine .inl ⟨id, b0, h2, ?_⟩
    rw [← hg]
    show _ = (c.E (seen.getD j 0)).blk
    rw [getD_of h1]
  · obtain ⟨id, b0, h1, h2, rfl⟩ := hpOf_renH hb
    refine .inr ⟨a, id, b0, ho, h2, ?_⟩
    rw [← hg]
    show _ = (c.E (seen.getD j 0)).blk
    rw [getD_of h1]
theorem eff_ren {c0 c : Cx} (e : Eff' c0 c) {seen : List Nat} (hn : seen.Nodup) (hio : ∀ id, c0.U id → seen[id]? = some id) : Eff' c0 (renC seen c) where
  step :=
    { use := fun id hu => (List.getElem?_eq_some_iff.1 (hio id hu)).1
      emb := fun id hu => by
        show c.E (seen.getD id 0) = _
        rw [getD_of (hio id hu)]
        exact e.step.emb id hu
      old := fun id b' hu hb' => by
        obtain ⟨id', b0, h1, h2, rfl⟩ := hpOf_renH hb'
        rw [hio id hu] at h1
        obtain rfl := Option.some.inj h1
        obtain ⟨b, hb, hc⟩ := e.step.old id b0 hu h2
        exact ⟨b, hb, hc.trans (compat_ren _ _)⟩
      n := e.step.n }
  relh := relh_ren e.relh hn
  os := e.os
  tape := e.tape
  output := e.output
  size := e.size
  keep := e.keep
  news := e.news
  owns := fun g hg => e.owns g (own_ren hg)
  ownk := e.ownk
  ownr := e.ownr
theorem reach_nodup (h : Hp) : ∀ (k : Nat) (ids seen : List Nat), seen.Nodup → (reach h k ids seen).Nodup
  | 0, _, _, hn => hn
  | k + 1, [], _, hn => hn
  | k + 1, id :: r, seen, hn => by
    simp only [reach]
    split
    · exact reach_nodup h k _ _ hn
    · rename_i hel
      split
      · refine reach_nodup h k _ _ ?_
        rw [List.nodup_append]
        refine ⟨hn, by simp, fun a ha b hb => ?_⟩
        simp only [List.mem_singleton] at hb
        subst hb
        rintro rfl
        have : seen.elem a = true := List.elem_eq_true_of_mem ha
        rw [this] at hel
        cases hel
      · exact reach_nodup h k _ _ hn
theorem reach_keeps (h : Hp) : ∀ (k : Nat) (ids seen : List Nat) (j x : Nat), seen[j]? = some x → (reach h k ids seen)[j]? = some x
  | 0, _, _, _, _, hx => hx
  | k + 1, [], _, _, _, hx => hx
  | k + 1, id :: r, seen, j, x, hx => by
    simp only [reach]
    split
    · exact reach_keeps h k _ _ j x hx
    · split
      · refine reach_keeps h k _ _ j x ?_
        rw [List.getElem?_append_left (List.getElem?_eq_some_iff.1 hx).1]
        exact hx
      · exact reach_keeps h k _ _ j x hx
theorem seenOf_nodup (st : St) (roots : List Nat) : (seenOf st roots).Nodup := reach_nodup _ _ _ _ List.nodup_range
theorem seenOf_io (st : St) (roots : List Nat) (i : Nat) (hi : i < st.io) : (seenOf st roots)[i]? = some i := reach_keeps _ _ _ _ _ _ (by rw [List.getElem?_range hi])
theorem eff_back {c d d' c' : Cx} (β : Nat → Nat) (hc : RelH c) (hw : d.w = c.w) (hN : d.N = c.N) (hO : d.E.own = c.E.own) (ho0 : ∀ j b, d.h j = some b → ∃ id b', c.h id = some b' ∧ (c.E id).blk = (d.E j).blk) (e : Eff' d d')
    (hw' : c'.w = d'.w) (hN' : c'.N = d'.N) (hO' : c'.E.own = d'.E.own) (hU : ∀ id, c.U id → c'.U id ∧ c'.E id = c.E id) (hu : ∀ id b, c'.h id = some b → c'.U id)
    (hold : ∀ id b', c.U id → c'.h id = some b' → ∃ b, c.h id = some b ∧ Compat b b')
    (hcase : ∀ id b', c'.h id = some b' → (c.h id = some b' ∧ c.U id ∧ ¬ own d (c.E id).blk) ∨ ∃ j b, d'.h j = some b ∧ (c'.E id).blk = (d'.E j).blk ∧ (Step c c' → RelB c' b' (c'.E id)) ∧ id = β j) : Eff' c c' := by
  have st : Step c c' := by
    refine ⟨fun id h => (hU id h).1, fun id h => (hU id h).2, hold, fun g hg => ?_⟩
    rw [hw', hN', ← hw]
    rw [← hN] at hg
    exact e.step.n g hg
  have lt : ∀ id b', c.h id = some b' → (c.E id).blk < c.w.heap.size := fun id b' hb' => by
    obtain ⟨cs, ty, fz, h1, _⟩ := hc.blk id b' hb'
    exact (Array.getElem?_eq_some_iff.1 h1).1
  have kept : ∀ g, g < c.w.heap.size → ¬ own d g → c'.w.heap[g]? = c.w.heap[g]? := fun g hg hno => by
    rw [hw', ← hw]; exact e.keep g (by rw [hw]; exact hg) hno
  have ho : ∀ g, own d g → own c g := fun g hg => by
    rcases hg with ⟨j, b, hb, hg⟩ | ⟨a, j, b, hoa, hb, hg⟩
    · obtain ⟨id, b', h1, h2⟩ := ho0 j b hb
      exact .inl ⟨id, b', h1, by rw [h2, hg]⟩
    · obtain ⟨id, b', h1, h2⟩ := ho0 j b hb
      exact .inr ⟨a, id, b', by rw [← hO]; exact hoa, h1, by rw [h2, hg]⟩
  have far : ∀ id b', c.h id = some b' → ¬ own d (c.E id).blk → ∀ x o, c.E.own x = some ((c.E id).blk, o) → ¬ own d x := fun id b' hb' hno x o hx hox => by
    rcases hox with ⟨j, b, hb, hg⟩ | ⟨a, j, b, hoa, hb, hg⟩
    · obtain ⟨id2, b2, h1, h2⟩ := ho0 j b hb
      exact nest_ne hc hx hb' h1 (by rw [h2, hg])
    · rw [hO, hx] at hoa
      obtain rfl := Option.some.inj hoa
      exact hno (.inl ⟨j, b, hb, hg⟩)
  have same : ∀ g, g < c.w.heap.size → ¬ own d g → (∀ a, c.E.own g = some a → ¬ own d a.1 ∧ a.1 < c.w.heap.size) → c'.E.own g = c.E.own g := fun g hg hno ha => by
    rw [hO', ← hO]
    exact e.ownk g (by rw [hw]; exact hg) hno (fun a hx => by rw [hO] at hx; rw [hw]; exact ha a hx)
  have oldnot : ∀ id b', c.h id = some b' → ¬ own d (c.E id).blk → ¬ own d' (c.E id).blk := fun id b' hb' hno hyes => by
    rcases e.owns _ hyes with h | h
    · exact hno h
    · have := lt id b' hb'; rw [hw] at h; omega
  refine ⟨st, ⟨?_, hu, ?_, ?_, ?_, ?_, ?_⟩, by rw [hw', e.os, hw], by rw [hw', e.tape, hw], by rw [hw', e.output, hw], by rw [hw', ← hw]; exact e.size, fun g hg hno => kept g hg fun h => hno (ho g h), ?_, ?_, fun g hg hno hpa => same g hg (fun h => hno (ho g h)) (fun a hx => ⟨fun h => (hpa a hx).1 (ho _ h), (hpa a hx).2⟩), ?_⟩
  · intro id b' hb'
    rcases hcase id b' hb' with ⟨h1, h2, h3⟩ | ⟨j, b, h1, h2, h3, _⟩
    · rw [(hU id h2).2]
      exact (hc.blk id b' h1).mono st (kept _ (lt id b' h1) h3) (fun x o hx => ⟨by rw [same x (hc.olow _ _ hx).1 (far id b' h1 h3 x o hx) (fun a hxa => by rw [hx] at hxa; obtain rfl := Option.some.inj hxa; exact ⟨h3, lt id b' h1⟩)]; exact hx, kept x (hc.olow _ _ hx).1 (far id b' h1 h3 x o hx)⟩)
    · exact h3 st
  · intro id id' b b' hb hb' hne
    rcases hcase id b hb with ⟨h1, h2, h3⟩ | ⟨j, b0, h1, h2, h3, h4⟩
    · rw [(hU id h2).2]
      rcases hcase id' b' hb' with ⟨k1, k2, k3⟩ | ⟨j', b0', k1, k2, k3, k4⟩
      · rw [(hU id' k2).2]
        exact hc.inj id id' b b' h1 k1 hne
      · rw [k2]
        intro heq
        exact oldnot id b h1 h3 (.inl ⟨j', b0', k1, heq.symm⟩)
    · rcases hcase id' b' hb' with ⟨k1, k2, k3⟩ | ⟨j', b0', k1, k2, k3, k4⟩
      · rw [h2, (hU id' k2).2]
        intro heq
        exact oldnot id' b' k1 k3 (.inl ⟨j, b0, h1, heq⟩)
      · rw [h2, k2]
        exact e.relh.inj j j' b0 b0' h1 k1 (fun e => hne (by rw [h4, k4, e]))
  · intro id b' hb' hn
    rw [hN'] at hn
    rcases hcase id b' hb' with ⟨h1, h2, h3⟩ | ⟨j, b, h1, h2, _, _⟩
    · rw [(hU id h2).2] at hn
      rcases e.news _ hn with h | h | h
      · rw [hN] at h; exact hc.apart id b' h1 h
      · have := lt id b' h1; rw [hw] at h; omega
      · exact h3 h
    · rw [h2] at hn
      exact e.relh.apart j b h1 hn
  · intro g hg
    rw [hN'] at hg
    rw [hw']
    exact e.relh.low g hg
  · intro g a id b' hoa hb' ha
    rcases hcase id b' hb' with ⟨h1, h2, h3⟩ | ⟨j, b, h1, h2, _, _⟩
    · rw [(hU id h2).2] at ha
      have hca : c.E.own g = some a := by
        rw [hO'] at hoa
        rcases e.ownr g a hoa with k | k | k
        · rw [← hO]; exact k
        · rw [← ha] at k
          exact absurd k h3
        · have := lt id b' h1
          rw [hw] at k
          omega
      have hx : c.E.own g = some ((c.E id).blk, a.2) := by rw [hca, ha]
      have hfar := far id b' h1 h3 g a.2 hx
      obtain ⟨n1, n2⟩ := hc.nest g a id b' hca h1 ha
      have hlt := (hc.olow g a hca).1
      refine ⟨fun hn => ?_, fun id' b2 hb2 => ?_⟩
      · rw [hN'] at hn
        rcases e.news g hn with k | k | k
        · rw [hN] at k; exact n1 k
        · rw [hw] at k; omega
        · exact hfar k
      · rcases hcase id' b2 hb2 with ⟨k1, k2, k3⟩ | ⟨j', b3, k1, k2, _, _⟩
        · rw [(hU id' k2).2]
          exact n2 id' b2 k1
        · intro heq
          rw [k2] at heq
          rcases e.owns g (.inl ⟨j', b3, k1, heq⟩) with k | k
          · exact hfar k
          · rw [hw] at k; omega
    · rw [h2] at ha
      rw [hO'] at hoa
      obtain ⟨n1, n2⟩ := e.relh.nest g a j b hoa h1 ha
      refine ⟨by rw [hN']; exact n1, fun id' b2 hb2 => ?_⟩
      rcases hcase id' b2 hb2 with ⟨k1, k2, k3⟩ | ⟨j', b3, k1, k2, _, _⟩
      · rw [(hU id' k2).2]
        intro heq
        have hog : own d' (c.E id').blk := .inr ⟨a, j, b, by rw [heq]; exact hoa, h1, ha⟩
        exact oldnot id' b2 k1 k3 hog
      · rw [k2]
        exact n2 j' b3 k1
  · intro g a hoa
    rw [hO'] at hoa
    rw [hw']
    exact e.relh.olow g a hoa
  · intro g hg
    rw [hN'] at hg
    rcases e.news g hg with h | h | h
    · exact .inl (by rw [← hN]; exact h)
    · exact .inr (.inl (by rw [← hw]; exact h))
    · exact .inr (.inr (ho g h))
  · rintro g (⟨id, b', hb', hg⟩ | ⟨a, id, b', hoa, hb', hg⟩)
    · rcases hcase id b' hb' with ⟨h1, h2, h3⟩ | ⟨j, b, h1, h2, _, _⟩
      · rw [(hU id h2).2] at hg
        exact .inl (.inl ⟨id, b', h1, hg⟩)
      · rw [h2] at hg
        rcases e.owns g (.inl ⟨j, b, h1, hg⟩) with h | h
        · exact .inl (ho g h)
        · exact .inr (by rw [← hw]; exact h)
    · rcases hcase id b' hb' with ⟨h1, h2, h3⟩ | ⟨j, b, h1, h2, _, _⟩
      · rw [(hU id h2).2] at hg
        rw [hO'] at hoa
        rcases e.ownr g a hoa with k | k | k
        · exact .inl (.inr ⟨a, id, b', by rw [← hO]; exact k, h1, hg⟩)
        · rw [← hg] at k
          exact absurd k h3
        · have := lt id b' h1
          rw [hw] at k
          omega
      · rw [h2] at hg
        rw [hO'] at hoa
        rcases e.owns g (.inr ⟨a, j, b, hoa, h1, hg⟩) with h | h
        · exact .inl (ho g h)
        · exact .inr (by rw [← hw]; exact h)
  · intro g a hoa
    rw [hO'] at hoa
    rcases e.ownr g a hoa with k | k | k
    · exact .inl (by rw [← hO]; exact k)
    · exact .inr (.inl (ho _ k))
    · exact .inr (.inr (by rw [← hw]; exact k))
end Go.Vsi
namespace Go.Vsi
def CallOK (P : Program) (call : Call) : Prop :=
  ∀ f args bs r bs', call f args bs = some (r, bs') → ∀ (c : Cx) (vs : Array Value), RelH c → c.h = hpOf bs → (∀ i, c.U i ↔ i < bs.length) → vs.size = args.length → CellsAt (RelV c) vs 0 args →
    Calls P f vs c.w fun e w' => ∃ v c', e = .returned v ∧ c'.w = w' ∧ c'.h = hpOf bs' ∧ (∀ i, c'.U i → i < bs'.length) ∧ RelW c' r v ∧ Eff' c c'
theorem upd_mem {id : Nat} {b : Option Blk} : ∀ (l : Ups) (h : Hp), (l.map (·.1)).Nodup → (id, b) ∈ l → upd h l id = b
  | [], _, _, hm => by simp at hm
  | (i, y) :: r, h, hn, hm => by
    simp only [List.map_cons, List.nodup_cons] at hn
    rw [upd_cons]
    rcases List.mem_cons.1 hm with he | hm
    · obtain ⟨rfl, rfl⟩ := Prod.mk.inj he
      rw [upd_other r _ (fun x hx e => hn.1 (List.mem_map.2 ⟨x, hx, e⟩)), upd_one, if_pos rfl]
    · exact upd_mem r _ hn.2 hm
theorem reach_used {h : Hp} : ∀ (k : Nat) (ids seen : List Nat) (x : Nat), x ∈ reach h k ids seen → x ∈ seen ∨ ∃ b, h x = some b
  | 0, _, _, _, hx => .inl hx
  | k + 1, [], _, _, hx => .inl hx
  | k + 1, id :: r, seen, x, hx => by
    simp only [reach] at hx
    split at hx
    · exact reach_used k _ _ x hx
    · split at hx
      · rename_i b hb
        rcases reach_used k _ _ x hx with h1 | h1
        · rcases List.mem_append.1 h1 with h2 | h2
          · exact .inl h2
          · simp only [List.mem_singleton] at h2
            subst h2
            exact .inr ⟨b, hb⟩
        · exact .inr h1
      · exact reach_used k _ _ x hx
theorem hpOf_get {bs : List (Option Blk)} {j : Nat} {b : Blk} : hpOf bs j = some b ↔ bs[j]? = some (some b) := by
  unfold hpOf
  cases h : bs[j]? with
  | none => simp
  | some x => simp
theorem zipIdx_keys {α : Type} (β : Nat → Nat) (g : α → Option Blk) (bs : List α) : (bs.zipIdx.map fun x => (β x.2, g x.1)).map (·.1) = (List.range bs.length).map β := by
  rw [List.map_map]
  apply List.ext_getElem?
  intro i
  simp only [List.getElem?_map, List.getElem?_zipIdx]
  by_cases hi : i < bs.length
  · simp [List.getElem?_range hi, List.getElem?_eq_getElem hi]
  · rw [List.getElem?_eq_none (by omega), List.getElem?_eq_none (l := List.range bs.length) (by simp; omega)]
    rfl
section
variable {P : Program} {o : Oper} {fr : Nat → Nat} {c : Cx} {a : Act}
theorem call_wp {g : FuncId} {fn : Func} {body : Code} {c0 : Go.Call} {f : Operand} {caps : Array Value} {r : W} {up : Ups} (hname : (fn.name == "runtime.NumGoroutine") = false) (ho : o.op = .call c0) (hcal : c0.callee = .value f)
    (hf : a.eval f = .func (.func g) #[] caps) (hg : P.funcs[g]? = some fn) (hb : fn.body = some body)
    (h : Calls P g (c0.args.map a.eval ++ caps) c.w fun e w' => ∃ v c', e = .returned v ∧ c'.w = w' ∧ c'.h = upd c.h up ∧ (∀ id, c'.U id → c.U id ∨ ∃ k, k < 64 ∧ id = fr k) ∧ RelW c' r v ∧ Eff' c c') : OpSound P o fr c a r up := by
  intro K Q hK
  unfold Oper.wp
  have hex : (execOp a.eval o).run P c.w = .ok (.enter g (c0.args.map a.eval ++ caps)) c.w := by
    unfold execOp
    rw [ho]
    simp only [resolve, hcal, hf, Deferred.ofValue, Sem.run_bind, Sem.run_pure, Result.andThen_ok, invoke, callFunc, run_program, hg, hname, hb]
    simp
  rw [hex, Oper.upon_enter]
  refine Calls.mono h fun e w' he => ?_
  obtain ⟨v, c', rfl, rfl, h1, h2, h3, h4⟩ := he
  exact hK v c' h4 h1 h2 h3
theorem own_call {call : Call} (hcall : CallOK P call) (hc : RelH c) (hfr : ∀ k, k < 64 → ¬ c.U (fr k)) (hinj : ∀ k k', k < 64 → k' < 64 → fr k = fr k' → k = k') {g : FuncId} {args : List V} {vs : Array Value} {r : W} {up : Ups}
    (h : ownCall call fr c.h g args = some (r, up)) (hs : vs.size = args.length) (hv : CellsAt (RelV c) vs 0 args) :
    Calls P g vs c.w fun e w' => ∃ v c', e = .returned v ∧ c'.w = w' ∧ c'.h = upd c.h up ∧ (∀ id, c'.U id → c.U id ∨ ∃ k, k < 64 ∧ id = fr k) ∧ RelW c' r v ∧ Eff' c c' := by
  unfold ownCall at h
  simp only at h
  generalize hseen : reach c.h 400 (args.flatMap idsV) [] = seen at h
  have hn : seen.Nodup := by rw [← hseen]; exact reach_nodup _ _ _ _ List.nodup_nil
  have husd : ∀ x ∈ seen, c.U x := fun x hx => by
    rw [← hseen] at hx
    rcases reach_used _ _ _ _ hx with h1 | ⟨b, h1⟩
    · simp at h1
    · exact hc.used x b h1
  split at h
  · cases h
  rename_i rv bs' hcl
  split at h
  · cases h
  rename_i hlen
  simp only [Bool.and_eq_true] at hlen
  have hm := Nat.le_of_ble_eq_true hlen.1
  have hM := Nat.le_of_ble_eq_true hlen.2
  generalize hback : backOf seen fr = back at h
  obtain ⟨rfl, rfl⟩ := Prod.mk.inj (Option.some.inj h)
  let β : Nat → Nat := fun j => (back j).getD 0
  have hβ : ∀ j, back j = some (β j) := fun j => by
    show back j = some ((back j).getD 0)
    rw [← hback]
    unfold backOf
    split <;> rfl
  have hβlo : ∀ j x, seen[j]? = some x → β j = x := fun j x hx => by
    show (back j).getD 0 = x
    rw [← hback]
    simp only [backOf, hx]
    rfl
  have hβhi : ∀ j, seen.length ≤ j → β j = fr (j - seen.length) := fun j hj => by
    show (back j).getD 0 = _
    rw [← hback]
    simp only [backOf, List.getElem?_eq_none hj]
    rfl
  have hβinj : ∀ i j, i < bs'.length → j < bs'.length → β i = β j → i = j := by
    intro i j hi hj he
    by_cases hi' : i < seen.length
    · by_cases hj' : j < seen.length
      · rw [hβlo i _ (List.getElem?_eq_getElem hi'), hβlo j _ (List.getElem?_eq_getElem hj')] at he
        have e1 := ix_of seen _ i hn (List.getElem?_eq_getElem hi')
        have e2 := ix_of seen _ j hn (List.getElem?_eq_getElem hj')
        rw [he, e2] at e1
        exact (Option.some.inj e1).symm
      · rw [hβlo i _ (List.getElem?_eq_getElem hi'), hβhi j (by omega)] at he
        exact absurd (he ▸ husd _ (List.getElem_mem hi')) (hfr _ (by omega))
    · by_cases hj' : j < seen.length
      · rw [hβlo j _ (List.getElem?_eq_getElem hj'), hβhi i (by omega)] at he
        exact absurd (he ▸ husd _ (List.getElem_mem hj')) (hfr _ (by omega))
      · rw [hβhi i (by omega), hβhi j (by omega)] at he
        have := hinj _ _ (by omega) (by omega) he
        omega
  let d := renC seen c
  have hd : RelH d := relh_ren hc hn
  have hcalls := hcall g _ _ rv bs' hcl d vs hd rfl (fun i => by show i < seen.length ↔ _; simp) (by simpa using hs) (hv.map (renV (ix seen)) fun _ _ => (tr_ren seen c).v)
  refine Calls.mono hcalls fun e w' he => ?_
  obtain ⟨v, d', rfl, rfl, h1, h2, h3, h4⟩ := he
  let ups : Ups := bs'.zipIdx.map fun (b, j) => (β j, b.map (renB back))
  have hkeys : (ups.map (·.1)).Nodup := by
    show ((bs'.zipIdx.map fun x => (β x.2, x.1.map (renB back))).map (·.1)).Nodup
    rw [zipIdx_keys β (fun b : Option Blk => b.map (renB back)) bs']
    refine List.pairwise_iff_getElem.2 fun i j hi hj hij => ?_
    simp only [List.length_map, List.length_range] at hi hj
    simp only [List.getElem_map, List.getElem_range]
    intro he
    have := hβinj i j hi hj he
    omega
  have hin : ∀ j b, bs'[j]? = some b → upd c.h ups (β j) = b.map (renB back) := fun j b hj => by
    refine upd_mem ups c.h hkeys (List.mem_map.2 ⟨(b, j), ?_, rfl⟩)
    rw [List.mem_iff_getElem?]
    exact ⟨j, by simp [List.getElem?_zipIdx, hj]⟩
  have hout : ∀ id, (∀ j, j < bs'.length → β j ≠ id) → upd c.h ups id = c.h id := fun id hid => by
    refine upd_other ups c.h fun x hx => ?_
    obtain ⟨⟨b, j⟩, hm, rfl⟩ := List.mem_map.1 hx
    rw [List.mem_iff_getElem?] at hm
    obtain ⟨i, hi⟩ := hm
    simp only [List.getElem?_zipIdx] at hi
    cases hb : bs'[i]? with
    | none => simp [hb] at hi
    | some b' =>
      simp [hb] at hi
      obtain ⟨_, rfl⟩ := hi
      exact hid _ (List.getElem?_eq_some_iff.1 hb).1
  open Classical in
  let E' : Emb := ⟨fun id => if hx : ∃ k, k < 64 ∧ id = fr k then d'.E (seen.length + Classical.choose hx) else c.E id, d'.E.own⟩
  let c' : Cx := ⟨d'.w, d'.N, E', fun id => c.U id ∨ ∃ k, seen.length + k < bs'.length ∧ id = fr k, upd c.h ups⟩
  have hEU : ∀ id, c.U id → E' id = c.E id := fun id hid => by
    show (if hx : ∃ k, k < 64 ∧ id = fr k then _ else _) = _
    rw [dif_neg]
    rintro ⟨k, hk, rfl⟩
    exact hfr k hk hid
  have hEfr : ∀ k, k < 64 → E' (fr k) = d'.E (seen.length + k) := fun k hk => by
    show (if hx : ∃ k', k' < 64 ∧ fr k = fr k' then _ else _) = _
    have hx : ∃ k', k' < 64 ∧ fr k = fr k' := ⟨k, hk, rfl⟩
    rw [dif_pos hx]
    have hs := Classical.choose_spec hx
    rw [hinj _ _ hs.1 hk hs.2.symm]
  have hEβ : ∀ j, j < bs'.length → E' (β j) = d'.E j := fun j hj => by
    by_cases hj' : j < seen.length
    · have hx := List.getElem?_eq_getElem hj'
      rw [hβlo j _ hx, hEU _ (husd _ (List.getElem_mem hj')), h4.step.emb j hj']
      show _ = c.E (seen.getD j 0)
      rw [getD_of hx]
    · rw [hβhi j (by omega), hEfr _ (by omega)]
      congr 1; omega
  have hUβ : ∀ j, j < bs'.length → c'.U (β j) := fun j hj => by
    by_cases hj' : j < seen.length
    · rw [hβlo j _ (List.getElem?_eq_getElem hj')]
      exact .inl (husd _ (List.getElem_mem hj'))
    · rw [hβhi j (by omega)]
      exact .inr ⟨j - seen.length, by omega, rfl⟩
  have htr : Tr d' c' back := by
    refine ⟨fun g hg => ⟨hg, rfl⟩, fun j id hj hu => ?_⟩
    rw [hβ j] at hj
    obtain rfl := Option.some.inj hj
    have hlt := h2 j hu
    refine ⟨hUβ j hlt, hEβ j hlt, fun b' hb' => ?_⟩
    have hb' : upd c.h ups (β j) = some b' := hb'
    rw [hin j _ (List.getElem?_eq_getElem hlt)] at hb'
    cases hq : bs'[j] with
    | none => rw [hq] at hb'; cases hb'
    | some b0 =>
      rw [hq] at hb'
      obtain rfl := Option.some.inj hb'
      refine ⟨b0, ?_, compat_ren _ _⟩
      rw [h1, hpOf_get, List.getElem?_eq_getElem hlt, hq]
  have split : ∀ id b', upd c.h ups id = some b' → (∃ j b0, j < bs'.length ∧ id = β j ∧ d'.h j = some b0 ∧ b' = renB back b0) ∨ ((∀ j, j < bs'.length → β j ≠ id) ∧ c.h id = some b') := fun id b' hb' => by
    by_cases hx : ∃ j, j < bs'.length ∧ β j = id
    · obtain ⟨j, hj, rfl⟩ := hx
      left
      rw [hin j _ (List.getElem?_eq_getElem hj)] at hb'
      cases hq : bs'[j] with
      | none => rw [hq] at hb'; cases hb'
      | some b0 =>
        rw [hq] at hb'
        obtain rfl := Option.some.inj hb'
        exact ⟨j, b0, hj, rfl, by rw [h1, hpOf_get, List.getElem?_eq_getElem hj, hq], rfl⟩
    · right
      have hno : ∀ j, j < bs'.length → β j ≠ id := fun j hj he => hx ⟨j, hj, he⟩
      exact ⟨hno, by rw [← hout id hno]; exact hb'⟩
  have heff : Eff' c c' := by
    refine eff_back (d := d) (d' := d') (c' := c') β hc rfl rfl rfl (fun j b hb => by
      obtain ⟨id', b2, e1, e2, rfl⟩ := hpOf_renH hb
      exact ⟨id', b2, e2, by show _ = (c.E (seen.getD j 0)).blk; rw [getD_of e1]⟩) h4 rfl rfl rfl (fun id hid => ⟨.inl hid, hEU id hid⟩) ?_ ?_ ?_
    · intro id b hb
      rcases split id b hb with ⟨j, b0, hj, rfl, _⟩ | ⟨_, h⟩
      · exact hUβ j hj
      · exact .inl (hc.used id b h)
    · intro id b' hu hb'
      rcases split id b' hb' with ⟨j, b0, hj, rfl, hdj, rfl⟩ | ⟨_, h⟩
      · have hj' : j < seen.length := by
          rcases Nat.lt_or_ge j seen.length with h | h
          · exact h
          · rw [hβhi j h] at hu
            exact absurd hu (hfr _ (by omega))
        obtain ⟨b1, hb1, hcm⟩ := h4.step.old j b0 hj' hdj
        obtain ⟨id', b2, e1, e2, rfl⟩ := hpOf_renH hb1
        rw [hβlo j _ e1]
        exact ⟨b2, e2, ((compat_ren _ _).trans hcm).trans (compat_ren _ _)⟩
      · exact ⟨b', h, Compat.refl _⟩
    · intro id b' hb'
      rcases split id b' hb' with ⟨j, b0, hj, rfl, hdj, rfl⟩ | ⟨hno, h⟩
      · refine .inr ⟨j, b0, hdj, by show (E' (β j)).blk = _; rw [hEβ j hj], fun _ => ?_, rfl⟩
        show RelB c' _ (E' (β j))
        rw [hEβ j hj]
        exact htr.b (h4.relh.blk j b0 hdj) rfl (fun x o hx => ⟨hx, rfl⟩)
      · refine .inl ⟨h, hc.used id b' h, ?_⟩
        rintro (⟨j, b1, hb1, hblk⟩ | ⟨a', j, b1, hoa, hb1, hblk⟩)
        case inr =>
          obtain ⟨id', b2, e1, e2, rfl⟩ := hpOf_renH hb1
          have hE : d.E j = c.E id' := by show c.E (seen.getD j 0) = _; rw [getD_of e1]
          rw [hE] at hblk
          exact (hc.nest _ a' id' b2 hoa e2 hblk).2 id b' h rfl
        obtain ⟨id', b2, e1, e2, rfl⟩ := hpOf_renH hb1
        have hE : d.E j = c.E id' := by show c.E (seen.getD j 0) = _; rw [getD_of e1]
        rw [hE] at hblk
        by_cases hne : id = id'
        · subst hne
          have hj : j < seen.length := (List.getElem?_eq_some_iff.1 e1).1
          exact hno j (by omega) (hβlo j _ e1)
        · exact hc.inj id id' b' b2 h e2 hne hblk.symm
  refine ⟨v, c', rfl, rfl, rfl, fun id hid => ?_, htr.w h3, heff⟩
  rcases hid with h | ⟨k, hk, rfl⟩
  · exact .inl h
  · exact .inr ⟨k, by omega, rfl⟩
def lentC (c : Cx) : Cx := ⟨c.w, fun g => c.N g ∨ own c g, c.E, fun _ => False, hpOf []⟩
theorem hpOf_nil (j : Nat) : hpOf [] j = none := by simp [hpOf]
theorem own_lent (c : Cx) (g : Nat) : ¬ own (lentC c) g := by
  rintro (⟨id, b, hb, _⟩ | ⟨_, id, b, _, hb, _⟩)
  all_goals
    have : hpOf [] id = some b := hb
    rw [hpOf_nil] at this
    cases this
theorem relh_lent (hc : RelH c) : RelH (lentC c) where
  blk := fun id b hb => by have : hpOf [] id = some b := hb; rw [hpOf_nil] at this; cases this
  used := fun id b hb => by have : hpOf [] id = some b := hb; rw [hpOf_nil] at this; cases this
  inj := fun id id' b b' hb => by have : hpOf [] id = some b := hb; rw [hpOf_nil] at this; cases this
  apart := fun id b hb => by have : hpOf [] id = some b := hb; rw [hpOf_nil] at this; cases this
  low := fun g hg => by
    rcases hg with h | ⟨id, b, hb, rfl⟩ | ⟨a, id, b, hoa, _⟩
    · exact hc.low g h
    · obtain ⟨cs, ty, fz, h1, _⟩ := hc.blk id b hb
      exact (Array.getElem?_eq_some_iff.1 h1).1
    · exact (hc.olow g a hoa).1
  nest := fun g a id b _ hb => by have : hpOf [] id = some b := hb; rw [hpOf_nil] at this; cases this
  olow := hc.olow
theorem rd_rows {w : World} {N : Nat → Prop} {g o k cap : Nat} {R : List (List D)} {cs : Array Value} {ty : TypeId} {fz : Nat × Nat} (hg : w.heap[g]? = some (.cells cs ty fz)) (hN : N g) (hcap : R.length ≤ cap)
    (h : ∀ i r, R[i]? = some r → r.length = k ∧ ∀ j d, r[j]? = some d → ∃ v, cs[o + i * k + j]? = some v ∧ RdD w N d v) : RdD w N (.sl k R) (.slice (some ⟨g, o, none⟩) R.length cap) := by
  refine .sl (fun i j => (cs[o + i * k + j]?).getD undef) hcap hN (fun i r hi => ?_) (fun i r j d hi hd => ?_)
  · obtain ⟨hrk, hcr⟩ := h i r hi
    refine ⟨hrk, fun j hj => ?_⟩
    rw [cell_of_row w g _ cs ty fz hg]
    obtain ⟨y, hy, _⟩ := hcr j r[j] (by simp)
    rw [hy]; rfl
  · obtain ⟨y, hy, hd'⟩ := (h i r hi).2 j d hd
    rw [hy]
    exact hd'
theorem flat_rel {c : Cx} {N' : Nat → Prop} {w' : World} {g a : Nat} {o : O} {v : Value} (h : RelO c g a none o v) (hn : ∀ x, c.N x → N' x ∧ w'.heap[x]? = c.w.heap[x]?) (ho : ∀ x, c.E.own x = some (g, a) → N' x ∧ w'.heap[x]? = c.w.heap[x]?) : RdD w' N' o.flat v := by
  cases o with
  | d x => exact RdD.mono hn h
  | own k rows =>
    obtain ⟨p, ⟨a0, rfl, h1⟩, h2, cs, ty, fz, h3, _, h5, _, h7⟩ := h
    by_cases h0 : p.room = 0
    · have : rows = [] := List.length_eq_zero_iff.1 (by omega)
      subst this
      exact .nil
    obtain rfl := h1.resolve_left h0
    exact rd_rows ((ho _ h2).2.trans h3) (ho _ h2).1 h5 fun i r hr => ⟨(h7 i r hr).1, fun j d hd => let ⟨v, hv, hr⟩ := (h7 i r hr).2 j d hd; ⟨v, hv, RdD.mono hn hr⟩⟩
theorem flats_rel {c : Cx} (hc : RelH c) {N' : Nat → Prop} {w' : World} {id off len k : Nat} {rows : List (List O)} {v : Value} (hid : c.h id = some (.nar k rows [])) (hr : RelS c (.arr id off len) v)
    (hn : ∀ x, c.N x → N' x ∧ w'.heap[x]? = c.w.heap[x]?) (hi : N' (c.E id).blk ∧ w'.heap[(c.E id).blk]? = c.w.heap[(c.E id).blk]?) (ho : ∀ x o, c.E.own x = some ((c.E id).blk, o) → N' x ∧ w'.heap[x]? = c.w.heap[x]?) :
    RdD w' N' (.sl k (((rows.drop off).take len).map (List.map O.flat))) v := by
  obtain ⟨_, _, h3⟩ := hr
  obtain ⟨k', n, he, hle, a, cap, rfl, hlc, hroom, ha⟩ := h3 _ hid
  simp only [Blk.arrOf, Option.some.injEq, Prod.mk.injEq] at he
  obtain ⟨rfl, rfl⟩ := he
  by_cases h0 : len = 0
  · subst h0
    simp only [List.take_zero, List.map_nil]
    exact .nil
  · have hcap : ¬ cap = 0 := by omega
    obtain rfl := ha.resolve_left hcap
    obtain ⟨cs, ty, fz, hb, _, hrl, hsz, hcell⟩ := hc.blk id _ hid
    have hlen : (((rows.drop off).take len).map (List.map O.flat)).length = len := by simp; omega
    have key := rd_rows (w := w') (N := N') (k := k) (o := (c.E id).off + off * k) (cap := cap) (R := ((rows.drop off).take len).map (List.map O.flat)) (hi.2.trans hb) hi.1 (by omega) (fun i r hir => by
      rw [List.getElem?_map] at hir
      cases hq : ((rows.drop off).take len)[i]? with
      | none => rw [hq] at hir; cases hir
      | some r0 =>
        rw [hq] at hir
        simp only [Option.map_some, Option.some.injEq] at hir
        subst hir
        have hq2 : rows[off + i]? = some r0 := by
          rw [List.getElem?_take] at hq
          split at hq
          · rwa [List.getElem?_drop] at hq
          · cases hq
        obtain ⟨g1, g2⟩ := hcell _ r0 hq2
        refine ⟨by simpa using g1, fun j d hd => ?_⟩
        rw [List.getElem?_map] at hd
        cases hj : r0[j]? with
        | none => rw [hj] at hd; cases hd
        | some o =>
          rw [hj] at hd
          simp only [Option.map_some, Option.some.injEq] at hd
          subst hd
          obtain ⟨v, hv, hrel⟩ := g2 j o hj
          have e : (c.E id).off + (off + i) * k + j = (c.E id).off + off * k + i * k + j := by rw [Nat.add_mul]; omega
          refine ⟨v, by rw [← e]; exact hv, flat_rel hrel hn fun x hx => ho x _ hx⟩)
    rw [hlen] at key
    exact key
theorem lendS_rel (hc : RelH c) {s s' : S} {v : Value} (h : lendS c.h s = some s') (hr : RelS c s v) : RelS (lentC c) s' v := by
  have hone := hr.one
  have hD : ∀ {s d u}, toD c.h s = some (d, u) → ∀ {v}, RelS c s v → RdD (lentC c).w (lentC c).N d v := fun hs _ hr =>
    toD_rel hc (fun _ _ => rfl) (fun g hg => .inl hg) hs hr fun y _ b hb => .inr (.inl ⟨y.1, b, hb, rfl⟩)
  cases s with
  | d x =>
    simp only [lendS, Option.some.injEq] at h
    subst h
    exact RdD.mono (fun g hg => ⟨.inl hg, rfl⟩) hr
  | arr id off len =>
    simp only [lendS] at h
    split at h
    · rename_i k rows hid
      obtain rfl := Option.some.inj h
      exact hD (s := .arr id off len) (u := [(id, none)]) (by simp only [toD, hid]) hr
    · rename_i k rows hid
      obtain rfl := Option.some.inj h
      exact flats_rel hc hid hr (fun x hx => ⟨.inl hx, rfl⟩) ⟨.inr (.inl ⟨id, _, hid, rfl⟩), rfl⟩ (fun x o hx => ⟨.inr (.inr ⟨_, id, _, hx, hid, rfl⟩), rfl⟩)
    · cases h
  | ptr id row off =>
    simp only [lendS] at h
    split at h
    · rename_i cells hid
      split at h
      · rename_i ds us hds
        obtain rfl := Option.some.inj h
        have hp := hr.2.2 _ hid
        obtain ⟨cs, ty, fz, h1, _, _, hcell⟩ := hc.blk id _ hid
        refine ⟨(c.E id).blk, (c.E id).off, by rw [hp]; simp, .inr (.inl ⟨id, _, hid, rfl⟩), fun j d hj => ?_⟩
        obtain ⟨d1, d2, d3⟩ := toDs_get _ hds
        have hlt : j < cells.length := by rw [← d1]; exact (List.getElem?_eq_some_iff.1 hj).1
        obtain ⟨d', u', e1, e2, _⟩ := d3 j _ (List.getElem?_eq_getElem hlt)
        rw [hj] at e1
        obtain rfl := Option.some.inj e1
        obtain ⟨x, hx, hrx⟩ := hcell j _ (List.getElem?_eq_getElem hlt)
        exact ⟨x, by show c.w.cell? _ = _; rw [cell_of_row c.w _ _ cs ty fz h1]; exact hx, hD e2 hrx⟩
      · cases h
    · rename_i k rows hid
      split at h
      · rename_i rr hrr
        obtain rfl := Option.some.inj h
        have hp := hr.2.2 _ hid
        obtain ⟨cs, ty, fz, h1, _, _, _, hcell⟩ := hc.blk id _ hid
        refine ⟨(c.E id).blk, (c.E id).off + row * k, by rw [hp]; rfl, .inr (.inl ⟨id, _, hid, rfl⟩), fun j d hj => ?_⟩
        obtain ⟨x, hx, hrx⟩ := (hcell row rr hrr).2 j d hj
        exact ⟨x, by show c.w.cell? _ = _; rw [cell_of_row c.w _ _ cs ty fz h1]; exact hx, RdD.mono (fun g hg => ⟨.inl hg, rfl⟩) hrx⟩
      · cases h
    · cases h
    · cases h
  | dp r off =>
    simp only [lendS, Option.some.injEq] at h
    subst h
    obtain ⟨b, q, rfl, hb, hcell⟩ := hr
    exact ⟨b, q, rfl, .inl hb, fun j d hj => let ⟨x, hx, hd⟩ := hcell j d hj; ⟨x, hx, RdD.mono (fun g hg => ⟨.inl hg, rfl⟩) hd⟩⟩
  | fn f caps =>
    cases caps with
    | nil =>
      simp only [lendS, Option.some.injEq] at h
      subst h
      obtain ⟨cs, rfl, hs, _⟩ := hr
      exact ⟨cs, rfl, hs, fun i id hi => by simp at hi⟩
    | cons x r => simp [lendS] at h
  | junk =>
    simp only [lendS, Option.some.injEq] at h
    subst h
    exact hone
theorem lendSs_get {h : Hp} : ∀ (l : List S) {l' : List S}, lendSs h l = some l' → l'.length = l.length ∧ ∀ (j : Nat) (s' : S), l'[j]? = some s' → ∃ s, l[j]? = some s ∧ lendS h s = some s'
  | [], l', hl => by simp [lendSs] at hl; subst hl; simp
  | s :: r, l', hl => by
    simp only [lendSs] at hl
    split at hl
    · rename_i x xs h1 h2
      obtain rfl := Option.some.inj hl
      obtain ⟨k1, k2⟩ := lendSs_get r h2
      refine ⟨by simp [k1], fun j s' hj => ?_⟩
      cases j with
      | zero => simp at hj; subst hj; exact ⟨s, rfl, h1⟩
      | succ j => exact k2 j s' (by simpa using hj)
    · cases hl
theorem lendV_rel (hc : RelH c) {s s' : V} {v : Value} (h : lendV c.h s = some s') (hr : RelV c s v) : RelV (lentC c) s' v := by
  cases s with
  | c s =>
    simp only [lendV] at h
    split at h
    · rename_i x hx
      obtain rfl := Option.some.inj h
      exact lendS_rel hc hx hr
    · cases h
  | agg l =>
    simp only [lendV] at h
    split at h
    · rename_i xs hx
      obtain rfl := Option.some.inj h
      obtain ⟨cs, rfl, hs, hcell⟩ := hr
      obtain ⟨k1, k2⟩ := lendSs_get l hx
      refine ⟨cs, rfl, by omega, fun j s' hj => ?_⟩
      obtain ⟨s, hs', hls⟩ := k2 j s' hj
      obtain ⟨v, hv, hrel⟩ := hcell j s hs'
      exact ⟨v, hv, lendS_rel hc hls hrel⟩
    · cases h
  | junk =>
    simp only [lendV, Option.some.injEq] at h
    subst h
    trivial
theorem lendVs_get {h : Hp} : ∀ (l : List V) {l' : List V}, lendVs h l = some l' → l'.length = l.length ∧ ∀ (j : Nat) (s' : V), l'[j]? = some s' → ∃ s, l[j]? = some s ∧ lendV h s = some s'
  | [], l', hl => by simp [lendVs] at hl; subst hl; simp
  | s :: r, l', hl => by
    simp only [lendVs] at hl
    split at hl
    · rename_i x xs h1 h2
      obtain rfl := Option.some.inj hl
      obtain ⟨k1, k2⟩ := lendVs_get r h2
      refine ⟨by simp [k1], fun j s' hj => ?_⟩
      cases j with
      | zero => simp at hj; subst hj; exact ⟨s, rfl, h1⟩
      | succ j => exact k2 j s' (by simpa using hj)
    · cases hl
theorem plainS_rel {c c' : Cx} {s : S} {v : Value} (h : plainS s = true) (hr : RelS c s v) : RelS c' s v := by
  have hone := hr.one
  cases s with
  | d x =>
    cases x with
    | v x => cases hr with | v hp => exact .v hp
    | sl => simp [plainS] at h
    | any => simp [plainS] at h
    | lit => simp [plainS] at h
  | junk => exact hone
  | _ => simp [plainS] at h
theorem plainV_rel {c c' : Cx} {s : V} {v : Value} (h : plainV s = true) (hr : RelV c s v) : RelV c' s v := by
  cases s with
  | c s => exact plainS_rel h hr
  | agg l =>
    obtain ⟨cs, rfl, hs, hcell⟩ := hr
    exact ⟨cs, rfl, hs, fun j s hj => let ⟨v, hv, hrel⟩ := hcell j s hj; ⟨v, hv, plainS_rel (List.all_eq_true.1 h s (List.mem_of_getElem? hj)) hrel⟩⟩
  | junk => trivial
theorem plainW_rel {c c' : Cx} {s : W} {v : Value} (h : plainW s = true) (hr : RelW c s v) : RelW c' s v := by
  cases s with
  | one s => exact plainV_rel h hr
  | tup l =>
    obtain ⟨cs, rfl, hs, hcell⟩ := hr
    exact ⟨cs, rfl, hs, fun j s hj => let ⟨v, hv, hrel⟩ := hcell j s hj; ⟨v, hv, plainV_rel (List.all_eq_true.1 h s (List.mem_of_getElem? hj)) hrel⟩⟩
theorem plainD_rel {w w' : World} {N N' : Nat → Prop} {d : D} {v : Value} (h : plainD d = true) (hr : RdD w N d v) : RdD w' N' d v := by
  cases d with
  | v x => cases hr with | v hp => exact .v hp
  | _ => simp [plainD] at h
theorem plainA_rel {c c' : Cx} {k : Nat} {rows : List (List D)} {p : Loc} (hp : (rows.all fun r => r.all plainD) = true) (h : RelA c k rows p) (hw : c'.w = c.w) : RelA c' k rows p := by
  obtain ⟨cs, ty, fz, h1, h2, h3, h4, h5⟩ := h
  refine ⟨cs, ty, fz, by rw [hw]; exact h1, h2, h3, h4, fun i r hr => ⟨(h5 i r hr).1, fun j d hd => ?_⟩⟩
  obtain ⟨v, hv, hrel⟩ := (h5 i r hr).2 j d hd
  exact ⟨v, hv, plainD_rel (List.all_eq_true.1 (List.all_eq_true.1 hp r (List.mem_of_getElem? hr)) d (List.mem_of_getElem? hd)) hrel⟩
theorem freshB_rel {c c' : Cx} {b : Blk} {p : Loc} (hp : freshB (some b) = true) (h : RelB c b p) (hw : c'.w = c.w) (ho : ∀ x o, c.E.own x = some (p.blk, o) → c'.E.own x = some (p.blk, o)) : RelB c' b p := by
  cases b with
  | var cells => simp [freshB] at hp
  | arr k rows => exact RelB.arr.2 (plainA_rel (by simpa [freshB] using hp) (RelB.arr.1 h) hw)
  | nar k rows outs =>
    simp only [freshB, Bool.and_eq_true, List.isEmpty_iff] at hp
    obtain ⟨rfl, hp⟩ := hp
    obtain ⟨cs, ty, fz, h1, h2, h3, h4, h5⟩ := h
    refine ⟨cs, ty, fz, by rw [hw]; exact h1, h2, h3, h4, fun i r hr => ⟨(h5 i r hr).1, fun j o hoj => ?_⟩⟩
    obtain ⟨v, hv, hrel⟩ := (h5 i r hr).2 j o hoj
    have hq := List.all_eq_true.1 (List.all_eq_true.1 hp r (List.mem_of_getElem? hr)) o (List.mem_of_getElem? hoj)
    refine ⟨v, hv, ?_⟩
    cases o with
    | d x => exact plainD_rel hq hrel
    | own q rs =>
      obtain ⟨p2, z1, z2, z3⟩ := hrel
      exact ⟨p2, z1, ho _ _ z2, plainA_rel hq z3 hw⟩
theorem zip_get {α β : Type} (f : Nat → Nat) (l : List α) (F : α → β) {i : Nat} {x : α} (h : l[i]? = some x) : (f i, F x) ∈ l.zipIdx.map fun (b, j) => (f j, F b) := by
  refine List.mem_map.2 ⟨(x, i), ?_, rfl⟩
  rw [List.mem_iff_getElem?]
  exact ⟨i, by simp [List.getElem?_zipIdx, h]⟩
theorem lend_call {call : Call} (hcall : CallOK P call) (hc : RelH c) (hfr : ∀ k, k < 64 → ¬ c.U (fr k)) (hinj : ∀ k k', k < 64 → k' < 64 → fr k = fr k' → k = k') {g : FuncId} {args : List V} {vs : Array Value} {r : W} {up : Ups}
    (h : lendCall call fr c.h g args = some (r, up)) (hs : vs.size = args.length) (hv : CellsAt (RelV c) vs 0 args) :
    Calls P g vs c.w fun e w' => ∃ v c', e = .returned v ∧ c'.w = w' ∧ c'.h = upd c.h up ∧ (∀ id, c'.U id → c.U id ∨ ∃ k, k < 64 ∧ id = fr k) ∧ RelW c' r v ∧ Eff' c c' := by
  unfold lendCall at h
  split at h
  · cases h
  rename_i as has
  split at h
  · cases h
  rename_i rv bs' hcl
  obtain ⟨k1, k2⟩ := lendVs_get args has
  have hcalls := hcall g as [] rv bs' hcl (lentC c) vs (relh_lent hc) rfl (fun i => by show False ↔ _; simp) (by omega) (fun j s' hj => by
    obtain ⟨s, hs', hls⟩ := k2 j s' hj
    obtain ⟨v, hv, hrel⟩ := hv j s hs'
    exact ⟨v, hv, lendV_rel hc hls hrel⟩)
  split at h
  · rename_i hpl
    obtain ⟨rfl, rfl⟩ := Prod.mk.inj (Option.some.inj h)
    refine Calls.mono hcalls fun e w' he => ?_
    obtain ⟨v, d', rfl, rfl, _, _, h3, h4⟩ := he
    have same : ∀ g, g < c.w.heap.size → d'.w.heap[g]? = c.w.heap[g]? := fun g hg => h4.keep g hg (own_lent c g)
    have st : Step c { c with w := d'.w } := ⟨fun _ h => h, fun _ _ => rfl, fun _ b _ h => ⟨b, h, Compat.refl b⟩, fun g hg => ⟨hg, same g (hc.low g hg)⟩⟩
    refine ⟨v, { c with w := d'.w }, rfl, rfl, rfl, fun id h => .inl h, plainW_rel hpl h3, st, ⟨fun id b hb => ?_, hc.used, hc.inj, hc.apart, fun g hg => Nat.lt_of_lt_of_le (hc.low g hg) h4.size, hc.nest, fun g a hg => ⟨Nat.lt_of_lt_of_le (hc.olow g a hg).1 h4.size, Nat.lt_of_lt_of_le (hc.olow g a hg).2 h4.size⟩⟩, h4.os, h4.tape, h4.output, h4.size, fun g hg _ => same g hg, fun g hg => .inl hg, fun g hg => .inl hg, fun _ _ _ _ => rfl, fun _ _ h => .inl h⟩
    refine (hc.blk id b hb).mono st (same _ ?_) (fun x o hx => ⟨hx, same x (hc.olow _ _ hx).1⟩)
    obtain ⟨cs, ty, fz, h1, _⟩ := hc.blk id b hb
    exact (Array.getElem?_eq_some_iff.1 h1).1
  · rename_i hpl
    split at h
    case h_2 => cases h
    rename_i hf
    simp only [Bool.and_eq_true] at hf
    obtain ⟨⟨hf1, hf2⟩, hf3⟩ := hf
    have hM := Nat.le_of_ble_eq_true hf3
    obtain ⟨rfl, rfl⟩ := Prod.mk.inj (Option.some.inj h)
    refine Calls.mono hcalls fun e w' he => ?_
    obtain ⟨v, d', rfl, rfl, h1, h2, h3, h4⟩ := he
    have same : ∀ g, g < c.w.heap.size → d'.w.heap[g]? = c.w.heap[g]? := fun g hg => h4.keep g hg (own_lent c g)
    let ups : Ups := bs'.zipIdx.map fun (b, j) => (fr j, b)
    have hkeys : (ups.map (·.1)).Nodup := by
      show ((bs'.zipIdx.map fun x => (fr x.2, x.1)).map (·.1)).Nodup
      rw [zipIdx_keys fr (fun b : Option Blk => b) bs']
      refine List.pairwise_iff_getElem.2 fun i j hi hj hij => ?_
      simp only [List.length_map, List.length_range] at hi hj
      simp only [List.getElem_map, List.getElem_range]
      intro he
      have := hinj i j (by omega) (by omega) he
      omega
    have hin : ∀ j b, bs'[j]? = some b → upd c.h ups (fr j) = b := fun j b hj => upd_mem ups c.h hkeys (zip_get fr bs' (fun b => b) hj)
    have hout : ∀ id, (∀ j, j < bs'.length → fr j ≠ id) → upd c.h ups id = c.h id := fun id hid => by
      refine upd_other ups c.h fun x hx => ?_
      obtain ⟨⟨b, j⟩, hm, rfl⟩ := List.mem_map.1 hx
      rw [List.mem_iff_getElem?] at hm
      obtain ⟨i, hi⟩ := hm
      simp only [List.getElem?_zipIdx] at hi
      cases hb : bs'[i]? with
      | none => simp [hb] at hi
      | some b' =>
        simp [hb] at hi
        obtain ⟨_, rfl⟩ := hi
        exact hid _ (List.getElem?_eq_some_iff.1 hb).1
    have hold : ∀ id, c.U id → upd c.h ups id = c.h id := fun id hu => hout id fun j hj he => hfr j (by omega) (he ▸ hu)
    open Classical in
    let own' : Nat → Option (Nat × Nat) := fun g => if ∃ a j b, d'.E.own g = some a ∧ d'.h j = some b ∧ (d'.E j).blk = a.1 then d'.E.own g else c.E.own g
    open Classical in
    let E' : Emb := ⟨fun id => if hx : ∃ k, k < 64 ∧ id = fr k then d'.E (Classical.choose hx) else c.E id, own'⟩
    let c' : Cx := ⟨d'.w, c.N, E', fun id => c.U id ∨ ∃ k, k < bs'.length ∧ id = fr k, upd c.h ups⟩
    have hEU : ∀ id, c.U id → E' id = c.E id := fun id hid => by
      show (if hx : ∃ k, k < 64 ∧ id = fr k then _ else _) = _
      rw [dif_neg]
      rintro ⟨k, hk, rfl⟩
      exact hfr k hk hid
    have hEfr : ∀ k, k < 64 → E' (fr k) = d'.E k := fun k hk => by
      show (if hx : ∃ k', k' < 64 ∧ fr k = fr k' then _ else _) = _
      have hx : ∃ k', k' < 64 ∧ fr k = fr k' := ⟨k, hk, rfl⟩
      rw [dif_pos hx]
      have hs := Classical.choose_spec hx
      rw [hinj _ _ hs.1 hk hs.2.symm]
    have part : ∀ id b, upd c.h ups id = some b → (∃ j, j < bs'.length ∧ id = fr j ∧ d'.h j = some b ∧ freshB (some b) = true ∧ E' id = d'.E j) ∨ (c.h id = some b ∧ c.U id ∧ E' id = c.E id) := fun id b hb => by
      by_cases hx : ∃ j, j < bs'.length ∧ fr j = id
      · obtain ⟨j, hj, rfl⟩ := hx
        left
        rw [hin j _ (List.getElem?_eq_getElem hj)] at hb
        exact ⟨j, hj, rfl, by rw [h1, hpOf_get, List.getElem?_eq_getElem hj, hb], by rw [← hb]; exact List.all_eq_true.1 hf2 _ (List.getElem_mem hj), hEfr j (by omega)⟩
      · right
        rw [hout id fun j hj he => hx ⟨j, hj, he⟩] at hb
        exact ⟨hb, hc.used id b hb, hEU id (hc.used id b hb)⟩
    have dN : ∀ g, c.N g ∨ own c g → d'.N g := fun g hg => (h4.step.n g hg).1
    have new_hi : ∀ j b, d'.h j = some b → c.w.heap.size ≤ (d'.E j).blk := fun j b hb => (h4.owns _ (.inl ⟨j, b, hb, rfl⟩)).resolve_left (own_lent c _)
    have ownhi : ∀ g a j b, d'.E.own g = some a → d'.h j = some b → (d'.E j).blk = a.1 → c.w.heap.size ≤ g ∧ c.w.heap.size ≤ a.1 ∧ ¬ d'.N g := fun g a j b ho hb ha =>
      ⟨(h4.owns g (.inr ⟨a, j, b, ho, hb, ha⟩)).resolve_left (own_lent c _), ha ▸ new_hi j b hb, (h4.relh.nest g a j b ho hb ha).1⟩
    have own_or : ∀ g a, own' g = some a → (∃ j b, d'.E.own g = some a ∧ d'.h j = some b ∧ (d'.E j).blk = a.1) ∨ c.E.own g = some a := fun g a hg => by
      replace hg : (if ∃ a j b, d'.E.own g = some a ∧ d'.h j = some b ∧ (d'.E j).blk = a.1 then d'.E.own g else c.E.own g) = some a := hg
      split at hg
      · rename_i hx
        obtain ⟨a', j, b, q1, q2, q3⟩ := hx
        rw [q1] at hg
        obtain rfl := Option.some.inj hg
        exact .inl ⟨j, b, q1, q2, q3⟩
      · exact .inr hg
    have own_new : ∀ g a j b, d'.E.own g = some a → d'.h j = some b → (d'.E j).blk = a.1 → own' g = some a := fun g a j b q1 q2 q3 => by
      show (if ∃ a j b, d'.E.own g = some a ∧ d'.h j = some b ∧ (d'.E j).blk = a.1 then d'.E.own g else c.E.own g) = some a
      rw [if_pos ⟨a, j, b, q1, q2, q3⟩, q1]
    have own_old : ∀ g, g < c.w.heap.size → own' g = c.E.own g := fun g hg => by
      show (if ∃ a j b, d'.E.own g = some a ∧ d'.h j = some b ∧ (d'.E j).blk = a.1 then d'.E.own g else c.E.own g) = _
      rw [if_neg]
      rintro ⟨a, j, b, q1, q2, q3⟩
      have := (ownhi g a j b q1 q2 q3).1
      omega
    have st : Step c c' := ⟨fun _ h => .inl h, fun id hu => hEU id hu, fun id b hu hb => ⟨b, by rw [← hold id hu]; exact hb, Compat.refl b⟩, fun g hg => ⟨hg, same g (hc.low g hg)⟩⟩
    have blo : ∀ id b, c.h id = some b → (c.E id).blk < c.w.heap.size := fun id b hb => by
      obtain ⟨cs, ty, fz, q, _⟩ := hc.blk id b hb
      exact (Array.getElem?_eq_some_iff.1 q).1
    have rh : RelH c' := by
      refine ⟨fun id b hb => ?_, fun id b hb => ?_, fun id id' b b' hb hb' hne => ?_, fun id b hb => ?_, fun g hg => Nat.lt_of_lt_of_le (hc.low g hg) h4.size, fun g a id b hg hb ha => ?_, fun g a hg => ?_⟩
      · rcases part id b hb with ⟨j, hj, rfl, q1, q2, q3⟩ | ⟨q1, q2, q3⟩
        · show RelB c' b (E' (fr j))
          rw [q3]
          exact freshB_rel q2 (h4.relh.blk j b q1) rfl fun x o hx => own_new x _ j b hx q1 rfl
        · show RelB c' b (E' id)
          rw [q3]
          exact (hc.blk id b q1).mono st (same _ (blo id b q1)) fun x o hx => ⟨by show own' x = _; rw [own_old x (hc.olow _ _ hx).1]; exact hx, same x (hc.olow _ _ hx).1⟩
      · rcases part id b hb with ⟨j, hj, rfl, _⟩ | ⟨_, q2, _⟩
        · exact .inr ⟨j, hj, rfl⟩
        · exact .inl q2
      · show (E' id).blk ≠ (E' id').blk
        rcases part id b hb with ⟨j, hj, rfl, q1, q2, q3⟩ | ⟨q1, q2, q3⟩
        · rcases part id' b' hb' with ⟨j', hj', rfl, p1, p2, p3⟩ | ⟨p1, p2, p3⟩
          · rw [q3, p3]
            exact h4.relh.inj j j' b b' q1 p1 fun e => hne (by rw [e])
          · rw [q3, p3]
            have := new_hi j b q1
            have := blo id' b' p1
            omega
        · rcases part id' b' hb' with ⟨j', hj', rfl, p1, p2, p3⟩ | ⟨p1, p2, p3⟩
          · rw [q3, p3]
            have := new_hi j' b' p1
            have := blo id b q1
            omega
          · rw [q3, p3]
            exact hc.inj id id' b b' q1 p1 hne
      · show ¬ c.N (E' id).blk
        rcases part id b hb with ⟨j, hj, rfl, q1, q2, q3⟩ | ⟨q1, q2, q3⟩
        · rw [q3]
          exact fun hn => h4.relh.apart j b q1 (dN _ (.inl hn))
        · rw [q3]
          exact hc.apart id b q1
      · show ¬ c.N g ∧ ∀ id' b', upd c.h ups id' = some b' → (E' id').blk ≠ g
        replace ha : (E' id).blk = a.1 := ha
        rcases own_or g a hg with ⟨j, b0, o1, o2, o3⟩ | o1
        · obtain ⟨r1, r2, r3⟩ := ownhi g a j b0 o1 o2 o3
          refine ⟨fun hn => r3 (dN g (.inl hn)), fun id' b' hb' => ?_⟩
          rcases part id' b' hb' with ⟨j', hj', rfl, p1, p2, p3⟩ | ⟨p1, p2, p3⟩
          · rw [p3]
            exact (h4.relh.nest g a j b0 o1 o2 o3).2 j' b' p1
          · rw [p3]
            have := blo id' b' p1
            omega
        · have lo := hc.olow g a o1
          rcases part id b hb with ⟨j, hj, rfl, q1, q2, q3⟩ | ⟨q1, q2, q3⟩
          · rw [q3] at ha
            have := new_hi j b q1
            omega
          · rw [q3] at ha
            obtain ⟨n1, n2⟩ := hc.nest g a id b o1 q1 ha
            refine ⟨n1, fun id' b' hb' => ?_⟩
            rcases part id' b' hb' with ⟨j', hj', rfl, p1, p2, p3⟩ | ⟨p1, p2, p3⟩
            · rw [p3]
              have := new_hi j' b' p1
              omega
            · rw [p3]
              exact n2 id' b' p1
      · rcases own_or g a hg with ⟨j, b0, o1, o2, o3⟩ | o1
        · exact h4.relh.olow g a o1
        · have lo := hc.olow g a o1
          exact ⟨Nat.lt_of_lt_of_le lo.1 h4.size, Nat.lt_of_lt_of_le lo.2 h4.size⟩
    have relS : ∀ s x, freshS s = true → RelS d' s x → RelS c' (renS (fun j => some (fr j)) s) x := fun s x hfs hr => by
      cases s with
      | arr id off len =>
        obtain ⟨r1, r2, r3⟩ := hr
        have hlt := h2 id r2
        refine ⟨r1, .inr ⟨id, hlt, rfl⟩, fun b hb => ?_⟩
        have hb : upd c.h ups (fr id) = some b := hb
        rw [hin id _ (List.getElem?_eq_getElem hlt)] at hb
        have := r3 b (by rw [h1, hpOf_get, List.getElem?_eq_getElem hlt, hb])
        show ∃ k n, b.arrOf = some (k, n) ∧ off + len ≤ n ∧ ∃ a cap, x = .slice a len cap ∧ len ≤ cap ∧ off + cap ≤ (E' (fr id)).room ∧ (cap = 0 ∨ a = some ⟨(E' (fr id)).blk, (E' (fr id)).off + off * k, none⟩)
        rw [hEfr id (by omega)]
        exact this
      | d y =>
        show RelS c' (.d y) x
        exact plainS_rel (c := d') (s := .d y) hfs hr
      | junk => exact hr
      | _ => simp [freshS, plainS] at hfs
    have relV : ∀ s x, freshV s = true → RelV d' s x → RelV c' (renV (fun j => some (fr j)) s) x := fun s x hfs hr => by
      cases s with
      | c s => exact relS s x hfs hr
      | agg l =>
        obtain ⟨cs, rfl, hsz, hcell⟩ := hr
        refine ⟨cs, rfl, by simpa using hsz, fun j s hj => ?_⟩
        rw [List.getElem?_map] at hj
        cases hq : l[j]? with
        | none => rw [hq] at hj; cases hj
        | some s0 =>
          rw [hq] at hj
          obtain rfl := Option.some.inj hj
          obtain ⟨v, hv, hrel⟩ := hcell j s0 hq
          exact ⟨v, hv, relS s0 v (List.all_eq_true.1 hfs s0 (List.mem_of_getElem? hq)) hrel⟩
      | junk => trivial
    have relW : RelW c' (renW (fun j => some (fr j)) rv) v := by
      cases rv with
      | one s => exact relV s v hf1 h3
      | tup l =>
        obtain ⟨cs, rfl, hsz, hcell⟩ := h3
        refine ⟨cs, rfl, by simpa using hsz, fun j s hj => ?_⟩
        rw [List.getElem?_map] at hj
        cases hq : l[j]? with
        | none => rw [hq] at hj; cases hj
        | some s0 =>
          rw [hq] at hj
          obtain rfl := Option.some.inj hj
          obtain ⟨v, hv, hrel⟩ := hcell j s0 hq
          exact ⟨v, hv, relV s0 v (List.all_eq_true.1 hf1 s0 (List.mem_of_getElem? hq)) hrel⟩
    refine ⟨v, c', rfl, rfl, rfl, fun id hid => ?_, relW, st, rh, h4.os, h4.tape, h4.output, h4.size, fun g hg _ => same g hg, fun g hg => .inl hg, fun g hg => ?_, fun g hg hno ha => own_old g hg, fun g a hg => ?_⟩
    · rcases hid with h | ⟨k, hk, rfl⟩
      · exact .inl h
      · exact .inr ⟨k, by omega, rfl⟩
    · rcases hg with ⟨id, b, hb, hg⟩ | ⟨a, id, b, ho, hb, hg⟩
      · replace hg : (E' id).blk = g := hg
        rcases part id b hb with ⟨j, hj, rfl, q1, q2, q3⟩ | ⟨q1, q2, q3⟩
        · rw [q3] at hg
          exact .inr (hg ▸ new_hi j b q1)
        · rw [q3] at hg
          exact .inl (.inl ⟨id, b, q1, hg⟩)
      · replace hg : (E' id).blk = a.1 := hg
        rcases own_or g a ho with ⟨j, b0, o1, o2, o3⟩ | o1
        · exact .inr (ownhi g a j b0 o1 o2 o3).1
        · rcases part id b hb with ⟨j, hj, rfl, q1, q2, q3⟩ | ⟨q1, q2, q3⟩
          · rw [q3] at hg
            have := new_hi j b q1
            have := (hc.olow g a o1).2
            omega
          · rw [q3] at hg
            exact .inl (.inr ⟨a, id, b, o1, q1, hg⟩)
    · rcases own_or g a hg with ⟨j, b0, o1, o2, o3⟩ | o1
      · exact .inr (.inr (ownhi g a j b0 o1 o2 o3).2.1)
      · exact .inl o1
theorem callA_sound {lend : FuncId → Bool} {call : Call} (hcall : CallOK P call) (hc : RelH c) (hfr : ∀ k, k < 64 → ¬ c.U (fr k)) (hinj : ∀ k k', k < 64 → k' < 64 → fr k = fr k' → k = k') {g : FuncId} {args : List V} {vs : Array Value} {r : W} {up : Ups}
    (h : callA lend call fr c.h g args = some (r, up)) (hs : vs.size = args.length) (hv : CellsAt (RelV c) vs 0 args) :
    Calls P g vs c.w fun e w' => ∃ v c', e = .returned v ∧ c'.w = w' ∧ c'.h = upd c.h up ∧ (∀ id, c'.U id → c.U id ∨ ∃ k, k < 64 ∧ id = fr k) ∧ RelW c' r v ∧ Eff' c c' := by
  unfold callA at h
  split at h
  · exact lend_call hcall hc hfr hinj h hs hv
  · exact own_call hcall hc hfr hinj h hs hv
end
end Go.Vsi
namespace Go.Vsi
theorem eff_give {c : Cx} (h : RelH c) (i : Nat) (b : Blk) (hb : c.h i = some b) (j : Nat) (bj : Blk) (hbj : c.h j = some bj) (hne : i ≠ j) (o : Nat) :
    Eff' c { c with h := upd c.h [(i, none)], E := ⟨c.E.loc, fun x => if x = (c.E i).blk then some ((c.E j).blk, o) else c.E.own x⟩ } := by
  have old : ∀ id b', upd c.h [(i, none)] id = some b' → c.h id = some b' ∧ id ≠ i := fun id b' hb' => by
    rw [upd_one] at hb'
    split at hb'
    · cases hb'
    · rename_i e; exact ⟨hb', e⟩
  have lt : ∀ id b', c.h id = some b' → (c.E id).blk < c.w.heap.size := fun id b' hb' => by
    obtain ⟨cs, ty, fz, h1, _⟩ := h.blk id b' hb'
    exact (Array.getElem?_eq_some_iff.1 h1).1
  have st : Step c { c with h := upd c.h [(i, none)], E := ⟨c.E.loc, fun x => if x = (c.E i).blk then some ((c.E j).blk, o) else c.E.own x⟩ } :=
    ⟨fun _ h => h, fun _ _ => rfl, fun id b' _ hb' => ⟨b', (old id b' hb').1, Compat.refl _⟩, fun g hg => ⟨hg, rfl⟩⟩
  refine ⟨st, ⟨fun id b' hb' => (h.blk id b' (old id b' hb').1).mono st rfl (fun x o' hx => ⟨?_, rfl⟩), fun id b' hb' => h.used id b' (old id b' hb').1,
    fun id id' b1 b2 h1 h2 hne => h.inj id id' b1 b2 (old id b1 h1).1 (old id' b2 h2).1 hne, fun id b' hb' => h.apart id b' (old id b' hb').1, h.low, ?_, ?_⟩, rfl, rfl, rfl, Nat.le_refl _, fun _ _ _ => rfl, fun _ h => .inl h, ?_, ?_, ?_⟩
  · show (if x = (c.E i).blk then _ else _) = _
    rw [if_neg (nest_ne h hx (old id b' hb').1 hb).symm]
    exact hx
  · intro g a id b' ho hb' ha
    replace ho : (if g = (c.E i).blk then some ((c.E j).blk, o) else c.E.own g) = some a := ho
    split at ho
    · rename_i hg
      subst hg
      exact ⟨h.apart i b hb, fun id' b2 hb2 => h.inj id' i b2 b (old id' b2 hb2).1 hb (old id' b2 hb2).2⟩
    · obtain ⟨n1, n2⟩ := h.nest g a id b' ho (old id b' hb').1 ha
      exact ⟨n1, fun id' b2 hb2 => n2 id' b2 (old id' b2 hb2).1⟩
  · intro g a ho
    replace ho : (if g = (c.E i).blk then some ((c.E j).blk, o) else c.E.own g) = some a := ho
    split at ho
    · rename_i hg
      subst hg
      obtain rfl := Option.some.inj ho
      exact ⟨lt i b hb, lt j bj hbj⟩
    · exact h.olow g a ho
  · rintro g (⟨id, b', hb', hg⟩ | ⟨a, id, b', ho, hb', hg⟩)
    · exact .inl (.inl ⟨id, b', (old id b' hb').1, hg⟩)
    · replace ho : (if g = (c.E i).blk then some ((c.E j).blk, o) else c.E.own g) = some a := ho
      split at ho
      · rename_i hg2
        exact .inl (.inl ⟨i, b, hb, hg2.symm⟩)
      · exact .inl (.inr ⟨a, id, b', ho, (old id b' hb').1, hg⟩)
  · intro g _ hno _
    show (if g = (c.E i).blk then _ else _) = _
    rw [if_neg]
    rintro rfl
    exact hno (.inl ⟨i, b, hb, rfl⟩)
  · intro g a ho
    replace ho : (if g = (c.E i).blk then some ((c.E j).blk, o) else c.E.own g) = some a := ho
    split at ho
    · obtain rfl := Option.some.inj ho
      exact .inr (.inl (.inl ⟨j, bj, hbj, rfl⟩))
    · exact .inl ho
def moved (E : Emb) (g g' : Nat) (f : Nat → Nat) (x : Nat) : Option (Nat × Nat) := match E.own x with
  | some (y, a) => if y = g then some (g', f a) else some (y, a)
  | none => none
theorem moved_other {E : Emb} {g g' : Nat} {f : Nat → Nat} {x : Nat} (h : ∀ a, E.own x ≠ some (g, a)) : moved E g g' f x = E.own x := by
  unfold moved
  split
  · rename_i y a hx
    split
    · rename_i e
      subst e
      exact absurd hx (h a)
    · exact hx.symm
  · rename_i hx; exact hx.symm
theorem moved_some {E : Emb} {g g' : Nat} {f : Nat → Nat} {x : Nat} {p : Nat × Nat} (h : moved E g g' f x = some p) : (∃ a, E.own x = some (g, a) ∧ p = (g', f a)) ∨ E.own x = some p := by
  unfold moved at h
  split at h
  · rename_i y a hx
    split at h
    · rename_i e
      subst e
      exact .inl ⟨a, hx, (Option.some.inj h).symm⟩
    · obtain rfl := Option.some.inj h
      exact .inr hx
  · cases h
theorem eff_take {c : Cx} (h : RelH c) (i : Nat) (b : Blk) (hb : c.h i = some b) (j : Nat) (bj : Blk) (hbj : c.h j = some bj) (hne : i ≠ j) (f : Nat → Nat) :
    Eff' c { c with h := upd c.h [(i, none)], E := ⟨c.E.loc, moved c.E (c.E i).blk (c.E j).blk f⟩ } := by
  have old : ∀ id b', upd c.h [(i, none)] id = some b' → c.h id = some b' ∧ id ≠ i := fun id b' hb' => by
    rw [upd_one] at hb'
    split at hb'
    · cases hb'
    · rename_i e; exact ⟨hb', e⟩
  have lt : ∀ id b', c.h id = some b' → (c.E id).blk < c.w.heap.size := fun id b' hb' => by
    obtain ⟨cs, ty, fz, h1, _⟩ := h.blk id b' hb'
    exact (Array.getElem?_eq_some_iff.1 h1).1
  have st : Step c { c with h := upd c.h [(i, none)], E := ⟨c.E.loc, moved c.E (c.E i).blk (c.E j).blk f⟩ } :=
    ⟨fun _ h => h, fun _ _ => rfl, fun id b' _ hb' => ⟨b', (old id b' hb').1, Compat.refl _⟩, fun g hg => ⟨hg, rfl⟩⟩
  refine ⟨st, ⟨fun id b' hb' => (h.blk id b' (old id b' hb').1).mono st rfl (fun x o' hx => ⟨?_, rfl⟩), fun id b' hb' => h.used id b' (old id b' hb').1,
    fun id id' b1 b2 h1 h2 hne => h.inj id id' b1 b2 (old id b1 h1).1 (old id' b2 h2).1 hne, fun id b' hb' => h.apart id b' (old id b' hb').1, h.low, ?_, ?_⟩, rfl, rfl, rfl, Nat.le_refl _, fun _ _ _ => rfl, fun _ h => .inl h, ?_, ?_, ?_⟩
  · show moved c.E _ _ f x = _
    rw [moved_other]
    · exact hx
    · intro a ha
      rw [hx] at ha
      have e := (Prod.mk.inj (Option.some.inj ha)).1
      exact h.inj id i b' b (old id b' hb').1 hb (old id b' hb').2 e
  · intro g a id b' ho hb' ha
    rcases moved_some ho with ⟨a0, h1, _⟩ | h1
    · obtain ⟨n1, n2⟩ := h.nest g _ i b h1 hb rfl
      exact ⟨n1, fun id' b2 hb2 => n2 id' b2 (old id' b2 hb2).1⟩
    · obtain ⟨n1, n2⟩ := h.nest g a id b' h1 (old id b' hb').1 ha
      exact ⟨n1, fun id' b2 hb2 => n2 id' b2 (old id' b2 hb2).1⟩
  · intro g a ho
    rcases moved_some ho with ⟨a0, h1, rfl⟩ | h1
    · exact ⟨(h.olow g _ h1).1, lt j bj hbj⟩
    · exact h.olow g a h1
  · rintro g (⟨id, b', hb', hg⟩ | ⟨a, id, b', ho, hb', hg⟩)
    · exact .inl (.inl ⟨id, b', (old id b' hb').1, hg⟩)
    · rcases moved_some ho with ⟨a0, h1, _⟩ | h1
      · exact .inl (.inr ⟨_, i, b, h1, hb, rfl⟩)
      · exact .inl (.inr ⟨a, id, b', h1, (old id b' hb').1, hg⟩)
  · intro g _ hno _
    show moved c.E _ _ f g = _
    rw [moved_other]
    intro a ha
    exact hno (.inr ⟨_, i, b, ha, hb, rfl⟩)
  · intro g a ho
    rcases moved_some ho with ⟨a0, h1, rfl⟩ | h1
    · exact .inr (.inl (.inl ⟨j, bj, hbj, rfl⟩))
    · exact .inl h1
theorem eff_tell {c : Cx} (h : RelH c) (i : Nat) (b0 b : Blk) (hb0 : c.h i = some b0) (hcm : Compat b0 b) (hb : ∀ c', c'.w = c.w → c'.N = c.N → c'.E.own = c.E.own → Step c c' → RelB c' b (c.E i)) :
    ∃ c', Eff' c c' ∧ c'.w = c.w ∧ c'.N = c.N ∧ c'.E.own = c.E.own ∧ (∀ id, c'.E id = c.E id) ∧ (∀ x, c'.U x ↔ c.U x) ∧ c'.h = upd c.h [(i, some b)] := by
  let c' : Cx := ⟨c.w, c.N, putE c.E i (c.E i), fun x => c.U x ∨ x = i, upd (upd c.h [(i, none)]) [(i, some b)]⟩
  refine ⟨c', eff_write h i b0 hb0 i (.inl rfl) b (c.E i) rfl (fun _ => ⟨hcm, rfl⟩) c.w rfl (fun _ _ => rfl) rfl rfl rfl c' rfl (fun st => hb c' rfl rfl rfl st), rfl, rfl, rfl, fun id => ?_, fun x => ⟨?_, .inl⟩, upd_put _ _ _⟩
  · show (if id = i then c.E i else c.E id) = c.E id
    split
    · rename_i e; rw [e]
    · rfl
  · rintro (hx | rfl)
    · exact hx
    · exact h.used _ _ hb0
theorem toO_none {h : Hp} {s : S} {x : O} {u : Ups} (hs : toO h s = some (x, u)) : ∀ y ∈ u, y.2 = none := by
  cases s with
  | d d => simp [toO] at hs; obtain ⟨_, rfl⟩ := hs; simp
  | arr id off len =>
    simp only [toO] at hs
    split at hs
    · simp at hs; obtain ⟨_, rfl⟩ := hs; simp
    · cases hs
  | _ => simp [toO] at hs
theorem toO_upd {h : Hp} {i : Nat} {b : Option Blk} {s : S} {x : O} {u : Ups} (hs : toO h s = some (x, u)) (hi : ∀ y ∈ u, y.1 ≠ i) : toO (upd h [(i, b)]) s = some (x, u) := by
  cases s with
  | d d => exact hs
  | arr id off len =>
    simp only [toO] at hs ⊢
    split at hs
    · rename_i k rows hid
      simp only [Option.some.injEq, Prod.mk.injEq] at hs
      obtain ⟨rfl, rfl⟩ := hs
      have hne : id ≠ i := hi (id, none) (by simp)
      rw [upd_one, if_neg hne, hid]
    · cases hs
  | _ => simp [toO] at hs
theorem toOs_upd {h : Hp} {i : Nat} {b : Option Blk} : ∀ {l : List S} {x : List O} {u : Ups}, toOs h l = some (x, u) → (∀ y ∈ u, y.1 ≠ i) → toOs (upd h [(i, b)]) l = some (x, u)
  | [], _, _, hs, _ => hs
  | s :: r, x, u, hs, hi => by
    simp only [toOs] at hs ⊢
    split at hs
    · rename_i y u1 ys us h1 h2
      simp only [Option.some.injEq, Prod.mk.injEq] at hs
      obtain ⟨rfl, rfl⟩ := hs
      rw [toO_upd h1 (fun y hy => hi y (List.mem_append.2 (.inl hy))), toOs_upd h2 (fun y hy => hi y (List.mem_append.2 (.inr hy)))]
    · cases hs
theorem toOs_get {h : Hp} : ∀ (l : List S) {xs : List O} {u : Ups}, toOs h l = some (xs, u) → xs.length = l.length ∧ (∀ y ∈ u, y.2 = none) ∧ ∀ (j : Nat) (s : S), l[j]? = some s → ∃ x u', xs[j]? = some x ∧ toO h s = some (x, u') ∧ ∀ y ∈ u', y ∈ u
  | [], xs, u, h => by simp [toOs] at h; obtain ⟨rfl, rfl⟩ := h; simp
  | s :: r, xs, u, hd => by
    simp only [toOs] at hd
    split at hd
    · rename_i x u1 xs1 us1 h1 h2
      simp at hd
      obtain ⟨rfl, rfl⟩ := hd
      obtain ⟨k1, k2, k3⟩ := toOs_get r h2
      refine ⟨by simp [k1], fun y hy => ?_, fun j s' hj => ?_⟩
      · rcases List.mem_append.1 hy with hy | hy
        · exact toO_none h1 y hy
        · exact k2 y hy
      · cases j with
        | zero => simp at hj; subst hj; exact ⟨x, u1, by simp, h1, fun y hy => List.mem_append.2 (.inl hy)⟩
        | succ j =>
          obtain ⟨x', u', e1, e2, e3⟩ := k3 j s' (by simpa using hj)
          exact ⟨x', u', by simpa using e1, e2, fun y hy => List.mem_append.2 (.inr (e3 y hy))⟩
    · cases hd
theorem gives_eff {j : Nat} {bj : Blk} : ∀ (l : List S) (o : Nat) (c : Cx) {xs : List O} {u : Ups}, RelH c → c.h j = some bj → toOs c.h l = some (xs, u) → (u.map (·.1)).Nodup → (∀ y ∈ u, y.1 ≠ j) →
    ∃ c', Eff' c c' ∧ c'.w = c.w ∧ c'.N = c.N ∧ c'.U = c.U ∧ (∀ id, c'.E id = c.E id) ∧ c'.h = upd c.h u ∧
      (∀ (m id off len : Nat), l[m]? = some (S.arr id off len) → c'.E.own (c.E id).blk = some ((c.E j).blk, o + m)) ∧ (∀ x, (∀ (m id off len : Nat), l[m]? = some (S.arr id off len) → x ≠ (c.E id).blk) → c'.E.own x = c.E.own x)
  | [], o, c, xs, u, hc, hj, hs, _, _ => by
    simp only [toOs, Option.some.injEq, Prod.mk.injEq] at hs
    obtain ⟨rfl, rfl⟩ := hs
    exact ⟨c, Eff'.refl hc, rfl, rfl, rfl, fun _ => rfl, rfl, fun m id off len h => by simp at h, fun _ _ => rfl⟩
  | s :: r, o, c, xs, u, hc, hj, hs, hn, hne => by
    simp only [toOs] at hs
    split at hs
    case h_2 => cases hs
    rename_i x u1 xs1 us1 h1 h2
    simp only [Option.some.injEq, Prod.mk.injEq] at hs
    obtain ⟨rfl, rfl⟩ := hs
    have hn2 : (us1.map (·.1)).Nodup := by
      rw [List.map_append] at hn
      exact (List.nodup_append.1 hn).2.1
    have hne2 : ∀ y ∈ us1, y.1 ≠ j := fun y hy => hne y (List.mem_append.2 (.inr hy))
    cases s with
    | d d =>
      simp only [toO, Option.some.injEq, Prod.mk.injEq] at h1
      obtain ⟨rfl, rfl⟩ := h1
      obtain ⟨c', e, f1, f2, f3, f4, f5, f6, f7⟩ := gives_eff r (o + 1) c hc hj h2 hn2 hne2
      refine ⟨c', e, f1, f2, f3, f4, f5, fun m id off len hm => ?_, fun x hx => f7 x fun m id off len hm => hx (m + 1) id off len (by simpa using hm)⟩
      cases m with
      | zero => simp at hm
      | succ m =>
        rw [f6 m id off len (by simpa using hm)]
        congr 2; omega
    | arr id off len =>
      simp only [toO] at h1
      split at h1
      case h_2 => cases h1
      rename_i k rows hid
      simp only [Option.some.injEq, Prod.mk.injEq] at h1
      obtain ⟨rfl, rfl⟩ := h1
      have hij : id ≠ j := hne (id, none) (by simp)
      have e1 := eff_give hc id _ hid j bj hj hij o
      have hfresh : ∀ y ∈ us1, y.1 ≠ id := fun y hy he => by
        simp only [List.cons_append, List.nil_append, List.map_cons, List.nodup_cons] at hn
        exact hn.1 (he ▸ List.mem_map.2 ⟨y, hy, rfl⟩)
      obtain ⟨c', e, f1, f2, f3, f4, f5, f6, f7⟩ := gives_eff r (o + 1) _ e1.relh (by show upd c.h [(id, none)] j = _; rw [upd_one, if_neg hij.symm]; exact hj) (toOs_upd h2 hfresh) hn2 hne2
      have hblk : ∀ (m id' off' len' : Nat), r[m]? = some (S.arr id' off' len') → (c.E id).blk ≠ (c.E id').blk := fun m id' off' len' hm => by
        obtain ⟨_, _, g3⟩ := toOs_get r h2
        obtain ⟨x', u', q1, q2, q3⟩ := g3 m _ hm
        simp only [toO] at q2
        split at q2
        case h_2 => cases q2
        rename_i k' rows' hid'
        simp only [Option.some.injEq, Prod.mk.injEq] at q2
        obtain ⟨_, rfl⟩ := q2
        refine hc.inj id id' _ _ hid hid' fun he => ?_
        exact hfresh (id', none) (q3 _ (by simp)) he.symm
      refine ⟨c', e1.trans e, f1, f2, f3, f4, by rw [f5]; rfl, fun m id' off' len' hm => ?_, fun x hx => ?_⟩
      · cases m with
        | zero =>
          simp only [List.getElem?_cons_zero, Option.some.injEq, S.arr.injEq] at hm
          obtain ⟨rfl, rfl, rfl⟩ := hm
          rw [f7 _ (fun m id' off' len' hm => hblk m id' off' len' hm)]
          show (if (c.E id).blk = (c.E id).blk then _ else _) = _
          rw [if_pos rfl]
          rfl
        | succ m =>
          have := f6 m id' off' len' (by simpa using hm)
          rw [show o + (m + 1) = o + 1 + m by omega]
          exact this
      · rw [f7 x fun m id' off' len' hm => hx (m + 1) id' off' len' (by simpa using hm)]
        show (if x = (c.E id).blk then _ else _) = _
        rw [if_neg (hx 0 id off len rfl)]
    | _ => simp [toO] at h1
end Go.Vsi
