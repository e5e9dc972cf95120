/- Its calls, regions and loops do what the machine does. -/
import Derived.Test.YtgphmleklcicaaaV3
set_option linter.unusedVariables false
set_option linter.unusedSimpArgs false
namespace Go.Vsi
def NameOK (P : Program) : Prop := ∀ (f : FuncId) (fn : Func), P.funcs[f]? = some fn → (fn.name == "runtime.NumGoroutine") = false
theorem oneOf_rel {c : Cx} {w : W} {v : Value} (h : RelW c w v) : RelV c (oneOf w) v := by
  cases w with
  | one v => exact h
  | tup l => trivial
section
variable {P : Program} {o : Oper} {fr : Nat → Nat} {c : Cx} {a : Act} {r : W} {up : Ups}
theorem noUp_some {w : Option W} (h : noUp w = some (r, up)) : w = some r ∧ up = [] := by
  unfold noUp at h
  split at h
  · obtain ⟨rfl, rfl⟩ := Prod.mk.inj (Option.some.inj h)
    exact ⟨rfl, rfl⟩
  · cases h
theorem hasBody_some {g : FuncId} (h : hasBody P g = true) : ∃ fn body, P.funcs[g]? = some fn ∧ fn.body = some body := by
  unfold hasBody at h
  split at h
  · rename_i fn hf
    obtain ⟨body, hb⟩ := Option.isSome_iff_exists.1 h
    exact ⟨fn, body, hf, hb⟩
  · cases h
theorem opA_sound {lend : FuncId → Bool} {call : Call} {ev : Operand → W} (hcall : CallOK P call) (hname : NameOK P) (hc : RelH c)
    (hfr : ∀ k, k < 64 → ¬ c.U (fr k)) (hinj : ∀ k k', k < 64 → k' < 64 → fr k = fr k' → k = k') (hev : ∀ x, RelW c (ev x) (a.eval x)) (h : opA P lend call fr ev c.h o.op = some (r, up)) : OpSound P o fr c a r up := by
  have hfr0 := hfr 0 (by omega)
  have he : ∀ x, RelV c (oneOf (ev x)) (a.eval x) := fun x => oneOf_rel (hev x)
  unfold opA at h
  split at h
  · -- move
    rename_i x ho
    obtain ⟨rfl, rfl⟩ := Prod.mk.inj (Option.some.inj h)
    exact sound_move hc (.inl ho) (hev x)
  · -- assign
    rename_i x ho
    obtain ⟨rfl, rfl⟩ := Prod.mk.inj (Option.some.inj h)
    exact sound_move hc (.inr ho) (hev x)
  · -- pick
    rename_i x y z ho
    have hx := he x
    split at h
    · rename_i hb
      rw [hb] at hx
      obtain ⟨rfl, rfl⟩ := Prod.mk.inj (Option.some.inj h)
      exact sound_pick hc ho (toVal_eq (c := c) (s := .c (.d (.v (.bool true)))) rfl hx) (hev y)
    · rename_i hb
      rw [hb] at hx
      obtain ⟨rfl, rfl⟩ := Prod.mk.inj (Option.some.inj h)
      exact sound_pick hc ho (toVal_eq (c := c) (s := .c (.d (.v (.bool false)))) rfl hx) (hev z)
    · cases h
  · -- extract
    rename_i x i ho
    have hx := hev x
    split at h
    · rename_i l hl
      rw [hl] at hx
      split at h
      · rename_i v hv
        obtain ⟨rfl, rfl⟩ := Prod.mk.inj (Option.some.inj h)
        exact sound_extract hc ho hx hv
      · cases h
    · cases h
  · -- nilCheck
    rename_i x ho
    have hx := he x
    split at h
    · rename_i id rr q hq
      rw [hq] at hx
      split at h
      · rename_i b hb
        obtain ⟨rfl, rfl⟩ := Prod.mk.inj (Option.some.inj h)
        exact sound_nilCheck hc ho (.inl ⟨_, hx.2.2 b hb⟩) hx
      · cases h
    · rename_i rr q hq
      rw [hq] at hx
      obtain ⟨rfl, rfl⟩ := Prod.mk.inj (Option.some.inj h)
      obtain ⟨b, q', hv, hr⟩ := hx
      exact sound_nilCheck hc ho (.inl ⟨_, hv⟩) ⟨b, q', hv, hr⟩
    · rename_i f cs hq
      rw [hq] at hx
      obtain ⟨rfl, rfl⟩ := Prod.mk.inj (Option.some.inj h)
      obtain ⟨cs', hv, hr⟩ := hx
      exact sound_nilCheck hc ho (.inr ⟨_, _, hv⟩) ⟨cs', hv, hr⟩
    · cases h
  · -- unOp
    rename_i op t x ho
    split at h
    · rename_i v hv
      obtain ⟨hq, rfl⟩ := noUp_some h
      refine sound_pure hc (s := Op.unary op v) ?_ hq
      have := toVal_eq hv (he x)
      unfold execOp
      rw [ho, ← this]
    · cases h
  · -- binOp
    rename_i op t x y _ ho
    split at h
    · rename_i v u hv hu
      obtain ⟨hq, rfl⟩ := noUp_some h
      refine sound_pure hc (s := do eqGuard op t x y v u; binOp op t v u) ?_ hq
      have e1 := toVal_eq hv (he x)
      have e2 := toVal_eq hu (he y)
      unfold execOp
      rw [ho, ← e1, ← e2]
    · cases h
  · -- convert
    rename_i src dst x ho
    split at h
    · rename_i e hs hd
      split at h
      · cases h
      · rename_i rows hrows hu8 hrr hns
        split at h
        · rename_i bs hbs
          obtain ⟨rfl, rfl⟩ := Prod.mk.inj (Option.some.inj h)
          exact sound_bytes_string hc ho hs hd hu8 (he x) hrr (fun s hs => hns s hs) hbs
        · cases h
      · cases h
    · rename_i e s hs hd hv
      split at h
      · rename_i hu8
        obtain ⟨rfl, rfl⟩ := Prod.mk.inj (Option.some.inj h)
        have hx := he x
        rw [hv] at hx
        exact sound_string_bytes hc hfr0 ho hs hd hu8 (toVal_eq (c := c) (s := .c (.d (.v (.string s)))) rfl hx)
      · cases h
    · cases h
    · split at h
      · rename_i v hv
        obtain ⟨hq, rfl⟩ := noUp_some h
        refine sound_pure hc (s := convert src dst v) ?_ hq
        have := toVal_eq hv (he x)
        unfold execOp
        rw [ho, ← this]
      · cases h
  · -- index
    rename_i t x y ho
    split at h
    · rename_i v u hv hu
      obtain ⟨hq, rfl⟩ := noUp_some h
      refine sound_pure hc (s := Instr.index t v u) ?_ hq
      have e1 := toVal_eq hv (he x)
      have e2 := toVal_eq hu (he y)
      unfold execOp
      rw [ho, ← e1, ← e2]
    · cases h
  · -- field
    rename_i t x i ho
    have hx := he x
    split at h
    · rename_i l fs hl hu
      rw [hl] at hx
      split at h
      · rename_i f hf
        split at h
        · rename_i v hp
          obtain ⟨rfl, rfl⟩ := Prod.mk.inj (Option.some.inj h)
          exact sound_field hc ho hx hu hf hp
        · cases h
      · cases h
    · cases h
  · -- alloc
    rename_i t ho
    split at h
    · rename_i z hz
      obtain ⟨rfl, rfl⟩ := Prod.mk.inj (Option.some.inj h)
      exact sound_alloc hc hfr0 ho hz
    · cases h
  · -- box
    rename_i t x ho
    split at h
    · cases h
    · rename_i v hj
      obtain ⟨rfl, rfl⟩ := Prod.mk.inj (Option.some.inj h)
      exact sound_box hc hfr0 ho (he x) hj
  · -- build
    rename_i t parts ho
    split at h
    · rename_i fs z hu hz
      split at h
      · cases h
      · rename_i hfs
        split at h
        · rename_i l hf
          obtain ⟨rfl, rfl⟩ := Prod.mk.inj (Option.some.inj h)
          exact sound_build hc hev ho hu hz hfs hf
        · cases h
    · cases h
  · -- buildSlice
    rename_i t n parts ho
    split at h
    · cases h
    · rename_i e hel
      simp only at h
      split at h
      · cases h
      · rename_i z hz
        split at h
        · cases h
        · rename_i hcond
          simp only [Bool.and_eq_true] at hcond
          split at h
          · rename_i l hf
            split at h
            · split at h
              · rename_i rows kills hrows
                obtain ⟨rfl, rfl⟩ := Prod.mk.inj (Option.some.inj h)
                exact sound_buildSlice hc hfr0 hev ho (elemT_eq hel) rfl hz (Nat.eq_of_beq_eq_true hcond.1) (Nat.le_of_ble_eq_true hcond.2) hf hrows
              · cases h
            · split at h
              · rename_i rows kills hrows
                split at h
                · rename_i hnd
                  obtain ⟨rfl, rfl⟩ := Prod.mk.inj (Option.some.inj h)
                  exact sound_buildSliceN hc hfr0 hev ho (elemT_eq hel) rfl hz (Nat.eq_of_beq_eq_true hcond.1) (Nat.le_of_ble_eq_true hcond.2) hf hrows (nodupB_ok hnd)
                · cases h
              · cases h
          · cases h
  · -- makeSlice
    rename_i t x y ho
    split at h
    · rename_i e n m hel hn hm
      split at h
      · rename_i z hz hcond
        simp only [Bool.and_eq_true, decide_eq_true_eq] at hcond
        split at h
        · rename_i row hk hrow
          obtain ⟨rfl, rfl⟩ := Prod.mk.inj (Option.some.inj h)
          exact sound_makeSlice hc hfr0 ho hel (he x) hn (he y) hm hz hcond.1.1.1 hcond.1.1.2 hcond.1.2 hcond.2 (Nat.eq_of_beq_eq_true hk) hrow
        · cases h
      · cases h
    · cases h
  · -- load
    rename_i t x ho
    have hx := he x
    split at h
    · rename_i id row off hq
      rw [hq] at hx
      split at h
      · rename_i cells hid
        split at h
        · split at h
          · rename_i v hp
            obtain ⟨rfl, rfl⟩ := Prod.mk.inj (Option.some.inj h)
            obtain ⟨cs, ty, fz, h1, _, _, hcell⟩ := hc.blk id _ hid
            refine sound_load hc ho (b := (c.E id).blk) (q := (c.E id).off) (by rw [hx.2.2 _ hid]; simp) hp fun j s hj => ?_
            obtain ⟨u, hu, hr⟩ := hcell j s hj
            exact ⟨u, by rw [cell_of_row c.w _ _ cs ty fz h1]; exact hu, hr⟩
          · cases h
        · cases h
      · rename_i k rows hid
        split at h
        · rename_i rr hrr
          split at h
          · rename_i v hp
            obtain ⟨rfl, rfl⟩ := Prod.mk.inj (Option.some.inj h)
            obtain ⟨cs, ty, fz, h1, _, _, _, hcell⟩ := hc.blk id _ hid
            refine sound_load hc ho (b := (c.E id).blk) (q := (c.E id).off + row * k) (by rw [hx.2.2 _ hid]; rfl) hp fun j s hj => ?_
            rw [List.getElem?_map] at hj
            cases hd : rr[j]? with
            | none => simp [hd] at hj
            | some d =>
              simp only [hd, Option.map_some, Option.some.injEq] at hj
              subst hj
              obtain ⟨u, hu, hr⟩ := (hcell row rr hrr).2 j d hd
              exact ⟨u, by rw [cell_of_row c.w _ _ cs ty fz h1]; exact hu, hr⟩
          · cases h
        · cases h
      · rename_i k rows outs hid
        split at h
        · rename_i rr hrr
          split at h
          · rename_i l hl
            split at h
            · rename_i v hp
              obtain ⟨rfl, rfl⟩ := Prod.mk.inj (Option.some.inj h)
              exact sound_load_nar hc ho hx hid hrr hl hp
            · cases h
          · cases h
        · cases h
      · cases h
    · rename_i rr off hq
      rw [hq] at hx
      split at h
      · rename_i v hp
        obtain ⟨rfl, rfl⟩ := Prod.mk.inj (Option.some.inj h)
        obtain ⟨b, q, hv, hN, hcell⟩ := hx
        refine sound_load hc ho hv hp fun j s hj => ?_
        rw [List.getElem?_map] at hj
        cases hd : rr[j]? with
        | none => simp [hd] at hj
        | some d =>
          simp only [hd, Option.map_some, Option.some.injEq] at hj
          subst hj
          exact hcell j d hd
      · cases h
    · cases h
  · -- store
    rename_i t x y ho
    have hx := he x
    split at h
    · cases h
    · rename_i id row off v hq hj
      rw [hq] at hx
      simp only at h
      split at h
      · cases h
      · rename_i hsz
        split at hsz
        · rename_i i hi
          have hl := Nat.eq_of_beq_eq_true hsz
          split at h
          · rename_i cells hid
            split at h
            · rename_i hle
              obtain ⟨rfl, rfl⟩ := Prod.mk.inj (Option.some.inj h)
              exact sound_store_var hc ho hx (he y) hj hi hl hid (Nat.le_of_ble_eq_true hle)
            · cases h
          · rename_i k rows hid
            split at h
            · split at h
              · rename_i rr ds kills hrr hds
                split at h
                · rename_i hcond
                  simp only [Bool.and_eq_true, Bool.not_eq_true'] at hcond
                  obtain ⟨rfl, rfl⟩ := Prod.mk.inj (Option.some.inj h)
                  refine sound_store_arr hc ho hx (he y) hj hi hl hid hrr (Nat.le_of_ble_eq_true hcond.1) hds fun u hu e => ?_
                  have := List.any_eq_false.1 hcond.2 u hu
                  rw [e] at this
                  exact this (by simp)
                · cases h
              · cases h
            · split at h
              · rename_i rr ds kills hrr hds
                split at h
                · rename_i hcond
                  simp only [Bool.and_eq_true, Bool.not_eq_true'] at hcond
                  obtain ⟨rfl, rfl⟩ := Prod.mk.inj (Option.some.inj h)
                  refine sound_store_arrn hc ho hx (he y) hj hi hl hid hrr (Nat.le_of_ble_eq_true hcond.1.1) hds (nodupB_ok hcond.2) fun u hu e => ?_
                  have := List.any_eq_false.1 hcond.1.2 u hu
                  rw [e] at this
                  exact this (by simp)
                · cases h
              · cases h
          · rename_i k rows hid
            split at h
            · rename_i rr ds kills hrr hds
              split at h
              · rename_i hcond
                simp only [Bool.and_eq_true, Bool.not_eq_true'] at hcond
                obtain ⟨rfl, rfl⟩ := Prod.mk.inj (Option.some.inj h)
                refine sound_store_nar hc ho hx (he y) hj hi hl hid hrr (Nat.le_of_ble_eq_true hcond.1.1) hds (nodupB_ok hcond.2) fun u hu e => ?_
                have := List.any_eq_false.1 hcond.1.2 u hu
                rw [e] at this
                exact this (by simp)
              · cases h
            · cases h
          · cases h
          · cases h
        · cases hsz
    · cases h
  · -- fieldAddr
    rename_i t x i ho
    have hx := he x
    split at h
    · rename_i fs hu
      split at h
      · rename_i f hf
        split at h
        · rename_i id rr q h1 hq
          rw [hq] at hx
          split at h
          · rename_i b hid
            obtain ⟨rfl, rfl⟩ := Prod.mk.inj (Option.some.inj h)
            obtain ⟨g1, g2, g3⟩ := hx
            refine sound_fieldAddr hc ho hu hf (Nat.le_of_ble_eq_true h1) (g3 b hid) ⟨rfl, g2, fun b' hb' => ?_⟩
            rw [hid] at hb'
            obtain rfl := Option.some.inj hb'
            rw [Nat.add_assoc]
          · cases h
        · rename_i rr q h1 hq
          rw [hq] at hx
          obtain ⟨rfl, rfl⟩ := Prod.mk.inj (Option.some.inj h)
          obtain ⟨b, q', hv, hN, hcell⟩ := hx
          exact sound_fieldAddr hc ho hu hf (Nat.le_of_ble_eq_true h1) hv ⟨b, q', by rw [Nat.add_assoc], hN, hcell⟩
        · cases h
      · cases h
    · cases h
  · -- indexAddr
    rename_i t x y ho
    have hx := he x
    split at h
    · rename_i e n hel hn
      obtain ⟨k0, hy⟩ := intV_eq hn (he y)
      split at h
      · cases h
      · rename_i i hi
        split at h
        · rename_i id off len hq
          rw [hq] at hx
          split at h
          · rename_i k rows hcond hid
            simp only [Bool.and_eq_true, decide_eq_true_eq] at hcond
            split at h
            · rename_i hk
              have hk := Nat.eq_of_beq_eq_true hk
              obtain ⟨rfl, rfl⟩ := Prod.mk.inj (Option.some.inj h)
              obtain ⟨_, hU, hx3⟩ := hx
              obtain ⟨_, _, heq, hle, ad, cap, hv, hlc, hrm, had⟩ := hx3 _ hid
              simp only [Blk.arrOf, Option.some.injEq, Prod.mk.injEq] at heq
              obtain ⟨rfl, rfl⟩ := heq
              have hcap : ¬ cap = 0 := by omega
              obtain rfl := had.resolve_left hcap
              refine sound_indexAddr hc ho (elemT_eq hel) ⟨i, hi⟩ hv hy hcond.1 hcond.2 ⟨rfl, hU, fun b hb => ?_⟩
              rw [hid] at hb
              obtain rfl := Option.some.inj hb
              simp only [Blk.stride, ← hk, Nat.add_mul]
              congr 3
              omega
            · cases h
          · rename_i k rows outs hcond hid
            simp only [Bool.and_eq_true, decide_eq_true_eq] at hcond
            split at h
            · rename_i hk
              have hk := Nat.eq_of_beq_eq_true hk
              obtain ⟨rfl, rfl⟩ := Prod.mk.inj (Option.some.inj h)
              obtain ⟨_, hU, hx3⟩ := hx
              obtain ⟨_, _, heq, hle, ad, cap, hv, hlc, hrm, had⟩ := hx3 _ hid
              simp only [Blk.arrOf, Option.some.injEq, Prod.mk.injEq] at heq
              obtain ⟨rfl, rfl⟩ := heq
              have hcap : ¬ cap = 0 := by omega
              obtain rfl := had.resolve_left hcap
              refine sound_indexAddr hc ho (elemT_eq hel) ⟨i, hi⟩ hv hy hcond.1 hcond.2 ⟨rfl, hU, fun b hb => ?_⟩
              rw [hid] at hb
              obtain rfl := Option.some.inj hb
              simp only [Blk.stride, ← hk, Nat.add_mul]
              congr 3
              omega
            · cases h
          · cases h
        · rename_i k rows hq
          rw [hq] at hx
          split at h
          · rename_i rr h0 hrr hk
            have hk := Nat.eq_of_beq_eq_true hk
            have h0 := of_decide_eq_true h0
            obtain ⟨rfl, rfl⟩ := Prod.mk.inj (Option.some.inj h)
            have hx' : RdD c.w c.N (.sl k rows) (a.eval x) := hx
            generalize hvx : a.eval x = vx at hx'
            cases hx' with
            | nil => simp at hrr
            | @sl _ _ b q cp val hlc hN hcell hval =>
              have hlt : n.toNat < rows.length := (List.getElem?_eq_some_iff.1 hrr).1
              refine sound_indexAddr hc ho (elemT_eq hel) ⟨i, hi⟩ hvx hy h0 (by omega) ⟨b, q + n.toNat * P.cellsOf e, rfl, hN, fun j d hj => ?_⟩
              obtain ⟨g1, g2⟩ := hcell _ _ hrr
              have hjk : j < k := by rw [← g1]; exact (List.getElem?_eq_some_iff.1 hj).1
              exact ⟨_, by rw [← hk]; exact g2 j hjk, hval _ _ j d hrr hj⟩
          · cases h
        · cases h
    · cases h
  · -- slice
    rename_i t x lo hi ho
    obtain ⟨hq, rfl⟩ := noUp_some h
    exact sound_slice hc he ho hq
  · -- makeFunc
    rename_i f first cap ho
    split at h
    · rename_i ids hf hids
      obtain ⟨rfl, rfl⟩ := Prod.mk.inj (Option.some.inj h)
      have : first = #[] := by apply Array.ext'; simpa using hf
      subst this
      exact sound_makeFunc hc he ho hids
    · cases h
  · -- builtins
    rename_i b args ts ho
    split at h
    · -- len
      rename_i x hargs
      obtain ⟨y, hy, rfl⟩ : ∃ y, args.toList = [y] ∧ oneOf (ev y) = x := by
        cases hl : args.toList with
        | nil => simp [hl] at hargs
        | cons y r => cases r with
          | nil => simp [hl] at hargs; exact ⟨y, rfl, hargs⟩
          | cons => simp [hl] at hargs
      split at h
      · rename_i n hn
        split at h
        · rename_i e hel
          obtain ⟨rfl, rfl⟩ := Prod.mk.inj (Option.some.inj h)
          cases h0 : ts[0]? with
          | none => simp [h0] at hel
          | some t =>
            simp only [h0, Option.bind_some] at hel
            exact sound_len hc ho rfl hy rfl h0 hel (he y) hn
        · cases h
      · split at h
        · rename_i v hv
          obtain ⟨hq, rfl⟩ := noUp_some h
          have e1 := toVal_eq hv (he y)
          have ha' : args = #[y] := by apply Array.ext'; simpa using hy
          refine sound_pure hc (s := Builtin.len_ ts o.type #[a.eval y]) (builtin_exec ho rfl ha' rfl fun _ => by simp [builtin]) ?_
          rw [e1]
          exact hq
        · cases h
    · -- append
      rename_i x y hargs
      obtain ⟨x', y', hxy, rfl, rfl⟩ : ∃ x' y', args.toList = [x', y'] ∧ oneOf (ev x') = x ∧ oneOf (ev y') = y := by
        cases hl : args.toList with
        | nil => simp [hl] at hargs
        | cons p r => cases r with
          | nil => simp [hl] at hargs
          | cons q r => cases r with
            | nil => simp [hl] at hargs; exact ⟨p, q, rfl, hargs.1, hargs.2⟩
            | cons => simp [hl] at hargs
      split at h
      · rename_i t u h0 h1
        split at h
        · rename_i q hu
          split at h
          · rename_i ix0 len hy
            split at h
            · rename_i kk new hix
              exact sound_appendN hc hfr0 he ho rfl hxy rfl h0 h1 hu (.inl ⟨_, rfl⟩) hy hix h
            · exact sound_append hc hfr0 he ho rfl hxy rfl h0 h1 hu (.inl ⟨_, rfl⟩) h
          · exact sound_append hc hfr0 he ho rfl hxy rfl h0 h1 hu (.inl ⟨_, rfl⟩) h
        · rename_i hu
          exact sound_append hc hfr0 he ho rfl hxy rfl h0 h1 hu (.inr rfl) h
        · cases h
      · cases h
    · -- min
      rename_i x y hargs
      obtain ⟨x', y', hxy, rfl, rfl⟩ : ∃ x' y', args.toList = [x', y'] ∧ oneOf (ev x') = x ∧ oneOf (ev y') = y := by
        cases hl : args.toList with
        | nil => simp [hl] at hargs
        | cons p r => cases r with
          | nil => simp [hl] at hargs
          | cons q r => cases r with
            | nil => simp [hl] at hargs; exact ⟨p, q, rfl, hargs.1, hargs.2⟩
            | cons => simp [hl] at hargs
      split at h
      · rename_i v u hv hu
        obtain ⟨hq, rfl⟩ := noUp_some h
        have e1 := toVal_eq hv (he x')
        have e2 := toVal_eq hu (he y')
        have ha' : args = #[x', y'] := by apply Array.ext'; simpa using hxy
        refine sound_pure hc (s := Builtin.min_ ts o.type #[a.eval x', a.eval y']) (builtin_exec ho rfl ha' rfl fun _ => by simp [builtin]) ?_
        rw [e1, e2]
        exact hq
      · cases h
    · -- max
      rename_i x y hargs
      obtain ⟨x', y', hxy, rfl, rfl⟩ : ∃ x' y', args.toList = [x', y'] ∧ oneOf (ev x') = x ∧ oneOf (ev y') = y := by
        cases hl : args.toList with
        | nil => simp [hl] at hargs
        | cons p r => cases r with
          | nil => simp [hl] at hargs
          | cons q r => cases r with
            | nil => simp [hl] at hargs; exact ⟨p, q, rfl, hargs.1, hargs.2⟩
            | cons => simp [hl] at hargs
      split at h
      · rename_i v u hv hu
        obtain ⟨hq, rfl⟩ := noUp_some h
        have e1 := toVal_eq hv (he x')
        have e2 := toVal_eq hu (he y')
        have ha' : args = #[x', y'] := by apply Array.ext'; simpa using hxy
        refine sound_pure hc (s := Builtin.max_ ts o.type #[a.eval x', a.eval y']) (builtin_exec ho rfl ha' rfl fun _ => by simp [builtin]) ?_
        rw [e1, e2]
        exact hq
      · cases h
    · cases h
  · -- calls
    rename_i f args ats ho
    have hf := he f
    split at h
    · rename_i g caps hq
      rw [hq] at hf
      split at h
      · rename_i hbody hall
        obtain ⟨fn, body, hg, hb⟩ := hasBody_some hbody
        · skip
          obtain ⟨cs, hv, hcs, hcap⟩ := hf
          have hcaps : ∀ i id, caps[i]? = some id → ∃ b, c.h id = some b := fun i id hi => by
            have := List.all_eq_true.1 hall id (List.mem_of_getElem? hi)
            exact Option.isSome_iff_exists.1 this
          refine call_wp (hname g fn hg) ho rfl hv hg hb ?_
          refine callA_sound hcall hc hfr hinj h (by simp [hcs]) fun j v hj => ?_
          by_cases hlt : j < args.size
          · rw [List.getElem?_append_left (by simpa using hlt), List.getElem?_map] at hj
            have hx : args.toList[j]? = some args[j] := by simp [hlt]
            rw [hx] at hj
            simp only [Option.map_some, Option.some.injEq] at hj
            subst hj
            exact ⟨a.eval args[j], by rw [Nat.zero_add, Array.getElem?_append_left (by simpa using hlt)]; simp [hlt], he _⟩
          · rw [List.getElem?_append_right (by simpa using hlt), List.getElem?_map] at hj
            simp only [List.length_map, Array.length_toList] at hj
            cases hi : caps[j - args.size]? with
            | none => simp [hi] at hj
            | some id =>
              simp only [hi, Option.map_some, Option.some.injEq] at hj
              subst hj
              obtain ⟨hu, x, hx, ho1, hb1⟩ := hcap _ id hi
              refine ⟨x, by simp only [Nat.zero_add]; rw [Array.getElem?_append_right (by simpa using hlt)]; simpa using hx, ho1, hu, fun b hb' => ?_⟩
              rw [hb1 b hb']
              simp
      · cases h
    · cases h
  · cases h
end
end Go.Vsi
namespace Go.Vsi
structure StOK (c0 c : Cx) (st : St) (a : Act) : Prop where
  h : c.h = st.h
  u : ∀ id, c.U id → id < st.next
  tm : RelTm c st.tm a.tmps
  eff : Eff' c0 c
  io : ∀ id, c0.U id ↔ id < st.io
  defers : a.defers = []
theorem put_defers (a : Act) (d : Option Tmp) (v : Value) : (a.put d v).defers = a.defers := by cases d <;> rfl
theorem RelTm.put {c : Cx} {tm : List W} {a : Act} {w : W} {v : Value} (h : RelTm c tm a.tmps) (hw : RelW c w v) (d : Option Tmp) : RelTm c (putA tm d w) (a.put d v).tmps := by
  cases d with
  | none => exact h
  | some d =>
    refine ⟨by simp [putA, Act.put, h.1], fun j s hj => ?_⟩
    simp only [putA, List.getElem?_set] at hj
    simp only [Act.put, Nat.zero_add, Array.getElem?_setIfInBounds]
    split at hj
    · rename_i hd
      split at hj
      · rename_i hlt
        obtain rfl := Option.some.inj hj
        refine ⟨v, ?_, hw⟩
        rw [if_pos hd, if_pos (by rw [h.1]; exact hlt)]
      · cases hj
    · rename_i hd
      rw [if_neg hd]
      obtain ⟨u, hu, hr⟩ := h.2 j s hj
      exact ⟨u, by rw [← hu, Nat.zero_add], hr⟩
theorem junk_undef (c : Cx) : RelW c (.tup []) undef := ⟨#[], rfl, rfl, fun j s h => by simp at h⟩
theorem wanted_ok {c : Cx} {ops : Array Oper} {tm : List W} {a : Act} {o : Oper} {b : Bool} (h : RelTm c tm a.tmps) (hw : wantedA ops.toList tm o = some b) : Region.wanted o (yielded ops a.tmps) = b := by
  unfold wantedA at hw
  unfold Region.wanted
  split at hw
  · rename_i hg
    obtain rfl := Option.some.inj hw
    rw [hg]
  · rename_i j want hg
    rw [hg]
    split at hw
    · cases hw
    · rename_i d hd
      split at hw
      · rename_i bb hb
        obtain rfl := Option.some.inj hw
        obtain ⟨v, hv, hr⟩ := h.2 d _ hb
        rw [Nat.zero_add] at hv
        have hx := toVal_eq (c := c) (s := .c (.d (.v (.bool bb)))) (v := v) rfl hr
        subst hx
        have hy : yielded ops a.tmps j = some bb := by
          have hd' : (ops[j]?).bind (·.dst) = some d := by simpa using hd
          unfold yielded
          rw [hd']
          simp [hv]
        simp only [hy]
        cases bb <;> cases want <;> rfl
      · rename_i hb
        obtain rfl := Option.some.inj hw
        obtain ⟨v, hv, hr⟩ := h.2 d _ hb
        rw [Nat.zero_add] at hv
        obtain ⟨vs, rfl, _⟩ := hr
        have hy : yielded ops a.tmps j = none := by
          have hd' : (ops[j]?).bind (·.dst) = some d := by simpa using hd
          unfold yielded
          rw [hd']
          simp [hv]
        simp only [hy]
        rfl
      · cases hw
theorem fresh_inj {n0 n i : Nat} (hn : i < n) (k k' : Nat) (_ : k < 64) (_ : k' < 64) (h : n0 + i + n * k = n0 + i + n * k') : k = k' := by
  have : n * k = n * k' := by omega
  exact Nat.eq_of_mul_eq_mul_left (by omega) this
theorem fresh_apart {n0 n i i' k k' : Nat} (hi : i < n) (hi' : i' < n) (h : n0 + i + n * k = n0 + i' + n * k') : i = i' := by
  have h1 : i + n * k = i' + n * k' := by omega
  have h2 : (i + n * k) % n = i := by rw [Nat.add_mul_mod_self_left, Nat.mod_eq_of_lt hi]
  have h3 : (i' + n * k') % n = i' := by rw [Nat.add_mul_mod_self_left, Nat.mod_eq_of_lt hi']
  rw [← h2, h1, h3]
theorem fresh_lt {n0 n i k : Nat} (hi : i < n) (hk : k < 64) : n0 + i + n * k < n0 + n * 64 := by
  have : n * k ≤ n * 63 := Nat.mul_le_mul_left n (by omega)
  omega
section
variable {P : Program}
def Names (c : Cx) (n0 n : Nat) (X : Nat → Prop) : Prop := ∀ id, c.U id → id < n0 ∨ ∃ i k, X i ∧ i < n ∧ k < 64 ∧ id = n0 + i + n * k
theorem ops_sound {lend : FuncId → Bool} {call : Call} (hcall : CallOK P call) (hname : NameOK P) {ops : Array Oper} {n0 : Nat} {c0 : Cx} {Q : Exit → Act → World → Prop} {tm' : List W} {h' : Hp} :
    ∀ (rest : List Oper) (i : Nat) (tm : List W) (h : Hp) (a : Act) (c : Cx), ops.toList.drop i = rest → opsA P lend call ops.toList n0 i rest tm h = some (tm', h') → RelTm c tm a.tmps → c.h = h → Eff' c0 c → a.defers = [] → Names c n0 ops.size (· < i) →
      (∀ a' c', RelTm c' tm' a'.tmps → c'.h = h' → Eff' c0 c' → a'.defers = [] → Names c' n0 ops.size (fun _ => True) → Q .normal a' c'.w) → wpOps P ops Q (List.range' i rest.length) a c.w
  | [], i, tm, h, a, c, _, hr, ht, hh, he, hd, hu, hQ => by
    simp only [opsA, Option.some.injEq, Prod.mk.injEq] at hr
    obtain ⟨rfl, rfl⟩ := hr
    exact hQ a c ht hh he hd fun id hid => (hu id hid).imp (fun h => h) fun ⟨i, k, _, h2, h3, h4⟩ => ⟨i, k, trivial, h2, h3, h4⟩
  | o :: rest, i, tm, h, a, c, hdrop, hr, ht, hh, he, hd, hu, hQ => by
    have hoi : ops.toList[i]? = some o := by
      have := congrArg (·[0]?) hdrop
      simpa [List.getElem?_drop] using this
    have ho : ops[i]? = some o := by simpa using hoi
    have hi : i < ops.size := (Array.getElem?_eq_some_iff.1 ho).1
    have hdrop' : ops.toList.drop (i + 1) = rest := by
      have := congrArg (List.drop 1) hdrop
      simpa [List.drop_drop, Nat.add_comm] using this
    have hlen : ops.toList.length = ops.size := by simp
    simp only [opsA] at hr
    split at hr
    case h_2 => cases hr
    rename_i tm1 h1 hstep
    simp only [List.length_cons, List.range'_succ, wpOps, ho]
    unfold stepA at hstep
    split at hstep
    · cases hstep
    · -- not wanted
      rename_i hw
      obtain ⟨rfl, rfl⟩ := Prod.mk.inj (Option.some.inj hstep)
      rw [wanted_ok ht hw]
      simp only [Bool.false_eq_true, if_false]
      refine ops_sound hcall hname rest (i + 1) _ _ _ c hdrop' hr (ht.put (junk_undef c) o.dst) hh he (by rw [put_defers]; exact hd) (fun id hid => (hu id hid).imp (fun h => h) fun ⟨i', k, h1, h2, h3, h4⟩ => ⟨i', k, by omega, h2, h3, h4⟩) hQ
    · -- wanted
      rename_i hw
      split at hstep
      case h_2 => cases hstep
      rename_i w up hop
      obtain ⟨rfl, rfl⟩ := Prod.mk.inj (Option.some.inj hstep)
      rw [wanted_ok ht hw]
      simp only [if_true]
      left
      subst hh
      have hfresh : ∀ k, k < 64 → ¬ c.U (n0 + i + ops.size * k) := fun k hk hU => by
        rcases hu _ hU with h | ⟨i', k', h1, h2, h3, h4⟩
        · omega
        · have := fresh_apart hi h2 h4
          omega
      rw [hlen] at hop
      have hs := opA_sound (fr := fun k => n0 + i + ops.size * k) hcall hname he.relh hfresh (fresh_inj hi) (fun x => rel_ev ht x) hop
      refine hs _ _ fun v c' e eh eu ev => ?_
      refine ops_sound hcall hname rest (i + 1) _ _ _ c' hdrop' hr ((ht.mono e.step).put ev o.dst) eh (he.trans e) (by rw [put_defers]; exact hd) (fun id hid => ?_) hQ
      rcases eu id hid with h | ⟨k, hk, rfl⟩
      · exact (hu id h).imp (fun h => h) fun ⟨i', k, h1, h2, h3, h4⟩ => ⟨i', k, by omega, h2, h3, h4⟩
      · exact .inr ⟨i, k, by omega, hi, hk, rfl⟩
theorem reg_text {lend : FuncId → Bool} {call : Call} (hcall : CallOK P call) (hname : NameOK P) {ops : Array Oper} {id : Nat} {c0 c : Cx} {st : St} {a : Act} {Q : Exit → Act → World → Prop} {tm' : List W} {h' : Hp} (hst : StOK c0 c st a)
    (hr : opsA P lend call ops.toList st.next 0 ops.toList st.tm st.h = some (tm', h')) (hQ : ∀ c' a', StOK c0 c' { st with tm := tm', h := h', next := st.next + ops.toList.length * 64 } a' → Q .normal a' c'.w) : (Code.region id ops false).wp P Q a c.w := by
  refine wp_region ?_
  have := ops_sound (Q := Q) (c0 := c0) hcall hname ops.toList 0 st.tm st.h a c (by simp) hr hst.tm hst.h hst.eff hst.defers (fun id hid => .inl (hst.u id hid)) fun a' c' ht hh he hd hu => hQ c' a' ⟨hh, fun id hid => ?_, ht, he, hst.io, hd⟩
  · simpa [List.range_eq_range'] using this
  · simp only [Array.length_toList]
    rcases hu id hid with h | ⟨i, k, _, hi, hk, rfl⟩
    · omega
    · exact fresh_lt hi hk
def Froz (c : Cx) (F : List Nat) (id : Nat) : Prop := F.elem id = true ∧ ∃ k, (∃ rows, c.h id = some (.arr k rows)) ∨ ∃ rows, c.h id = some (.nar k rows [])
theorem frzS_rel {c c' : Cx} (hc : RelH c) (F : List Nat) (st : Step c c') (hw : c'.w = c.w) (hN : ∀ id, Froz c F id → c'.N (c.E id).blk ∧ ∀ x o, c.E.own x = some ((c.E id).blk, o) → c'.N x) {s : S} {v : Value} (h : RelS c s v) : RelS c' (frzS c.h F s) v := by
  cases s with
  | arr id off len =>
    simp only [frzS]
    split
    · rename_i k rows hel hid
      exact toD_rel hc (w' := c'.w) (N' := c'.N) (u := [(id, none)]) (fun g _ => by rw [hw]) (fun g hg => (st.n g hg).1) (s := .arr id off len) (by simp only [toD, hid]) h fun y hy b hb => by
        simp only [List.mem_singleton] at hy
        subst hy
        exact (hN id ⟨hel, k, .inl ⟨rows, hid⟩⟩).1
    · rename_i k rows hel hid
      have hf := hN id ⟨hel, k, .inr ⟨rows, hid⟩⟩
      exact flats_rel hc hid h st.n ⟨hf.1, by rw [hw]⟩ fun x o hx => ⟨hf.2 x o hx, by rw [hw]⟩
    · exact RelS.mono st h
  | _ => exact RelS.mono st h
theorem frzV_rel {c c' : Cx} {h : Hp} {F : List Nat} (hs : ∀ s v, RelS c s v → RelS c' (frzS h F s) v) {s : V} {v : Value} (hr : RelV c s v) : RelV c' (frzV h F s) v := by
  cases s with
  | c s => exact hs _ _ hr
  | agg l => obtain ⟨cs, rfl, hl, hc⟩ := hr; exact ⟨cs, rfl, by simp [hl], hc.map (frzS h F) hs⟩
  | junk => trivial
theorem frzW_rel {c c' : Cx} {h : Hp} {F : List Nat} (hs : ∀ s v, RelS c s v → RelS c' (frzS h F s) v) {s : W} {v : Value} (hr : RelW c s v) : RelW c' (frzW h F s) v := by
  cases s with
  | one s => exact frzV_rel hs hr
  | tup l => obtain ⟨cs, rfl, hl, hc⟩ := hr; exact ⟨cs, rfl, by simp [hl], hc.map (frzV h F) fun _ _ => frzV_rel hs⟩
theorem frz_eff {c : Cx} (hc : RelH c) (F : List Nat) : ∃ c', Eff' c c' ∧ c'.w = c.w ∧ c'.h = frzH c.h F ∧ c'.U = c.U ∧ ∀ s v, RelS c s v → RelS c' (frzS c.h F s) v := by
  let c' : Cx := ⟨c.w, fun g => c.N g ∨ ∃ id, Froz c F id ∧ (g = (c.E id).blk ∨ ∃ o, c.E.own g = some ((c.E id).blk, o)), c.E, c.U, frzH c.h F⟩
  have back : ∀ id b', frzH c.h F id = some b' → ∃ b, c.h id = some b ∧ Compat b b' ∧ ¬ Froz c F id ∧ (b' = b ∨ ∃ cells, b = .var cells ∧ b' = .var (cells.map (frzS c.h F))) := fun id b' hb' => by
    unfold frzH at hb'
    split at hb'
    · rename_i cells hid
      obtain rfl := Option.some.inj hb'
      refine ⟨_, hid, by simp [Compat], ?_, .inr ⟨cells, rfl, rfl⟩⟩
      rintro ⟨_, k, ⟨rows, h⟩ | ⟨rows, h⟩⟩
      all_goals rw [hid] at h; cases h
    · rename_i k rows hid
      split at hb'
      · cases hb'
      · rename_i hel
        obtain rfl := Option.some.inj hb'
        exact ⟨_, hid, Compat.refl _, (fun hf => by have := hf.1; rw [hel] at this; cases this), .inl rfl⟩
    · rename_i k rows hid
      split at hb'
      · cases hb'
      · rename_i hel
        obtain rfl := Option.some.inj hb'
        exact ⟨_, hid, Compat.refl _, (fun hf => by have := hf.1; rw [hel] at this; cases this), .inl rfl⟩
    · rename_i k rows o os hid
      obtain rfl := Option.some.inj hb'
      refine ⟨_, hid, Compat.refl _, ?_, .inl rfl⟩
      rintro ⟨_, k, ⟨rows, h⟩ | ⟨rows, h⟩⟩
      all_goals rw [hid] at h; cases h
    · cases hb'
  have liv : ∀ id, Froz c F id → ∃ b, c.h id = some b := fun id hf => by
    obtain ⟨_, k, ⟨rows, h⟩ | ⟨rows, h⟩⟩ := hf
    all_goals exact ⟨_, h⟩
  have st : Step c c' := ⟨fun _ h => h, fun _ _ => rfl, fun id b' _ hb' => let ⟨b, h1, h2, _⟩ := back id b' hb'; ⟨b, h1, h2⟩, fun g hg => ⟨.inl hg, rfl⟩⟩
  have hS : ∀ s v, RelS c s v → RelS c' (frzS c.h F s) v := fun s v h => frzS_rel hc F st rfl (fun id hf => ⟨.inr ⟨id, hf, .inl rfl⟩, fun x o hx => .inr ⟨id, hf, .inr ⟨o, hx⟩⟩⟩) h
  refine ⟨c', ⟨st, ⟨?_, ?_, ?_, ?_, ?_, ?_, hc.olow⟩, rfl, rfl, rfl, Nat.le_refl _, fun _ _ _ => rfl, ?_, ?_, fun _ _ _ _ => rfl, fun _ _ h => .inl h⟩, rfl, rfl, rfl, hS⟩
  · intro id b' hb'
    obtain ⟨b, h1, _, _, h3⟩ := back id b' hb'
    rcases h3 with rfl | ⟨cells, rfl, rfl⟩
    · exact (hc.blk id _ h1).mono st rfl fun x o hx => ⟨hx, rfl⟩
    · obtain ⟨cs, ty, fz, g1, g2, g3, g4⟩ := hc.blk id _ h1
      exact ⟨cs, ty, fz, g1, g2, by simpa using g3, g4.map (frzS c.h F) hS⟩
  · intro id b' hb'
    obtain ⟨b, h1, _⟩ := back id b' hb'
    exact hc.used id b h1
  · intro id id' b b' hb hb' hne
    obtain ⟨b1, h1, _⟩ := back id b hb
    obtain ⟨b2, h2, _⟩ := back id' b' hb'
    exact hc.inj id id' b1 b2 h1 h2 hne
  · intro id b' hb' hn
    obtain ⟨b, h1, _, hnf, _⟩ := back id b' hb'
    rcases hn with hn | ⟨id2, hf, e | ⟨o, e⟩⟩
    · exact hc.apart id b h1 hn
    · obtain ⟨b2, h2⟩ := liv id2 hf
      by_cases hne : id = id2
      · subst hne; exact hnf hf
      · exact hc.inj id id2 b b2 h1 h2 hne e
    · obtain ⟨b2, h2⟩ := liv id2 hf
      exact (hc.nest _ _ id2 b2 e h2 rfl).2 id b h1 rfl
  · rintro g (hg | ⟨id, hf, rfl | ⟨o, e⟩⟩)
    · exact hc.low g hg
    · obtain ⟨b, hb⟩ := liv id hf
      obtain ⟨cs, ty, fz, h1, _⟩ := hc.blk id _ hb
      exact (Array.getElem?_eq_some_iff.1 h1).1
    · exact (hc.olow g _ e).1
  · intro g a id b' ho hb' ha
    obtain ⟨b, h1, _, hnf, _⟩ := back id b' hb'
    obtain ⟨n1, n2⟩ := hc.nest g a id b ho h1 ha
    refine ⟨?_, fun id2 b2 hb2 => let ⟨b3, h3, _⟩ := back id2 b2 hb2; n2 id2 b3 h3⟩
    rintro (hn | ⟨id2, hf, e | ⟨o, e⟩⟩)
    · exact n1 hn
    · obtain ⟨b2, h2⟩ := liv id2 hf
      exact n2 id2 b2 h2 e.symm
    · obtain ⟨b2, h2⟩ := liv id2 hf
      replace ho : c.E.own g = some a := ho
      rw [e] at ho
      obtain rfl := Option.some.inj ho
      by_cases hne : id = id2
      · subst hne; exact hnf hf
      · exact hc.inj id id2 b b2 h1 h2 hne ha
  · rintro g (hg | ⟨id, hf, rfl | ⟨o, e⟩⟩)
    · exact .inl hg
    · obtain ⟨b, hb⟩ := liv id hf
      exact .inr (.inr (.inl ⟨id, _, hb, rfl⟩))
    · obtain ⟨b, hb⟩ := liv id hf
      exact .inr (.inr (.inr ⟨_, id, _, e, hb, rfl⟩))
  · rintro g (⟨id, b', hb', hg⟩ | ⟨a, id, b', ho, hb', hg⟩)
    · obtain ⟨b, h1, _⟩ := back id b' hb'
      exact .inl (.inl ⟨id, b, h1, hg⟩)
    · obtain ⟨b, h1, _⟩ := back id b' hb'
      exact .inl (.inr ⟨a, id, b, ho, h1, hg⟩)
theorem CellsAt.map_tm {c c' : Cx} {tm : List W} {tmps : Array Value} {f : W → W} (hf : ∀ w v, RelW c w v → RelW c' (f w) v) (h : RelTm c tm tmps) : RelTm c' (tm.map f) tmps :=
  ⟨by simp [h.1], h.2.map f hf⟩
theorem frzSt_ok {c0 c : Cx} {st : St} {a : Act} (h : StOK c0 c st a) (ts : List Nat) : ∃ c', StOK c0 c' (frzSt ts st) a ∧ c'.w = c.w := by
  unfold frzSt
  split
  · exact ⟨c, h, rfl⟩
  · simp only
    obtain ⟨c', h1, h2, h3, h4, h5⟩ := frz_eff h.eff.relh (reach st.h 400 (ts.flatMap fun t => match st.tm[t]? with | some w => idsW w | none => []) [])
    rw [h.h] at h3 h5
    exact ⟨c', ⟨h3, fun id hid => h.u id (by rw [← h4]; exact hid), CellsAt.map_tm (fun w v hw => frzW_rel h5 hw) h.tm, h.eff.trans h1, h.io, h.defers⟩, h2⟩
end
end Go.Vsi
namespace Go.Vsi
def Sub (h h' : Hp) : Prop := ∀ id b, h id = some b → h' id = some b
theorem sliceLen_plain {h h' : Hp} {y : V} {v : Value} (hv : toVal y = some v) : sliceLen h y = sliceLen h' y := by
  cases y with
  | c s =>
    cases s with
    | d x =>
      cases x with
      | v x => unfold sliceLen; split <;> simp_all
      | sl => rfl
      | any => rfl
      | lit => rfl
    | arr => simp [toVal, cellVal] at hv
    | _ => rfl
  | _ => rfl
section
variable {h h' : Hp}
theorem toD_sub (hs : Sub h h') {s : S} {x : D × Ups} (hx : toD h s = some x) : toD h' s = some x := by
  cases s with
  | arr id off len =>
    try simp only [toD] at hx ⊢
    split at hx
    · rename_i k rows hid
      rw [hs _ _ hid]
      exact hx
    · cases hx
  | _ => exact hx
theorem toDs_sub (hs : Sub h h') : ∀ {l : List S} {x : List D × Ups}, toDs h l = some x → toDs h' l = some x
  | [], _, hx => hx
  | s :: r, x, hx => by
    try simp only [toDs] at hx ⊢
    split at hx
    · rename_i y u ys us h1 h2
      rw [toD_sub hs h1, toDs_sub hs h2]
      exact hx
    · cases hx
theorem toRows_sub (hs : Sub h h') : ∀ {l : List (List S)} {x : List (List D) × Ups}, toRows h l = some x → toRows h' l = some x
  | [], _, hx => hx
  | s :: r, x, hx => by
    try simp only [toRows] at hx ⊢
    split at hx
    · rename_i y u ys us h1 h2
      rw [toDs_sub hs h1, toRows_sub hs h2]
      exact hx
    · cases hx
theorem toO_sub (hs : Sub h h') {s : S} {x : O × Ups} (hx : toO h s = some x) : toO h' s = some x := by
  cases s with
  | arr id off len =>
    try simp only [toO] at hx ⊢
    split at hx
    · rename_i k rows hid
      rw [hs _ _ hid]
      exact hx
    · cases hx
  | _ => exact hx
theorem toOs_sub (hs : Sub h h') : ∀ {l : List S} {x : List O × Ups}, toOs h l = some x → toOs h' l = some x
  | [], _, hx => hx
  | s :: r, x, hx => by
    try simp only [toOs] at hx ⊢
    split at hx
    · rename_i y u ys us h1 h2
      rw [toO_sub hs h1, toOs_sub hs h2]
      exact hx
    · cases hx
theorem toRowsO_sub (hs : Sub h h') : ∀ {l : List (List S)} {x : List (List O) × Ups}, toRowsO h l = some x → toRowsO h' l = some x
  | [], _, hx => hx
  | s :: r, x, hx => by
    try simp only [toRowsO] at hx ⊢
    split at hx
    · rename_i y u ys us h1 h2
      rw [toOs_sub hs h1, toRowsO_sub hs h2]
      exact hx
    · cases hx
theorem narCell_sub (hs : Sub h h') {out : Option Nat} {o : O} {x : S} (hx : narCell h out o = some x) : narCell h' out o = some x := by
  cases out with
  | none => exact hx
  | some id =>
    simp only [narCell] at hx ⊢
    split at hx
    · rename_i k rs hid
      simp only [hs _ _ hid]
      exact hx
    · cases hx
theorem narRow_sub (hs : Sub h h') {outs : List (Nat × Nat × Nat)} {row : Nat} : ∀ {l : List O} {j : Nat} {x : List S}, narRow h outs row j l = some x → narRow h' outs row j l = some x
  | [], _, _, hx => hx
  | o :: r, j, x, hx => by
    simp only [narRow] at hx ⊢
    split at hx
    case h_2 => cases hx
    rename_i y ys h1 h2
    simp only [narCell_sub hs h1, narRow_sub hs h2]
    exact hx
theorem sliceRows_sub (hs : Sub h h') {v : V} {x : List (List D)} (hx : sliceRows h v = some x) : sliceRows h' v = some x := by
  unfold sliceRows at hx ⊢
  split at hx
  · split at hx
    · rename_i k rows hid
      try simp only [hs _ _ hid]
      exact hx
    · cases hx
  all_goals first | exact hx | cases hx
theorem sliceLen_sub (hs : Sub h h') {v : V} {x : Nat} (hx : sliceLen h v = some x) : sliceLen h' v = some x := by
  unfold sliceLen at hx ⊢
  split at hx
  · split at hx
    · rename_i b hid
      try simp only [hs _ _ hid]
      exact hx
    · cases hx
  all_goals first | exact hx | cases hx
theorem sliceA_sub (hs : Sub h h') {P : Program} {t : TypeId} {v : V} {lo hi : Option V} {x : W} (hx : sliceA P h t v lo hi = some x) : sliceA P h' t v lo hi = some x := by
  unfold sliceA at hx ⊢
  split at hx
  · exact hx
  · split at hx
    · rename_i e k rows he hid
      try simp only [he, hs _ _ hid]
      exact hx
    · cases hx
  · exact hx
  · exact hx
  · cases hx
theorem appendA_sub (hs : Sub h h') {P : Program} {fr : Nat → Nat} {t : TypeId} {v y : V} {x : Eff} (hx : appendA P fr h t v y = some x) : appendA P fr h' t v y = some x := by
  unfold appendA at hx ⊢
  split at hx
  · cases hx
  · rename_i e he
    try simp only
    split at hx
    case h_2 => cases hx
    rename_i new n hn hl
    try simp only [sliceRows_sub hs hn, sliceLen_sub hs hl]
    split at hx
    · cases hx
    · rename_i z hz
      try simp only
      split at hx
      · cases hx
      · rename_i hc
        try simp only [hc]
        split at hx
        · split at hx
          · rename_i k rows hid
            try simp only [hs _ _ hid]
            exact hx
          · cases hx
        · exact hx
        · cases hx
theorem appendN_sub (hs : Sub h h') {P : Program} {fr : Nat → Nat} {t : TypeId} {v : V} {ix0 len : Nat} {new : List (List O)} {x : Eff} (hx : appendN P fr h t v ix0 new len = some x) : appendN P fr h' t v ix0 new len = some x := by
  unfold appendN at hx ⊢
  split at hx
  · cases hx
  · rename_i e he
    try simp only
    split at hx
    case h_2 => cases hx
    rename_i n z hl hz
    try simp only [sliceLen_sub hs hl, hz]
    split at hx
    · cases hx
    · rename_i hc
      try simp only [hc]
      split at hx
      · split at hx
        · rename_i k rows hne hid
          try simp only [hne, hs _ _ hid]
          exact hx
        · rename_i k hne hid
          try simp only [hne, hs _ _ hid]
          exact hx
        · cases hx
      · exact hx
      · cases hx
theorem lendS_sub (hs : Sub h h') {s s' : S} (hx : lendS h s = some s') : lendS h' s = some s' := by
  cases s with
  | arr id off len =>
    try simp only [lendS] at hx ⊢
    split at hx
    · rename_i k rows hid
      rw [hs _ _ hid]
      exact hx
    · rename_i k rows hid
      rw [hs _ _ hid]
      exact hx
    · cases hx
  | ptr id row off =>
    try simp only [lendS] at hx ⊢
    split at hx
    · rename_i cells hid
      rw [hs _ _ hid]
      try simp only
      split at hx
      · rename_i ds us hds
        rw [toDs_sub hs hds]
        exact hx
      · cases hx
    · rename_i k rows hid
      rw [hs _ _ hid]
      exact hx
    · cases hx
    · cases hx
  | fn f caps => cases caps <;> exact hx
  | _ => exact hx
theorem lendSs_sub (hs : Sub h h') : ∀ {l : List S} {x : List S}, lendSs h l = some x → lendSs h' l = some x
  | [], _, hx => hx
  | s :: r, x, hx => by
    try simp only [lendSs] at hx ⊢
    split at hx
    · rename_i y ys h1 h2
      rw [lendS_sub hs h1, lendSs_sub hs h2]
      exact hx
    · cases hx
theorem lendV_sub (hs : Sub h h') {v v' : V} (hx : lendV h v = some v') : lendV h' v = some v' := by
  cases v with
  | c s =>
    try simp only [lendV] at hx ⊢
    split at hx
    · rename_i x h1
      rw [lendS_sub hs h1]
      exact hx
    · cases hx
  | agg l =>
    try simp only [lendV] at hx ⊢
    split at hx
    · rename_i x h1
      rw [lendSs_sub hs h1]
      exact hx
    · cases hx
  | junk => exact hx
theorem lendVs_sub (hs : Sub h h') : ∀ {l : List V} {x : List V}, lendVs h l = some x → lendVs h' l = some x
  | [], _, hx => hx
  | s :: r, x, hx => by
    try simp only [lendVs] at hx ⊢
    split at hx
    · rename_i y ys h1 h2
      rw [lendV_sub hs h1, lendVs_sub hs h2]
      exact hx
    · cases hx
theorem reach_sub (hs : Sub h h') {F : List Nat} (hF : ∀ x ∈ F, ∃ b, h x = some b) (hcl : ∀ x ∈ F, ∀ y ∈ idsAt h x, y ∈ F) : ∀ (k : Nat) (ids seen : List Nat), (∀ x ∈ ids, x ∈ F) → reach h k ids seen = reach h' k ids seen
  | 0, _, _, _ => rfl
  | k + 1, [], _, _ => rfl
  | k + 1, id :: r, seen, hi => by
    have hid := hi id (by simp)
    have hr : ∀ x ∈ r, x ∈ F := fun x hx => hi x (by simp [hx])
    obtain ⟨b, hb⟩ := hF id hid
    try simp only [reach, hb, hs _ _ hb]
    split
    · exact reach_sub hs hF hcl k r seen hr
    · refine reach_sub hs hF hcl k _ _ fun x hx => ?_
      rcases List.mem_append.1 hx with hx | hx
      · exact hcl id hid x (by unfold idsAt; rw [hb]; exact hx)
      · exact hr x hx
theorem ownCall_sub (hs : Sub h h') {call : Call} {fr : Nat → Nat} {g : FuncId} {args : List V} {x : Eff} (hc : closedB h (args.flatMap idsV) = true) (hx : ownCall call fr h g args = some x) : ownCall call fr h' g args = some x := by
  have hall := List.all_eq_true.1 hc
  have hmem : ∀ x ∈ args.flatMap idsV ++ (reach h 400 (args.flatMap idsV) []).flatMap (idsAt h), x ∈ reach h 400 (args.flatMap idsV) [] := fun x hx => List.elem_iff.1 (hall x hx)
  have hF : ∀ x ∈ reach h 400 (args.flatMap idsV) [], ∃ b, h x = some b := fun x hx => (reach_used _ _ _ _ hx).resolve_left (by simp)
  have hr : reach h 400 (args.flatMap idsV) [] = reach h' 400 (args.flatMap idsV) [] :=
    reach_sub hs (F := reach h 400 (args.flatMap idsV) []) hF (fun x hx y hy => hmem y (List.mem_append.2 (.inr (List.mem_flatMap.2 ⟨x, hx, hy⟩)))) 400 _ _ (fun x hx => hmem x (List.mem_append.2 (.inl hx)))
  have hm : ∀ seen : List Nat, (∀ x ∈ seen, ∃ b, h x = some b) → (seen.map fun id => (h id).map (renB (ix seen))) = seen.map fun id => (h' id).map (renB (ix seen)) := fun seen hse => by
    apply List.map_congr_left
    intro x hx
    obtain ⟨b, hb⟩ := hse x hx
    rw [hb, hs _ _ hb]
  unfold ownCall at hx ⊢
  try simp only at hx ⊢
  rw [← hr, ← hm _ hF]
  exact hx
theorem callA_sub (hs : Sub h h') {lend : FuncId → Bool} {call : Call} {fr : Nat → Nat} {g : FuncId} {args : List V} {x : Eff} (hc : (lend g || closedB h (args.flatMap idsV)) = true) (hx : callA lend call fr h g args = some x) : callA lend call fr h' g args = some x := by
  unfold callA at hx ⊢
  split at hx
  · unfold lendCall at hx ⊢
    split at hx
    · cases hx
    · rename_i as h1
      rw [lendVs_sub hs h1]
      exact hx
  · rename_i hl
    rw [hl, Bool.false_or] at hc
    exact ownCall_sub hs hc hx
theorem opA_sub (hs : Sub h h') {P : Program} {lend : FuncId → Bool} {call : Call} {fr : Nat → Nat} {ev : Operand → W} {o : Op} {x : Eff} (hc : callOk lend ev h o = true) (hx : opA P lend call fr ev h o = some x) : opA P lend call fr ev h' o = some x := by
  unfold opA at hx ⊢
  split at hx
  · exact hx
  · exact hx
  · exact hx
  · exact hx
  · -- nilCheck
    try simp only
    split at hx
    · split at hx
      · rename_i b hid
        try simp only [hs _ _ hid]
        exact hx
      · cases hx
    all_goals first | exact hx | cases hx
  · exact hx
  · exact hx
  · -- convert
    try simp only
    split at hx
    · rename_i e h1 h2
      try simp only
      split at hx
      · cases hx
      · rename_i rows hu8 hrr hns
        try simp only [hu8, sliceRows_sub hs hrr]
        exact hx
      · cases hx
    all_goals first | exact hx | cases hx
  · exact hx
  · exact hx
  · exact hx
  · exact hx
  · exact hx
  · -- buildSlice
    try simp only
    split at hx
    · cases hx
    · try simp only at hx ⊢
      split at hx
      · cases hx
      · try simp only
        split at hx
        · cases hx
        · rename_i hcd
          try simp only [hcd]
          split at hx
          · try simp only
            split at hx
            · rename_i hnb
              try simp only [hnb]
              split at hx
              · rename_i rows kills hrows
                try simp only [toRows_sub hs hrows]
                exact hx
              · cases hx
            · rename_i hnb
              try simp only [hnb]
              split at hx
              · rename_i rows kills hrows
                try simp only [toRowsO_sub hs hrows]
                exact hx
              · cases hx
          · cases hx
  · -- makeSlice
    try simp only
    split at hx
    · try simp only
      split at hx
      · rename_i z hz hcd
        try simp only [hcd]
        split at hx
        · rename_i row hk hrow
          try simp only [hk, toDs_sub hs hrow]
          exact hx
        · cases hx
      · cases hx
    · cases hx
  · -- load
    try simp only
    split at hx
    · split at hx
      · rename_i cells hid
        try simp only [hs _ _ hid]
        exact hx
      · rename_i k rows hid
        try simp only [hs _ _ hid]
        exact hx
      · rename_i k rows outs hid
        try simp only [hs _ _ hid]
        split at hx
        · rename_i r hr
          try simp only [hr]
          split at hx
          · rename_i l hl
            simp only [narRow_sub hs hl]
            exact hx
          · cases hx
        · cases hx
      · cases hx
    all_goals first | exact hx | cases hx
  · -- store
    try simp only
    split at hx
    · cases hx
    · rename_i hj
      try simp only at hx ⊢
      split at hx
      · cases hx
      · rename_i hcd
        try simp only [hcd]
        split at hx
        · rename_i cells hid
          try simp only [hs _ _ hid]
          exact hx
        · rename_i k rows hid
          try simp only [hs _ _ hid]
          split at hx
          · rename_i hnb
            try simp only [hnb]
            split at hx
            · rename_i rr ds kills hrr hds
              try simp only [hrr, toDs_sub hs hds]
              exact hx
            · cases hx
          · rename_i hnb
            try simp only [hnb]
            split at hx
            · rename_i rr ds kills hrr hds
              try simp only [hrr, toOs_sub hs hds]
              exact hx
            · cases hx
        · rename_i k rows hid
          try simp only [hs _ _ hid]
          split at hx
          · rename_i rr ds kills hrr hds
            try simp only [hrr, toOs_sub hs hds]
            exact hx
          · cases hx
        · cases hx
        · cases hx
    · cases hx
  · -- fieldAddr
    try simp only
    split at hx
    · try simp only
      split at hx
      · try simp only
        split at hx
        · rename_i h1
          try simp only [h1]
          split at hx
          · rename_i b hid
            try simp only [hs _ _ hid]
            exact hx
          · cases hx
        · rename_i h1
          try simp only [h1]
          exact hx
        · cases hx
      · cases hx
    · cases hx
  · -- indexAddr
    try simp only
    split at hx
    · try simp only
      split at hx
      · cases hx
      · try simp only
        split at hx
        · try simp only
          split at hx
          · rename_i hcd hid
            try simp only [hcd, hs _ _ hid]
            exact hx
          · rename_i hcd hid
            try simp only [hcd, hs _ _ hid]
            exact hx
          · cases hx
        · exact hx
        · cases hx
    · cases hx
  · -- slice
    obtain ⟨w, up⟩ := x
    obtain ⟨h1, h2⟩ := noUp_some hx
    subst h2
    try simp only [sliceA_sub hs h1]
    rfl
  · exact hx
  · -- builtins
    try simp only
    split at hx
    · try simp only
      split at hx
      · rename_i n hn
        try simp only [sliceLen_sub hs hn]
        exact hx
      · rename_i hno
        split at hx
        · rename_i v hv
          rw [sliceLen_plain (h' := h') hv] at hno
          simp only [hno]
          exact hx
        · cases hx
    · try simp only
      split at hx
      · try simp only
        split at hx
        · split at hx
          · rename_i ix0 len _
            split at hx
            · rename_i kk new hix
              simp only [hs _ _ hix]
              exact appendN_sub hs hx
            · rename_i hno
              have hex : ∃ k rows, h ix0 = some (.arr k rows) := by
                unfold appendA at hx
                split at hx
                · cases hx
                split at hx
                case h_2 => cases hx
                rename_i new n hsr _
                simp only [sliceRows] at hsr
                split at hsr
                · rename_i k rows hid
                  exact ⟨k, rows, hid⟩
                · cases hsr
              obtain ⟨k, rows, hid⟩ := hex
              simp only [hs _ _ hid]
              exact appendA_sub hs hx
          · exact appendA_sub hs hx
        · exact appendA_sub hs hx
        · cases hx
      · cases hx
    · exact hx
    · exact hx
    · cases hx
  · -- calls
    try simp only
    split at hx
    · rename_i g caps hf
      try simp only
      split at hx
      · rename_i hb hall
        have hall' : caps.all (fun id => (h' id).isSome) = true := List.all_eq_true.2 fun id hid => by
          obtain ⟨b, hb⟩ := Option.isSome_iff_exists.1 (List.all_eq_true.1 hall id hid)
          rw [hs _ _ hb]; rfl
        simp only [hall', hb]
        refine callA_sub hs ?_ hx
        simp only [callOk, hf] at hc
        exact hc
      · cases hx
    · cases hx
  · cases hx
end
end Go.Vsi
namespace Go.Vsi
structure Res where
  w : W
  up : Ups
  foot : List Nat
def dstOf (ops : List Oper) (i : Nat) : Option Tmp := (ops[i]?).bind (·.dst)
def tmF (ops : List Oper) (res : Nat → Res) : List Nat → List W → List W
  | [], tm => tm
  | i :: r, tm => tmF ops res r (putA tm (dstOf ops i) (res i).w)
def hF (res : Nat → Res) : List Nat → Hp → Hp
  | [], h => h
  | i :: r, h => hF res r (upd h (res i).up)
theorem tmF_append (ops : List Oper) (res : Nat → Res) : ∀ (l m : List Nat) (tm : List W), tmF ops res (l ++ m) tm = tmF ops res m (tmF ops res l tm)
  | [], _, _ => rfl
  | _ :: r, m, _ => tmF_append ops res r m _
theorem hF_append (res : Nat → Res) : ∀ (l m : List Nat) (h : Hp), hF res (l ++ m) h = hF res m (hF res l h)
  | [], _, _ => rfl
  | _ :: r, m, _ => hF_append res r m _
theorem tmF_congr (ops : List Oper) {res res' : Nat → Res} : ∀ (l : List Nat) (tm : List W), (∀ j ∈ l, res j = res' j) → tmF ops res l tm = tmF ops res' l tm
  | [], _, _ => rfl
  | i :: r, tm, h => by
    simp only [tmF]
    rw [h i (by simp), tmF_congr ops r _ fun j hj => h j (by simp [hj])]
theorem hF_congr {res res' : Nat → Res} : ∀ (l : List Nat) (h : Hp), (∀ j ∈ l, res j = res' j) → hF res l h = hF res' l h
  | [], _, _ => rfl
  | i :: r, h, hh => by
    simp only [hF]
    rw [hh i (by simp), hF_congr r _ fun j hj => hh j (by simp [hj])]
theorem putA_get {tm tm2 : List W} {t : Nat} (h : tm[t]? = tm2[t]?) (d : Option Tmp) (w : W) : (putA tm d w)[t]? = (putA tm2 d w)[t]? := by
  cases d with
  | none => exact h
  | some d =>
    simp only [putA, List.getElem?_set]
    split
    · rename_i e
      subst e
      have : d < tm.length ↔ d < tm2.length := by
        constructor
        · intro h3
          rw [List.getElem?_eq_getElem h3] at h
          exact (List.getElem?_eq_some_iff.1 h.symm).1
        · intro h3
          rw [List.getElem?_eq_getElem h3] at h
          exact (List.getElem?_eq_some_iff.1 h).1
      by_cases h1 : d < tm.length
      · rw [if_pos h1, if_pos (this.1 h1)]
      · rw [if_neg h1, if_neg (fun h2 => h1 (this.2 h2))]
    · exact h
theorem putA_ne {tm : List W} {t : Nat} {d : Option Tmp} (h : d ≠ some t) (w : W) : (putA tm d w)[t]? = tm[t]? := by
  cases d with
  | none => rfl
  | some d =>
    simp only [putA, List.getElem?_set]
    rw [if_neg]
    rintro rfl
    exact h rfl
def puts (ops : List Oper) (t : Nat) (j : Nat) : Bool := decide (dstOf ops j = some t)
theorem tmF_filter (ops : List Oper) (res : Nat → Res) (t : Nat) : ∀ (l : List Nat) (tm tm2 : List W), tm[t]? = tm2[t]? → (tmF ops res l tm)[t]? = (tmF ops res (l.filter (puts ops t)) tm2)[t]?
  | [], _, _, h => h
  | i :: r, tm, tm2, h => by
    rw [List.filter_cons]
    split
    · exact tmF_filter ops res t r _ _ (putA_get h _ _)
    · rename_i hp
      simp only [puts, decide_eq_true_eq] at hp
      exact tmF_filter ops res t r _ _ (by rw [putA_ne hp]; exact h)
theorem tmF_agree {ops : List Oper} {res : Nat → Res} {t : Nat} {l l' : List Nat} (tm : List W) (h : l.filter (puts ops t) = l'.filter (puts ops t)) : (tmF ops res l tm)[t]? = (tmF ops res l' tm)[t]? := by
  rw [tmF_filter ops res t l tm tm rfl, h, ← tmF_filter ops res t l' tm tm rfl]
def touches (res : Nat → Res) (id : Nat) (j : Nat) : Bool := decide (id ∈ (res j).up.map (·.1))
theorem upd_get {id : Nat} : ∀ (us : Ups) {h h2 : Hp}, h id = h2 id → upd h us id = upd h2 us id
  | [], _, _, e => e
  | (i, b) :: r, h, h2, e => by
    rw [upd_cons, upd_cons h2]
    refine upd_get r ?_
    rw [upd_one, upd_one, e]
theorem upd_not {id : Nat} {us : Ups} {h : Hp} (hn : ¬ id ∈ us.map (·.1)) : upd h us id = h id :=
  upd_other us h fun x hx e => hn (List.mem_map.2 ⟨x, hx, e⟩)
theorem hF_filter (res : Nat → Res) (id : Nat) : ∀ (l : List Nat) (h h2 : Hp), h id = h2 id → hF res l h id = hF res (l.filter (touches res id)) h2 id
  | [], _, _, e => e
  | i :: r, h, h2, e => by
    rw [List.filter_cons]
    split
    · exact hF_filter res id r _ _ (upd_get _ e)
    · rename_i hp
      simp only [touches, decide_eq_true_eq] at hp
      exact hF_filter res id r _ _ (by rw [upd_not hp]; exact e)
theorem hF_agree {res : Nat → Res} {id : Nat} {l l' : List Nat} (h : Hp) (e : l.filter (touches res id) = l'.filter (touches res id)) : hF res l h id = hF res l' h id := by
  rw [hF_filter res id l h h rfl, e, ← hF_filter res id l' h h rfl]
theorem filter_agree {l pre post : List Nat} {i : Nat} {X p : Nat → Bool} (hl : l = pre ++ i :: post) (hn : l.Nodup) (h : ∀ j ∈ l, p j = true → (X j = true ↔ j ∈ pre)) : (l.filter X).filter p = pre.filter p := by
  subst hl
  rw [List.filter_append, List.filter_append]
  have h1 : (pre.filter X).filter p = pre.filter p := by
    rw [List.filter_filter]
    apply List.filter_congr
    intro j hj
    cases hp : p j with
    | false => simp
    | true => simp [(h j (by simp [hj]) hp).2 hj]
  have h2 : ((i :: post).filter X).filter p = [] := by
    rw [List.filter_filter, List.filter_eq_nil_iff]
    intro j hj hb
    simp only [Bool.and_eq_true] at hb
    have hj' : j ∈ pre := (h j (List.mem_append.2 (.inr hj)) hb.1).1 hb.2
    exact (List.nodup_append.1 hn).2.2 j hj' j hj rfl
  rw [h1, h2, List.append_nil]
theorem move_last {l pre post : List Nat} {i : Nat} {X p : Nat → Bool} (hl : l = pre ++ i :: post) (hn : l.Nodup) (hX : X i = false) (h : p i = true → ∀ j ∈ post, X j = true → p j = true → False) : (l.filter fun j => X j || decide (j = i)).filter p = (l.filter X ++ [i]).filter p := by
  subst hl
  have hn' := List.nodup_append.1 hn
  have hip : i ∉ pre := fun hi => hn'.2.2 i hi i (by simp) rfl
  have hio : i ∉ post := (List.nodup_cons.1 hn'.2.1).1
  have e1 : (pre.filter fun j => X j || decide (j = i)) = pre.filter X := List.filter_congr fun j hj => by
    have : j ≠ i := by rintro rfl; exact hip hj
    simp [this]
  have e2 : (post.filter fun j => X j || decide (j = i)) = post.filter X := List.filter_congr fun j hj => by
    have : j ≠ i := by rintro rfl; exact hio hj
    simp [this]
  simp only [List.filter_append, List.filter_cons, List.filter_nil, hX, Bool.false_or, decide_true, if_true, e1, e2, Bool.false_eq_true, if_false]
  cases hp : p i with
  | false => simp
  | true =>
    have e3 : (post.filter X).filter p = [] := by
      rw [List.filter_filter, List.filter_eq_nil_iff]
      intro j hj hb
      simp only [Bool.and_eq_true] at hb
      exact h hp j hj hb.2 hb.1
    rw [e3]
    simp
def Closed (ops : List Oper) (X : Nat → Prop) : Prop := ∀ i, X i → ∀ e ∈ edgesOf ops i, X e
theorem mem_union {l m : List Nat} {x : Nat} (h : x ∈ union l m) : x ∈ l ∨ x ∈ m := by
  unfold union at h
  rcases List.mem_append.1 h with h | h
  · exact .inl h
  · exact .inr (List.mem_filter.1 h).1
theorem mem_unions (g : Nat → List Nat) {x : Nat} : ∀ (es l : List Nat), x ∈ es.foldl (fun l e => union l (g e)) l → x ∈ l ∨ ∃ e ∈ es, x ∈ g e
  | [], _, h => .inl h
  | e :: r, l, h => by
    rcases mem_unions g r _ h with h1 | ⟨e', h1, h2⟩
    · rcases mem_union h1 with h2 | h2
      · exact .inl h2
      · exact .inr ⟨e, by simp, h2⟩
    · exact .inr ⟨e', by simp [h1], h2⟩
theorem ancs_closed (ops : List Oper) {X : Nat → Prop} (hX : Closed ops X) : ∀ (l : List Nat) (acc : List (Nat × List Nat)), (∀ i j, j ∈ ancOf acc i → X i → X j) → ∀ i j, j ∈ ancOf (ancs ops l acc) i → X i → X j
  | [], _, h => h
  | a :: r, acc, h => by
    refine ancs_closed ops hX r _ fun i j hj hi => ?_
    simp only [ancOf] at hj
    split at hj
    · rename_i hb
      obtain rfl := Nat.eq_of_beq_eq_true hb
      rcases mem_unions _ _ _ hj with h1 | ⟨e, h1, h2⟩
      · exact hX _ hi _ h1
      · exact h e j h2 (hX _ hi e h1)
    · exact h i j hj hi
theorem before_spec (ops : List Oper) : ∀ (l done : List Nat), before ops done l = true → l.Nodup ∧ (∀ x ∈ l, x ∉ done) ∧ ∀ pre i post, l = pre ++ i :: post → ∀ e ∈ edgesOf ops i, e ∈ done ∨ e ∈ pre
  | [], _, _ => ⟨List.nodup_nil, by simp, fun pre i post h => by simp at h⟩
  | a :: r, done, h => by
    simp only [before, Bool.and_eq_true, Bool.not_eq_true'] at h
    obtain ⟨⟨h1, h2⟩, h3⟩ := h
    obtain ⟨k1, k2, k3⟩ := before_spec ops r _ h3
    have had : a ∉ done := fun hm => by rw [List.elem_eq_true_of_mem hm] at h2; cases h2
    refine ⟨List.nodup_cons.2 ⟨fun hm => k2 a hm (by simp), k1⟩, fun x hx => ?_, fun pre i post hl e he => ?_⟩
    · rcases List.mem_cons.1 hx with rfl | hx
      · exact had
      · exact fun hm => k2 x hx (by simp [hm])
    · cases pre with
      | nil =>
        obtain ⟨rfl, rfl⟩ := List.cons.inj hl
        exact .inl (List.elem_iff.1 (List.all_eq_true.1 h1 e he))
      | cons b pre =>
        obtain ⟨rfl, hl'⟩ := List.cons.inj hl
        rcases k3 pre i post hl' e he with h4 | h4
        · rcases List.mem_cons.1 h4 with rfl | h4
          · exact .inr (by simp)
          · exact .inl h4
        · exact .inr (by simp [h4])
theorem first_not (X : Nat → Bool) : ∀ (l : List Nat), (∀ x ∈ l, X x = true) ∨ ∃ pre i post, l = pre ++ i :: post ∧ (∀ x ∈ pre, X x = true) ∧ X i = false
  | [] => .inl (by simp)
  | a :: r => by
    cases ha : X a with
    | false => exact .inr ⟨[], a, r, rfl, by simp, ha⟩
    | true =>
      rcases first_not X r with h | ⟨pre, i, post, rfl, h2, h3⟩
      · exact .inl fun x hx => (List.mem_cons.1 hx).elim (fun e => e ▸ ha) (h x)
      · exact .inr ⟨a :: pre, i, post, rfl, fun x hx => (List.mem_cons.1 hx).elim (fun e => e ▸ ha) (h2 x), h3⟩
section
variable {P : Program}
def OneOK (P : Program) (lend : FuncId → Bool) (call : Call) (ops : List Oper) (n0 : Nat) (res : Nat → Res) (rs : List Rec) (tm : List W) (h : Hp) (i : Nat) : Prop :=
  ∃ o, ops[i]? = some o ∧ ((wantedA ops tm o = some false ∧ res i = ⟨.tup [], [], []⟩) ∨ (wantedA ops tm o = some true ∧
    opA P lend call (fun k => n0 + i + ops.length * k) (evL (opTmps o.op) tm) (cut (res i).foot h) o.op = some ((res i).w, (res i).up) ∧ callOk lend (evL (opTmps o.op) tm) (cut (res i).foot h) o.op = true ∧ ⟨i, (res i).foot, (res i).up.map (·.1)⟩ ∈ rs))
theorem OneOK.congr {lend : FuncId → Bool} {call : Call} {ops : List Oper} {n0 : Nat} {res res' : Nat → Res} {rs : List Rec} {tm : List W} {h : Hp} {i : Nat} (e : res i = res' i) (hh : OneOK P lend call ops n0 res rs tm h i) : OneOK P lend call ops n0 res' rs tm h i := by
  unfold OneOK at hh ⊢
  rw [← e]
  exact hh
theorem draw_res {lend : FuncId → Bool} {call : Call} {ops : List Oper} {n0 : Nat} : ∀ (l : List Nat) (tm : List W) (h : Hp) (rs : List Rec) {tm' : List W} {h' : Hp} {rs' : List Rec}, l.Nodup → drawGo P lend call ops n0 l tm h rs = some (tm', h', rs') →
    ∃ res : Nat → Res, tm' = tmF ops res l tm ∧ h' = hF res l h ∧ (∀ r ∈ rs, r ∈ rs') ∧ ∀ pre i post, l = pre ++ i :: post → OneOK P lend call ops n0 res rs' (tmF ops res pre tm) (hF res pre h) i
  | [], tm, h, rs, tm', h', rs', _, hd => by
    simp only [drawGo, Option.some.injEq, Prod.mk.injEq] at hd
    obtain ⟨rfl, rfl, rfl⟩ := hd
    exact ⟨fun _ => ⟨.tup [], [], []⟩, rfl, rfl, fun _ h => h, fun pre i post h => by simp at h⟩
  | a :: r, tm, h, rs, tm', h', rs', hn, hd => by
    obtain ⟨har, hnr⟩ := List.nodup_cons.1 hn
    have step : ∀ (x : Res) (rs1 : List Rec), drawGo P lend call ops n0 r (putA tm (dstOf ops a) x.w) (upd h x.up) rs1 = some (tm', h', rs') → (∀ y ∈ rs, y ∈ rs1) →
        (∀ res : Nat → Res, res a = x → (∀ y ∈ rs1, y ∈ rs') → OneOK P lend call ops n0 res rs' tm h a) →
        ∃ res : Nat → Res, tm' = tmF ops res (a :: r) tm ∧ h' = hF res (a :: r) h ∧ (∀ y ∈ rs, y ∈ rs') ∧ ∀ pre i post, a :: r = pre ++ i :: post → OneOK P lend call ops n0 res rs' (tmF ops res pre tm) (hF res pre h) i := by
      intro x rs1 hgo hsub hone
      obtain ⟨res0, e1, e2, e3, e4⟩ := draw_res r _ _ _ hnr hgo
      have hne : ∀ j ∈ r, (if j = a then x else res0 j) = res0 j := fun j hj => if_neg (by rintro rfl; exact har hj)
      refine ⟨fun j => if j = a then x else res0 j, ?_, ?_, fun y hy => e3 y (hsub y hy), fun pre i post hl => ?_⟩
      · simp only [tmF, if_true]
        rw [tmF_congr ops r _ hne]
        exact e1
      · simp only [hF, if_true]
        rw [hF_congr r _ hne]
        exact e2
      · cases pre with
        | nil =>
          obtain ⟨rfl, rfl⟩ := List.cons.inj hl
          exact hone _ (if_pos rfl) e3
        | cons b pre =>
          obtain ⟨rfl, hl'⟩ := List.cons.inj hl
          have hpre : ∀ j ∈ pre, (if j = a then x else res0 j) = res0 j := fun j hj => hne j (by rw [hl']; simp [hj])
          have hi : i ∈ r := by rw [hl']; simp
          simp only [tmF, hF, if_true]
          rw [tmF_congr ops pre _ hpre, hF_congr pre _ hpre]
          exact OneOK.congr (hne i hi).symm (e4 pre i post hl')
    simp only [drawGo] at hd
    split at hd
    · cases hd
    · rename_i o ho
      have hdst : dstOf ops a = o.dst := by unfold dstOf; rw [ho]; rfl
      split at hd
      · cases hd
      · rename_i hw
        refine step ⟨.tup [], [], []⟩ rs (by rw [hdst]; exact hd) (fun _ h => h) fun res hr _ => ⟨o, ho, .inl ⟨hw, hr⟩⟩
      · rename_i hw
        split at hd
        · rename_i w up hop hco
          refine step ⟨w, up, footA (evL (opTmps o.op) tm) h o.op⟩ _ (by rw [hdst]; exact hd) (fun y hy => by simp [hy]) fun res hr hin => ⟨o, ho, .inr ⟨hw, ?_, ?_, ?_⟩⟩
          · rw [hr]; exact hop
          · rw [hr]; exact hco
          · rw [hr]; exact hin _ (by simp)
        · cases hd
theorem wantedA_congr {ops : Array Oper} {tm tm2 : List W} {o : Oper} (h : ∀ t ∈ o.looksAt ops, tm[t]? = tm2[t]?) : wantedA ops.toList tm o = wantedA ops.toList tm2 o := by
  unfold wantedA
  split
  · rfl
  · rename_i j want hg
    split
    · rfl
    · rename_i d hd
      have : d ∈ o.looksAt ops := by
        unfold Oper.looksAt
        rw [hg]
        have hd' : (ops[j]?).bind (·.dst) = some d := by simpa using hd
        simp [hd']
      rw [h d this]
theorem evL_congr {ops : Array Oper} {tm tm2 : List W} {o : Oper} (h : ∀ t ∈ o.looksAt ops, tm[t]? = tm2[t]?) : evL (opTmps o.op) tm = evL (opTmps o.op) tm2 := by
  funext x
  cases x with
  | tmp t =>
    simp only [evL]
    split
    · rename_i he
      have : t ∈ o.looksAt ops := by
        unfold Oper.looksAt
        exact List.mem_append.2 (.inl (List.elem_iff.1 he))
      simp only [evA, h t this]
    · rfl
  | _ => rfl
theorem rel_evL {c : Cx} {ts : List Nat} {tm : List W} {a : Act} (h : RelTm c tm a.tmps) (x : Operand) : RelW c (evL ts tm x) (a.eval x) := by
  cases x with
  | tmp t =>
    simp only [evL]
    split
    · exact rel_ev h (.tmp t)
    · trivial
  | const v => exact rel_ev h (.const v)
  | global g => exact rel_ev h (.global g)
  | func f => exact rel_ev h (.func f)
theorem reg_draw {lend : FuncId → Bool} {call : Call} (hcall : CallOK P call) (hname : NameOK P) (hmix : P.follows .mixedOrders = true) {ops : Array Oper} {ord : List Nat} {id : Nat} {c0 c : Cx} {st st' : St} {a : Act} {Q : Exit → Act → World → Prop}
    (hstat : staticOk ops.toList ord = true) (hst : StOK c0 c st a) (hr : drawA P lend call ops.toList ord st = some st') (hQ : ∀ c' a', StOK c0 c' st' a' → Q .normal a' c'.w) : (Code.region id ops true).wp P Q a c.w := by
  have hlen : ops.toList.length = ops.size := by simp
  unfold staticOk at hstat
  simp only [Bool.and_eq_true] at hstat
  obtain ⟨⟨⟨⟨_, s2⟩, _⟩, s4⟩, s5⟩ := hstat
  obtain ⟨hnod, _, htop⟩ := before_spec ops.toList ord [] s2
  have hall : ∀ i, i < ops.size → i ∈ ord := fun i hi => List.elem_iff.1 (List.all_eq_true.1 s4 i (by simpa using hi))
  have hpair : ∀ i ∈ ord, ∀ j ∈ ord, i ≠ j → apartT ops.toList i j = true ∨ ordered (ancs ops.toList ord []) i j = true := fun i hi j hj hne => by
    have := List.all_eq_true.1 (List.all_eq_true.1 s5 i hi) j hj
    simp only [Bool.or_eq_true] at this
    rcases this with (h | h) | h
    · exact absurd (Nat.eq_of_beq_eq_true h) hne
    · exact .inl h
    · exact .inr h
  unfold drawA at hr
  split at hr
  · cases hr
  rename_i tm' h' rs hgo
  split at hr
  case isFalse => cases hr
  rename_i hpk
  obtain rfl := Option.some.inj hr
  obtain ⟨res, e1, e2, _, hone⟩ := draw_res ord _ _ _ hnod hgo
  have hA : ∀ X : Nat → Prop, Closed ops.toList X → ∀ i j, j ∈ ancOf (ancs ops.toList ord []) i → X i → X j := fun X hX => ancs_closed ops.toList hX ord [] (fun i j hj => by simp [ancOf] at hj)
  refine wp_region_any hmix ?_
  have e0 := eff_drawn hst.eff.relh { c.w with drawn := c.w.drawn + 1 } rfl rfl rfl rfl
  have claim : ∀ (fuel : Nat) (X : Nat → Bool) (listed : Array Bool) (a : Act) (c : Cx), listed.size = ops.size → (∀ j, j < ops.size → listed[j]? = some (X j)) → (∀ j, X j = true → j < ops.size) → Closed ops.toList (fun j => X j = true) →
      RelTm c (tmF ops.toList res (ord.filter X) st.tm) a.tmps → c.h = hF res (ord.filter X) st.h → Eff' c0 c → a.defers = [] → Names c st.next ops.size (fun j => X j = true) → (ord.filter fun j => !X j).length ≤ fuel → wpAny P .any ops Q fuel listed a c.w := by
    intro fuel
    have fin : ∀ (X : Nat → Bool) (a : Act) (c : Cx), (∀ x ∈ ord, X x = true) → RelTm c (tmF ops.toList res (ord.filter X) st.tm) a.tmps → c.h = hF res (ord.filter X) st.h → Eff' c0 c → a.defers = [] → Names c st.next ops.size (fun j => X j = true) → Q .normal a c.w := by
      intro X a c hX ht hh he hd hu
      have hf : ord.filter X = ord := List.filter_eq_self.2 hX
      rw [hf] at ht hh
      refine hQ c a ⟨by rw [e2]; exact hh, fun id hid => ?_, by rw [e1]; exact ht, he, hst.io, hd⟩
      show id < st.next + ops.toList.length * 64
      rw [hlen]
      rcases hu id hid with h | ⟨i, k, _, hi, hk, rfl⟩
      · omega
      · exact fresh_lt hi hk
    have isready : ∀ (X : Nat → Bool) (listed : Array Bool), listed.size = ops.size → (∀ j, j < ops.size → listed[j]? = some (X j)) → Region.ready .any ops listed = [] → ∀ x ∈ ord, X x = true := by
      intro X listed hs hX hrd
      rcases first_not X ord with h | ⟨pre, i, post, hl, h2, h3⟩
      · exact h
      · exfalso
        have hi : i ∈ ord := by rw [hl]; simp
        obtain ⟨o, ho, _⟩ := hone pre i post hl
        have ho' : ops[i]? = some o := by simpa using ho
        have hin : i < ops.size := (Array.getElem?_eq_some_iff.1 ho').1
        have : i ∈ Region.ready .any ops listed := by
          refine mem_ready.2 ⟨by rw [Array.getD_eq_getD_getElem?, hX i hin, h3]; rfl, o, ho', fun e he hb => ?_⟩
          have hee : e.on ∈ edgesOf ops.toList i := by
            unfold edgesOf
            rw [ho]
            exact List.mem_filterMap.2 ⟨e, by simpa using he, by simp [hb]⟩
          have hep := (htop pre i post hl e.on hee).resolve_left (by simp)
          have hXe := h2 _ hep
          have heo : e.on ∈ ord := by rw [hl]; simp [hep]
          obtain ⟨p1, q1, hl1⟩ := List.append_of_mem heo
          obtain ⟨o1, ho1, _⟩ := hone p1 e.on q1 hl1
          have ho1' : ops[e.on]? = some o1 := by simpa using ho1
          have hlt : e.on < ops.size := (Array.getElem?_eq_some_iff.1 ho1').1
          rw [Array.getD_eq_getD_getElem?, hX _ hlt, hXe]; rfl
        rw [hrd] at this
        cases this
    induction fuel with
    | zero =>
      intro X listed a c hs hX hlt hcl ht hh he hd hu hf
      have hX1 : ∀ x ∈ ord, X x = true := fun x hx => by
        have h0 : (ord.filter fun j => !X j) = [] := List.eq_nil_of_length_eq_zero (by omega)
        have := List.filter_eq_nil_iff.1 h0 x hx
        simpa using this
      refine ⟨?_, fin X a c hX1 ht hh he hd hu⟩
      rw [List.eq_nil_iff_forall_not_mem]
      intro i hi
      obtain ⟨h1, o, ho, _⟩ := mem_ready.1 hi
      have hin : i < ops.size := (Array.getElem?_eq_some_iff.1 ho).1
      rw [Array.getD_eq_getD_getElem?, hX i hin, hX1 i (hall i hin)] at h1
      cases h1
    | succ fuel ih =>
      intro X listed a c hs hX hlt hcl ht hh he hd hu hf
      refine ⟨fun hrd => fin X a c (isready X listed hs hX hrd) ht hh he hd hu, fun i hi => ?_⟩
      obtain ⟨h1, o, ho, hed⟩ := mem_ready.1 hi
      have hin : i < ops.size := (Array.getElem?_eq_some_iff.1 ho).1
      have hXi : X i = false := by
        rw [Array.getD_eq_getD_getElem?, hX i hin] at h1
        simpa using h1
      have hio := hall i hin
      obtain ⟨pre, post, hl⟩ := List.append_of_mem hio
      obtain ⟨o', ho', hcase⟩ := hone pre i post hl
      have hoo : ops.toList[i]? = some o := by simpa using ho
      rw [hoo] at ho'
      obtain rfl := Option.some.inj ho'
      have hn' := List.nodup_append.1 (hl ▸ hnod)
      have hipre : i ∉ pre := fun hm => hn'.2.2 i hm i (by simp) rfl
      have hedge : ∀ e ∈ edgesOf ops.toList i, X e = true := fun e he => by
        unfold edgesOf at he
        rw [hoo] at he
        obtain ⟨ed, hm, hb⟩ := List.mem_filterMap.1 he
        split at hb
        · rename_i hbind
          obtain rfl := Option.some.inj hb
          have := hed ed (by simpa using hm) hbind
          rcases Nat.lt_or_ge ed.on ops.size with h | h
          · rw [Array.getD_eq_getD_getElem?, hX _ h] at this
            simpa using this
          · rw [Array.getD_eq_getD_getElem?, Array.getElem?_eq_none (by omega)] at this
            cases this
        · cases hb
      have clX' : Closed ops.toList (fun j => (X j || decide (j = i)) = true) := fun j hj e hee => by
        simp only [Bool.or_eq_true, decide_eq_true_eq] at hj ⊢
        rcases hj with hj | rfl
        · exact .inl (hcl j hj e hee)
        · exact .inl (hedge e hee)
      have clP : Closed ops.toList (fun j => j ∈ pre) := fun j hj e hee => by
        obtain ⟨p1, q1, rfl⟩ := List.append_of_mem hj
        have := (htop p1 j (q1 ++ i :: post) (by rw [hl]; simp) e hee).resolve_left (by simp)
        simp [this]
      have clP' : Closed ops.toList (fun j => j ∈ pre ∨ j = i) := fun j hj e hee => by
        rcases hj with hj | rfl
        · exact .inl (clP j hj e hee)
        · exact .inl ((htop pre j post hl e hee).resolve_left (by simp))
      have hord : ∀ j, j ≠ i → ordered (ancs ops.toList ord []) j i = true → (X j = true ↔ j ∈ pre) := fun j hji ho => by
        simp only [ordered, Bool.or_eq_true, List.elem_iff] at ho
        rcases ho with ho | ho
        · constructor
          · intro hx
            have := hA _ hcl j i ho hx
            rw [hXi] at this
            cases this
          · intro hx
            exact absurd (hA _ clP j i ho hx) hipre
        · constructor
          · intro _
            exact (hA _ clP' i j ho (.inr rfl)).resolve_right hji
          · intro _
            have := hA _ clX' i j ho (by simp)
            simpa [hji] using this
      have htm : ∀ t ∈ o.looksAt ops, (tmF ops.toList res (ord.filter X) st.tm)[t]? = (tmF ops.toList res pre st.tm)[t]? := fun t hlk => by
        refine tmF_agree st.tm (filter_agree hl hnod fun j hj hp => ?_)
        by_cases hji : j = i
        · subst hji
          exact ⟨fun hx => (by rw [hXi] at hx; cases hx), fun hx => absurd hx hipre⟩
        · rcases hpair j hj i hio hji with hap | hod
          · exfalso
            have hp : dstOf ops.toList j = some t := of_decide_eq_true hp
            unfold dstOf at hp
            unfold apartT at hap
            rw [hoo] at hap
            cases hjo : ops.toList[j]? with
            | none => rw [hjo] at hap; cases hap
            | some oj =>
              rw [hjo] at hap hp
              exact (Oper.apart_spec (ops := ops) hap).1 t hp hlk
          · exact hord j hji hod
      have hpt : ∀ j ∈ post, X j = true → ordered (ancs ops.toList ord []) j i = true → False := fun j hj hx hod => by
        have hji : j ≠ i := by rintro rfl; rw [hXi] at hx; cases hx
        exact hn'.2.2 j ((hord j hji hod).1 hx) j (by simp [hj]) rfl
      have mv1 : ∀ w, tmF ops.toList res (ord.filter fun j => X j || decide (j = i)) st.tm = putA (tmF ops.toList res (ord.filter X) st.tm) o.dst w ∨ w ≠ (res i).w := fun w => by
        by_cases hw : w = (res i).w
        · left
          subst hw
          have : putA (tmF ops.toList res (ord.filter X) st.tm) o.dst (res i).w = tmF ops.toList res (ord.filter X ++ [i]) st.tm := by
            rw [tmF_append]
            simp only [tmF, dstOf, hoo, Option.bind_some]
          rw [this]
          apply List.ext_getElem?
          intro t
          refine tmF_agree st.tm (move_last hl hnod hXi fun hpi j hj hx hpj => ?_)
          have hji : j ≠ i := by rintro rfl; rw [hXi] at hx; cases hx
          rcases hpair j (by rw [hl]; simp [hj]) i hio hji with hap | hod
          · have hpi : dstOf ops.toList i = some t := of_decide_eq_true hpi
            have hpj : dstOf ops.toList j = some t := of_decide_eq_true hpj
            unfold dstOf at hpi hpj
            rw [hoo] at hpi
            unfold apartT at hap
            rw [hoo] at hap
            cases hjo : ops.toList[j]? with
            | none => rw [hjo] at hap; cases hap
            | some oj =>
              rw [hjo] at hap hpj
              exact (Oper.apart_spec (ops := ops) hap).2.1 t hpj hpi
          · exact hpt j hj hx hod
        · exact .inr hw
      have mv2 : (∀ (id : Nat) j, j ∈ post → X j = true → touches res id i = true → touches res id j = true → ordered (ancs ops.toList ord []) j i = true) → hF res (ord.filter fun j => X j || decide (j = i)) st.h = upd (hF res (ord.filter X) st.h) (res i).up := fun hq => by
        have : upd (hF res (ord.filter X) st.h) (res i).up = hF res (ord.filter X ++ [i]) st.h := by rw [hF_append]; rfl
        rw [this]
        funext id
        exact hF_agree st.h (move_last hl hnod hXi fun hpi j hj hx hpj => hpt j hj hx (hq id j hj hx hpi hpj))
      have next : ∀ (a' : Act) (c' : Cx), RelTm c' (tmF ops.toList res (ord.filter fun j => X j || decide (j = i)) st.tm) a'.tmps → c'.h = hF res (ord.filter fun j => X j || decide (j = i)) st.h → Eff' c0 c' → a'.defers = [] → Names c' st.next ops.size (fun j => (X j || decide (j = i)) = true) →
          wpAny P .any ops Q fuel (listed.setIfInBounds i true) a' c'.w := fun a' c' g1 g2 g3 g4 g5 => by
        refine ih (fun j => X j || decide (j = i)) (listed.setIfInBounds i true) a' c' (by simpa using hs) (fun j hj => ?_) (fun j hj => ?_) clX' g1 g2 g3 g4 g5 ?_
        · rw [Array.getElem?_setIfInBounds]
          split
          · rename_i e
            subst e
            rw [if_pos (by omega)]
            simp
          · rename_i e
            rw [hX j hj]
            simp [Ne.symm e]
        · simp only [Bool.or_eq_true, decide_eq_true_eq] at hj
          rcases hj with hj | rfl
          · exact hlt j hj
          · exact hin
        · have e : (ord.filter fun j => !(X j || decide (j = i))) = (ord.filter fun j => !X j).filter fun j => decide (j ≠ i) := by
            rw [List.filter_filter]
            apply List.filter_congr
            intro j _
            cases X j <;> simp
          have hlt' : ((ord.filter fun j => !X j).filter fun j => decide (j ≠ i)).length < (ord.filter fun j => !X j).length := by
            rw [List.length_filter_lt_length_iff_exists]
            exact ⟨i, List.mem_filter.2 ⟨hio, by simp [hXi]⟩, by simp⟩
          rw [e]
          omega
      have wider : ∀ c' : Cx, Names c' st.next ops.size (fun j => X j = true) → Names c' st.next ops.size (fun j => (X j || decide (j = i)) = true) := fun c' hu' id hid => (hu' id hid).imp (fun h => h) fun ⟨i', k, g1, g2, g3, g4⟩ => ⟨i', k, by simp [g1], g2, g3, g4⟩
      unfold wpOp
      rw [ho]
      simp only
      rcases hcase with ⟨hw, hri⟩ | ⟨hw, hop, hco, hrec⟩
      · -- not wanted
        have hw' : wantedA ops.toList (tmF ops.toList res (ord.filter X) st.tm) o = some false := by rw [wantedA_congr htm]; exact hw
        rw [wanted_ok ht hw']
        simp only [Bool.false_eq_true, if_false]
        refine next _ c ?_ ?_ he (by rw [put_defers]; exact hd) (wider c hu)
        · rw [(mv1 (.tup [])).resolve_right (by rw [hri]; simp)]
          exact ht.put (junk_undef c) o.dst
        · rw [mv2 (fun id j _ _ ht' => by rw [touches, hri] at ht'; simp at ht'), hri]
          exact hh
      · -- wanted
        have hw' : wantedA ops.toList (tmF ops.toList res (ord.filter X) st.tm) o = some true := by rw [wantedA_congr htm]; exact hw
        rw [wanted_ok ht hw']
        simp only [if_true]
        left
        have hpk' : ∀ j ∈ ord, j ≠ i → ∀ id, touches res id j = true → (id ∈ (res i).foot ∨ id ∈ (res i).up.map (·.1)) → ordered (ancs ops.toList ord []) j i = true := fun j hj hji id htj hid => by
          simp only [touches, decide_eq_true_eq] at htj
          obtain ⟨p1, q1, hl1⟩ := List.append_of_mem hj
          obtain ⟨oj, hoj, hcj⟩ := hone p1 j q1 hl1
          rcases hcj with ⟨_, hrj⟩ | ⟨_, _, _, hrecj⟩
          · rw [hrj] at htj; simp at htj
          · have h1 := List.all_eq_true.1 hpk _ hrecj
            simp only [Bool.or_eq_true] at h1
            rcases h1 with h1 | h1
            · rw [List.isEmpty_iff] at h1
              rw [h1] at htj
              cases htj
            · have h2 := List.all_eq_true.1 h1 _ hrec
              simp only [Bool.or_eq_true, Bool.and_eq_true] at h2
              rcases h2 with (h2 | h2) | h2
              · exact absurd (Nat.eq_of_beq_eq_true h2) hji
              · exfalso
                have nod : ∀ (l m : List Nat), disj l m = true → id ∈ l → id ∈ m → False := fun l m hd hl hm => by
                  have := List.all_eq_true.1 hd id hl
                  rw [List.elem_eq_true_of_mem hm] at this
                  cases this
                rcases hid with hid | hid
                · exact nod _ _ h2.1 htj hid
                · exact nod _ _ h2.2 htj hid
              · exact h2
        have hsub : Sub (cut (res i).foot (hF res pre st.h)) c.h := fun id b hb => by
          unfold cut at hb
          split at hb
          · rename_i hel
            rw [hh, ← hb]
            refine hF_agree st.h (filter_agree hl hnod fun j hj hp => ?_)
            by_cases hji : j = i
            · subst hji
              exact ⟨fun hx => (by rw [hXi] at hx; cases hx), fun hx => absurd hx hipre⟩
            · exact hord j hji (hpk' j hj hji id hp (.inl (List.elem_iff.1 hel)))
          · cases hb
        have hop' := opA_sub hsub hco hop
        rw [← evL_congr htm] at hop'
        rw [hlen] at hop'
        have hfresh : ∀ k, k < 64 → ¬ c.U (st.next + i + ops.size * k) := fun k hk hU => by
          rcases hu _ hU with h | ⟨i', k', g1, g2, g3, g4⟩
          · omega
          · have := fresh_apart hin g2 g4
            subst this
            rw [hXi] at g1
            cases g1
        refine opA_sound (fr := fun k => st.next + i + ops.size * k) hcall hname he.relh hfresh (fresh_inj hin) (fun x => rel_evL ht x) hop' _ _ fun v c' e eh eu ev => ?_
        refine next _ c' ?_ ?_ (he.trans e) (by rw [put_defers]; exact hd) fun id hid => ?_
        · rw [(mv1 (res i).w).resolve_right (fun h => h rfl)]
          exact (ht.mono e.step).put ev o.dst
        · rw [mv2 (fun id j hj hx hti htj => hpk' j (by rw [hl]; simp [hj]) (by rintro rfl; rw [hXi] at hx; cases hx) id htj (.inr (by simpa [touches] using hti))), eh, hh]
        · rcases eu id hid with h | ⟨k, hk, rfl⟩
          · exact wider c hu id h
          · exact .inr ⟨i, k, by simp, hin, hk, rfl⟩
  refine claim ops.size (fun _ => false) (Array.replicate ops.size false) a { c with w := { c.w with drawn := c.w.drawn + 1 } } (by simp) (fun j hj => by simp [hj]) (fun j hj => by cases hj) (fun i hi => by cases hi) ?_ ?_ (hst.eff.trans e0) hst.defers (fun id hid => .inl (hst.u id hid)) ?_
  · have hnil : ord.filter (fun _ => false) = [] := by simp
    rw [hnil]
    exact hst.tm.mono e0.step
  · have hnil : ord.filter (fun _ => false) = [] := by simp
    rw [hnil]
    exact hst.h
  · have hall' : (ord.filter fun _ => !false) = ord := by simp
    rw [hall']
    have : ord.length = ops.size := by
      have := Nat.eq_of_beq_eq_true (by assumption : Nat.beq ord.length ops.toList.length = true)
      rw [this, hlen]
    omega
end
end Go.Vsi
namespace Go.Vsi
theorem upd_two (h : Hp) (i j : Nat) (b b' : Option Blk) (x : Nat) : upd h [(i, b), (j, b')] x = if x = j then b' else if x = i then b else h x := by
  rw [upd_cons, upd_one, upd_one]
theorem place_ne {k i j i' j' : Nat} (hj : j < k) (hj' : j' < k) (h : i * k + j = i' * k + j') : i = i' ∧ j = j' := by
  have e1 : (i * k + j) / k = i := by rw [Nat.mul_comm, Nat.mul_add_div (by omega), Nat.div_eq_of_lt hj, Nat.add_zero]
  have e2 : (i' * k + j') / k = i' := by rw [Nat.mul_comm, Nat.mul_add_div (by omega), Nat.div_eq_of_lt hj', Nat.add_zero]
  have e : i = i' := by rw [← e1, h, e2]
  subst e
  exact ⟨rfl, by omega⟩
theorem eff_up {c : Cx} (hc : RelH c) {id n row j k k' : Nat} {rows : List (List O)} {outs : List (Nat × Nat × Nat)} {r : List O} {rs : List (List D)} (hn : ¬ c.U n) (hid : c.h id = some (.nar k rows outs)) (hrow : rows[row]? = some r) (hout : outOf row j outs = none) (hj : r[j]? = some (.own k' rs)) :
    ∃ c', Eff' c c' ∧ c'.w = c.w ∧ c'.h = upd c.h [(id, some (.nar k rows ((row, j, n) :: outs))), (n, some (.arr k' rs))] ∧ ∀ x, c'.U x → c.U x ∨ x = n := by
  obtain ⟨cs, ty, fz, h1, h2, h3, h4, h5⟩ := hc.blk id _ hid
  obtain ⟨hrk, hcell⟩ := h5 row r hrow
  obtain ⟨v, hv, hro⟩ := hcell j _ hj
  rw [hout] at hro
  obtain ⟨p, hp1, hp2, hp3⟩ := hro
  have hjk : j < k := by rw [← hrk]; exact (List.getElem?_eq_some_iff.1 hj).1
  have hidU := hc.used id _ hid
  have hne : id ≠ n := fun e => hn (e ▸ hidU)
  obtain ⟨pn1, pn2⟩ := hc.nest _ _ id _ hp2 hid rfl
  let c' : Cx := ⟨c.w, c.N, ⟨fun x => if x = n then p else c.E x, fun x => if x = p.blk then none else forgot c.E p.blk x⟩, fun x => c.U x ∨ x = n, upd c.h [(id, some (.nar k rows ((row, j, n) :: outs))), (n, some (.arr k' rs))]⟩
  have hh : ∀ x, c'.h x = if x = n then some (.arr k' rs) else if x = id then some (.nar k rows ((row, j, n) :: outs)) else c.h x := fun x => upd_two _ _ _ _ _ x
  have hEn : c'.E n = p := by show (if n = n then p else c.E n) = p; rw [if_pos rfl]
  have hE : ∀ x, x ≠ n → c'.E x = c.E x := fun x hx => by show (if x = n then p else c.E x) = _; rw [if_neg hx]
  have hOwn : ∀ x q, c'.E.own x = some q → c.E.own x = some q ∧ x ≠ p.blk ∧ q.1 ≠ p.blk := fun x q hx => by
    replace hx : (if x = p.blk then none else forgot c.E p.blk x) = some q := hx
    split at hx
    · cases hx
    · rename_i e
      obtain ⟨g1, g2⟩ := forgot_some hx
      exact ⟨g1, e, g2⟩
  have hOwn2 : ∀ x q, c.E.own x = some q → x ≠ p.blk → q.1 ≠ p.blk → c'.E.own x = some q := fun x q hx h1 h2 => by
    show (if x = p.blk then none else forgot c.E p.blk x) = some q
    rw [if_neg h1]
    exact forgot_of hx h2
  have old : ∀ x b, c'.h x = some b → x ≠ n → ∃ b0, c.h x = some b0 ∧ Compat b0 b ∧ c'.E x = c.E x := fun x b hb hx => by
    rw [hh, if_neg hx] at hb
    split at hb
    · rename_i e
      subst e
      obtain rfl := Option.some.inj hb
      exact ⟨_, hid, by simp [Compat, Blk.arrOf], hE _ hx⟩
    · exact ⟨b, hb, Compat.refl _, hE _ hx⟩
  have st : Step c c' := by
    refine ⟨fun x hx => .inl hx, fun x hx => hE x fun e => hn (e ▸ hx), fun x b hx hb => ?_, fun g hg => ⟨hg, rfl⟩⟩
    obtain ⟨b0, g1, g2, _⟩ := old x b hb fun e => hn (e ▸ hx)
    exact ⟨b0, g1, g2⟩
  have plt := (hc.olow _ _ hp2).1
  refine ⟨c', ⟨st, ⟨?_, ?_, ?_, ?_, hc.low, ?_, fun g a ho => hc.olow g a (hOwn g a ho).1⟩, rfl, rfl, rfl, Nat.le_refl _, fun _ _ _ => rfl, fun _ h => .inl h, ?_, ?_, fun g a ho => .inl (hOwn g a ho).1⟩, rfl, rfl, fun x hx => hx⟩
  · intro x b hb
    by_cases hx : x = n
    · subst hx
      rw [hh, if_pos rfl] at hb
      obtain rfl := Option.some.inj hb
      rw [hEn]
      exact hp3.mono st rfl
    · rw [hE x hx]
      rw [hh, if_neg hx] at hb
      split at hb
      · rename_i e
        subst e
        obtain rfl := Option.some.inj hb
        refine ⟨cs, ty, fz, h1, h2, h3, h4, fun i ri hi => ⟨(h5 i ri hi).1, fun jj o ho => ?_⟩⟩
        obtain ⟨v', hv', hr'⟩ := (h5 i ri hi).2 jj o ho
        have hjjk : jj < k := by rw [← (h5 i ri hi).1]; exact (List.getElem?_eq_some_iff.1 ho).1
        refine ⟨v', hv', ?_⟩
        by_cases hc1 : row = i ∧ j = jj
        · obtain ⟨rfl, rfl⟩ := hc1
          rw [hv] at hv'
          obtain rfl := Option.some.inj hv'
          have e1 : outOf row j ((row, j, n) :: outs) = some n := by simp [outOf]
          rw [e1]
          obtain ⟨a0, rfl, ha0⟩ := hp1
          refine ⟨rfl, .inr rfl, fun b hb => ?_⟩
          rw [hh, if_pos rfl] at hb
          obtain rfl := Option.some.inj hb
          obtain ⟨_, _, _, _, _, q5, _, _⟩ := hp3
          exact ⟨k', rs.length, rfl, by rw [hEn]; exact q5, a0, by rw [hEn], by rw [hEn]; exact ha0⟩
        · have e1 : outOf i jj ((row, j, n) :: outs) = outOf i jj outs := by simp only [outOf, beq2_false hc1]
          rw [e1]
          cases hoo : outOf i jj outs with
          | some id' =>
            rw [hoo] at hr'
            obtain ⟨q1, q2, q3⟩ := hr'
            refine ⟨q1, .inl q2, fun b hb => ?_⟩
            have hn' : id' ≠ n := fun e => hn (e ▸ q2)
            obtain ⟨b0, g1, g2, g3⟩ := old id' b hb hn'
            obtain ⟨k0, n0, y1, y2, y3⟩ := q3 b0 g1
            exact ⟨k0, n0, g2.arrOf ▸ y1, by rw [g3]; exact y2, by rw [g3]; exact y3⟩
          | none =>
            rw [hoo] at hr'
            cases o with
            | d x => exact RdD.mono st.n hr'
            | own k2 rs2 =>
              obtain ⟨p2, z1, z2, z3⟩ := hr'
              refine ⟨p2, z1, hOwn2 _ _ z2 (fun e => ?_) (fun e => ?_), z3.mono st rfl⟩
              · rw [e, hp2] at z2
                have := (Prod.mk.inj (Option.some.inj z2)).2
                exact hc1 (place_ne hjk hjjk (by omega))
              · exact pn2 x _ hid e
      · refine (hc.blk x b hb).mono st rfl fun y o hy => ⟨hOwn2 _ _ hy (fun e => ?_) (pn2 x b hb), rfl⟩
        rename_i e1
        rw [e, hp2] at hy
        exact hc.inj x id b _ hb hid e1 (Prod.mk.inj (Option.some.inj hy)).1.symm
  · intro x b hb
    by_cases hx : x = n
    · exact .inr hx
    · obtain ⟨b0, g1, _⟩ := old x b hb hx
      exact .inl (hc.used x b0 g1)
  · intro x y b b' hb hb' hxy
    by_cases hx : x = n
    · subst hx
      obtain ⟨b0, g1, _, g3⟩ := old y b' hb' (fun e => hxy e.symm)
      rw [hEn, g3]
      exact (pn2 y b0 g1).symm
    · obtain ⟨b0, g1, _, g3⟩ := old x b hb hx
      by_cases hy : y = n
      · subst hy
        rw [hEn, g3]
        exact pn2 x b0 g1
      · obtain ⟨b1, g4, _, g6⟩ := old y b' hb' hy
        rw [g3, g6]
        exact hc.inj x y b0 b1 g1 g4 hxy
  · intro x b hb hN
    by_cases hx : x = n
    · subst hx
      rw [hEn] at hN
      exact pn1 hN
    · obtain ⟨b0, g1, _, g3⟩ := old x b hb hx
      rw [g3] at hN
      exact hc.apart x b0 g1 hN
  · intro g a x b ho hb ha
    obtain ⟨o1, o2, o3⟩ := hOwn g a ho
    by_cases hx : x = n
    · subst hx
      rw [hEn] at ha
      exact absurd ha.symm o3
    · obtain ⟨b0, g1, _, g3⟩ := old x b hb hx
      rw [g3] at ha
      obtain ⟨n1, n2⟩ := hc.nest g a x b0 o1 g1 ha
      refine ⟨n1, fun y b' hb' => ?_⟩
      by_cases hy : y = n
      · subst hy
        rw [hEn]
        exact o2.symm
      · obtain ⟨b1, g4, _, g6⟩ := old y b' hb' hy
        rw [g6]
        exact n2 y b1 g4
  · rintro g (⟨x, b, hb, hg⟩ | ⟨a, x, b, ho, hb, hg⟩)
    · by_cases hx : x = n
      · subst hx
        rw [hEn] at hg
        exact .inl (.inr ⟨_, id, _, hg ▸ hp2, hid, rfl⟩)
      · obtain ⟨b0, g1, _, g3⟩ := old x b hb hx
        rw [g3] at hg
        exact .inl (.inl ⟨x, b0, g1, hg⟩)
    · obtain ⟨o1, o2, o3⟩ := hOwn g a ho
      by_cases hx : x = n
      · subst hx
        rw [hEn] at hg
        exact absurd hg.symm o3
      · obtain ⟨b0, g1, _, g3⟩ := old x b hb hx
        rw [g3] at hg
        exact .inl (.inr ⟨a, x, b0, o1, g1, hg⟩)
  · intro g hg hno ha
    have hpo : own c p.blk := .inr ⟨_, id, _, hp2, hid, rfl⟩
    have hgp : g ≠ p.blk := fun e => hno (e ▸ hpo)
    cases hq : c.E.own g with
    | none =>
      show (if g = p.blk then none else forgot c.E p.blk g) = none
      rw [if_neg hgp]
      unfold forgot
      rw [hq]
    | some q =>
      exact hOwn2 g q hq hgp fun e => (ha q hq).1 (e ▸ hpo)
theorem eff_down {c : Cx} (hc : RelH c) {id n row j k k' : Nat} {rows : List (List O)} {outs : List (Nat × Nat × Nat)} {rs : List (List D)} (hid : c.h id = some (.nar k rows outs)) (hout : outOf row j outs = some n) (hn : c.h n = some (.arr k' rs)) :
    ∃ c', Eff' c c' ∧ c'.w = c.w ∧ c'.h = upd c.h [(n, none), (id, some (.nar k (setO rows row j (.own k' rs)) (dropOut row j outs)))] ∧ ∀ x, c'.U x → c.U x := by
  obtain ⟨cs, ty, fz, h1, h2, h3, h4, h5⟩ := hc.blk id _ hid
  have hne : n ≠ id := fun e => by rw [e, hid] at hn; cases hn
  have e1 := eff_give hc n _ hn id _ hid hne ((c.E id).off + row * k + j)
  obtain ⟨c1, hc1⟩ : ∃ c1 : Cx, c1 = { c with h := upd c.h [(n, none)], E := ⟨c.E.loc, fun x => if x = (c.E n).blk then some ((c.E id).blk, (c.E id).off + row * k + j) else c.E.own x⟩ } := ⟨_, rfl⟩
  rw [← hc1] at e1
  have f1 : c1.w = c.w := by rw [hc1]
  have f2 : c1.h = upd c.h [(n, none)] := by rw [hc1]
  have f3 : ∀ x, c1.E x = c.E x := fun x => by rw [hc1]
  have f4 : ∀ x, c1.E.own x = if x = (c.E n).blk then some ((c.E id).blk, (c.E id).off + row * k + j) else c.E.own x := fun x => by rw [hc1]
  have f5 : c1.U = c.U := by rw [hc1]
  have hid1 : c1.h id = some (.nar k rows outs) := by rw [f2, upd_one, if_neg hne.symm]; exact hid
  obtain ⟨c2, e2, g1, g2, g3, g4, g5, g6⟩ := eff_tell e1.relh id _ (.nar k (setO rows row j (.own k' rs)) (dropOut row j outs)) hid1 (by simp [Compat, Blk.arrOf, setO_len]) (fun c2 w2 n2 o2 st2 => by
    rw [f3]
    refine ⟨cs, ty, fz, by rw [w2, f1]; exact h1, h2, by rw [setO_len]; exact h3, h4, fun i r' hi => ?_⟩
    obtain ⟨r, q1, q2, q3⟩ := setO_get hi
    obtain ⟨m1, m2⟩ := h5 i r q1
    refine ⟨by omega, fun jj o ho => ?_⟩
    obtain ⟨o0, q4, q5⟩ := q3 jj o ho
    obtain ⟨v, hv, hr⟩ := m2 jj o0 q4
    refine ⟨v, hv, ?_⟩
    rw [outOf_drop]
    by_cases hcc : i = row ∧ jj = j
    · obtain ⟨rfl, rfl⟩ := hcc
      rw [if_pos ⟨rfl, rfl⟩]
      rw [if_pos ⟨rfl, rfl⟩] at q5
      subst q5
      rw [hout] at hr
      obtain ⟨z1, z2, z3⟩ := hr
      obtain ⟨k0, n0, y1, y2, a0, y3, y4⟩ := z3 _ hn
      simp only [Blk.arrOf, Option.some.injEq, Prod.mk.injEq] at y1
      obtain ⟨rfl, rfl⟩ := y1
      refine ⟨c.E n, ⟨a0, y3, y4⟩, ?_, ?_⟩
      · rw [o2, f4, if_pos rfl]
      · exact RelA.mono (e1.step.trans st2) (RelB.arr.1 (hc.blk n _ hn)) (by rw [w2, f1])
    · rw [if_neg hcc]
      rw [if_neg hcc] at q5
      subst q5
      refine (hr.mono e1.step fun x o hx => ⟨?_, by rw [f1]⟩).mono st2 fun x o hx => ⟨by rw [o2]; exact hx, by rw [w2]⟩
      rw [f4, if_neg]
      · exact hx
      · exact fun e => nest_ne hc hx hid hn e.symm)
  refine ⟨c2, e1.trans e2, by rw [g1, f1], ?_, fun x hx => ?_⟩
  · rw [g6, f2]; rfl
  · have := (g5 x).1 hx
    rw [f5] at this
    exact this
theorem RelO.one {c : Cx} {g a : Nat} {i : Option Nat} {o : O} {v : Value} (h : RelO c g a i o v) : v.oneCell' = true := by
  cases i with
  | some id => exact h.1
  | none =>
    cases o with
    | d x => exact RdD.one h
    | own k rows =>
      obtain ⟨p, ⟨a0, rfl, _⟩, _⟩ := h
      rfl
theorem eff_lose {c : Cx} (hc : RelH c) {id row j k : Nat} {rows : List (List O)} {outs : List (Nat × Nat × Nat)} (hid : c.h id = some (.nar k rows outs)) :
    ∃ c', Eff' c c' ∧ c'.w = c.w ∧ c'.h = upd c.h [(id, some (.nar k (setO rows row j (.d .any)) (dropOut row j outs)))] ∧ ∀ x, c'.U x → c.U x := by
  obtain ⟨cs, ty, fz, h1, h2, h3, h4, h5⟩ := hc.blk id _ hid
  obtain ⟨c2, e2, g1, g2, g3, g4, g5, g6⟩ := eff_tell hc id _ (.nar k (setO rows row j (.d .any)) (dropOut row j outs)) hid (by simp [Compat, Blk.arrOf, setO_len]) (fun c2 w2 n2 o2 st2 => by
    refine ⟨cs, ty, fz, by rw [w2]; exact h1, h2, by rw [setO_len]; exact h3, h4, fun i r' hi => ?_⟩
    obtain ⟨r, q1, q2, q3⟩ := setO_get hi
    obtain ⟨m1, m2⟩ := h5 i r q1
    refine ⟨by omega, fun jj o ho => ?_⟩
    obtain ⟨o0, q4, q5⟩ := q3 jj o ho
    obtain ⟨v, hv, hr⟩ := m2 jj o0 q4
    refine ⟨v, hv, ?_⟩
    rw [outOf_drop]
    by_cases hcc : i = row ∧ jj = j
    · obtain ⟨rfl, rfl⟩ := hcc
      rw [if_pos ⟨rfl, rfl⟩]
      rw [if_pos ⟨rfl, rfl⟩] at q5
      subst q5
      exact .any (RelO.one hr)
    · rw [if_neg hcc]
      rw [if_neg hcc] at q5
      subst q5
      exact hr.mono st2 fun x o hx => ⟨by rw [o2]; exact hx, by rw [w2]⟩)
  refine ⟨c2, e2, g1, ?_, fun x hx => (g5 x).1 hx⟩
  rw [g6]
theorem pre1_ok {c0 c : Cx} {st st' : St} {a : Act} (h : StOK c0 c st a) {p : Pre} (hp : pre1 p st = some st') : ∃ c', StOK c0 c' st' a ∧ c'.w = c.w := by
  cases p with
  | up t cc r j =>
    simp only [pre1] at hp
    split at hp
    case h_2 => cases hp
    rename_i id off i _ _
    split at hp
    case h_2 => cases hp
    rename_i k rows outs hid
    split at hp
    case h_2 => cases hp
    rename_i row hrow hout
    split at hp
    case h_3 => cases hp
    case h_2 =>
      obtain rfl := Option.some.inj hp
      exact ⟨c, h, rfl⟩
    rename_i k' rs hj
    obtain rfl := Option.some.inj hp
    rw [← h.h] at hid
    obtain ⟨c', e, f1, f2, f3⟩ := eff_up (n := st.next) h.eff.relh (fun hu => Nat.lt_irrefl _ (h.u _ hu)) hid hrow hout hj
    rw [h.h] at f2
    refine ⟨c', ⟨f2, fun x hx => ?_, h.tm.mono e.step, h.eff.trans e, h.io, h.defers⟩, f1⟩
    show x < st.next + 1
    rcases f3 x hx with h1 | h1
    · have := h.u x h1; omega
    · omega
  | down t cc r j =>
    simp only [pre1] at hp
    split at hp
    case h_2 => cases hp
    rename_i id off i _ _
    split at hp
    case h_2 => cases hp
    rename_i k rows outs hid
    split at hp
    case h_2 =>
      obtain rfl := Option.some.inj hp
      exact ⟨c, h, rfl⟩
    rename_i id' hout
    split at hp
    case h_2 => cases hp
    rename_i k' rs hn
    obtain rfl := Option.some.inj hp
    rw [← h.h] at hid hn
    obtain ⟨c', e, f1, f2, f3⟩ := eff_down h.eff.relh hid hout hn
    rw [h.h] at f2
    exact ⟨c', ⟨f2, fun x hx => h.u x (f3 x hx), h.tm.mono e.step, h.eff.trans e, h.io, h.defers⟩, f1⟩
  | lose t cc r j =>
    simp only [pre1] at hp
    split at hp
    case h_2 => cases hp
    rename_i id off i _ _
    split at hp
    case h_2 => cases hp
    rename_i k rows outs hid
    obtain rfl := Option.some.inj hp
    rw [← h.h] at hid
    obtain ⟨c', e, f1, f2, f3⟩ := eff_lose (row := off + i) (j := j) h.eff.relh hid
    rw [h.h] at f2
    exact ⟨c', ⟨f2, fun x hx => h.u x (f3 x hx), h.tm.mono e.step, h.eff.trans e, h.io, h.defers⟩, f1⟩
  | nest t cc =>
    simp only [pre1] at hp
    split at hp
    case h_2 => cases hp
    rename_i id off _
    split at hp
    case h_2 => cases hp
    rename_i k rows hid
    obtain rfl := Option.some.inj hp
    rw [← h.h] at hid
    obtain ⟨c', e, f1, f2, f3, f4, f5, f6⟩ := eff_tell h.eff.relh id _ (.nar k (rows.map (List.map O.d)) []) hid (by simp [Compat, Blk.arrOf]) (fun c' hw _ ho st => arr_nar ((h.eff.relh.blk id _ hid).mono st (by rw [hw]) fun x o hx => ⟨by rw [ho]; exact hx, by rw [hw]⟩))
    rw [h.h] at f6
    exact ⟨c', ⟨f6, fun x hx => h.u x ((f5 x).1 hx), h.tm.mono e.step, h.eff.trans e, h.io, h.defers⟩, f1⟩
theorem preA_ok {c0 : Cx} {a : Act} : ∀ (ps : List Pre) {c : Cx} {st st' : St}, StOK c0 c st a → preA ps st = some st' → ∃ c', StOK c0 c' st' a ∧ c'.w = c.w
  | [], c, st, st', h, hp => by
    simp only [preA, Option.some.injEq] at hp
    subst hp
    exact ⟨c, h, rfl⟩
  | p :: ps, c, st, st', h, hp => by
    simp only [preA] at hp
    split at hp
    · rename_i st1 h1
      obtain ⟨c1, g1, g2⟩ := pre1_ok h h1
      obtain ⟨c2, g3, g4⟩ := preA_ok ps g1 hp
      exact ⟨c2, g3, g4.trans g2⟩
    · cases hp
end Go.Vsi
