/-
More operations, and regions in the order of the text, over the ideal heap and in the machine. No condition.
-/
import Derived.Test.YtdikmnmnapimoaaGreatDoorEvA
import Derived.Laws.Append
import Derived.Calls

/-
What an operation comes to over the ideal heap, it comes to in the machine: append.
-/
namespace Go.Ideal
open Go

section
variable {L : Pg} (hL : LOk L) {μ : Map} {st : ISt} {w : World} (hW : WR μ st w)

theorem isSeq_some {d : TypeDesc} (h : isSeq d = true) : (∃ e, d = .slice e) ∨ d = .string := by
  cases d <;> first | (cases h; done) | simp

include hL in
theorem append_in {ts : Array TypeId} {ty sT xT elem : TypeId} {args' : Array Value} {xd : TypeDesc} {base : Option Addr} {sLen sCap n k : Nat} {x' : Value} (t0 : ts[0]? = some sT) (t1 : ts[1]? = some xT)
    (h0 : args'[0]? = some (.slice base sLen sCap)) (h1 : args'[1]? = some x') (hs : L.und sT = some (.slice elem)) (hx : L.und xT = some xd) (hq : isSeq xd = true) (hk : szOf L elem = some k)
    (hn : (Builtin.lenOf x').run L.P w = .ok n w) {l' : List Value} (hf : (Builtin.firstCells k n x').run L.P w = .ok l'.toArray w) (hle : sLen + n ≤ sCap) :
    (Builtin.append_ ts ty args').run L.P w = (do (match base with | some a => storeCells (a.add (sLen * k)) l' | none => pure ()); pure (.slice base (sLen + n) sCap) : Sem Value).run L.P w := by
  rcases isSeq_some hq with ⟨e, rfl⟩ | rfl
  · cases base <;> simp [Builtin.append_, t0, t1, h0, h1, hL.run_und hs, hL.run_und hx, hL.run_size hk, hn, hf, hle]
  · cases base <;> simp [Builtin.append_, t0, t1, h0, h1, hL.run_und hs, hL.run_und hx, hL.run_size hk, hn, hf, hle]

theorem okGrow_some {n : Nat} {i : TypeInfo} (h : okGrow n i = true) : (2 * n + 1024) * i.bytes ≤ 281474976710656 ∧ 0 < i.bytes ∧ 0 < i.size ∧ ∃ z, i.zero = some z ∧ (cellsL z).length = i.size := by
  unfold okGrow at h
  have : Nat.ble (Nat.mul (Nat.add (Nat.mul 2 n) 1024) i.bytes) 281474976710656 = true ∧ Nat.blt 0 i.bytes = true ∧ Nat.blt 0 i.size = true ∧ zeroFits i = true := by
    revert h
    cases Nat.ble (Nat.mul (Nat.add (Nat.mul 2 n) 1024) i.bytes) 281474976710656 <;> cases Nat.blt 0 i.bytes <;> cases Nat.blt 0 i.size <;> cases zeroFits i <;> simp
  obtain ⟨h1, h2, h3, h4⟩ := this
  refine ⟨Nat.le_of_ble_eq_true h1, blt_true.1 h2, blt_true.1 h3, ?_⟩
  unfold zeroFits at h4
  cases hz : i.zero with
  | none => rw [hz] at h4; cases h4
  | some z => rw [hz] at h4; exact ⟨z, rfl, Nat.eq_of_beq_eq_true h4⟩

include hL in
theorem append_grow {ts : Array TypeId} {ty sT xT elem : TypeId} {args' : Array Value} {xd : TypeDesc} {base : Option Addr} {sLen sCap n : Nat} {i : TypeInfo} {x' z : Value} (t0 : ts[0]? = some sT) (t1 : ts[1]? = some xT)
    (h0 : args'[0]? = some (.slice base sLen sCap)) (h1 : args'[1]? = some x') (hs : L.und sT = some (.slice elem)) (hx : L.und xT = some xd) (hq : isSeq xd = true) (hi : L.info elem = some i) (hz : i.zero = some z)
    (hn : (Builtin.lenOf x').run L.P w = .ok n w) {l' o' : List Value} (hf : (Builtin.firstCells i.size n x').run L.P w.drew = .ok l'.toArray w.drew) (hfo : (Builtin.firstCells i.size sLen (.slice base sLen sCap)).run L.P w.drew = .ok o'.toArray w.drew) (hle : sCap < sLen + n)
    (hg : okGrow (sLen + n) i = true) :
    (Builtin.append_ ts ty args').run L.P w = .ok (.slice (some ⟨w.heap.size, 0, none⟩) (sLen + n) (grownCap w (sLen + n) sCap elem))
        (w.drew.alloc (.cells (o'.toArray ++ l'.toArray ++ Builtin.zeroCells z.cells (grownCap w (sLen + n) sCap elem - (sLen + n))) elem)) := by
  obtain ⟨g1, g2, g3, _⟩ := okGrow_some hg
  have hb : (sLen + n) * i.bytes ≤ 140737488355328 := by
    have key : ∀ m b : Nat, 2 * (m * b) ≤ (2 * m + 1024) * b := by intro m b; rw [Nat.add_mul, Nat.mul_assoc]; omega
    have := key (sLen + n) i.bytes
    omega
  have h63 : sLen + n ≤ 140737488355328 := Nat.le_trans (Nat.le_mul_of_pos_right _ g2) hb
  have hfit := growslice_fits hle hb
  have hn' : ¬ (sLen + n ≤ sCap) := by omega
  have h63' : ¬ (9223372036854775807 < ((sLen : Int) + (n : Int))) := by omega
  have h48' : ¬ (281474976710656 < Builtin.nextslicecap (sLen + n) sCap * i.bytes) := by omega
  have hk : szOf L elem = some i.size := by unfold szOf; rw [hi]
  have hinfo := hL.ty _ _ hi
  rcases isSeq_some hq with ⟨e, rfl⟩ | rfl
  · simp [Builtin.append_, t0, t1, h0, h1, hL.run_und hs, hL.run_und hx, hL.run_size hk, hn, hn', h63', h48', hL.run_info hi, zeroValue, hz, Question.forced, hf, hfo, newRow, grownCap]
    congr 2
    apply Array.ext'
    simp [List.append_assoc]
  · simp [Builtin.append_, t0, t1, h0, h1, hL.run_und hs, hL.run_und hx, hL.run_size hk, hn, hn', h63', h48', hL.run_info hi, zeroValue, hz, Question.forced, hf, hfo, newRow, grownCap]
    congr 2
    apply Array.ext'
    simp [List.append_assoc]

theorem grownCap_ge (w : World) (need old : Nat) (e : TypeId) : need ≤ grownCap w need old e := by
  unfold grownCap
  exact Nat.le_add_right _ _

theorem slice_base {base base' : Option Addr} {n n' c c' : Nat} (h : VR μ (.slice base n c) (.slice base' n' c')) : n' = n := by
  cases h <;> rfl

theorem slice_inv {base : Option Addr} {n c : Nat} {s' : Value} (h : VR μ (.slice base n c) s') : ∃ base' c', s' = .slice base' n c' := by
  cases h <;> exact ⟨_, _, rfl⟩

/-- what has grown lies in a new block -/
theorem grown_ok {st0 : ISt} {size : Nat} {elem : TypeId} {cs cs' : List Value} {rest : Array Value} {need cap : Nat} (hW : WR μ st0 w) (hr : VsR μ cs cs') (hlen : cs.length = need * size) (hsz : 0 < size) (hge : need ≤ cap) (hrest : rest.size = (cap - need) * size) :
    ∃ μ', VR μ' (.slice (some ⟨st0.next, 0, none⟩) need (UNK + size)) (.slice (some ⟨w.heap.size, 0, none⟩) need cap) ∧
      WR μ' (st0.newRow elem cs false).2 (w.alloc (.cells (cs'.toArray ++ rest) elem)) ∧ Ext μ st0 w μ' (st0.newRow elem cs false).2 (w.alloc (.cells (cs'.toArray ++ rest) elem)) := by
  have hmul : need * size + (cap - need) * size = cap * size := by rw [← Nat.add_mul]; congr 1; omega
  have hl' := hr.length
  have hle := Map.le_put hW.fresh ⟨w.heap.size, 0, cap * size⟩
  have hsize : (cs'.toArray ++ rest).size = cap * size := by rw [Array.size_append, hrest]; simp; omega
  obtain ⟨q1, q2⟩ := hW.alloc (o := .row (listRow cs 0 .e) [] cs.length elem false) (x := .cells (cs'.toArray ++ rest) elem) ⟨w.heap.size, 0, cap * size⟩ rfl
    ⟨cs'.toArray ++ rest, 0, 0, alloc_heap_new, by rw [hsize, hlen]; simp; omega, (by
      intro i v hv
      have hg := rowGet_list hv
      obtain ⟨v', g1, g2⟩ := hr.get hg
      refine ⟨v', ?_, g2.mono hle⟩
      have hi : i < cs'.length := by
        rcases Nat.lt_or_ge i cs'.length with h | h
        · exact h
        · rw [List.getElem?_eq_none h] at g1; cases g1
      rw [Array.getElem?_append_left (by simpa using (by simpa using hi))]
      simpa using g1), fun j _ _ => by omega, fun h => (by cases h), fun _ => ⟨by rw [hlen]; simp; omega, Nat.le_of_eq hsize.symm⟩⟩
  refine ⟨_, .slice (l := ⟨w.heap.size, 0, cap * size⟩) (Map.put_same _ _ _) (.inr ⟨size, hsz, rfl, by simp, hge⟩), q1, q2⟩

end
end Go.Ideal

/-
What an operation comes to over the ideal heap, it comes to in the machine: append, joined.
-/
namespace Go.Ideal
open Go

section
variable {L : Pg} (hL : LOk L) {μ : Map} {st : ISt} {w : World} (hW : WR μ st w)

include hW in
theorem inplace_ok {P : Program} {b o k n c' m sLen : Nat} {l : Loc} {over : T Value} {df : List Value} {elem : TypeId} {ex : Bool} (e : μ b = some l) (hg : getO st.heap b = .row over df m elem ex)
    (hk : 0 < k) (hn : 0 < n) (hc : l.d + o + c' * k = l.e) (hle : sLen + n ≤ c') {old new new' : List Value} (ho : objCells (getO st.heap b) (sLen * k) o = some old ∨ (sLen = 0 ∧ old = [])) (hr : VsR μ new new') (hone : allOne new = true)
    (hnl : new.length = n * k) :
    ∃ w', (storeCells ⟨l.B, l.d + o + sLen * k, none⟩ new').run P w = .ok () w' ∧ ∃ μ', VR μ' (.slice (some ⟨st.next, 0, none⟩) (sLen + n) (UNK + k)) (.slice (some ⟨l.B, l.d + o, none⟩) (sLen + n) c') ∧
      WR μ' ((st.kill b).newRow elem (old ++ new) false).2 w' ∧ Ext μ st w μ' ((st.kill b).newRow elem (old ++ new) false).2 w' := by
  have hobj := hW.obj _ _ e
  have hnl' : new'.length = n * k := by rw [← hr.length, hnl]
  have hold : ∃ old', VsR μ old old' ∧ old'.length = sLen * k ∧ ∀ j, j < sLen * k → w.cell? ⟨l.B, l.d + o + j, none⟩ = old'[j]? := by
    rcases ho with ho | ⟨rfl, rfl⟩
    · exact hW.cells e ho
    · exact ⟨[], .nil, by simp, fun j hj => by omega⟩
  obtain ⟨old', o1, o2, o3⟩ := hold
  have hw : wr (getO st.heap b) = true := by rw [hg]; rfl
  rw [hg] at hobj
  obtain ⟨C, lo, hi, p1, p2, p3, p4, p5, p6⟩ := hobj
  have hmul : (sLen + n) * k ≤ c' * k := Nat.mul_le_mul_right _ hle
  have hadd : (sLen + n) * k = sLen * k + n * k := Nat.add_mul _ _ _
  have hnk : 0 < n * k := Nat.mul_pos hn hk
  have hex : ex = false := by
    cases ex with
    | false => rfl
    | true => obtain ⟨_, _, h3⟩ := p5 rfl; omega
  obtain ⟨p7, p8⟩ := p6 hex
  obtain ⟨w', C', s1, s2, s3, s4, s5, s6, s7, s8, s9⟩ := store_raw (P := P) new' (l.d + o + sLen * k) 0 w C p1 (by omega) (fun j h1 h2 => p4 j (by omega) (.inr (by omega))) (hr.allOne hone)
  refine ⟨w', s1, μ.put st.next ⟨l.B, l.d + o, l.e⟩, ?_, ?_, ?_⟩
  · exact .slice (l := ⟨l.B, l.d + o, l.e⟩) (Map.put_same _ _ _) (.inr ⟨k, hk, rfl, hc, hle⟩)
  · have hle' := Map.le_put hW.fresh ⟨l.B, l.d + o, l.e⟩
    have hget : ∀ c, getO ((st.kill b).newRow elem (old ++ new) false).2.heap c = if c = st.next then .row (listRow (old ++ new) 0 .e) [] (old ++ new).length elem false else if c = b then .dead else getO st.heap c := by
      intro c
      show getO ((st.kill b).alloc _).2.heap c = _
      rw [ISt.alloc_get]
      show (if c = st.next then _ else getO (st.with b .dead).heap c) = _
      rw [ISt.with_get]
    have hbn : b ≠ st.next := fun h => by have := hW.lt _ _ e; omega
    refine ⟨?_, ?_, ?_, ?_⟩
    · intro c m' ec
      show c < st.next + 1
      unfold Map.put at ec
      split at ec
      · omega
      · have := hW.lt c m' ec; omega
    · intro c m' ec
      rw [hget]
      unfold Map.put at ec
      split at ec
      · rename_i hcn
        cases ec
        rw [if_pos hcn]
        have hol := o1.length
        refine ⟨C', lo, hi, s2, by rw [s3]; simp only [List.length_append]; omega, ?_, ?_, fun h => (by cases h), fun _ => ⟨by simp only [List.length_append]; omega, by rw [s3]; exact p8⟩⟩
        · intro i v hv
          have hv := rowGet_list hv
          obtain ⟨v', g1, g2⟩ := (o1.append hr).get hv
          refine ⟨v', ?_, g2.mono hle'⟩
          show C'[l.d + o + i]? = some v'
          rw [s4]
          by_cases hi : i < sLen * k
          · rw [if_neg (by omega)]
            rw [List.getElem?_append_left (by omega)] at g1
            have := o3 i hi
            rw [g1, cell_of p1] at this
            exact this
          · rw [List.getElem?_append_right (by omega), o2] at g1
            have hlt : i - sLen * k < new'.length := by
              rcases Nat.lt_or_ge (i - sLen * k) new'.length with h | h
              · exact h
              · rw [List.getElem?_eq_none h] at g1; cases g1
            rw [if_pos (by omega), show l.d + o + i - (l.d + o + sLen * k + 0) = i - sLen * k by omega]
            exact g1
        · intro j h1 h2
          refine p4 j ?_ (.inr ?_)
          · have : l.d + o ≤ j := h1
            omega
          · rcases h2 with h2 | h2
            · have h2 : j < l.d + o + (old ++ new).length := h2
              simp only [List.length_append] at h2; omega
            · exact h2
      · rename_i hcn
        rw [if_neg hcn]
        split
        · trivial
        · rename_i hcb
          cases hl : live (getO st.heap c) with
          | false => cases hgc : getO st.heap c <;> simp [hgc, live] at hl; trivial
          | true =>
            have := hW.inj b c l m' e ec hw hl (Ne.symm hcb)
            exact ((hW.obj c m' ec).mono hle').of_heap (s5 _ (Ne.symm this))
    · intro b₁ b₂ l₁ l₂ e₁ e₂ h₁ h₂ hne
      rw [hget] at h₁ h₂
      unfold Map.put at e₁ e₂
      split at e₁
      · rename_i q1
        cases e₁
        split at e₂
        · rename_i q2; exact absurd (q1.trans q2.symm) hne
        · rename_i q2
          rw [if_neg q2] at h₂
          split at h₂
          · cases h₂
          · rename_i q3
            exact hW.inj b b₂ l l₂ e e₂ hw h₂ (Ne.symm q3)
      · rename_i q1
        rw [if_neg q1] at h₁
        split at h₁
        · cases h₁
        · rename_i q3
          split at e₂
          · cases e₂
            exact hW.inj b₁ b l₁ l e₁ e h₁ (by rw [hg]; rfl) q3
          · rename_i q2
            rw [if_neg q2] at h₂
            split at h₂
            · cases h₂
            · exact hW.inj b₁ b₂ l₁ l₂ e₁ e₂ h₁ h₂ hne
    · intro c hc
      have hc : st.next + 1 ≤ c := hc
      rw [hget, if_neg (by omega)]
      split
      · rfl
      · exact hW.top c (by omega)
  · refine ⟨Map.le_put hW.fresh _, ?_, ?_, by rw [s6]; exact Nat.le_refl _, ?_, Nat.le_succ _, s7, s8, s9, ?_⟩
    · intro c m' ec
      unfold Map.put at ec
      split at ec
      · rename_i hc'; cases ec; exact .inr ⟨by omega, .inr ⟨b, l, e, hw, rfl⟩⟩
      · exact .inl ec
    · intro c m' ec hw'
      have hcn : c ≠ st.next := fun h => by have := hW.lt _ _ ec; omega
      change wr (getO ((st.kill b).alloc _).2.heap c) = true at hw'
      rw [ISt.alloc_get] at hw'
      have hcn' : c ≠ (st.kill b).next := hcn
      rw [if_neg hcn'] at hw'
      change wr (getO (st.with b .dead).heap c) = true at hw'
      rw [ISt.with_get] at hw'
      split at hw'
      · cases hw'
      · exact hw'
    · intro B hB hno
      exact s5 B (Ne.symm (hno b l e hw))
    · intro c hc hl
      change live (getO ((st.kill b).alloc _).2.heap c) = true at hl
      rw [ISt.alloc_get] at hl
      have hcn' : c ≠ (st.kill b).next := Nat.ne_of_lt hc
      rw [if_neg hcn'] at hl
      change live (getO (st.with b .dead).heap c) = true at hl
      rw [ISt.with_get] at hl
      split at hl
      · cases hl
      · exact hl

include hL hW

theorem append_out {ts : Array TypeId} {ty : TypeId} {args : List Value} {args' : Array Value} (ha : VsR μ args args'.toList) :
    Out μ st L.P w (append L st ts.toList args) ((do let v ← Builtin.append_ ts ty args'; pure (.value v) : Sem Next).run L.P w) := by
  unfold append
  split
  · rename_i sT xT tr s x ar hts
    have t0 : ts[0]? = some sT := by rw [← Array.getElem?_toList, hts]; rfl
    have t1 : ts[1]? = some xT := by rw [← Array.getElem?_toList, hts]; rfl
    cases hargs : args'.toList with
    | nil => rw [hargs] at ha; cases ha
    | cons s' ar1 =>
      rw [hargs] at ha
      cases ha with
      | cons hs ha =>
        cases ar1 with
        | nil => cases ha
        | cons x' ar2 =>
          cases ha with
          | cons hx _ =>
            have a0 : args'[0]? = some s' := by rw [← Array.getElem?_toList, hargs]; rfl
            have a1 : args'[1]? = some x' := by rw [← Array.getElem?_toList, hargs]; rfl
            split
            · rename_i elem xd base sLen sCap n hu hux hn
              cases hq : isSeq xd with
              | false => trivial
              | true =>
                simp only
                cases hi : L.info elem with
                | none => trivial
                | some i =>
                  simp only
                  have hk : szOf L elem = some i.size := by unfold szOf; rw [hi]
                  cases hg : okGrow (Nat.add sLen n) i with
                  | false => trivial
                  | true =>
                    simp only
                    have hg : okGrow (sLen + n) i = true := hg
                    obtain ⟨g1, g2, g3, z, hz, hzl⟩ := okGrow_some hg
                    have hzl' : z.cells.size = i.size := by rw [← hzl, cellsL_eq]; simp
                    cases hf : firstCells st i.size n x with
                    | none => trivial
                    | some new =>
                      simp only
                      obtain ⟨base', c', rfl⟩ := slice_inv hs
                      have hln := fun w => lenOf_run (P := L.P) (w := w) hx hn
                      obtain ⟨l', f1, f2⟩ := firstCells_run (P := L.P) hW hx hf hn
                      have hWd : WR μ st w.drew := hW.drew _
                      have hnl := firstCells_len hf hn
                      have hkn : ∀ c, sCap = c → c < UNK → c' = c := by
                        intro c h1 h2
                        cases hs with
                        | sliceNil => exact h1
                        | slice e hc => rcases hc with ⟨_, h⟩ | ⟨k, hk, h, _⟩
                                        · omega
                                        · omega
                        | sliceE _ _ _ h => rcases h with h | h <;> omega
                      split
                      · -- nothing is appended
                        cases hle : Nat.ble sLen sCap with
                        | false => trivial
                        | true =>
                          have hle := Nat.le_of_ble_eq_true hle
                          have hle' : sLen + 0 ≤ c' := by
                            cases hs with
                            | sliceNil => exact hle
                            | slice e hc => rcases hc with ⟨_, h⟩ | ⟨k, hk, h, h2, h3⟩ <;> omega
                            | sliceE _ _ _ h => omega
                          have hl0 : l' = [] := by
                            have := f2.length
                            rw [hnl] at this
                            exact List.length_eq_zero_iff.1 (by omega)
                          subst hl0
                          refine Out.pure hW (run_v ?_) hs
                          rw [append_in hL t0 t1 a0 a1 hu hux hq hk (hln w) f1 hle']
                          cases base' <;> simp [storeCells]
                      · rename_i _ hn0
                        have hnp : 0 < n := Nat.pos_of_ne_zero hn0
                        have hgrow : ∀ {st0 : ISt} {old o' : List Value}, WR μ st0 w.drew → Ext μ st w μ st0 w.drew → VsR μ old o' → old.length = sLen * i.size →
                            (Builtin.firstCells i.size sLen (.slice base' sLen c')).run L.P w.drew = .ok o'.toArray w.drew → c' < sLen + n →
                            ∃ v' μ' w', (do let v ← Builtin.append_ ts ty args'; pure (.value v) : Sem Next).run L.P w = .ok (.value v') w' ∧
                              VR μ' (.slice (some ⟨st0.next, 0, none⟩) (sLen + n) (UNK + i.size)) v' ∧ WR μ' (st0.newRow elem (old ++ new) false).2 w' ∧ Ext μ st w μ' (st0.newRow elem (old ++ new) false).2 w' := by
                          intro st0 old o' hW0 hE0 hro hol hfo hlt
                          obtain ⟨l2, f3, f4⟩ := firstCells_run (P := L.P) hWd hx hf hn
                          have hge := grownCap_ge w (sLen + n) c' elem
                          obtain ⟨μ', q1, q2, q3⟩ := grown_ok (elem := elem) (rest := Builtin.zeroCells z.cells (grownCap w (sLen + n) c' elem - (sLen + n))) hW0 (hro.append f4)
                            (by rw [List.length_append, hol, hnl, Nat.add_mul]) g3 hge (by simp [Builtin.zeroCells, hzl'])
                          refine ⟨_, μ', _, run_v ?_, q1, q2, hE0.trans q3⟩
                          rw [append_grow hL t0 t1 a0 a1 hu hux hq hi hz (hln w) f3 hfo hlt hg]
                          simp
                        cases hq2 : Nat.beq sCap (Nat.add UNK i.size) with
                        | true =>
                          have hsc : sCap = UNK + i.size := Nat.eq_of_beq_eq_true hq2
                          simp only
                          cases base with
                          | none => trivial
                          | some a =>
                            simp only
                            cases hb : (rowOf elem (getO st.heap a.block)).and (allOne new) with
                            | false => trivial
                            | true =>
                              simp only
                              have hb2 : rowOf elem (getO st.heap a.block) = true ∧ allOne new = true := by
                                revert hb; cases rowOf elem (getO st.heap a.block) <;> cases allOne new <;> simp
                              obtain ⟨b1, b2⟩ := hb2
                              cases hfo : firstCells st i.size sLen (.slice (some a) sLen sCap) with
                              | none => trivial
                              | some old =>
                                simp only
                                have hol := firstCells_len hfo rfl
                                obtain ⟨o', fo1, fo2⟩ := firstCells_run (P := L.P) hWd hs hfo rfl
                                obtain ⟨k1, k2⟩ := hWd.kill a.block
                                have hE0 : Ext μ st w μ (st.kill a.block) w.drew := ((Ext.refl μ st w).drew _).trans k2
                                by_cases hfit : sLen + n ≤ c'
                                · cases hs with
                                  | slice e hc =>
                                    rename_i b o l
                                    rcases hc with ⟨h1, _⟩ | ⟨k, hk0, h1, h2, h3⟩
                                    · omega
                                    · have hki : k = i.size := by omega
                                      subst hki
                                      cases hgo : getO st.heap b with
                                      | row over df m el ex =>
                                        have hel : el = elem := by
                                          change rowOf elem (getO st.heap b) = true at b1
                                          rw [hgo] at b1
                                          exact Nat.eq_of_beq_eq_true b1
                                        subst hel
                                        have hoc : objCells (getO st.heap b) (sLen * i.size) o = some old ∨ (sLen = 0 ∧ old = []) := by
                                          cases sLen with
                                          | zero => cases hfo; exact .inr ⟨rfl, rfl⟩
                                          | succ m => exact .inl hfo
                                        obtain ⟨w', q1, μ', q2, q3, q4⟩ := inplace_ok hW (P := L.P) e hgo g3 hnp h2 hfit hoc f2 b2 hnl
                                        refine ⟨_, μ', w', run_v ?_, q2, q3, q4⟩
                                        rw [append_in hL t0 t1 a0 a1 hu hux hq hk (hln w) f1 hfit]
                                        simp only [add_plain]
                                        rw [Sem.run_bind, q1]; rfl
                                      | _ => change rowOf elem (getO st.heap b) = true at b1; rw [hgo] at b1; cases b1
                                  | sliceE => omega
                                · exact hgrow k1 hE0 fo2 hol fo1 (by omega)
                        | false =>
                          simp only
                          cases hb : Nat.blt sCap UNK with
                          | false => trivial
                          | true =>
                            simp only
                            have hcc := hkn sCap rfl (blt_true.1 hb)
                            subst hcc
                            cases hfit : Nat.ble (Nat.add sLen n) c' with
                            | true =>
                              have hfit : sLen + n ≤ c' := Nat.le_of_ble_eq_true hfit
                              simp only
                              cases base with
                              | none => trivial
                              | some a =>
                                simp only
                                cases hst : st.store (addA a (Nat.mul sLen i.size)) new with
                                | none => trivial
                                | some st' =>
                                  cases hs with
                                  | slice e hc =>
                                    rename_i b o l
                                    obtain ⟨w', q1, q2, q3⟩ := hW.store (P := L.P) (a := addA ⟨b, o, none⟩ (sLen * i.size)) e hst f2
                                    refine ⟨.slice (some ⟨l.B, l.d + o, none⟩) (sLen + n) c', μ, w', run_v ?_, ?_, q2, q3⟩
                                    · rw [append_in hL t0 t1 a0 a1 hu hux hq hk (hln w) f1 hfit]
                                      simp only [add_place]
                                      rw [Sem.run_bind]
                                      have q1' : (storeCells ⟨l.B, l.d + (o + sLen * i.size), none⟩ l').run L.P w = .ok () w' := q1
                                      rw [q1']; rfl
                                    · exact .slice e (.inl ⟨blt_true.1 hb, rfl⟩)
                                  | sliceE => omega
                            | false =>
                              have hfit : ¬ (sLen + n ≤ c') := fun h => Bool.noConfusion ((Nat.ble_eq_true_of_le h).symm.trans hfit)
                              simp only
                              cases hfo : firstCells st i.size sLen (.slice base sLen c') with
                              | none => trivial
                              | some old =>
                                have hol := firstCells_len hfo rfl
                                obtain ⟨o', fo1, fo2⟩ := firstCells_run (P := L.P) hWd hs hfo rfl
                                exact hgrow hWd ((Ext.refl μ st w).drew _) fo2 hol fo1 (by omega)
            · trivial
  · trivial

end
end Go.Ideal

/-
What an operation comes to over the ideal heap, it comes to in the machine: calls.
-/
namespace Go.Ideal
open Go

section
variable {L : Pg} (hL : LOk L) {μ : Map} {st : ISt} {w : World} (hW : WR μ st w)

theorem okFlat_some {x : Option Value} {v : Value} (h : okFlat x = some v) : x = some v ∧ flat v = true := by
  cases x with
  | none => cases h
  | some v' =>
    cases hf : flat v' with
    | false => simp [okFlat, hf] at h
    | true => simp [okFlat, hf] at h; subst h; exact ⟨rfl, hf⟩

include hL hW

theorem callFunc_out {f : FuncId} {args : List Value} {args' : Array Value} (ha : VsR μ args args'.toList) :
    Out μ st L.P w (callFunc L st f args) ((Go.callFunc f args').run L.P w) := by
  unfold callFunc
  cases hf : getF L.fn f with
  | none => trivial
  | some F =>
    have hP := hL.fn _ _ hf
    have hnm : ¬ F.name = "runtime.NumGoroutine" := by have := hL.named _ _ hP; simpa using this
    simp only
    cases hb : F.body with
    | some c =>
      exact ⟨args', by simp [Go.callFunc, hP, hnm, hb], ha, rfl⟩
    | none =>
      simp only
      cases hfl : args.all flat with
      | true =>
        simp only
        have he : args' = ⟨args⟩ := Array.ext' (ha.flat hfl)
        subst he
        split
        · rename_i v hp
          have := pureRun_run hp w
          refine Out.ofV hW fun v' hv => ?_
          obtain ⟨h1, h2⟩ := okFlat_some hv
          cases h1
          exact ⟨v, this, VR.flat_refl h2⟩
        · trivial
      | false =>
        simp only
        split
        · rename_i p hn
          cases ha' : args'.toList with
          | nil => rw [ha'] at ha; cases ha
          | cons x l =>
            rw [ha'] at ha
            cases ha with
            | cons hx hl =>
              cases hl
              have he : args' = #[x] := Array.ext' (by rw [ha'])
              subst he
              obtain ⟨n1, n2⟩ := hL.noesc _ _ hP hn
              obtain ⟨l, e, rfl, hsp⟩ := hx.ptr_inv
              refine Out.pure hW ?_ hx
              have hsame : Extern.AbiNoEscape.same #[.pointer (some ⟨l.B, l.d + p.off, none⟩)] = pure (.pointer (some ⟨l.B, l.d + p.off, none⟩)) := rfl
              simp [Go.callFunc, hP, hnm, hb, mark, Sem.run, n1, n2, hsame]
        · trivial

theorem callMethod_out {recv recv' : Value} {name : String} {args : List Value} {args' : Array Value} (hr : VR μ recv recv') (ha : VsR μ args args'.toList) :
    Out μ st L.P w (callMethod L st recv name args) ((Go.callMethod recv' name args').run L.P w) := by
  unfold callMethod
  cases recv with
  | iface t v =>
    cases hr with
    | iface t hv =>
      rename_i v'
      simp only
      cases hm : method L t name with
      | none => trivial
      | some f =>
        have hmr : ∀ n, (Go.method (n + 1) t v' name).run L.P w = .ok (f, v') w := by
          intro n
          unfold method at hm
          cases hfm : findMethod L t name with
          | none => rw [hfm] at hm; cases hm
          | some m =>
            cases hd : L.und t with
            | none => rw [hfm, hd] at hm; cases hm
            | some d =>
              rw [hfm, hd] at hm
              simp only at hm
              unfold findMethod at hfm
              cases hi : L.info t with
              | none => rw [hi] at hfm; cases hfm
              | some i =>
                rw [hi] at hfm
                have hfm' : i.methods.find? (fun m => m.name == name) = some m := by rw [← Array.find?_toList]; exact hfm
                split at hm
                · rename_i g ptr hpath hfunc
                  cases ptr with
                  | true =>
                    cases hp : isPtrD d with
                    | false => rw [hp] at hm; cases hm
                    | true =>
                      rw [hp] at hm; cases hm
                      have : ∃ e, d = .pointer e := by cases d <;> first | (cases hp; done) | exact ⟨_, rfl⟩
                      obtain ⟨e, rfl⟩ := this
                      simp [Go.method, hL.run_info hi, hfm', hpath, Go.follow, hfunc, Go.receiverAt, hL.run_und hd, Go.Place.get]
                  | false =>
                    cases hp : isPtrD d with
                    | true => rw [hp] at hm; cases hm
                    | false =>
                      rw [hp] at hm; cases hm
                      cases d <;> first | (cases hp; done) | simp [Go.method, hL.run_info hi, hfm', hpath, Go.follow, hfunc, Go.receiverAt, hL.run_und hd, Go.Place.get]
                · cases hm
        have hdep : ∃ n, L.P.types.size + Made.depth = n + 1 := ⟨L.P.types.size + 99, rfl⟩
        obtain ⟨n, hn⟩ := hdep
        have hrun : (Go.callMethod (.iface t v') name args').run L.P w = (Go.callFunc f (#[v'] ++ args')).run L.P w := by
          simp [Go.callMethod, program, Sem.run, hn, hmr n]
        rw [hrun]
        exact callFunc_out hL hW (by simpa using VsR.cons hv ha)
  | _ => trivial

theorem invokeFn_out {fn fn' : Fn} {captured args : List Value} {captured' args' : Array Value} (hf : FnR μ fn fn') (hc : VsR μ captured captured'.toList) (ha : VsR μ args args'.toList) :
    Out μ st L.P w (invokeFn L st fn captured args) ((Go.invoke (.fn fn' captured') args').run L.P w) := by
  unfold invokeFn
  cases hf with
  | func f =>
    show Out μ st L.P w (callFunc L st f (args ++ captured)) ((Go.callFunc f (args' ++ captured')).run L.P w)
    exact callFunc_out hL hW (by simpa using ha.append hc)
  | yield e => exact ⟨_, args', e, ha, rfl, rfl⟩
  | _ => trivial

theorem callV_out {f f' : Value} {args : List Value} {args' : Array Value} (hf : VR μ f f') (ha : VsR μ args args'.toList) :
    Out μ st L.P w (callV L f args st) ((do let d ← Deferred.ofValue f' args'; Go.invoke d.target d.args : Sem Next).run L.P w) := by
  unfold callV
  cases f with
  | func fn first captured =>
    cases hf with
    | func h1 h2 h3 =>
      exact invokeFn_out hL hW h1 h3 (by simpa using h2.append ha)
  | _ => trivial

end
end Go.Ideal

/-
What an operation comes to over the ideal heap, it comes to in the machine: bytes that a string shares.
-/
namespace Go.Ideal
open Go

section
variable {L : Pg} (hL : LOk L) {μ : Map} {st : ISt} {w : World} (hW : WR μ st w)

theorem loadBytes_run {P : Program} {B : Nat} : ∀ {l l' : List Value} {bs : List UInt8} (o : Nat) (s : ByteArray), bytesOf l = some bs → VsR μ l l' → (∀ j, j < l'.length → w.cell? ⟨B, o + j, none⟩ = l'[j]?) →
    (loadBytes ⟨B, o, none⟩ s l'.length).run P w = .ok ⟨s.data ++ bs.toArray⟩ w
  | [], _, bs, o, s, h, hr, _ => by cases hr; simp [bytesOf] at h; subst h; simp [loadBytes]
  | v :: l, _, bs, o, s, h, hr, hc => by
    cases hr with
    | cons hv hr =>
      rename_i v' l'
      unfold bytesOf at h
      split at h
      · rename_i n
        have := hv.int_inv; subst this
        cases hb : bytesOf l with
        | none => simp [hb] at h
        | some bs' =>
          simp only [hb] at h; cases h
          have h0 : w.cell? ⟨B, o, none⟩ = some (.int .u8 (.ofNat n)) := by have := hc 0 (by simp); simpa using this
          have := loadBytes_run (P := P) (o + 1) (s.push (UInt8.ofNat n)) hb hr (fun j hj => by have := hc (j + 1) (by simp; exact hj); rw [show o + 1 + j = o + (j + 1) by omega, this]; rfl)
          show (do match ← load ⟨B, o, none⟩ with
                  | .int .u8 b => loadBytes ((⟨B, o, none⟩ : Addr).add 1) (s.push b.toNat.toUInt8) l'.length
                  | _ => stuck "a byte variable that holds no byte" : Sem ByteArray).run P w = _
          rw [Sem.run_bind, run_load_some h0, Result.andThen_ok]
          simp only [add_plain]
          rw [show (Int.ofNat n).toNat.toUInt8 = UInt8.ofNat n from rfl, this]
          congr 1
          apply ByteArray.ext
          simp
      · cases h

include hL hW in
theorem unsafeString_out {ts : Array TypeId} {ty pt : TypeId} {a : Addr} {k : IntKind} {n : Nat} {p' i' : Value} (t0 : ts[0]? = some pt) (hp : VR μ (.pointer (some a)) p') (hi : VR μ (.int k (.ofNat (n + 1))) i')
    (hb : byteRow L st pt a (n + 1) = true) {l : List Value} (hl : st.load a (n + 1) = some l) {bs : List UInt8} (hbs : bytesOf l = some bs) :
    Out μ st L.P w (.val (.string ⟨⟨bs⟩⟩) (st.kill a.block)) ((do let v ← Builtin.unsafeString_ ts ty #[p', i']; pure (.value v) : Sem Next).run L.P w) := by
  obtain ⟨lc, e, rfl, hsp⟩ := hp.ptr_inv
  have := hi.int_inv; subst this
  unfold byteRow at hb
  split at hb
  · rename_i u ov df m el ex hpt hg
    split at hb
    · rename_i hu hs hq
      have hq := Nat.eq_of_beq_eq_true hq
      subst hq
      have hb2 : Nat.ble (Nat.add a.off (n + 1)) m = true ∧ Nat.ble (n + 1) 4294967296 = true := by
        revert hb; cases Nat.ble (Nat.add a.off (n + 1)) m <;> cases Nat.ble (n + 1) 4294967296 <;> simp
      have hb3 : a.off + (n + 1) ≤ m := Nat.le_of_ble_eq_true hb2.1
      have hb4 : n + 1 ≤ 4294967296 := Nat.le_of_ble_eq_true hb2.2
      obtain ⟨l', c1, c2, c3⟩ := hW.cells e (show objCells _ (n + 1) _ = some l from hl)
      have hobj := hW.obj _ _ e
      have hw : wr (getO st.heap a.block) = true := by rw [hg]; rfl
      rw [hg] at hobj
      obtain ⟨C, lo, hi, p1, p2, p3, p4, p5, p6⟩ := hobj
      have hva := variablesAt_run (w := w) hL (k := 0) (j := lc.d + a.off) (n := n + 1) p1 hs (by rw [Nat.div_one]; omega)
      rw [show (lc.d + a.off) * (0 + 1) = lc.d + a.off by omega] at hva
      have hlb := loadBytes_run (P := L.P) (lc.d + a.off) ByteArray.empty hbs c1 (w := w) (B := lc.B) (fun j hj => c3 j (by omega))
      rw [c2] at hlb
      have hother : ∀ B, B ≠ lc.B → (w.freeze ⟨lc.B, lc.d + a.off, none⟩ (n + 1)).heap[B]? = w.heap[B]? := by
        intro B hB
        simp [World.freeze, Array.getElem?_modify, Ne.symm hB]
      obtain ⟨k1, k2⟩ := hW.kill a.block
      refine ⟨_, μ, w.freeze ⟨lc.B, lc.d + a.off, none⟩ (n + 1), run_v ?_, .string _, ?_, ?_⟩
      · have n1 : ¬ ((n : Int) + 1 < 0) := by omega
        have n3 : ¬ ((n : Int) + 1 = 0) := by omega
        have n4 : ((n : Int) + 1).toNat = n + 1 := by omega
        have he : (⟨ByteArray.empty.data ++ bs.toArray⟩ : ByteArray) = ⟨⟨bs⟩⟩ := by apply ByteArray.ext; simp
        rw [he] at hlb
        change Sem.run L.P (asInt (.int k (.ofNat (n + 1))) >>= _) w = _
        simp [asInt, asIntOf, t0, n1, n3, n4, elemOf, hL.run_und hpt, hva, hlb, freeze, Sem.run]
        omega
      · refine ⟨k1.lt, ?_, k1.inj, k1.top⟩
        intro b m' eb
        have hob := k1.obj b m' eb
        by_cases hba : b = a.block
        · have : getO (st.kill a.block).heap b = .dead := by
            show getO (st.with a.block .dead).heap b = _
            rw [ISt.with_get, if_pos hba]
          rw [this]; trivial
        · have hgb : getO (st.kill a.block).heap b = getO st.heap b := by
            show getO (st.with a.block .dead).heap b = _
            rw [ISt.with_get, if_neg hba]
          rw [hgb] at hob ⊢
          cases hlv : live (getO st.heap b) with
          | false => cases hgc : getO st.heap b <;> simp [hgc, live] at hlv; trivial
          | true => exact hob.of_heap (hother _ (Ne.symm (hW.inj _ _ _ _ e eb hw hlv (Ne.symm hba))))
      · refine ⟨.refl μ, fun _ _ h => .inl h, k2.per, by simp [World.freeze], ?_, Nat.le_refl _, by simp [World.freeze], by simp [World.freeze], by simp [World.freeze], k2.liv⟩
        intro B hB hno
        exact hother B (Ne.symm (hno _ _ e hw))
    · cases hb
  · cases hb

theorem evs_ok {ρ ρ' : Operand → Value} : ∀ {l : List Operand}, (∀ x, x ∈ l → VR μ (ρ x) (ρ' x)) → VsR μ (evs l ρ) (l.map ρ')
  | [], _ => .nil
  | x :: l, h => .cons (h x (by simp)) (evs_ok fun y hy => h y (by simp [hy]))

theorem mapEv_ok {ρ ρ' : Operand → Value} : ∀ {l : List (Nat × Operand)}, (∀ x, x ∈ l.map (·.2) → VR μ (ρ x) (ρ' x)) → PsR μ (mapEv ρ l) (l.map fun (i, x) => (i, ρ' x))
  | [], _ => .nil
  | (i, x) :: l, h => .cons (h x (by simp)) (mapEv_ok fun y hy => h y (by simp only [List.map_cons, List.mem_cons]; exact .inr hy))

theorem evOpt_ok {ρ ρ' : Operand → Value} {o : Option Operand} (h : ∀ x, o = some x → VR μ (ρ x) (ρ' x)) : OptR μ (evOpt ρ o) (o.map ρ') := by
  cases o with
  | none => exact .none
  | some x => exact .some (h x rfl)

include hL hW

theorem builtinP_out {b : Builtin} (hb : b = .len ∨ b = .min ∨ b = .max ∨ b = .unsafeSliceData) {ts : Array TypeId} {ty : TypeId} {consts : Array Bool} {args : List Value} {args' : Array Value} (ha : VsR μ args args'.toList) :
    OutP μ st L.P w (builtinV L st b ts ty args) ((Go.builtin b ts ty consts args').run L.P w) := by
  have one : ∀ {x : Value} {l : List Value}, args = x :: l → ∃ x', args'[0]? = some x' ∧ VR μ x x' := by
    intro x l h
    subst h
    cases h1 : args'.toList with
    | nil => rw [h1] at ha; cases ha
    | cons x' l1 =>
      rw [h1] at ha
      cases ha with
      | cons hx ha => exact ⟨x', by rw [← Array.getElem?_toList, h1]; rfl, hx⟩
  have t0 : ∀ {t : TypeId} {l : List TypeId}, ts.toList = t :: l → ts[0]? = some t := by
    intro t l h; rw [← Array.getElem?_toList, h]; rfl
  rcases hb with rfl | rfl | rfl | rfl
  · unfold builtinV
    simp only
    split
    · rename_i t tr x xr h1
      obtain ⟨x', a0, hx⟩ := one rfl
      exact lenV_out hL hW (t0 h1) a0 hx
    · trivial
  · unfold builtinV
    simp only
    cases hf : args.all flat with
    | false => trivial
    | true =>
      have he : args' = ⟨args⟩ := Array.ext' (ha.flat hf)
      subst he
      exact OutP.ofV hW fun v hv => let ⟨h1, h2⟩ := pureV_run hv w; ⟨v, run_v h1, VR.flat_refl h2⟩
  · unfold builtinV
    simp only
    cases hf : args.all flat with
    | false => trivial
    | true =>
      have he : args' = ⟨args⟩ := Array.ext' (ha.flat hf)
      subst he
      exact OutP.ofV hW fun v hv => let ⟨h1, h2⟩ := pureV_run hv w; ⟨v, run_v h1, VR.flat_refl h2⟩
  · unfold builtinV
    simp only
    split
    · rename_i a n c
      cases h1 : args'.toList with
      | nil => rw [h1] at ha; cases ha
      | cons x' l1 =>
        rw [h1] at ha
        cases ha with
        | cons hx ha =>
          cases ha
          have he : args' = #[x'] := Array.ext' (by rw [h1])
          subst he
          cases hx with
          | slice e hc =>
            refine OutP.pure hW (run_v ?_) (.ptr e)
            rename_i bb o c' l
            have hc0 : c' ≠ 0 := by rcases hc with ⟨_, h⟩ | ⟨k, _, _, _, h⟩ <;> omega
            change (if c' ≠ 0 then (pure _ : Sem Value) else _).run L.P w = _
            rw [if_pos hc0]; rfl
    · trivial

theorem builtinV_out {b : Builtin} {ts : Array TypeId} {ty : TypeId} {consts : Array Bool} {args : List Value} {args' : Array Value} (ha : VsR μ args args'.toList) :
    Out μ st L.P w (builtinV L st b ts ty args) ((Go.builtin b ts ty consts args').run L.P w) := by
  have two : ∀ {x y : Value} {l : List Value}, args = x :: y :: l → ∃ x' y', args'[0]? = some x' ∧ args'[1]? = some y' ∧ VR μ x x' ∧ VR μ y y' := by
    intro x y l h
    subst h
    cases h1 : args'.toList with
    | nil => rw [h1] at ha; cases ha
    | cons x' l1 =>
      rw [h1] at ha
      cases ha with
      | cons hx ha =>
        cases l1 with
        | nil => cases ha
        | cons y' l2 =>
          cases ha with
          | cons hy _ => exact ⟨x', y', by rw [← Array.getElem?_toList, h1]; rfl, by rw [← Array.getElem?_toList, h1]; rfl, hx, hy⟩
  have one : ∀ {x : Value} {l : List Value}, args = x :: l → ∃ x', args'[0]? = some x' ∧ VR μ x x' := by
    intro x l h
    subst h
    cases h1 : args'.toList with
    | nil => rw [h1] at ha; cases ha
    | cons x' l1 =>
      rw [h1] at ha
      cases ha with
      | cons hx ha => exact ⟨x', by rw [← Array.getElem?_toList, h1]; rfl, hx⟩
  have t0 : ∀ {t : TypeId} {l : List TypeId}, ts.toList = t :: l → ts[0]? = some t := by
    intro t l h; rw [← Array.getElem?_toList, h]; rfl
  unfold builtinV
  split
  · exact append_out hL hW ha
  · split
    · rename_i t tr x xr h1
      obtain ⟨x', a0, hx⟩ := one rfl
      exact (lenV_out hL hW (t0 h1) a0 hx).out hW
    · trivial
  · split
    · rename_i t tr m k xr h1
      obtain ⟨m', k', a0, a1, hm, hk⟩ := two rfl
      exact deleteV_out hL hW (t0 h1) a0 a1 hm hk
    · trivial
  · split
    · rename_i t tr m xr h1
      obtain ⟨m', a0, hm⟩ := one rfl
      exact clearV_out hL hW (t0 h1) a0 hm
    · trivial
  · cases hf : args.all flat with
    | false => trivial
    | true =>
      have he : args' = ⟨args⟩ := Array.ext' (ha.flat hf)
      subst he
      exact Out.ofV hW fun v hv => let ⟨h1, h2⟩ := pureV_run hv w; ⟨v, run_v h1, VR.flat_refl h2⟩
  · cases hf : args.all flat with
    | false => trivial
    | true =>
      have he : args' = ⟨args⟩ := Array.ext' (ha.flat hf)
      subst he
      exact Out.ofV hW fun v hv => let ⟨h1, h2⟩ := pureV_run hv w; ⟨v, run_v h1, VR.flat_refl h2⟩
  · split
    · rename_i a n c
      cases h1 : args'.toList with
      | nil => rw [h1] at ha; cases ha
      | cons x' l1 =>
        rw [h1] at ha
        cases ha with
        | cons hx ha =>
          cases ha
          have he : args' = #[x'] := Array.ext' (by rw [h1])
          subst he
          cases hx with
          | slice e hc =>
            refine Out.pure hW (run_v ?_) (.ptr e)
            rename_i bb o c' l
            have hc0 : c' ≠ 0 := by rcases hc with ⟨_, h⟩ | ⟨k, _, _, _, h⟩ <;> omega
            change (if c' ≠ 0 then (pure _ : Sem Value) else _).run L.P w = _
            rw [if_pos hc0]; rfl
    · trivial
  · split
    · rename_i a k n
      cases h1 : args'.toList with
      | nil => rw [h1] at ha; cases ha
      | cons p' l1 =>
        rw [h1] at ha
        cases ha with
        | cons hp ha =>
          cases l1 with
          | nil => cases ha
          | cons i' l2 =>
            cases ha with
            | cons hi ha =>
              cases ha
              have he : args' = #[p', i'] := Array.ext' (by rw [h1])
              subst he
              split
              · rename_i pt tr hts
                cases hb : byteRow L st pt a (n + 1) with
                | false => trivial
                | true =>
                  simp only
                  cases hl : st.load a (n + 1) with
                  | none => trivial
                  | some l =>
                    simp only
                    cases hbs : bytesOf l with
                    | none => trivial
                    | some bs => exact unsafeString_out hL hW (t0 hts) hp hi hb hl hbs
              · trivial
    · trivial
  · trivial

end
end Go.Ideal

/-
What an operation comes to over the ideal heap, it comes to in the machine: all operations.
-/
namespace Go.Ideal
open Go

section
variable {L : Pg} (hL : LOk L) {μ : Map} {st : ISt} {w : World} (hW : WR μ st w)
include hL hW

theorem iCall_out {c : Call} {ty : TypeId} {ρ ρ' : Operand → Value} (h : ∀ x, x ∈ c.operands.toList → VR μ (ρ x) (ρ' x)) :
    Out μ st L.P w (iCall L c ty ρ st) ((do let d ← resolve ρ' c ty; Go.invoke d.target d.args : Sem Next).run L.P w) := by
  unfold iCall
  have hargs : ∀ x, x ∈ c.args.toList → VR μ (ρ x) (ρ' x) := fun x hx => h x (by
    unfold Call.operands; cases c.callee <;> simp <;> first | exact .inr (by simpa using hx) | (simpa using hx))
  have ha := evs_ok (l := c.args.toList) hargs
  have ha' : VsR μ (evs c.args.toList ρ) (c.args.map ρ').toList := by rw [Array.toList_map]; exact ha
  split
  · rename_i b hb
    simp only [resolve, hb, Sem.run_bind, Sem.run_pure, Result.andThen_ok]
    exact builtinV_out hL hW ha'
  · rename_i recv name hb
    have hr := h recv (by unfold Call.operands; rw [hb]; simp)
    simp only [resolve, hb, Sem.run_bind, Sem.run_pure, Result.andThen_ok]
    have : (Go.invoke (.fn (.method name) #[]) (#[ρ' recv] ++ c.args.map ρ')).run L.P w = (Go.callMethod (ρ' recv) name (c.args.map ρ')).run L.P w := by
      have e0 : (#[ρ' recv] ++ c.args.map ρ')[0]? = some (ρ' recv) := by rw [← Array.getElem?_toList]; simp
      have e1 : (c.args.map ρ').extract 0 c.args.size = c.args.map ρ' := by rw [show c.args.size = (c.args.map ρ').size by simp, Array.extract_size]
      simp [Go.invoke, e0, e1]
    rw [this]
    exact callMethod_out hL hW hr ha'
  · rename_i f hb
    have hf := h f (by unfold Call.operands; rw [hb]; simp)
    simp only [resolve, hb]
    exact callV_out hL hW hf ha'

omit hL hW in
theorem iDefer_out {c : Call} {ty : TypeId} {ρ ρ' : Operand → Value} (h : ∀ x, x ∈ c.operands.toList → VR μ (ρ x) (ρ' x)) :
    Out μ st L.P w (iDefer c ρ) ((do pure (.defer (← resolve ρ' c ty)) : Sem Next).run L.P w) := by
  unfold iDefer
  split
  · rename_i f hb
    have hargs : ∀ x, x ∈ c.args.toList → VR μ (ρ x) (ρ' x) := fun x hx => h x (by unfold Call.operands; rw [hb]; simp; exact .inr (by simpa using hx))
    have hf := h f (by unfold Call.operands; rw [hb]; simp)
    have ha := evs_ok (l := c.args.toList) hargs
    unfold deferV
    cases hv : ρ f with
    | func fn first captured =>
      rw [hv] at hf
      cases hfr : ρ' f with
      | func fn' first' captured' =>
        rw [hfr] at hf
        cases hf with
        | func h1 h2 h3 =>
          refine ⟨_, by simp [resolve, hb, hfr, Deferred.ofValue]; rfl, ?_⟩
          exact .call h1 h3 (by simp; exact h2.append (by simpa using ha))
      | _ => rw [hfr] at hf; cases hf
    | _ => trivial
  · trivial

theorem iop_out {o : Oper} {ρ ρ' : Operand → Value} (h : ∀ x, x ∈ o.op.operands.toList → VR μ (ρ x) (ρ' x)) :
    Out μ st L.P w (iop o.op L o.type ρ st) ((execOp ρ' o).run L.P w) := by
  obtain ⟨dst, op, ty, pos, after, guard⟩ := o
  cases op with
  | move x => exact Out.pure hW rfl (h x (by simp [Op.operands]))
  | assign x => exact Out.pure hW rfl (h x (by simp [Op.operands]))
  | pick c a b => exact (iPick_out hW (h c (by simp [Op.operands])) (h a (by simp [Op.operands])) (h b (by simp [Op.operands]))).out hW
  | alloc t => exact iAlloc_out hL hW
  | box t x => exact iBox_out hW (h x (by simp [Op.operands]))
  | build t ps =>
    have := mapEv_ok (μ := μ) (ρ := ρ) (ρ' := ρ') (l := ps.toList) (fun x hx => h x (by simpa [Op.operands] using hx))
    exact (build_out hL hW (by simpa using this)).out hW
  | buildSlice t n ps =>
    have := mapEv_ok (μ := μ) (ρ := ρ) (ρ' := ρ') (l := ps.toList) (fun x hx => h x (by simpa [Op.operands] using hx))
    exact buildSlice_out hL hW (by simpa using this)
  | insert t m k x => exact mapUpdate_out hL hW (h m (by simp [Op.operands])) (h k (by simp [Op.operands])) (h x (by simp [Op.operands]))
  | load t a => exact (iLoad_out hL hW (h a (by simp [Op.operands]))).out hW
  | store t a x => exact iStore_out hL hW (h a (by simp [Op.operands])) (h x (by simp [Op.operands]))
  | nilCheck x =>
    refine (iNil_out hW (h x (by simp [Op.operands])) ?_).out hW
    intro y hy hxy
    simp only [execOp, hxy]
    rcases hy with ⟨a, rfl⟩ | ⟨t, v, rfl⟩ | ⟨f, a, b, rfl, hf⟩
    · rfl
    · rfl
    · cases f <;> first | exact absurd rfl (hf _) | rfl
  | binOp op t x y p => exact (iBin_out hL hW (h x (by simp [Op.operands])) (h y (by simp [Op.operands]))).out hW
  | unOp op t x => exact (iUn_out hW (h x (by simp [Op.operands]))).out hW
  | convert s d x => exact (convert_out hL hW (h x (by simp [Op.operands]))).out hW
  | makeInterface t x => exact (iIface_out hL hW (h x (by simp [Op.operands]))).out hW
  | makeFunc f a b =>
    have h1 := evs_ok (μ := μ) (ρ := ρ) (ρ' := ρ') (l := a.toList) (fun x hx => h x (by simp [Op.operands]; exact .inl (by simpa using hx)))
    have h2 := evs_ok (μ := μ) (ρ := ρ) (ρ' := ρ') (l := b.toList) (fun x hx => h x (by simp [Op.operands]; exact .inr (by simpa using hx)))
    exact (iMakeFn_out hW (by simpa using h1) (by simpa using h2)).out hW
  | makeMap t r => exact iMap_out hW (evOpt_ok fun x hx => h x (by subst hx; simp [Op.operands]))
  | makeSlice t l c => exact makeSlice_out hL hW (h l (by simp [Op.operands])) (h c (by simp [Op.operands]))
  | slice t x lo hi mx =>
    exact (sliceV_out hL hW (h x (by simp [Op.operands])) (evOpt_ok fun y hy => h y (by subst hy; simp [Op.operands])) (evOpt_ok fun y hy => h y (by subst hy; simp [Op.operands])) (evOpt_ok fun y hy => h y (by subst hy; simp [Op.operands]))).out hW
  | fieldAddr s x f => exact (iFieldAddr_out hL hW (h x (by simp [Op.operands]))).out hW
  | field t x f => exact (iField_out hL hW (h x (by simp [Op.operands]))).out hW
  | indexAddr t x i => exact (iIaddr_out hL hW (h x (by simp [Op.operands])) (h i (by simp [Op.operands]))).out hW
  | index t x i => exact (indexV_out hL hW (h x (by simp [Op.operands])) (h i (by simp [Op.operands]))).out hW
  | lookup t x i ok => exact (lookup_out hL hW (h x (by simp [Op.operands])) (h i (by simp [Op.operands]))).out hW
  | mapUpdate t m k x => exact mapUpdate_out hL hW (h m (by simp [Op.operands])) (h k (by simp [Op.operands])) (h x (by simp [Op.operands]))
  | typeAssert x xt t ok => exact (typeAssert_out hL hW (h x (by simp [Op.operands]))).out hW
  | extract t i => exact (iExt_out hW (h t (by simp [Op.operands]))).out hW
  | call c => exact iCall_out hL hW (fun x hx => h x (by simpa [Op.operands] using hx))
  | defer c => exact iDefer_out (fun x hx => h x (by simpa [Op.operands] using hx))
  | _ => trivial

/-- .. those that make nothing but a value -/
theorem iopP_out {o : Oper} {ρ ρ' : Operand → Value} (hc : cls o.op = .p ∨ cls o.op = .q) (h : ∀ x, x ∈ o.op.operands.toList → VR μ (ρ x) (ρ' x)) :
    OutP μ st L.P w (iop o.op L o.type ρ st) ((execOp ρ' o).run L.P w) := by
  obtain ⟨dst, op, ty, pos, after, guard⟩ := o
  cases op with
  | move x => exact OutP.pure hW rfl (h x (by simp [Op.operands]))
  | assign x => exact OutP.pure hW rfl (h x (by simp [Op.operands]))
  | pick c a b => exact iPick_out hW (h c (by simp [Op.operands])) (h a (by simp [Op.operands])) (h b (by simp [Op.operands]))
  | build t ps =>
    have := mapEv_ok (μ := μ) (ρ := ρ) (ρ' := ρ') (l := ps.toList) (fun x hx => h x (by simpa [Op.operands] using hx))
    exact build_out hL hW (by simpa using this)
  | load t a => exact iLoad_out hL hW (h a (by simp [Op.operands]))
  | nilCheck x =>
    refine iNil_out hW (h x (by simp [Op.operands])) ?_
    intro y hy hxy
    simp only [execOp, hxy]
    rcases hy with ⟨a, rfl⟩ | ⟨t, v, rfl⟩ | ⟨f, a, b, rfl, hf⟩
    · rfl
    · rfl
    · cases f <;> first | exact absurd rfl (hf _) | rfl
  | binOp op t x y p => exact iBin_out hL hW (h x (by simp [Op.operands])) (h y (by simp [Op.operands]))
  | unOp op t x => exact iUn_out hW (h x (by simp [Op.operands]))
  | convert s d x => exact convert_out hL hW (h x (by simp [Op.operands]))
  | makeInterface t x => exact iIface_out hL hW (h x (by simp [Op.operands]))
  | makeFunc f a b =>
    have h1 := evs_ok (μ := μ) (ρ := ρ) (ρ' := ρ') (l := a.toList) (fun x hx => h x (by simp [Op.operands]; exact .inl (by simpa using hx)))
    have h2 := evs_ok (μ := μ) (ρ := ρ) (ρ' := ρ') (l := b.toList) (fun x hx => h x (by simp [Op.operands]; exact .inr (by simpa using hx)))
    exact iMakeFn_out hW (by simpa using h1) (by simpa using h2)
  | slice t x lo hi mx =>
    exact sliceV_out hL hW (h x (by simp [Op.operands])) (evOpt_ok fun y hy => h y (by subst hy; simp [Op.operands])) (evOpt_ok fun y hy => h y (by subst hy; simp [Op.operands])) (evOpt_ok fun y hy => h y (by subst hy; simp [Op.operands]))
  | fieldAddr s x f => exact iFieldAddr_out hL hW (h x (by simp [Op.operands]))
  | field t x f => exact iField_out hL hW (h x (by simp [Op.operands]))
  | indexAddr t x i => exact iIaddr_out hL hW (h x (by simp [Op.operands])) (h i (by simp [Op.operands]))
  | index t x i => exact indexV_out hL hW (h x (by simp [Op.operands])) (h i (by simp [Op.operands]))
  | lookup t x i ok => exact lookup_out hL hW (h x (by simp [Op.operands])) (h i (by simp [Op.operands]))
  | typeAssert x xt t ok => exact typeAssert_out hL hW (h x (by simp [Op.operands]))
  | extract t i => exact iExt_out hW (h t (by simp [Op.operands]))
  | call c =>
    have hb : ∃ b, c.callee = .builtin b ∧ (b = .len ∨ b = .min ∨ b = .max ∨ b = .unsafeSliceData) := by
      cases hcc : c.callee with
      | builtin b =>
        refine ⟨b, rfl, ?_⟩
        simp only [cls, hcc] at hc
        cases b <;> simp at hc ⊢
      | _ => simp [cls, hcc] at hc
    obtain ⟨b, hcal, hb⟩ := hb
    have hargs : ∀ x, x ∈ c.args.toList → VR μ (ρ x) (ρ' x) := fun x hx => h x (by
      simp only [Op.operands, Call.operands, hcal]; simp; simpa using hx)
    have ha := evs_ok (l := c.args.toList) hargs
    have ha' : VsR μ (evs c.args.toList ρ) (c.args.map ρ').toList := by rw [Array.toList_map]; exact ha
    change OutP μ st L.P w (iCall L c ty ρ st) _
    unfold iCall
    simp only [hcal, execOp, resolve, Sem.run_bind, Sem.run_pure, Result.andThen_ok]
    exact builtinP_out hL hW hb ha'
  | _ => simp [cls] at hc

end
end Go.Ideal

/-
What a region's operation was made into comes to what the operation comes to.
-/
namespace Go.Ideal
open Go

/-- the package-level variables are where they are -/
def GlobOk (μ : Map) : Prop := ∀ g, g < NG → ∃ l, μ g = some l ∧ l.B = g ∧ l.d = 0

theorem GlobOk.mono {μ μ' : Map} (h : μ.le μ') (hG : GlobOk μ) : GlobOk μ' := fun g hg => let ⟨l, e, r⟩ := hG g hg; ⟨l, h _ _ e, r⟩

/-- an operand's value, by the slots alone -/
def evalA (a : Array Value) : Operand → Value
  | .tmp t => a.getD t undef
  | .const v => v
  | .global g => .pointer (some ⟨g, 0, none⟩)
  | .func f => .func (.func f) #[] #[]

theorem evalA_frame (fr : Frame) : evalA fr.tmps = fr.eval := by
  funext x; cases x <;> rfl

structure Inv (μ : Map) (S : Nat) (C : Cst) (env : List Value) (tm : T Value) (a : Array Value) : Prop where
  len : env.length = C.d
  fr : FR μ S tm a
  al : ∀ t r, valid C (getA C.am t) = true → rdOf C (getA C.am t) = some r → VR μ (evR r env tm) (a.getD t undef)
  old : ∀ t t' v, getA C.am t = .var t' v → lives S t' = true ∧ v ≤ getN C.vr t'
  pos : ∀ t p, getA C.am t = .lv p → p < C.d
  inn : ∀ t, (∃ p, getA C.am t = .lv p) ∨ (∃ t' v, getA C.am t = .var t' v) ∨ (∃ v, getA C.am t = .con v) → t < Nat.log2 S

theorem Inv.mono {μ μ' : Map} (h : μ.le μ') {S : Nat} {C : Cst} {env : List Value} {tm : T Value} {a : Array Value} (I : Inv μ S C env tm a) : Inv μ' S C env tm a :=
  ⟨I.len, I.fr.mono h, fun t r h1 h2 => (I.al t r h1 h2).mono h, I.old, I.pos, I.inn⟩

theorem getA_e (t : Nat) : getA .e t = .no := rfl

theorem Inv.start {μ : Map} {S : Nat} {tm : T Value} {a : Array Value} (h : FR μ S tm a) : Inv μ S C0 [] tm a :=
  ⟨rfl, h, fun t r h1 _ => (by simp only [C0, getA_e] at h1; cases h1), fun t t' v h => (by cases h), fun t p h => (by cases h),
    fun t h => (by rcases h with ⟨_, h⟩ | ⟨_, _, h⟩ | ⟨_, h⟩ <;> cases h)⟩

section
variable {μ : Map} {S : Nat} {C : Cst} {env : List Value} {tm : T Value} {a : Array Value} (I : Inv μ S C env tm a) (hG : GlobOk μ)

include I in
theorem slotS_ok {t : Tmp} {r : Rd} (h : rdOf C (slotS S C t) = some r) : VR μ (evR r env tm) (a.getD t undef) := by
  unfold slotS at h
  cases hv : valid C (getA C.am t) with
  | true => rw [hv] at h; exact I.al t r hv h
  | false =>
    rw [hv] at h
    simp only at h
    cases hl : lives S t with
    | false => rw [hl] at h; cases h
    | true => rw [hl] at h; cases h; exact I.fr.2 t hl

include I hG in
theorem opR_ok {x : Operand} {r : Rd} (h : opR S C x = some r) : VR μ (evR r env tm) (evalA a x) := by
  unfold opR at h
  cases x with
  | tmp t => exact slotS_ok I h
  | const v =>
    unfold opS at h
    cases hz : okZ v with
    | false => simp only [hz] at h; cases h
    | true => simp only [hz] at h; cases h; exact VR.okZ hz
  | global g =>
    unfold opS at h
    cases hb : Nat.blt g NG with
    | false => simp only [hb] at h; cases h
    | true =>
      simp only [hb] at h; cases h
      obtain ⟨l, e, h1, h2⟩ := hG g (blt_true.1 hb)
      have := VR.ptr (o := 0) e
      rw [h1, h2] at this
      exact this
  | func f => cases h; exact .func (.func f) .nil .nil

include I hG in
theorem evC_ok {x : Operand} {r : Rd} (h : opR S C x = some r) : VR μ (evC S C env tm x) (evalA a x) := by
  unfold evC
  rw [h]
  exact opR_ok I hG h

include I hG in
theorem Inv.hop (x : Operand) : ∀ r, opR S C x = some r → VR μ (evR r env tm) (evalA a x) := fun _ h => opR_ok I hG h

end

/-- what an operand's value is known to be -/
def Hop (μ : Map) (S : Nat) (C : Cst) (env : List Value) (tm : T Value) (a : Array Value) (x : Operand) : Prop := ∀ r, opR S C x = some r → VR μ (evR r env tm) (evalA a x)

section
variable {μ : Map} {S : Nat} {C : Cst} {env : List Value} {tm : T Value} {a : Array Value}

theorem Hop.evC {x : Operand} (H : Hop μ S C env tm a x) {r : Rd} (h : opR S C x = some r) : VR μ (evC S C env tm x) (evalA a x) := by
  unfold Ideal.evC
  rw [h]
  exact H r h

theorem rds_ok : ∀ {l : List Operand} {rs : List Rd}, (∀ x, x ∈ l → Hop μ S C env tm a x) → rds S C l = some rs → VsR μ (evRs rs env tm) (l.map (evalA a)) ∧ ∀ x, x ∈ l → ∃ r, opR S C x = some r
  | [], rs, _, h => by cases h; exact ⟨.nil, fun x hx => by cases hx⟩
  | x :: l, rs, H, h => by
    unfold rds at h
    cases hx : opR S C x with
    | none => rw [hx] at h; cases h
    | some r =>
      cases hl : rds S C l with
      | none => rw [hx, hl] at h; cases h
      | some rs' =>
        rw [hx, hl] at h; cases h
        obtain ⟨h1, h2⟩ := rds_ok (fun y hy => H y (by simp [hy])) hl
        refine ⟨.cons (H x (by simp) r hx) h1, fun y hy => ?_⟩
        rcases List.mem_cons.1 hy with rfl | hy
        · exact ⟨r, hx⟩
        · exact h2 y hy

variable {L : Pg} {o : Oper} (H : ∀ x, x ∈ o.op.operands.toList → Hop μ S C env tm a x)
include H

theorem gen_inv {c : Cmd} (h : gen S C o.op o.type = some c) : c = .gen o.op o.type S C ∧ ∀ x, x ∈ o.op.operands.toList → VR μ (evC S C env tm x) (evalA a x) := by
  unfold gen at h
  cases hk : okGen S C o.op with
  | false => rw [hk] at h; cases h
  | true =>
    rw [hk] at h; cases h
    unfold okGen at hk
    cases hr : rds S C o.op.operands.toList with
    | none => rw [hr] at hk; cases hk
    | some rs =>
      obtain ⟨_, h2⟩ := rds_ok H hr
      exact ⟨rfl, fun x hx => let ⟨r, hr⟩ := h2 x hx; (H x hx).evC hr⟩

variable (hL : LOk L) {st : ISt} {w : World} (hW : WR μ st w)
include hL hW

theorem gen_ok {c : Cmd} (h : gen S C o.op o.type = some c) : Out μ st L.P w (doCmd c L env tm st) ((execOp (evalA a) o).run L.P w) := by
  obtain ⟨rfl, h2⟩ := gen_inv H h
  exact iop_out hL hW h2

theorem genP_ok {c : Cmd} (h : gen S C o.op o.type = some c) (hc : cls o.op = .p ∨ cls o.op = .q) : OutP μ st L.P w (doCmd c L env tm st) ((execOp (evalA a) o).run L.P w) := by
  obtain ⟨rfl, h2⟩ := gen_inv H h
  exact iopP_out hL hW hc h2

theorem compOpP_ok {c : Cmd} (h : compOp L S C o.op o.type = some c) (hcl : cls o.op = .p ∨ cls o.op = .q) : OutP μ st L.P w (doCmd c L env tm st) ((execOp (evalA a) o).run L.P w) := by
  obtain ⟨dst, op, ty, pos, after, guard⟩ := o
  have gen' : ∀ {c}, gen S C op ty = some c → OutP μ st L.P w (doCmd c L env tm st) ((execOp (evalA a) ⟨dst, op, ty, pos, after, guard⟩).run L.P w) :=
    fun h => genP_ok (o := ⟨dst, op, ty, pos, after, guard⟩) H hL hW h hcl
  have one : ∀ {x : Operand} {f : Rd → Cmd}, (match opR S C x with | some r => some (f r) | none => none) = some c → ∃ r, opR S C x = some r ∧ c = f r := by
    intro x f h
    cases hx : opR S C x with
    | none => rw [hx] at h; cases h
    | some r => rw [hx] at h; cases h; exact ⟨r, rfl, rfl⟩
  cases op with
  | move x => obtain ⟨r, hx, rfl⟩ := one (f := .mv) h; exact OutP.pure hW rfl (H x (by simp [Op.operands]) _ hx)
  | assign x => obtain ⟨r, hx, rfl⟩ := one (f := .mv) h; exact OutP.pure hW rfl (H x (by simp [Op.operands]) _ hx)
  | nilCheck x =>
    obtain ⟨r, hx, rfl⟩ := one (f := .nil) h
    refine iNil_out hW (H x (by simp [Op.operands]) _ hx) ?_
    intro y hy hxy
    simp only [execOp, hxy]
    rcases hy with ⟨a, rfl⟩ | ⟨t, v, rfl⟩ | ⟨f, a, b, rfl, hf⟩
    · rfl
    · rfl
    · cases f <;> first | exact absurd rfl (hf _) | rfl
  | extract x i => obtain ⟨r, hx, rfl⟩ := one (f := .ext i) h; exact iExt_out hW (H x (by simp [Op.operands]) _ hx)
  | load t x =>
    simp only [compOp] at h
    split at h
    · rename_i x' ha hx
      cases h
      show OutP μ st L.P w (iLoad1 _ st) _
      rw [iLoad1_eq ha]
      exact iLoad_out hL hW (H x (by simp [Op.operands]) _ hx)
    · exact gen' h
  | fieldAddr s x f =>
    simp only [compOp] at h
    split at h
    · rename_i n x' ho hx
      cases h
      have := iFieldAddr_out (s := s) (f := f) hL hW (H x (by simp [Op.operands]) _ hx)
      unfold iFieldAddr at this
      rw [ho] at this
      exact this
    · cases h
  | binOp op t x y p =>
    simp only [compOp] at h
    split at h
    · rename_i x' y' hx hy
      cases h
      exact iBin_out hL hW (H x (by simp [Op.operands]) _ hx) (H y (by simp [Op.operands]) _ hy)
    · cases h
  | pick c' x y =>
    simp only [compOp] at h
    split at h
    · rename_i c2 x' y' hc hx hy
      cases h
      exact iPick_out hW (H c' (by simp [Op.operands]) _ hc) (H x (by simp [Op.operands]) _ hx) (H y (by simp [Op.operands]) _ hy)
    · cases h
  | indexAddr t x i =>
    simp only [compOp] at h
    split at h
    · rename_i x' i' hx hi
      have := iIaddr_out (t := t) hL hW (H x (by simp [Op.operands]) _ hx) (H i (by simp [Op.operands]) _ hi)
      unfold iIaddr at this
      split at h
      · rename_i elem hu
        rw [hu] at this
        simp only at this
        split at h
        · rename_i k hs
          cases h
          rw [hs] at this
          exact this
        · cases h
      · rename_i len elem hu
        rw [hu] at this
        simp only at this
        split at h
        · rename_i k hs
          cases h
          rw [hs] at this
          exact this
        · cases h
      · cases h
    · cases h
  | call cc =>
    simp only [compOp] at h
    split at h
    · rename_i f hcal; simp [cls, hcal] at hcl
    · rename_i hcal
      split at h
      · rename_i t tr x xr hts hxs
        split at h
        · rename_i e hu
          cases h
          obtain ⟨h1, h2⟩ := rds_ok (fun y hy => H y (by simp [Op.operands, Call.operands, hcal]; simp at hy; exact hy)) hxs
          have ht : cc.argTypes[0]? = some t := by rw [← Array.getElem?_toList, hts]; rfl
          cases hargs : cc.args.toList with
          | nil => rw [hargs] at h1; cases h1
          | cons y yr =>
            rw [hargs] at h1
            cases h1 with
            | cons hx _ =>
              have ha : (cc.args.map (evalA a))[0]? = some (evalA a y) := by
                rw [← Array.getElem?_toList, Array.toList_map, hargs]; rfl
              have hrun := lenV_out (ty := ty) hL hW ht ha hx
              show OutP μ st L.P w (iLenS (evR x env tm) st) _
              have hex : ((execOp (evalA a) ⟨dst, .call cc, ty, pos, after, guard⟩).run L.P w) = ((do let v ← Builtin.len_ cc.argTypes ty (cc.args.map (evalA a)); pure (.value v) : Sem Next).run L.P w) := by
                simp [execOp, resolve, hcal, Go.invoke, Go.builtin]
              rw [hex]
              cases hv : evR x env tm with
              | slice b n c =>
                rw [hv] at hrun
                unfold lenV at hrun
                rw [hu] at hrun
                exact hrun
              | _ => trivial
        · exact gen' h
      · cases h
    · exact gen' h
  | alloc t => simp [cls] at hcl
  | box t x => simp [cls] at hcl
  | store t x y => simp [cls] at hcl
  | _ => exact gen' h

theorem compOp_ok {c : Cmd} (h : compOp L S C o.op o.type = some c) : Out μ st L.P w (doCmd c L env tm st) ((execOp (evalA a) o).run L.P w) := by
  by_cases hcl : cls o.op = .p ∨ cls o.op = .q
  · exact (compOpP_ok H hL hW h hcl).out hW
  obtain ⟨dst, op, ty, pos, after, guard⟩ := o
  have gen' : ∀ {c}, gen S C op ty = some c → Out μ st L.P w (doCmd c L env tm st) ((execOp (evalA a) ⟨dst, op, ty, pos, after, guard⟩).run L.P w) :=
    fun h => gen_ok (o := ⟨dst, op, ty, pos, after, guard⟩) H hL hW h
  have one : ∀ {x : Operand} {f : Rd → Cmd}, (match opR S C x with | some r => some (f r) | none => none) = some c → ∃ r, opR S C x = some r ∧ c = f r := by
    intro x f h
    cases hx : opR S C x with
    | none => rw [hx] at h; cases h
    | some r => rw [hx] at h; cases h; exact ⟨r, rfl, rfl⟩
  cases op with
  | box t x => obtain ⟨r, hx, rfl⟩ := one (f := .box t) h; exact iBox_out hW (H x (by simp [Op.operands]) _ hx)
  | store t x y =>
    simp only [compOp] at h
    split at h
    · rename_i x' y' ha hs hx hy
      cases h
      show Out μ st L.P w (iStore1 _ _ st) _
      rw [iStore1_eq ha hs]
      exact iStore_out hL hW (H x (by simp [Op.operands]) _ hx) (H y (by simp [Op.operands]) _ hy)
    · exact gen' h
  | call cc =>
    simp only [compOp] at h
    split at h
    · rename_i f hcal
      split at h
      · rename_i F xs hf hxs
        split at h
        · rename_i body hb
          cases h
          obtain ⟨h1, h2⟩ := rds_ok (fun y hy => H y (by simp [Op.operands, Call.operands, hcal]; simp at hy; exact .inr hy)) hxs
          have hP := hL.fn _ _ hf
          have hnm : ¬ F.name = "runtime.NumGoroutine" := by have := hL.named _ _ hP; simpa using this
          refine ⟨cc.args.map (evalA a), ?_, by rw [Array.toList_map]; exact h1, rfl⟩
          simp [execOp, resolve, hcal, evalA, Deferred.ofValue, Go.invoke, Go.callFunc, hP, hnm, hb]
        · exact gen' h
      · cases h
    · rename_i hcal; exact absurd (.inr (by simp [cls, hcal])) hcl
    · exact gen' h
  | move x => exact absurd (.inl rfl) hcl
  | assign x => exact absurd (.inl rfl) hcl
  | nilCheck x => exact absurd (.inl rfl) hcl
  | extract x i => exact absurd (.inl rfl) hcl
  | load t x => exact absurd (.inr rfl) hcl
  | fieldAddr s x f => exact absurd (.inl rfl) hcl
  | binOp op t x y p => exact absurd (.inl rfl) hcl
  | pick c' x y => exact absurd (.inl rfl) hcl
  | indexAddr t x i => exact absurd (.inl rfl) hcl
  | _ => exact gen' h

end
end Go.Ideal

/-
One step of the machine, in a frame of any kind.
-/
namespace Go.Ideal
open Go

/-- a frame as it runs -/
def fr (b : Frame) (a : Act) (todo : List Go.Item) : Frame := { b with tmps := a.tmps, defers := a.defers, todo := todo, mode := .run }

theorem fr_eval (b : Frame) (a : Act) (todo : List Go.Item) : (fr b a todo).eval = evalA a.tmps := (evalA_frame _).symm

section
variable {P : Program} {b : Frame} {a : Act} {k : List Go.Item} {cs : List Frame} {w : World}

theorem go_skip : step P (lone (fr b a (.code .skip :: k)) cs w) = .next (lone (fr b a k) cs w) := step_lone_go (by simp [stepG, stepG.exec, fr])
theorem go_label {l : Nat} : step P (lone (fr b a (.code (.label l) :: k)) cs w) = .next (lone (fr b a k) cs w) := step_lone_go (by simp [stepG, stepG.exec, fr])
theorem go_inBlock {id : Nat} : step P (lone (fr b a (.inBlock id :: k)) cs w) = .next (lone (fr b a k) cs w) := step_lone_go (by simp [stepG, stepG.exec, fr])
theorem go_inScope {c : Code} : step P (lone (fr b a (.inScope c :: k)) cs w) = .next (lone (fr b a k) cs w) := step_lone_go (by simp [stepG, stepG.exec, fr])
theorem go_seq {x y : Code} : step P (lone (fr b a (.code (.seq x y) :: k)) cs w) = .next (lone (fr b a (.code x :: .code y :: k)) cs w) := step_lone_go (by simp [stepG, stepG.exec, fr])
theorem go_block {id : Nat} {c : Code} : step P (lone (fr b a (.code (.block id c) :: k)) cs w) = .next (lone (fr b a (.code c :: .inBlock id :: k)) cs w) := step_lone_go (by simp [stepG, stepG.exec, fr])
theorem go_loop {c : Code} : step P (lone (fr b a (.code (.loop c) :: k)) cs w) = .next (lone (fr b a (.code c :: .inLoop c :: k)) cs w) := step_lone_go (by simp [stepG, stepG.exec, fr])
theorem go_inLoop {c : Code} : step P (lone (fr b a (.inLoop c :: k)) cs w) = .next (lone (fr b a (.code c :: .inLoop c :: k)) cs w) := step_lone_go (by simp [stepG, stepG.exec, fr])
theorem go_scope {c : Code} : step P (lone (fr b a (.code (.scope c) :: k)) cs w) = .next (lone (fr b a (.code c :: .inScope c :: k)) cs w) := step_lone_go (by simp [stepG, stepG.exec, fr])
theorem go_exit {id : Nat} {k' : List Go.Item} (h : exitTo id k = some k') : step P (lone (fr b a (.code (.exit id) :: k)) cs w) = .next (lone (fr b a k') cs w) :=
  step_lone_go (by simp [stepG, stepG.exec, fr, h])
theorem go_goto {l : Nat} {k' : List Go.Item} (h : gotoIn l k = some k') : step P (lone (fr b a (.code (.goto l) :: k)) cs w) = .next (lone (fr b a k') cs w) :=
  step_lone_go (by simp [stepG, stepG.exec, fr, h])
theorem go_cond {c : Operand} {x y : Code} {t : Bool} (h : evalA a.tmps c = .bool t) : step P (lone (fr b a (.code (.cond c x y) :: k)) cs w) = .next (lone (fr b a (.code (if t then x else y) :: k)) cs w) :=
  step_lone_go (by
    have := fr_eval b a (.code (.cond c x y) :: k)
    simp only [fr] at this
    simp [stepG, stepG.exec, fr, this, h])

theorem go_region {id : Nat} {ops : Array Oper} : step P (lone (fr b a (.code (.region id ops false) :: k)) cs w) = .next (lone (fr b a (.inRegion ops (List.range ops.size) :: k)) cs w) :=
  step_lone_go (by simp [stepG, stepG.exec, fr])
theorem go_draw {id : Nat} {ops : Array Oper} : ∃ t n, step P (lone (fr b a (.code (.region id ops true) :: k)) cs w) = .next (lone (fr b a (.inRegion ops (Region.schedule (P.follows .mixedOrders) ops t) :: k)) cs { w with drawn := n }) :=
  ⟨w.tape w.drawn (.order b.fn id), w.drawn + 1, step_lone_go (by simp [stepG, stepG.exec, fr, choose, Sem.run, Question.forced, Question.cut])⟩
theorem go_endRegion {ops : Array Oper} : step P (lone (fr b a (.inRegion ops [] :: k)) cs w) = .next (lone (fr b a k) cs w) := step_lone_go (by simp [stepG, stepG.exec, fr])

theorem fr_finish (ops : Array Oper) (i : Nat) (rest : List Nat) (v : Value) :
    (fr b a (.inRegion ops (i :: rest) :: k)).finish v = fr b (a.put ((ops[i]?).bind (·.dst)) v) (.inRegion ops rest :: k) := by
  cases h : (ops[i]?).bind (·.dst) <;> simp [Frame.finish, fr, Act.put, h]

variable {ops : Array Oper} {i : Nat} {rest : List Nat} {o : Oper}

/-- an operation that is not wanted -/
theorem go_unwanted (ho : ops[i]? = some o) (hw : Region.wanted o (yielded ops a.tmps) = false) :
    step P (lone (fr b a (.inRegion ops (i :: rest) :: k)) cs w) = .next (lone (fr b (a.put o.dst undef) (.inRegion ops rest :: k)) cs w) := by
  refine step_lone_go ?_
  have hf := fr_finish (b := b) (a := a) (k := k) ops i rest undef
  rw [ho] at hf
  simp only [Option.bind_some] at hf
  rw [← hf]
  simp [stepG, stepG.exec, fr, ho, hw]

/-- what comes of an operation that is wanted -/
def After (P : Program) (b : Frame) (a : Act) (k : List Go.Item) (cs : List Frame) (ops : Array Oper) (i : Nat) (rest : List Nat) (o : Oper) : Result Next → Machine → Prop
  | .ok (.value v) w', m => m = lone (fr b (a.put o.dst v) (.inRegion ops rest :: k)) cs w'
  | .ok .skip w', m => m = lone (fr b (a.put o.dst undef) (.inRegion ops rest :: k)) cs w'
  | .ok (.defer d) w', m => m = lone (fr b ({ a with defers := d :: a.defers }.put o.dst undef) (.inRegion ops rest :: k)) cs w'
  | .ok (.enter f args) w', m => m = lone (Frame.enter P f args .normal) (fr b a (.inRegion ops (i :: rest) :: k) :: cs) w'
  | .ok (.round l f tmps assign body) w', m => m = lone (Frame.round l f tmps assign body .normal) (fr b a (.inRegion ops (i :: rest) :: k) :: cs) w'
  | _, _ => True

theorem go_wanted (ho : ops[i]? = some o) (hw : Region.wanted o (yielded ops a.tmps) = true) (hd : b.roundOf = none ∨ ∀ c, o.op ≠ .defer c) {nx : Next} {w' : World}
    (hr : (execOp (evalA a.tmps) o).run P w = .ok nx w') (hn : match nx with | .value _ | .skip | .defer _ | .enter .. | .round .. => True | _ => False) :
    ∃ m, step P (lone (fr b a (.inRegion ops (i :: rest) :: k)) cs w) = .next m ∧ After P b a k cs ops i rest o (.ok nx w') m := by
  have hf := fun v => fr_finish (b := b) (a := a) (k := k) ops i rest v
  simp only [ho, Option.bind_some] at hf
  have hev := fr_eval b a (.inRegion ops (i :: rest) :: k)
  simp only [fr] at hev
  have hst : (stepG P true { frame := fr b a (.inRegion ops (i :: rest) :: k), callers := cs, status := .running, dying := none } w) =
      stepG.apply P true (fr b a (.inRegion ops (i :: rest) :: k)) cs none (execOp (evalA a.tmps) o) w := by
    simp only [stepG, fr, stepG.exec, ho, Option.map_some, hw, Option.getD_some, if_true, stepG.oper, Frame.oper?, hev]
    split
    · rename_i l c h1 h2
      rcases hd with h | h
      · rw [h] at h1; cases h1
      · exact absurd h2 (h c)
    · rfl
  cases nx with
  | value v =>
    refine ⟨_, step_lone_go ?_, rfl⟩
    rw [← hf v, hst]
    simp [stepG.apply, hr]
  | skip =>
    refine ⟨_, step_lone_go ?_, rfl⟩
    rw [← hf undef, hst]
    simp [stepG.apply, hr]
  | defer d =>
    refine ⟨_, step_lone_go ?_, rfl⟩
    have hf2 := fr_finish (b := b) (a := { a with defers := d :: a.defers }) (k := k) ops i rest undef
    simp only [ho, Option.bind_some] at hf2
    rw [← hf2, hst]
    simp [stepG.apply, hr, fr]
  | enter f args =>
    refine ⟨_, step_lone_go ?_, rfl⟩
    rw [hst]
    simp [stepG.apply, hr, fr]
  | round l f tmps assign body =>
    refine ⟨_, step_lone_go ?_, rfl⟩
    rw [hst]
    simp [stepG.apply, hr, fr]
  | _ => exact hn.elim

end
end Go.Ideal

/-
What is known of the slots, kept from operation to operation.
-/
namespace Go.Ideal
open Go

theorem lives_lt {S t : Nat} (h : lives S t = true) : t < Nat.log2 S := by
  unfold lives at h
  cases hb : Nat.blt t (Nat.log2 S) with
  | true => exact blt_true.1 hb
  | false => rw [hb] at h; cases h

theorem put_tmps (a : Act) (o : Option Tmp) (v : Value) : (a.put o v).tmps = match o with | some d => a.tmps.setIfInBounds d v | none => a.tmps := by
  cases o <;> rfl

theorem put_defers (a : Act) (o : Option Tmp) (v : Value) : (a.put o v).defers = a.defers := by
  cases o <;> rfl

theorem getD_set {a : Array Value} {d t : Nat} {v : Value} (hd : d < a.size) : (a.setIfInBounds d v).getD t undef = if t = d then v else a.getD t undef := by
  by_cases h : t = d
  · subst h; rw [if_pos rfl]; simp [Array.getD_eq_getD_getElem?, hd]
  · rw [if_neg h]
    simp only [Array.getD_eq_getD_getElem?]
    rw [Array.getElem?_setIfInBounds_ne (Ne.symm h)]

section
variable {μ : Map} {S : Nat} {C : Cst} {env : List Value} {tm : T Value} {a : Array Value}

theorem FR.set {d : Tmp} {v v' : Value} (h : FR μ S tm a) (hd : d < Nat.log2 S) (hv : VR μ v v') : FR μ S (setV tm d v) (a.setIfInBounds d v') := by
  refine ⟨by simpa using h.1, fun t ht => ?_⟩
  have hda : d < a.size := Nat.lt_of_lt_of_le hd h.1
  rw [getD_set hda, getV_setV]
  split
  · exact hv
  · exact h.2 t ht

theorem FR.skip {d : Tmp} {v' : Value} (h : FR μ S tm a) (hd : lives S d = false) (hd2 : d < Nat.log2 S) : FR μ S tm (a.setIfInBounds d v') := by
  refine ⟨by simpa using h.1, fun t ht => ?_⟩
  have hda : d < a.size := Nat.lt_of_lt_of_le hd2 h.1
  rw [getD_set hda]
  split
  · rename_i h1; subst h1; rw [hd] at ht; cases ht
  · exact h.2 t ht

/-- the value of an alias, one value further on -/
theorem alias_push (v : Value) {src : Src} (hp : ∀ p, src = .lv p → p < C.d) {r' : Rd} {am' : T Src} {vr' : T Nat} (h : rdOf ⟨am', vr', Nat.succ C.d⟩ src = some r') : ∃ r, rdOf C src = some r ∧ evR r' (v :: env) tm = evR r env tm := by
  cases src with
  | no => cases h
  | lv p =>
    have := hp p rfl
    refine ⟨_, rfl, ?_⟩
    cases h
    show nthU (v :: env) (Nat.sub (Nat.sub (Nat.succ C.d) 1) p) = nthU env (Nat.sub (Nat.sub C.d 1) p)
    rw [nthU_eq, nthU_eq]
    have e : Nat.sub (Nat.sub (Nat.succ C.d) 1) p = Nat.sub (Nat.sub C.d 1) p + 1 := by
      show C.d + 1 - 1 - p = C.d - 1 - p + 1
      omega
    rw [e]; rfl
  | var t ver => exact ⟨_, rfl, by cases h; rfl⟩
  | con v => exact ⟨_, rfl, by cases h; rfl⟩

theorem alias_set {d : Tmp} {x : Value} {src : Src} (hd : ∀ t ver, src = .var t ver → t ≠ d) {r : Rd} (h : rdOf C src = some r) : evR r env (setV tm d x) = evR r env tm := by
  cases src with
  | no => cases h
  | lv p => cases h; rfl
  | var t ver =>
    cases h
    show getV (setV tm d x) t = getV tm t
    rw [getV_setV, if_neg (hd t ver rfl)]
  | con v => cases h; rfl

theorem getN_bump (C : Cst) (d t : Nat) : getN (bump C d) t = if t = d then getN C.vr d + 1 else getN C.vr t := getN_setN _ _ _ _

/-- an alias that is valid after slot d was counted on: it is valid before, and does not speak of d -/
theorem valid_bump {am' : T Src} {n : Nat} {d : Tmp} {src : Src} (ho : ∀ t' v, src = .var t' v → lives S t' = true ∧ v ≤ getN C.vr t') (h : valid ⟨am', bump C d, n⟩ src = true) :
    valid C src = true ∧ ∀ t ver, src = .var t ver → t ≠ d := by
  cases src with
  | no => cases h
  | lv p => exact ⟨rfl, fun t ver h => by cases h⟩
  | var t ver =>
    have h0 := (ho t ver rfl).2
    have h1 := Nat.eq_of_beq_eq_true h
    rw [getN_bump] at h1
    split at h1
    · rename_i he; subst he; omega
    · rename_i hne
      refine ⟨?_, fun t' v' h => by cases h; exact hne⟩
      show Nat.beq (getN C.vr t) ver = true
      rw [h1]; simp
  | con v => exact ⟨rfl, fun t ver h => by cases h⟩

/-- a value is made, and put into no slot -/
theorem Inv.push0 (I : Inv μ S C env tm a) (v : Value) : Inv μ S ⟨C.am, C.vr, Nat.succ C.d⟩ (v :: env) tm a where
  len := by simp [I.len]
  fr := I.fr
  al := by
    intro t r hv hr
    obtain ⟨r0, h1, h2⟩ := alias_push (env := env) (tm := tm) v (fun p h => I.pos t p h) hr
    rw [h2]
    exact I.al t r0 (by revert hv; cases getA C.am t <;> exact id) h1
  old := I.old
  pos := fun t p h => Nat.lt_succ_of_lt (I.pos t p h)
  inn := I.inn

theorem lives_of_pos {d : Tmp} (h : d < Nat.log2 S) (I : FR μ S tm a) : d < a.size := Nat.lt_of_lt_of_le h I.1

theorem rdOf_d {C C' : Cst} (h : C'.d = C.d) (src : Src) : rdOf C' src = rdOf C src := by
  cases src <;> simp [rdOf, h]

/-- a value is made for a slot that does not live -/
theorem Inv.push1 (I : Inv μ S C env tm a) {d : Tmp} (hd : d < Nat.log2 S) (hl : lives S d = false) {v v' : Value} (hv : VR μ v v') : Inv μ S ⟨setA C.am d (.lv C.d), C.vr, Nat.succ C.d⟩ (v :: env) tm (a.setIfInBounds d v') where
  len := by simp [I.len]
  fr := I.fr.skip hl hd
  al := by
    intro t r h1 h2
    simp only [getA_setA] at h1 h2
    rw [getD_set (lives_of_pos hd I.fr)]
    by_cases ht : t = d
    · rw [if_pos ht] at h2
      rw [if_pos ht]
      cases h2
      show VR μ (nthU (v :: env) (Nat.sub (Nat.sub (Nat.succ C.d) 1) C.d)) v'
      have e : Nat.sub (Nat.sub (Nat.succ C.d) 1) C.d = 0 := by show C.d + 1 - 1 - C.d = 0; omega
      rw [e]; exact hv
    · rw [if_neg ht] at h1 h2
      rw [if_neg ht]
      obtain ⟨r0, h3, h4⟩ := alias_push (env := env) (tm := tm) v (fun p h => I.pos t p h) h2
      rw [h4]
      exact I.al t r0 (by revert h1; cases getA C.am t <;> exact id) h3
  old := by
    intro t t' ver h
    simp only [getA_setA] at h
    split at h
    · cases h
    · exact I.old t t' ver h
  pos := by
    intro t p h
    simp only [getA_setA] at h
    split at h
    · cases h; exact Nat.lt_succ_self _
    · exact Nat.lt_succ_of_lt (I.pos t p h)
  inn := by
    intro t h
    simp only [getA_setA] at h
    split at h
    · rename_i ht; rw [ht]; exact hd
    · exact I.inn t h

/-- a value is made for a slot that lives -/
theorem Inv.keep (I : Inv μ S C env tm a) {d : Tmp} (hd : d < Nat.log2 S) {v v' : Value} (hv : VR μ v v') : Inv μ S ⟨setA C.am d (.lv C.d), bump C d, Nat.succ C.d⟩ (v :: env) (setV tm d v) (a.setIfInBounds d v') where
  len := by simp [I.len]
  fr := I.fr.set hd hv
  al := by
    intro t r h1 h2
    simp only [getA_setA] at h1 h2
    rw [getD_set (lives_of_pos hd I.fr)]
    by_cases ht : t = d
    · rw [if_pos ht] at h2
      rw [if_pos ht]
      cases h2
      show VR μ (nthU (v :: env) (Nat.sub (Nat.sub (Nat.succ C.d) 1) C.d)) v'
      have e : Nat.sub (Nat.sub (Nat.succ C.d) 1) C.d = 0 := by show C.d + 1 - 1 - C.d = 0; omega
      rw [e]; exact hv
    · rw [if_neg ht] at h1 h2
      rw [if_neg ht]
      obtain ⟨h5, h6⟩ := valid_bump (S := S) (fun t' ver h => I.old t t' ver h) h1
      obtain ⟨r0, h3, h4⟩ := alias_push (env := env) (tm := setV tm d v) v (fun p h => I.pos t p h) h2
      rw [h4, alias_set h6 h3]
      exact I.al t r0 h5 h3
  old := by
    intro t t' ver h
    simp only [getA_setA] at h
    split at h
    · cases h
    · obtain ⟨h1, h2⟩ := I.old t t' ver h
      refine ⟨h1, ?_⟩
      rw [getN_bump]; split
      · rename_i he; subst he; omega
      · exact h2
  pos := by
    intro t p h
    simp only [getA_setA] at h
    split at h
    · cases h; exact Nat.lt_succ_self _
    · exact Nat.lt_succ_of_lt (I.pos t p h)
  inn := by
    intro t h
    simp only [getA_setA] at h
    split at h
    · rename_i ht; rw [ht]; exact hd
    · exact I.inn t h

theorem opS_old (I : Inv μ S C env tm a) {x : Operand} : (∀ t' ver, opS S C x = .var t' ver → lives S t' = true ∧ ver ≤ getN C.vr t') ∧ (∀ p, opS S C x = .lv p → p < C.d) := by
  cases x with
  | tmp t =>
    show (∀ t' ver, slotS S C t = .var t' ver → _) ∧ (∀ p, slotS S C t = .lv p → _)
    unfold slotS
    cases hv : valid C (getA C.am t) with
    | true => exact ⟨fun t' ver h => I.old t t' ver h, fun p h => I.pos t p h⟩
    | false =>
      simp only
      cases hl : lives S t with
      | true => exact ⟨fun t' ver h => (by cases h; exact ⟨hl, Nat.le_refl _⟩), fun p h => (by cases h)⟩
      | false => exact ⟨fun t' ver h => (by cases h), fun p h => (by cases h)⟩
  | const v =>
    unfold opS
    cases hz : okZ v <;> exact ⟨fun t' ver h => (by simp only [hz] at h; cases h), fun p h => (by simp only [hz] at h; cases h)⟩
  | global g =>
    unfold opS
    cases hb : Nat.blt g NG <;> exact ⟨fun t' ver h => (by simp only [hb] at h; cases h), fun p h => (by simp only [hb] at h; cases h)⟩
  | func f => exact ⟨fun t' ver h => (by cases h), fun p h => (by cases h)⟩

/-- a slot that lives takes a value over -/
theorem Inv.setL (I : Inv μ S C env tm a) {d : Tmp} (hd : d < Nat.log2 S) {x : Operand} {r : Rd} (hr : rdOf C (opS S C x) = some r) {v' : Value} (hv : VR μ (evR r env tm) v') :
    Inv μ S ⟨setA C.am d (opS S C x), bump C d, C.d⟩ env (setV tm d (evR r env tm)) (a.setIfInBounds d v') where
  len := I.len
  fr := I.fr.set hd hv
  al := by
    intro t r0 h1 h2
    simp only [getA_setA] at h1 h2
    replace h2 := (rdOf_d (C := C) (C' := ⟨_, _, C.d⟩) rfl _).symm.trans h2
    rw [getD_set (lives_of_pos hd I.fr)]
    by_cases ht : t = d
    · rw [if_pos ht] at h1 h2
      rw [if_pos ht]
      rw [hr] at h2; cases h2
      obtain ⟨_, h6⟩ := valid_bump (S := S) (opS_old I).1 h1
      rw [alias_set h6 hr]
      exact hv
    · rw [if_neg ht] at h1 h2
      rw [if_neg ht]
      obtain ⟨h5, h6⟩ := valid_bump (S := S) (fun t' ver h => I.old t t' ver h) h1
      rw [alias_set h6 h2]
      exact I.al t r0 h5 h2
  old := by
    have key : ∀ t' ver, (lives S t' = true ∧ ver ≤ getN C.vr t') → lives S t' = true ∧ ver ≤ getN (bump C d) t' := by
      rintro t' ver ⟨h1, h2⟩
      refine ⟨h1, ?_⟩
      rw [getN_bump]; split
      · rename_i he; subst he; omega
      · exact h2
    intro t t' ver h
    simp only [getA_setA] at h
    split at h
    · exact key _ _ ((opS_old I).1 t' ver h)
    · exact key _ _ (I.old t t' ver h)
  pos := by
    intro t p h
    simp only [getA_setA] at h
    split at h
    · exact (opS_old I).2 p h
    · exact I.pos t p h
  inn := by
    intro t h
    simp only [getA_setA] at h
    split at h
    · rename_i ht; rw [ht]; exact hd
    · exact I.inn t h

/-- a slot that does not live takes a value over -/
theorem Inv.setN (I : Inv μ S C env tm a) {d : Tmp} (hd : d < Nat.log2 S) (hl : lives S d = false) {x : Operand} {r : Rd} (hr : rdOf C (opS S C x) = some r) {v' : Value} (hv : VR μ (evR r env tm) v') :
    Inv μ S ⟨setA C.am d (opS S C x), C.vr, C.d⟩ env tm (a.setIfInBounds d v') where
  len := I.len
  fr := I.fr.skip hl hd
  al := by
    intro t r0 h1 h2
    simp only [getA_setA] at h1 h2
    replace h2 := (rdOf_d (C := C) (C' := ⟨_, _, C.d⟩) rfl _).symm.trans h2
    rw [getD_set (lives_of_pos hd I.fr)]
    by_cases ht : t = d
    · rw [if_pos ht] at h1 h2
      rw [if_pos ht]
      rw [hr] at h2; cases h2
      exact hv
    · rw [if_neg ht] at h1 h2
      rw [if_neg ht]
      exact I.al t r0 (by revert h1; cases getA C.am t <;> exact id) h2
  old := by
    intro t t' ver h
    simp only [getA_setA] at h
    split at h
    · exact (opS_old I).1 t' ver h
    · exact I.old t t' ver h
  pos := by
    intro t p h
    simp only [getA_setA] at h
    split at h
    · exact (opS_old I).2 p h
    · exact I.pos t p h
  inn := by
    intro t h
    simp only [getA_setA] at h
    split at h
    · rename_i ht; rw [ht]; exact hd
    · exact I.inn t h

end
end Go.Ideal

/-
One operation of a region, over the ideal heap and in the machine.
-/
namespace Go.Ideal
open Go

inductive DsR (μ : Map) : List IDef → List Deferred → Prop where
  | nil : DsR μ [] []
  | cons {d : IDef} {d' : Deferred} {l : List IDef} {l' : List Deferred} : DfR μ d d' → DsR μ l l' → DsR μ (d :: l) (d' :: l')

theorem DsR.mono {μ μ' : Map} (h : μ.le μ') : ∀ {l : List IDef} {l' : List Deferred}, DsR μ l l' → DsR μ' l l'
  | _, _, .nil => .nil
  | _, _, .cons a b => .cons (a.mono h) (b.mono h)

/-- what a function's run over the ideal heap tells of the machine -/
def FnOk (L : Pg) (f : FuncId) (args : List Value) (st : ISt) (v : Value) (st' : ISt) : Prop :=
  ∀ μ w (args' : Array Value) kind cs, (kind = CallKind.normal ∨ kind = CallKind.deferred) → GlobOk μ → WR μ st w → VsR μ args args'.toList → ∃ μ' v' w', VR μ' v v' ∧ WR μ' st' w' ∧ Ext μ st w μ' st' w' ∧
    ∃ g : Frame, Steps L.P (lone (Frame.enter L.P f args' kind) cs w) (lone g cs w') ∧ g.fn = f ∧ g.mode = .returning ∧ g.defers = [] ∧ g.kind = kind ∧
      ∃ fn, L.P.funcs[f]? = some fn ∧ (results fn g.tmps).run L.P w' = .ok v' w'

/-- .. a round of a loop -/
def YieldOk (L : Pg) (l : Nat) (args : List Value) (st : ISt) (v : Value) (st' : ISt) : Prop :=
  ∀ μ w (args' : Array Value) x c cs, GlobOk μ → WR μ st w → VsR μ args args'.toList → μ l = some x → ∃ μ' v' w', VR μ' v v' ∧ WR μ' st' w' ∧ Ext μ st w μ' st' w' ∧
    ∃ f tmps assign body, (Instr.yield x.B args').run L.P w = .ok (.round x.B f tmps assign body) w ∧
      Steps L.P (lone (Frame.round x.B f tmps assign body .normal) (c :: cs) w) (lone (c.finish v') cs w')

/-- in which frame this is -/
def KR (μ : Map) (K : Ctx) (b : Frame) : Prop :=
  b.fn = K.fn ∧ match K.round with
    | none => b.roundOf = none
    | some l => ∃ x, μ l = some x ∧ b.roundOf = some x.B

theorem KR.mono {μ μ' : Map} (h : μ.le μ') {K : Ctx} {b : Frame} (r : KR μ K b) : KR μ' K b := by
  obtain ⟨h1, h2⟩ := r
  refine ⟨h1, ?_⟩
  cases hk : K.round with
  | none => rw [hk] at h2; exact h2
  | some l => rw [hk] at h2; obtain ⟨x, e, r⟩ := h2; exact ⟨x, h _ _ e, r⟩

theorem isB_true {v : Value} {w : Bool} (h : isB v w = true) : v = .bool w := by
  cases v with
  | bool b => cases b <;> cases w <;> first | rfl | cases h
  | _ => cases h

theorem isB_false {v : Value} {w : Bool} (h : isB v w = false) : v ≠ .bool w := by
  intro he; subst he; cases w <;> cases h

theorem VR.bool_back {μ : Map} {v : Value} {b : Bool} (h : VR μ v (.bool b)) : v = .bool b := by cases h; rfl

section
variable {L : Pg} (hL : LOk L) {μ : Map} {st : ISt} {w : World} {S : Nat} {C : Cst} {env : List Value} {tm : T Value} {a : Act}

theorem yielded_ok {ops : Array Oper} {j : Nat} {d : Tmp} (hd : dstOf ops j = some d) (H : Hop μ S C env tm a.tmps (.tmp d)) {x : Rd} (hx : rdOf C (slotS S C d) = some x) (wt : Bool) :
    (yielded ops a.tmps j == some wt) = isB (evR x env tm) wt := by
  have hv : VR μ (evR x env tm) (a.tmps.getD d undef) := H x hx
  have h1 : (ops[j]?).bind (·.dst) = some d := by
    unfold dstOf at hd
    cases ho : ops[j]? with
    | none => rw [ho] at hd; cases hd
    | some o => rw [ho] at hd; exact hd
  have h2 : yielded ops a.tmps j = match a.tmps[d]? with | some (.bool b) => some b | _ => none := by
    unfold yielded; rw [h1]; rfl
  cases hb : isB (evR x env tm) wt with
  | true =>
    have := isB_true hb
    rw [this] at hv
    have h3 := hv.bool_inv
    have h4 : a.tmps[d]? = some (.bool wt) := by
      rw [Array.getD_eq_getD_getElem?] at h3
      cases hq : a.tmps[d]? with
      | none => rw [hq] at h3; cases h3
      | some v => rw [hq] at h3; simp at h3; rw [h3]
    rw [h2, h4]; simp
  | false =>
    have hne := isB_false hb
    rw [h2]
    split
    · rename_i b0 hq
      have h3 : a.tmps.getD d undef = .bool b0 := by rw [Array.getD_eq_getD_getElem?, hq]; rfl
      rw [h3] at hv
      have := hv.bool_back
      rw [this] at hne
      have : b0 ≠ wt := fun h => hne (by rw [h])
      simp [this]
    · simp

end
end Go.Ideal

/-
One operation of a region, over the ideal heap and in the machine: joined.
-/
namespace Go.Ideal
open Go

section
variable {L : Pg} (hL : LOk L) {ih : Task → Res} (hF : ∀ f args st v st', ih (.fn f args st) = .val v st' → FnOk L f args st v st') (hY : ∀ l args st v st', ih (.yield l args st) = .val v st' → YieldOk L l args st v st')
variable {μ : Map} {st : ISt} {w : World} {S : Nat} {C : Cst} {env : List Value} {tm : T Value} {a : Act} {K : Ctx} {b : Frame} {k : List Go.Item} {cs : List Frame} {ops : Array Oper} {i : Nat} {rest : List Nat} {o : Oper}

theorem valK_ok {r : Res} {kont : Value → ISt → Res} {e : Exit} {tm' : T Value} {dfs' : List IDef} {st' : ISt} (h : valK r kont = .ok e tm' dfs' st') : ∃ v st1, r = .val v st1 ∧ kont v st1 = .ok e tm' dfs' st' := by
  cases r with
  | val v st1 => exact ⟨v, st1, rfl, h⟩
  | _ => cases h

include hF hY

/-- what an operation that is wanted comes to -/
theorem resK_wanted (ho : ops[i]? = some o) (hw : Region.wanted o (yielded ops a.tmps) = true) (hG : GlobOk μ) (hW : WR μ st w) {dfs : List IDef} (hD : DsR μ dfs a.defers) (hK : KR μ K b) {r : R}
    (hout : Out μ st L.P w r ((execOp (evalA a.tmps) o).run L.P w)) (hnd : ∀ c, o.op = .defer c → (∃ d, r = .defer d) ∨ r = .fail)
    {kont : Value → List IDef → ISt → Res} {e : Exit} {tm' : T Value} {dfs' : List IDef} {st' : ISt} (h : resK r ih K dfs st kont = .ok e tm' dfs' st') :
    ∃ v dfs1 st1 μ1 v' w1, ∃ a1 : Act, kont v dfs1 st1 = .ok e tm' dfs' st' ∧ VR μ1 v v' ∧ WR μ1 st1 w1 ∧ Ext μ st w μ1 st1 w1 ∧ DsR μ1 dfs1 a1.defers ∧ a1.tmps = a.tmps ∧
      Steps L.P (lone (fr b a (.inRegion ops (i :: rest) :: k)) cs w) (lone (fr b (a1.put o.dst v') (.inRegion ops rest :: k)) cs w1) := by
  have hdef : ∀ d, r = .defer d → K.round = none := by
    intro d hr
    subst hr
    cases hk : K.round with
    | none => rfl
    | some l =>
      change @Option.rec Nat (fun _ => Res) (kont undef (d :: dfs) st) (fun _ => .no) K.round = _ at h
      rw [hk] at h
      cases h
  have hd : r ≠ .fail → b.roundOf = none ∨ ∀ c, o.op ≠ .defer c := by
    intro hf
    cases hk : K.round with
    | none => have := hK.2; rw [hk] at this; exact .inl this
    | some l =>
      refine .inr fun c hc => ?_
      rcases hnd c hc with ⟨d, h1⟩ | h1
      · have := hdef d h1; rw [hk] at this; cases this
      · exact hf h1
  cases r with
  | fail => cases h
  | val v st1 =>
    obtain ⟨v', μ1, w1, h1, h2, h3, h4⟩ := hout
    obtain ⟨m, s1, s2⟩ := go_wanted (b := b) (k := k) (cs := cs) (rest := rest) ho hw (hd (by simp)) h1 trivial
    rw [show m = _ from s2] at s1
    exact ⟨v, dfs, st1, μ1, v', w1, a, h, h2, h3, h4, hD.mono h4.ext, rfl, .one s1⟩
  | skip st1 =>
    obtain ⟨μ1, w1, h1, h3, h4⟩ := hout
    obtain ⟨m, s1, s2⟩ := go_wanted (b := b) (k := k) (cs := cs) (rest := rest) ho hw (hd (by simp)) h1 trivial
    rw [show m = _ from s2] at s1
    exact ⟨undef, dfs, st1, μ1, undef, w1, a, h, VR.undef, h3, h4, hD.mono h4.ext, rfl, .one s1⟩
  | enter f args st1 =>
    obtain ⟨args', h1, h2, rfl⟩ := hout
    obtain ⟨v, st2, g1, g2⟩ := valK_ok h
    obtain ⟨μ1, v', w1, q1, q2, q3, q4⟩ := hF _ _ _ _ _ g1 μ w args' .normal (fr b a (.inRegion ops (i :: rest) :: k) :: cs) (.inl rfl) hG hW h2
    obtain ⟨m, s1, s2⟩ := go_wanted (b := b) (k := k) (cs := cs) (rest := rest) ho hw (hd (by simp)) h1 trivial
    rw [show m = _ from s2] at s1
    obtain ⟨g, t1, t2, t3, t4, t5, fn, t6, t7⟩ := q4
    have hlv : g.leaving L.P w1 (.returned v') := ⟨t3, t4, t5, fn, by rw [t2]; exact t6, t7⟩
    have t8 := step_leave_returned (c := fr b a (.inRegion ops (i :: rest) :: k)) (cs := cs) hlv
    rw [fr_finish, ho] at t8
    exact ⟨v, dfs, st2, μ1, v', w1, a, g2, q1, q2, q3, hD.mono q3.ext, rfl, .head s1 (t1.trans (.one t8))⟩
  | yield l args st1 =>
    obtain ⟨x, args', hx, h2, rfl, h1⟩ := hout
    obtain ⟨v, st2, g1, g2⟩ := valK_ok h
    obtain ⟨μ1, v', w1, q1, q2, q3, f, tmps, assign, body, q4, q5⟩ := hY _ _ _ _ _ g1 μ w args' x (fr b a (.inRegion ops (i :: rest) :: k)) cs hG hW h2 hx
    rw [q4] at h1
    obtain ⟨m, s1, s2⟩ := go_wanted (b := b) (k := k) (cs := cs) (rest := rest) ho hw (hd (by simp)) h1 trivial
    rw [show m = _ from s2] at s1
    have t8 := q5
    rw [fr_finish, ho] at t8
    exact ⟨v, dfs, st2, μ1, v', w1, a, g2, q1, q2, q3, hD.mono q3.ext, rfl, .head s1 t8⟩
  | defer d =>
    obtain ⟨d', h1, h2⟩ := hout
    obtain ⟨m, s1, s2⟩ := go_wanted (b := b) (k := k) (cs := cs) (rest := rest) ho hw (hd (by simp)) h1 trivial
    rw [show m = _ from s2] at s1
    have hkn := hdef d rfl
    have h' : kont undef (d :: dfs) st = .ok e tm' dfs' st' := by
      change @Option.rec Nat (fun _ => Res) (kont undef (d :: dfs) st) (fun _ => .no) K.round = _ at h
      rw [hkn] at h
      exact h
    exact ⟨undef, d :: dfs, st, μ, undef, w, { a with defers := d' :: a.defers }, h', VR.undef, hW, Ext.refl _ _ _, .cons h2 hD, rfl, .one s1⟩

omit hF hY in
theorem defer_ok {c : Cmd} {cc : Call} (h : compOp L S C o.op o.type = some c) (ho : o.op = .defer cc) : (∃ d, doCmd c L env tm st = .defer d) ∨ doCmd c L env tm st = .fail := by
  rw [ho] at h
  change gen S C (.defer cc) o.type = some c at h
  unfold gen at h
  cases hk : okGen S C (.defer cc) with
  | false => rw [hk] at h; cases h
  | true =>
    rw [hk] at h; cases h
    change (∃ d, iDefer cc (evC S C env tm) = .defer d) ∨ iDefer cc (evC S C env tm) = .fail
    unfold iDefer
    split
    · unfold deferV
      split
      · exact .inl ⟨_, rfl⟩
      · exact .inr rfl
    · exact .inr rfl

include hL

/-- what an operation comes to -/
theorem resK_op (ho : ops[i]? = some o) {c : Cmd} (hc : compG L S C ops o = some c) (hG : GlobOk μ) (hW : WR μ st w) (H : ∀ x, x ∈ o.op.operands.toList → Hop μ S C env tm a.tmps x)
    (Hg : ∀ j wt d, o.guard = some (j, wt) → dstOf ops j = some d → Hop μ S C env tm a.tmps (.tmp d)) {dfs : List IDef} (hD : DsR μ dfs a.defers) (hK : KR μ K b)
    {kont : Value → List IDef → ISt → Res} {e : Exit} {tm' : T Value} {dfs' : List IDef} {st' : ISt} (h : resK (doCmd c L env tm st) ih K dfs st kont = .ok e tm' dfs' st') :
    ∃ v dfs1 st1 μ1 v' w1, ∃ a1 : Act, kont v dfs1 st1 = .ok e tm' dfs' st' ∧ VR μ1 v v' ∧ WR μ1 st1 w1 ∧ Ext μ st w μ1 st1 w1 ∧ DsR μ1 dfs1 a1.defers ∧ a1.tmps = a.tmps ∧
      Steps L.P (lone (fr b a (.inRegion ops (i :: rest) :: k)) cs w) (lone (fr b (a1.put o.dst v') (.inRegion ops rest :: k)) cs w1) := by
  unfold compG at hc
  cases hg : o.guard with
  | none =>
    rw [hg] at hc
    have hw : Region.wanted o (yielded ops a.tmps) = true := by unfold Region.wanted; rw [hg]
    exact resK_wanted hF hY ho hw hG hW hD hK (compOp_ok H hL hW hc) (fun cc hcc => defer_ok hc hcc) h
  | some g =>
    obtain ⟨j, wt⟩ := g
    rw [hg] at hc
    simp only at hc
    cases hd : dstOf ops j with
    | none => rw [hd] at hc; cases hc
    | some d =>
      rw [hd] at hc
      simp only at hc
      cases hx : rdOf C (slotS S C d) with
      | none => rw [hx] at hc; cases hc
      | some x =>
        cases hc0 : compOp L S C o.op o.type with
        | none => rw [hx, hc0] at hc; cases hc
        | some c0 =>
          rw [hx, hc0] at hc
          cases hc
          have hy := yielded_ok hd (Hg j wt d hg hd) hx wt
          have hwant : Region.wanted o (yielded ops a.tmps) = isB (evR x env tm) wt := by unfold Region.wanted; rw [hg]; exact hy
          change resK (@Bool.rec (fun _ => R) (.skip st) (doCmd c0 L env tm st) (isB (evR x env tm) wt)) ih K dfs st kont = _ at h
          cases hb : isB (evR x env tm) wt with
          | true =>
            rw [hb] at h hwant
            exact resK_wanted hF hY ho hwant hG hW hD hK (compOp_ok H hL hW hc0) (fun cc hcc => defer_ok hc0 hcc) h
          | false =>
            rw [hb] at h hwant
            exact ⟨undef, dfs, st, μ, undef, w, a, h, VR.undef, hW, Ext.refl _ _ _, hD, rfl, .one (go_unwanted ho hwant)⟩

end
end Go.Ideal

/-
A region in the order of its text, over the ideal heap and in the machine.
-/
namespace Go.Ideal
open Go

inductive Places (ops : Array Oper) : List Nat → List Oper → Prop where
  | nil : Places ops [] []
  | cons {i : Nat} {o : Oper} {is : List Nat} {l : List Oper} : ops[i]? = some o → Places ops is l → Places ops (i :: is) (o :: l)

theorem places_drop (ops : Array Oper) : ∀ (n i : Nat), i + n = ops.size → Places ops (List.range' i n) (ops.toList.drop i)
  | 0, i, h => by
    have : ops.toList.drop i = [] := List.drop_eq_nil_of_le (by simp; omega)
    rw [this]; exact .nil
  | n + 1, i, h => by
    have hi : i < ops.size := by omega
    have : ops.toList.drop i = ops[i] :: ops.toList.drop (i + 1) := by
      rw [List.drop_eq_getElem_cons (by simpa using hi)]; simp
    rw [this, List.range'_succ]
    exact .cons (by simp [hi]) (places_drop ops n (i + 1) (by omega))

theorem places_all (ops : Array Oper) : Places ops (List.range ops.size) ops.toList := by
  have := places_drop ops ops.size 0 (by omega)
  rw [List.range_eq_range']
  simpa using this

theorem moves_some {o : Oper} {x : Operand} (h : moves o = some x) : o.guard = none ∧ ∀ (ρ : Operand → Value) (P : Program) (w : World), (execOp ρ o).run P w = .ok (.value (ρ x)) w := by
  unfold moves at h
  split at h
  · rename_i hg
    refine ⟨hg, fun ρ P w => ?_⟩
    split at h
    · rename_i y hy; cases h; simp only [execOp, hy]; rfl
    · rename_i y hy; cases h; simp only [execOp, hy]; rfl
    · cases h
  · cases h

theorem moves_nd {o : Oper} {x : Operand} (h : moves o = some x) (c : Call) : o.op ≠ .defer c := by
  unfold moves at h
  split at h
  · split at h
    · rename_i y hy; rw [hy]; simp
    · rename_i y hy; rw [hy]; simp
    · cases h
  · cases h

section
variable {L : Pg} (hL : LOk L) {ih : Task → Res} (hF : ∀ f args st v st', ih (.fn f args st) = .val v st' → FnOk L f args st v st') (hY : ∀ l args st v st', ih (.yield l args st) = .val v st' → YieldOk L l args st v st')
variable {S : Nat} {K : Ctx} {b : Frame} {k : List Go.Item} {cs : List Frame} {ops : Array Oper}
include hL hF hY

theorem run_ok : ∀ (l : List Oper) (is : List Nat) (C : Cst) (env : List Value) (tm : T Value) (dfs : List IDef) (st : ISt) (e : Exit) (tm' : T Value) (dfs' : List IDef) (st' : ISt),
    run (compL L S ops l C) L ih K env tm dfs st = .ok e tm' dfs' st' → Places ops is l → ∀ (μ : Map) (w : World) (a : Act), GlobOk μ → WR μ st w → Inv μ S C env tm a.tmps → DsR μ dfs a.defers → KR μ K b →
    e = .normal ∧ ∃ μ' w', ∃ a' : Act, WR μ' st' w' ∧ Ext μ st w μ' st' w' ∧ FR μ' S tm' a'.tmps ∧ DsR μ' dfs' a'.defers ∧
      Steps L.P (lone (fr b a (.inRegion ops is :: k)) cs w) (lone (fr b a' (.inRegion ops [] :: k)) cs w') := by
  intro l
  induction l with
  | nil =>
    intro is C env tm dfs st e tm' dfs' st' h hp μ w a hG hW I hD hK
    cases hp
    cases h
    exact ⟨rfl, μ, w, a, hW, Ext.refl _ _ _, I.fr, hD, .refl _ _⟩
  | cons o l ihl =>
    intro is C env tm dfs st e tm' dfs' st' h hp μ w a hG hW I hD hK
    cases hp with
    | cons ho hp =>
    rename_i i is
    unfold compL at h
    cases hm : moves o with
    | some x =>
      rw [hm] at h
      simp only at h
      obtain ⟨hg, hrun⟩ := moves_some hm
      have hwant : Region.wanted o (yielded ops a.tmps) = true := by unfold Region.wanted; rw [hg]
      obtain ⟨m, s1, s2⟩ := go_wanted (b := b) (k := k) (cs := cs) (rest := is) ho hwant (.inr (moves_nd hm)) (hrun (evalA a.tmps) L.P w) trivial
      rw [show m = _ from s2] at s1
      cases hdst : o.dst with
      | none => rw [hdst] at h; cases h
      | some d =>
        rw [hdst] at h s1
        simp only at h
        cases hb : Nat.blt d (Nat.log2 S) with
        | false => rw [hb] at h; cases h
        | true =>
          cases hr : rdOf C (opS S C x) with
          | none => rw [hb, hr] at h; cases h
          | some r =>
            rw [hb, hr] at h
            simp only at h
            have hd := blt_true.1 hb
            have hv : VR μ (evR r env tm) (evalA a.tmps x) := opR_ok I hG hr
            cases hl : lives S d with
            | true =>
              rw [hl] at h
              obtain ⟨h1, μ', w', a', q1, q2, q3, q4, q5⟩ := ihl is _ env _ dfs st e tm' dfs' st' h hp μ w (a.put (some d) (evalA a.tmps x)) hG hW (I.setL hd hr hv) hD hK
              exact ⟨h1, μ', w', a', q1, q2, q3, q4, .head s1 q5⟩
            | false =>
              rw [hl] at h
              obtain ⟨h1, μ', w', a', q1, q2, q3, q4, q5⟩ := ihl is _ env _ dfs st e tm' dfs' st' h hp μ w (a.put (some d) (evalA a.tmps x)) hG hW (I.setN hd hl hr hv) hD hK
              exact ⟨h1, μ', w', a', q1, q2, q3, q4, .head s1 q5⟩
    | none =>
      rw [hm] at h
      simp only at h
      cases hc : compG L S C ops o with
      | none => rw [hc] at h; cases h
      | some c =>
        rw [hc] at h
        simp only at h
        cases hdst : o.dst with
        | none =>
          rw [hdst] at h
          obtain ⟨v, dfs1, st1, μ1, v', w1, a1, g1, g2, g3, g4, g5, g6, g7⟩ := resK_op (b := b) (k := k) (cs := cs) (rest := is) hL hF hY ho hc hG hW (fun x _ => I.hop hG x) (fun _ _ d _ _ => I.hop hG (.tmp d)) hD hK h
          rw [hdst] at g7
          obtain ⟨h1, μ', w', a', q1, q2, q3, q4, q5⟩ := ihl is _ _ _ dfs1 st1 e tm' dfs' st' g1 hp μ1 w1 (a1.put none v') (hG.mono g4.ext) g3 (by rw [put_tmps, g6]; exact (I.mono g4.ext).push0 v) (by rw [put_defers]; exact g5) (hK.mono g4.ext)
          exact ⟨h1, μ', w', a', q1, g4.trans q2, q3, q4, g7.trans q5⟩
        | some d =>
          rw [hdst] at h
          simp only at h
          cases hb : Nat.blt d (Nat.log2 S) with
          | false => rw [hb] at h; cases h
          | true =>
            rw [hb] at h
            simp only at h
            have hd := blt_true.1 hb
            cases hl : lives S d with
            | true =>
              rw [hl] at h
              obtain ⟨v, dfs1, st1, μ1, v', w1, a1, g1, g2, g3, g4, g5, g6, g7⟩ := resK_op (b := b) (k := k) (cs := cs) (rest := is) hL hF hY ho hc hG hW (fun x _ => I.hop hG x) (fun _ _ d _ _ => I.hop hG (.tmp d)) hD hK h
              rw [hdst] at g7
              obtain ⟨h1, μ', w', a', q1, q2, q3, q4, q5⟩ := ihl is _ _ _ dfs1 st1 e tm' dfs' st' g1 hp μ1 w1 (a1.put (some d) v') (hG.mono g4.ext) g3 (by rw [put_tmps, g6]; exact (I.mono g4.ext).keep hd g2) (by rw [put_defers]; exact g5) (hK.mono g4.ext)
              exact ⟨h1, μ', w', a', q1, g4.trans q2, q3, q4, g7.trans q5⟩
            | false =>
              rw [hl] at h
              obtain ⟨v, dfs1, st1, μ1, v', w1, a1, g1, g2, g3, g4, g5, g6, g7⟩ := resK_op (b := b) (k := k) (cs := cs) (rest := is) hL hF hY ho hc hG hW (fun x _ => I.hop hG x) (fun _ _ d _ _ => I.hop hG (.tmp d)) hD hK h
              rw [hdst] at g7
              obtain ⟨h1, μ', w', a', q1, q2, q3, q4, q5⟩ := ihl is _ _ _ dfs1 st1 e tm' dfs' st' g1 hp μ1 w1 (a1.put (some d) v') (hG.mono g4.ext) g3 (by rw [put_tmps, g6]; exact (I.mono g4.ext).push1 hd hl g2) (by rw [put_defers]; exact g5) (hK.mono g4.ext)
              exact ⟨h1, μ', w', a', q1, g4.trans q2, q3, q4, g7.trans q5⟩

end
end Go.Ideal
