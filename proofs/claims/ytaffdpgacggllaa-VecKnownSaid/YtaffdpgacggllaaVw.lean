/- Words of the proofs about package vec: slices of bits that are read or owned; pure lists. -/
import Derived.Test.YtaffdpgacggllaaProg
import Derived.Test.YtaffdpgacggllaaWWords
import Derived.Test.YtaffdpgacggllaaWLast
import Derived.Test.YtaffdpgacggllaaWMore
import Derived.Deep.Quiet
import Derived.StillTailTactics
import Derived.Laws.CopyOwn
import Derived.Deep.RegionLaw
namespace Go.Proofs.Ytaffdpgacggllaa.V
open Go.RowKit Go.Proofs.YtaffdpgacggllaaW.PrintWords Go.Proofs.YtaffdpgacggllaaW.PrintLast Go.Proofs.YtaffdpgacggllaaW.PrintMore
set_option linter.unusedVariables false
set_option linter.unusedSimpArgs false

theorem ret_int {k : IntKind} {a b : Int} (h : a = b) : Ending.returned (.int k a) = .returned (.int k b) := by rw [h]
theorem ret_bool {a b : Bool} (h : a = b) : Ending.returned (.bool a) = .returned (.bool b) := by rw [h]
theorem info37 : (Try.prog.info? 37).map (fun i => (i.zero, i.size, i.bytes)) = some (some (.int .u8 0), 1, 1) := by kernel_rfl

def nth (xs : List Int) (k : Nat) : Int := xs.getD k 0
def Byt (xs : List Int) : Prop := ∀ x ∈ xs, 0 ≤ x ∧ x ≤ 255
theorem nth_eq (xs : List Int) (k : Nat) (hk : k < xs.length) : nth xs k = xs[k] := by
  simp [nth, List.getD_eq_getElem?_getD, List.getElem?_eq_getElem hk]
theorem Byt.nth {xs : List Int} (h : Byt xs) (k : Nat) : 0 ≤ nth xs k ∧ nth xs k ≤ 255 := by
  rcases Nat.lt_or_ge k xs.length with hk | hk
  · rw [nth_eq _ _ hk]; exact h _ (List.getElem_mem hk)
  · have : V.nth xs k = 0 := by simp [V.nth, List.getD_eq_getElem?_getD, List.getElem?_eq_none hk]
    omega
theorem Byt.nil : Byt [] := fun x h => by simp at h
theorem Byt.append {xs ys : List Int} (h : Byt xs) (k : Byt ys) : Byt (xs ++ ys) := fun x hx => by
  rcases List.mem_append.1 hx with hx | hx
  · exact h x hx
  · exact k x hx
theorem Byt.one {x : Int} (h0 : 0 ≤ x) (h1 : x ≤ 255) : Byt [x] := fun y hy => by rw [List.mem_singleton.1 hy]; exact ⟨h0, h1⟩
theorem Byt.replicate (n : Nat) {x : Int} (h0 : 0 ≤ x) (h1 : x ≤ 255) : Byt (List.replicate n x) := fun y hy => by rw [List.eq_of_mem_replicate hy]; exact ⟨h0, h1⟩
theorem Byt.set {xs : List Int} (h : Byt xs) (k : Nat) {x : Int} (h0 : 0 ≤ x) (h1 : x ≤ 255) : Byt (xs.set k x) := fun y hy => by
  rcases List.mem_or_eq_of_mem_set hy with hy | rfl
  · exact h y hy
  · exact ⟨h0, h1⟩
theorem Byt.sub {xs ys : List Int} (h : Byt xs) (k : ∀ y ∈ ys, y ∈ xs) : Byt ys := fun y hy => h y (k y hy)

/-- A slice of bits that is read. -/
structure Rd (w : World) (A : Option Addr) (xs : List Int) : Prop where
  c : Kd.C (Kd.int .u8) w A xs.length xs
  b : Byt xs
/-- A slice of bits of the call's own, in blocks from base on. -/
structure Own (w : World) (base : Nat) (v : Value) (xs : List Int) : Prop where
  r : Kd.R (Kd.int .u8) 37 w base (fun _ => True) v xs
  b : Byt xs
theorem Rd.le {w : World} {A : Option Addr} {xs : List Int} (h : Rd w A xs) : xs.length ≤ 9223372036854775807 := h.c.2.1
theorem Rd.at_ {w : World} {A : Option Addr} {xs : List Int} (h : Rd w A xs) (k : Nat) (hk : k < xs.length) : ∃ ad, A = some ad ∧ w.cell? (ad.add k) = some (.int .u8 (nth xs k)) := by
  obtain ⟨ad, e, hx⟩ := Kd.at_int h.c (k : Int) (by omega) (by omega)
  refine ⟨ad, e, ?_⟩
  simpa [rd, nth] using hx
theorem Rd.below {w w1 : World} {A : Option Addr} {xs : List Int} (h : Rd w A xs) (hb : Below w.heap.size w w1) : Rd w1 A xs := ⟨Kd.C_below h.c hb, h.b⟩
theorem Rd.nil (w : World) (A : Option Addr) : Rd w A [] := ⟨⟨rfl, by simp, fun h => absurd h (by simp)⟩, Byt.nil⟩
theorem Own.reads {w : World} {base : Nat} {v : Value} {xs : List Int} (h : Own w base v xs) : ∃ A c, v = .slice A xs.length c ∧ xs.length ≤ c ∧ Rd w A xs := by
  obtain ⟨A, c, e, hc, hr⟩ := Kd.R_reads h.r
  exact ⟨A, c, e, hc, hr, h.b⟩
theorem Own.nil (w : World) (base : Nat) : Own w base (.slice none 0 0) [] := ⟨Kd.R_nil _ _ _ _ _, Byt.nil⟩
theorem Own.below {w w1 : World} {base : Nat} {v : Value} {xs : List Int} (h : Own w base v xs) (hb : Below w.heap.size w w1) : Own w1 base v xs := ⟨Kd.R_below h.r hb, h.b⟩
theorem Own.lower {w : World} {base base' : Nat} {v : Value} {xs : List Int} (h : Own w base v xs) (hb : base' ≤ base) : Own w base' v xs := ⟨Kd.R_lower h.r hb, h.b⟩
theorem Own.alloc {w : World} {base : Nat} {v : Value} {xs : List Int} (h : Own w base v xs) (o : Obj) : Own (w.alloc o) base v xs := h.below ((Below.refl _ _).alloc (Nat.le_refl _) o)
theorem Own.form {w : World} {base : Nat} {v : Value} {xs : List Int} (h : Own w base v xs) (hp : 0 < xs.length) : ∃ g cap, v = .slice (some ⟨g, 0, none⟩) xs.length cap ∧ base ≤ g ∧ g < w.heap.size := by
  obtain ⟨g, cap, e, h1, h2, _⟩ := Kd.R_form h.r hp
  exact ⟨g, cap, e, h1, h2⟩
theorem Own.put {w : World} {base g n cap : Nat} {xs : List Int} (h : Own w base (.slice (some ⟨g, 0, none⟩) n cap) xs) (k : Nat) {x : Int} (h0 : 0 ≤ x) (h1 : x ≤ 255) :
    Own (w.setCell ⟨g, k, none⟩ (.int .u8 x)) base (.slice (some ⟨g, 0, none⟩) n cap) (xs.set k x) :=
  ⟨by have := Kd.R_putn h.r (k : Int) x; rwa [Int.toNat_natCast] at this, h.b.set k h0 h1⟩
theorem Own.cell {w : World} {base g n cap : Nat} {xs : List Int} (h : Own w base (.slice (some ⟨g, 0, none⟩) n cap) xs) (k : Nat) (hk : k < n) :
    w.cell? ⟨g, k, none⟩ = some (.int .u8 (nth xs k)) ∧ w.frozen? ⟨g, k, none⟩ = false := by
  have := Kd.R_celln 0 h.r (k : Int) (by omega) (by omega)
  simpa [rdOf, nth] using this

section
variable {ops : Array Oper} {rest : List Oper} {o : Oper} {a : Act} {Q : Exit → Act → World → Prop} {w0 W : World}
theorem mk_bits (hgd : o.guard = none) {N : Tmp} (hd : o.dst = some N) (t : TypeId) (x y : Operand) (ho : o.op = .makeSlice t x y) (n : Nat) (hx : a.eval x = .int .i64 n) (hy : a.eval y = .int .i64 n)
    (ht : Try.prog.underlying t = some (.slice 37)) (hn : n ≤ 281474976710656) (HB : Below w0.heap.size w0 W)
    (h : ∀ v1 w1, Own w1 w0.heap.size v1 (List.replicate n 0) → Below w0.heap.size w0 w1 → wpList Try.prog ops Q rest (a.put o.dst v1) w1) : wpList Try.prog ops Q (o :: rest) a W := by
  refine Kd.R_make (Kd.int .u8) (w0 := w0) w0.heap.size 37 hgd hd t x y ho n hx hy ht (.int .u8 0) 1 info37 rfl (by decide) (by omega) 0 (ok := fun _ => True) (okp := fun _ => True) rfl (fun _ hk => hk) trivial (by omega) (by simp only [Int.toNat_natCast]; omega) HB HB.size ?_
  intro v1 w1 h1 h2 _ _
  exact h v1 w1 ⟨by simpa using h1, Byt.replicate _ (by omega) (by omega)⟩ h2
theorem ap_bit (hgd : o.guard = none) (s x : Operand) (t : TypeId) (ho : o.op = .call { callee := .builtin .append, args := #[s, x], argTypes := #[t, t] })
    (ht : Try.prog.underlying t = some (.slice 37)) (v : Value) (xs : List Int) (p : Int) (hs : a.eval s = v) (hx : a.eval x = .slice (some ⟨W.heap.size, 0, none⟩) 1 1) (h0 : 0 ≤ p) (h1 : p ≤ 255)
    (HO : Own W w0.heap.size v xs) (HB : Below w0.heap.size w0 W) (hl : xs.length ≤ 140737488355327)
    (h : ∀ v1 w1, Own w1 w0.heap.size v1 (xs ++ [p]) → Below w0.heap.size w0 w1 → wpList Try.prog ops Q rest (a.put o.dst v1) w1) :
    wpList Try.prog ops Q (o :: rest) a (W.alloc (.cells #[.int .u8 p] 37)) := by
  refine Kd.R_append (Kd.int .u8) (w0 := w0) w0.heap.size hgd s x t 37 (.int .u8 0) 1 ho ht info37 rfl (by decide) (by omega) v xs p [.int .u8 p] (fun _ => True) (fun _ => False) hs hx rfl (fun _ hk => hk.elim) (fun _ _ => trivial) HO.r HB HB.size (by omega) ?_
  intro v1 w1 h2 h3 _ _
  exact h v1 w1 ⟨h2, HO.b.append (Byt.one h0 h1)⟩ h3
theorem ap_bits (hgd : o.guard = none) (s x : Operand) (t : TypeId) (ho : o.op = .call { callee := .builtin .append, args := #[s, x], argTypes := #[t, t] })
    (ht : Try.prog.underlying t = some (.slice 37)) (v : Value) (xs ys : List Int) (A : Option Addr) (c : Nat) (hs : a.eval s = v) (hx : a.eval x = .slice A ys.length c)
    (HO : Own W w0.heap.size v xs) (HR : Rd W A ys) (HB : Below w0.heap.size w0 W) (hl : xs.length + ys.length ≤ 140737488355328)
    (h : ∀ v1 w1, Own w1 w0.heap.size v1 (xs ++ ys) → Below w0.heap.size w0 w1 → wpList Try.prog ops Q rest (a.put o.dst v1) w1) :
    wpList Try.prog ops Q (o :: rest) a W := by
  refine Kd.R_append_rows (Kd.int .u8) (w0 := w0) w0.heap.size hgd s x t 37 (.int .u8 0) 1 ho ht info37 rfl (by decide) (by omega) v xs ys A ys.length c (fun _ => True) (fun _ => False) hs hx HO.r HR.c (fun _ _ h => h) (fun _ hk => hk.elim) (fun _ _ => trivial) HB HB.size (by omega) ?_
  intro v1 w1 h2 h3 _ _
  exact h v1 w1 ⟨h2, HO.b.append HR.b⟩ h3
end

theorem Rd.lit (w : World) (xs : List Int) (hb : Byt xs) (hl : xs.length ≤ 1000) (C : Array Value) (hC : C = (nums .u8 xs).toArray) : Rd (w.alloc (.cells C 37)) (some ⟨w.heap.size, 0, none⟩) xs := by
  refine ⟨⟨rfl, by omega, fun _ => ⟨_, rfl, fun j p hj => ⟨[.int .u8 p], rfl, rfl, fun i u hu => ?_⟩⟩⟩, hb⟩
  obtain ⟨rfl, rfl⟩ : i = 0 ∧ u = .int .u8 p := by
    rcases i with _ | i
    · simp at hu; exact ⟨rfl, hu.symm⟩
    · simp at hu
  rw [add_plain, World.cell?_alloc_at _ _ _ _ rfl, hC]
  simp only [nums, Kd.int, Kd.scalar, Nat.mul_one, Nat.add_zero, List.getElem?_toArray, List.getElem?_map, hj, Option.map_some]
theorem Own.block {w : World} {base g n cap : Nat} {xs : List Int} (h : Own w base (.slice (some ⟨g, 0, none⟩) n cap) xs) :
    ∃ cur : List Value, w.heap[g]? = some (.cells cur.toArray 37 (0, 0)) ∧ n ≤ cap ∧ cap ≤ maxLen ∧ cur.length = cap ∧ cur.take n = nums .u8 xs ∧ xs.length = n ∧ base ≤ g := by
  obtain ⟨h1, h2⟩ := Kd.own_of_R h.r
  rcases h2 with ⟨h2, _⟩ | ⟨g', cap', cur, e, hb, hh, hn, hc, hs, ht⟩
  · cases h2
  · injection e with e1 e2 e3
    injection e1 with e1
    injection e1 with e1
    subst e1 e3
    refine ⟨cur.toList, by simpa using hh, by omega, hc, by simpa using hs, ?_, e2.symm, hb⟩
    rw [e2]
    simpa [nums, encs] using ht
theorem Own.of_block {w : World} {base g n cap : Nat} {xs : List Int} {cur : List Value} (h0 : w.heap[g]? = some (.cells cur.toArray 37 (0, 0))) (h1 : n ≤ cap) (h2 : cap ≤ maxLen) (h3 : cur.length = cap) (h4 : cur.take n = nums .u8 xs)
    (h5 : xs.length = n) (h6 : base ≤ g) (hb : Byt xs) : Own w base (.slice (some ⟨g, 0, none⟩) n cap) xs := by
  subst h5
  have ho : w.ownsRow base 37 1 (.slice (some ⟨g, 0, none⟩) xs.length cap) xs.length (nums .u8 xs) :=
    ⟨by simp [nums], .inr ⟨g, cap, cur.toArray, rfl, h6, h0, h1, h2, by simp [h3], by simpa using h4⟩⟩
  exact ⟨Kd.R_of_own (enc := Value.int .u8) (h1 := fun _ => rfl) ho (fun _ _ => trivial), hb⟩

section
variable {w w0 : World} {g n cap off : Nat} {xs cs : List Int}
theorem copied_cells {cur : List Value} (h3 : cur.length = cap) (h1 : n ≤ cap) (h4 : cur.take n = nums .u8 xs) (h5 : xs.length = n) (hfit : off + cs.length ≤ n) :
    (splice cur off (nums .u8 cs)).take n = nums .u8 (xs.take off ++ (cs ++ xs.drop (off + cs.length))) := by
  have e : cur = nums .u8 xs ++ cur.drop n := by rw [← h4, List.take_append_drop]
  have hl : (nums .u8 xs).length = n := by simp [nums, h5]
  rw [e]
  generalize cur.drop n = tl
  unfold splice
  have e1 : (nums .u8 xs ++ tl).take off = (nums .u8 xs).take off := by rw [List.take_append_of_le_length (by omega)]
  have e2 : (nums .u8 xs ++ tl).drop (off + (nums .u8 cs).length) = (nums .u8 xs).drop (off + cs.length) ++ tl := by
    rw [show (nums .u8 cs).length = cs.length by simp [nums], List.drop_append_of_le_length (by omega)]
  rw [e1, e2, ← List.append_assoc (nums .u8 cs), ← List.append_assoc, List.take_append_of_le_length (by simp [nums, h5]; omega), List.take_of_length_le (by simp [nums, h5]; omega)]
  simp [nums]
theorem copied_byt (hx : Byt xs) (hc : Byt cs) : Byt (xs.take off ++ (cs ++ xs.drop (off + cs.length))) :=
  (hx.sub fun _ h => List.mem_of_mem_take h).append (hc.append (hx.sub fun _ h => List.mem_of_mem_drop h))
variable {ops : Array Oper} {rest : List Oper} {o : Oper} {a : Act} {Q : Exit → Act → World → Prop}
theorem cp_bits (hgd : o.guard = none) (d s : Operand) (dT sT : TypeId) (ho : o.op = .call { callee := .builtin .copy, args := #[d, s], argTypes := #[dT, sT] }) (hu : Try.prog.underlying dT = some (.slice 37))
    (dp sp : Option Addr) (dLen dCap sLen sCap : Nat) (hd : a.eval d = .slice dp dLen dCap) (hs : a.eval s = .slice sp sLen sCap) (HO : Own w w0.heap.size (.slice (some ⟨g, 0, none⟩) n cap) xs) (hcb : Byt cs) (hn : cs.length = Nat.min sLen dLen)
    (hpos : 0 < cs.length → dp = some ⟨g, off, none⟩ ∧ ∃ ad, sp = some ad ∧ ∀ j, j < cs.length → w.cell? (ad.add j) = some (.int .u8 (nth cs j))) (hfit : off + cs.length ≤ n) (hb : Below w0.heap.size w0 w)
    (h : ∀ w', Own w' w0.heap.size (.slice (some ⟨g, 0, none⟩) n cap) (xs.take off ++ (cs ++ xs.drop (off + cs.length))) → Below w0.heap.size w0 w' → wpList Try.prog ops Q rest (a.put o.dst (goInt cs.length)) w') :
    wpList Try.prog ops Q (o :: rest) a w := by
  obtain ⟨cur, h0, h1, h2, h3, h4, h5, h6⟩ := HO.block
  have hi : (Try.prog.info? 37).map (·.size) = some 1 := by kernel_rfl
  have hln : (nums .u8 cs).length = cs.length := by simp [nums]
  refine wpList_copy_splice hgd d s dT sT ho 37 hu hi dp sp dLen dCap sLen sCap hd hs g off cur 37 h0 (nums .u8 cs) (by rw [hln]; exact hn) (fun hp => ?_) (by omega) (fun v hv => by simp [nums] at hv; obtain ⟨x, _, rfl⟩ := hv; rfl) w0.heap.size w0 hb h6 ?_
  · obtain ⟨e1, ad, e2, hc⟩ := hpos (by omega)
    refine ⟨e1, ad, e2, fun j v hj => ?_⟩
    have hj' : j < cs.length := by have := (List.getElem?_eq_some_iff.1 hj).1; omega
    rw [hc j hj', nth_eq _ _ hj', ← hj]
    simp [nums, List.getElem?_eq_getElem hj']
  · intro w' hh hb'
    have := h w' (Own.of_block hh.out h1 h2 (by rw [length_splice _ _ _ (by omega)]; exact h3) (copied_cells h3 h1 h4 h5 hfit) (by simp [List.length_take]; omega) h6 (copied_byt HO.b hcb)) hb'
    rwa [hln]
theorem upon_cp {K : Act → World → Prop} (dT sT rt : TypeId) (hu : Try.prog.underlying dT = some (.slice 37))
    (dp sp : Option Addr) (dLen dCap sLen sCap : Nat) (HO : Own w w0.heap.size (.slice (some ⟨g, 0, none⟩) n cap) xs) (hcb : Byt cs) (hn : cs.length = Nat.min sLen dLen)
    (hpos : 0 < cs.length → dp = some ⟨g, off, none⟩ ∧ ∃ ad, sp = some ad ∧ ∀ j, j < cs.length → w.cell? (ad.add j) = some (.int .u8 (nth cs j))) (hfit : off + cs.length ≤ n) (hb : Below w0.heap.size w0 w)
    (h : ∀ w', Own w' w0.heap.size (.slice (some ⟨g, 0, none⟩) n cap) (xs.take off ++ (cs ++ xs.drop (off + cs.length))) → Below w0.heap.size w0 w' → K (a.put o.dst (goInt cs.length)) w') :
    Oper.upon Try.prog o a K Q ((Sem.run Try.prog (Builtin.copy_ #[dT, sT] rt #[.slice dp dLen dCap, .slice sp sLen sCap]) w).andThen fun a w' => .ok (.value a) w') := by
  obtain ⟨cur, h0, h1, h2, h3, h4, h5, h6⟩ := HO.block
  have hi : (Try.prog.info? 37).map (·.size) = some 1 := by kernel_rfl
  have hln : (nums .u8 cs).length = cs.length := by simp [nums]
  by_cases hz : cs.length = 0
  · obtain rfl : cs = [] := List.eq_nil_of_length_eq_zero hz
    rw [run_copy_none (P := Try.prog) w dT sT rt 37 dp sp dLen dCap sLen sCap hu hi (by simpa using hn.symm)]
    exact h w (by simpa using HO) hb
  · obtain ⟨rfl, ad, rfl, hc⟩ := hpos (by omega)
    rw [run_copy_row (P := Try.prog) w dT sT rt 37 g off dLen dCap ad sLen sCap cur.toArray 37 (nums .u8 cs) hu hi h0 (by rw [hln]; exact hn) (fun j v hj => by
      have hj' : j < cs.length := by have := (List.getElem?_eq_some_iff.1 hj).1; omega
      rw [hc j hj', nth_eq _ _ hj', ← hj]
      simp [nums, List.getElem?_eq_getElem hj']) (by simp [nums]; omega) (fun v hv => by simp [nums] at hv; obtain ⟨x, _, rfl⟩ := hv; rfl)]
    have hh := setRow_heap w g cur.toArray (splice cur off (nums .u8 cs)).toArray 37 (0, 0) h0
    have := h _ (Own.of_block hh h1 h2 (by rw [length_splice _ _ _ (by omega)]; exact h3) (copied_cells h3 h1 h4 h5 hfit) (by simp [List.length_take]; omega) h6 (copied_byt HO.b hcb)) (below_setRow hb h6 _)
    simpa [Result.andThen, Oper.upon, splice, hln] using this
theorem step_cp_bits {K : Act → World → Prop} {E : Prop} (hgd : o.guard = none) (d s : Operand) (dT sT : TypeId) (ho : o.op = .call { callee := .builtin .copy, args := #[d, s], argTypes := #[dT, sT] }) (hu : Try.prog.underlying dT = some (.slice 37))
    (dp sp : Option Addr) (dLen dCap sLen sCap : Nat) (hd : a.eval d = .slice dp dLen dCap) (hs : a.eval s = .slice sp sLen sCap) (HO : Own w w0.heap.size (.slice (some ⟨g, 0, none⟩) n cap) xs) (hcb : Byt cs) (hn : cs.length = Nat.min sLen dLen)
    (hpos : 0 < cs.length → dp = some ⟨g, off, none⟩ ∧ ∃ ad, sp = some ad ∧ ∀ j, j < cs.length → w.cell? (ad.add j) = some (.int .u8 (nth cs j))) (hfit : off + cs.length ≤ n) (hb : Below w0.heap.size w0 w)
    (h : ∀ w', Own w' w0.heap.size (.slice (some ⟨g, 0, none⟩) n cap) (xs.take off ++ (cs ++ xs.drop (off + cs.length))) → Below w0.heap.size w0 w' → K (a.put o.dst (goInt cs.length)) w') :
    if Region.wanted o (yielded ops a.tmps) = true then Oper.wp Try.prog o a w K Q else E := by
  obtain ⟨cur, h0, h1, h2, h3, h4, h5, h6⟩ := HO.block
  have hi : (Try.prog.info? 37).map (·.size) = some 1 := by kernel_rfl
  have hln : (nums .u8 cs).length = cs.length := by simp [nums]
  refine step_copy_splice hgd d s dT sT ho 37 hu hi dp sp dLen dCap sLen sCap hd hs g off cur 37 h0 (nums .u8 cs) (by rw [hln]; exact hn) (fun hp => ?_) (by omega) (fun v hv => by simp [nums] at hv; obtain ⟨x, _, rfl⟩ := hv; rfl) w0.heap.size w0 hb h6 ?_
  · obtain ⟨e1, ad, e2, hc⟩ := hpos (by omega)
    refine ⟨e1, ad, e2, fun j v hj => ?_⟩
    have hj' : j < cs.length := by have := (List.getElem?_eq_some_iff.1 hj).1; omega
    rw [hc j hj', nth_eq _ _ hj', ← hj]
    simp [nums, List.getElem?_eq_getElem hj']
  · intro w' hh hb'
    have := h w' (Own.of_block hh.out h1 h2 (by rw [length_splice _ _ _ (by omega)]; exact h3) (copied_cells h3 h1 h4 h5 hfit) (by simp [List.length_take]; omega) h6 (copied_byt HO.b hcb)) hb'
    rwa [hln]
end
end Go.Proofs.Ytaffdpgacggllaa.V
