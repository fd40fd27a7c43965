/- The walk of the statement VecKnown. -/
import Derived.Test.YtaffdpgacggllaaUf
namespace Go.Proofs.Ytaffdpgacggllaa.V
open Go.RowKit Go.Proofs.YtaffdpgacggllaaW.PrintWords Go.Proofs.YtaffdpgacggllaaW.PrintLast Go.Proofs.YtaffdpgacggllaaW.PrintMore
attribute [local go_sem] max2_int min2_int max_two min_two
set_option linter.unusedVariables false
set_option linter.unusedSimpArgs false

set_option maxRecDepth 100000 in
set_option maxHeartbeats 8000000 in
theorem known_bad1 (w : World) (a : List Int) (A : Option Addr) (ca : Nat) (ra : Rd w A a) (b : List Int) (B : Option Addr) (cb : Nat) (rb : Rd w B b) (c : List Int) (C : Option Addr) (cc : Nat) (rc : Rd w C c) (d : List Int) (D : Option Addr) (cd : Nat) (rd : Rd w D d) (h1 : isV a = false) :
    Calls Try.prog 6 #[.agg #[.slice A a.length ca, .slice B b.length cb, .slice C c.length cc, .slice D d.length cd]] w fun e w' => e = .returned (.bool true) ∧ Below w.heap.size w w' := by
  have Ra := Aside0.mk ra
  have Rb := Aside0.mk rb
  have Rc := Aside0.mk rc
  have Rd := Aside0.mk rd
  clear ra rb rc rd
  have H1 := Aside0.mk h1
  clear h1
  have HB0 := Aside0.mk (Below.refl w.heap.size w)
  go_enter Try.func6, Try.ntmps6
  go_wp2_with fail
  have Raq := Aside0.mk (Ra.out.al (.cells #[.slice A a.length ca, .slice B b.length cb, .slice C c.length cc, .slice D d.length cd] 35))
  have Rbq := Aside0.mk (Rb.out.al (.cells #[.slice A a.length ca, .slice B b.length cb, .slice C c.length cc, .slice D d.length cd] 35))
  have Rcq := Aside0.mk (Rc.out.al (.cells #[.slice A a.length ca, .slice B b.length cb, .slice C c.length cc, .slice D d.length cd] 35))
  have Rdq := Aside0.mk (Rd.out.al (.cells #[.slice A a.length ca, .slice B b.length cb, .slice C c.length cc, .slice D d.length cd] 35))
  go_quiet (fail)
  have HBq := Aside0.mk (pw_below_drewN (below_al HB0.out (.cells #[.slice A a.length ca, .slice B b.length cb, .slice C c.length cc, .slice D d.length cd] 35)) nq)
  have Rar := Aside0.mk (Raq.out.drewN nq)
  have Rbr := Aside0.mk (Rbq.out.drewN nq)
  have Rcr := Aside0.mk (Rcq.out.drewN nq)
  have Rdr := Aside0.mk (Rdq.out.drewN nq)
  clear HB0 Ra Raq Rb Rbq Rc Rcq Rd Rdq
  generalize (w.alloc (.cells #[.slice A a.length ca, .slice B b.length cb, .slice C c.length cc, .slice D d.length cd] 35)).drewN nq = wq at *
  go_wp2_with fail
  refine (refIs_calls _ _ _ _ Rar.out).mono ?_
  rintro e wq ⟨rfl, rfl⟩
  rw [H1.out]
  go_wp2_with fail
  refine (awake_calls _).mono ?_
  rintro e w1 ⟨rfl, hb⟩
  have HBz := Aside0.mk (below_step HBq.out hb)
  clear hb
  go_wp2_with fail
  go_ret
  exact ⟨rfl, HBz.out⟩
set_option maxRecDepth 100000 in
set_option maxHeartbeats 8000000 in
theorem known_bad2 (w : World) (a : List Int) (A : Option Addr) (ca : Nat) (ra : Rd w A a) (b : List Int) (B : Option Addr) (cb : Nat) (rb : Rd w B b) (c : List Int) (C : Option Addr) (cc : Nat) (rc : Rd w C c) (d : List Int) (D : Option Addr) (cd : Nat) (rd : Rd w D d) (h1 : isV a = true) (h2 : isV b = false) :
    Calls Try.prog 6 #[.agg #[.slice A a.length ca, .slice B b.length cb, .slice C c.length cc, .slice D d.length cd]] w fun e w' => e = .returned (.bool true) ∧ Below w.heap.size w w' := by
  have Ra := Aside0.mk ra
  have Rb := Aside0.mk rb
  have Rc := Aside0.mk rc
  have Rd := Aside0.mk rd
  clear ra rb rc rd
  have H1 := Aside0.mk h1
  clear h1
  have H2 := Aside0.mk h2
  clear h2
  have HB0 := Aside0.mk (Below.refl w.heap.size w)
  go_enter Try.func6, Try.ntmps6
  go_wp2_with fail
  have Raq := Aside0.mk (Ra.out.al (.cells #[.slice A a.length ca, .slice B b.length cb, .slice C c.length cc, .slice D d.length cd] 35))
  have Rbq := Aside0.mk (Rb.out.al (.cells #[.slice A a.length ca, .slice B b.length cb, .slice C c.length cc, .slice D d.length cd] 35))
  have Rcq := Aside0.mk (Rc.out.al (.cells #[.slice A a.length ca, .slice B b.length cb, .slice C c.length cc, .slice D d.length cd] 35))
  have Rdq := Aside0.mk (Rd.out.al (.cells #[.slice A a.length ca, .slice B b.length cb, .slice C c.length cc, .slice D d.length cd] 35))
  go_quiet (fail)
  have HBq := Aside0.mk (pw_below_drewN (below_al HB0.out (.cells #[.slice A a.length ca, .slice B b.length cb, .slice C c.length cc, .slice D d.length cd] 35)) nq)
  have Rar := Aside0.mk (Raq.out.drewN nq)
  have Rbr := Aside0.mk (Rbq.out.drewN nq)
  have Rcr := Aside0.mk (Rcq.out.drewN nq)
  have Rdr := Aside0.mk (Rdq.out.drewN nq)
  clear HB0 Ra Raq Rb Rbq Rc Rcq Rd Rdq
  generalize (w.alloc (.cells #[.slice A a.length ca, .slice B b.length cb, .slice C c.length cc, .slice D d.length cd] 35)).drewN nq = wq at *
  go_wp2_with fail
  refine (refIs_calls _ _ _ _ Rar.out).mono ?_
  rintro e wq ⟨rfl, rfl⟩
  rw [H1.out]
  go_wp2_with fail
  refine (refIs_calls _ _ _ _ Rbr.out).mono ?_
  rintro e wq ⟨rfl, rfl⟩
  rw [H2.out]
  go_wp2_with fail
  refine (awake_calls _).mono ?_
  rintro e w1 ⟨rfl, hb⟩
  have HBz := Aside0.mk (below_step HBq.out hb)
  clear hb
  go_wp2_with fail
  go_ret
  exact ⟨rfl, HBz.out⟩
set_option maxRecDepth 100000 in
set_option maxHeartbeats 8000000 in
theorem known_bad3 (w : World) (a : List Int) (A : Option Addr) (ca : Nat) (ra : Rd w A a) (b : List Int) (B : Option Addr) (cb : Nat) (rb : Rd w B b) (c : List Int) (C : Option Addr) (cc : Nat) (rc : Rd w C c) (d : List Int) (D : Option Addr) (cd : Nat) (rd : Rd w D d) (h1 : isV a = true) (h2 : isV b = true) (h3 : isV c = false) :
    Calls Try.prog 6 #[.agg #[.slice A a.length ca, .slice B b.length cb, .slice C c.length cc, .slice D d.length cd]] w fun e w' => e = .returned (.bool true) ∧ Below w.heap.size w w' := by
  have Ra := Aside0.mk ra
  have Rb := Aside0.mk rb
  have Rc := Aside0.mk rc
  have Rd := Aside0.mk rd
  clear ra rb rc rd
  have H1 := Aside0.mk h1
  clear h1
  have H2 := Aside0.mk h2
  clear h2
  have H3 := Aside0.mk h3
  clear h3
  have HB0 := Aside0.mk (Below.refl w.heap.size w)
  go_enter Try.func6, Try.ntmps6
  go_wp2_with fail
  have Raq := Aside0.mk (Ra.out.al (.cells #[.slice A a.length ca, .slice B b.length cb, .slice C c.length cc, .slice D d.length cd] 35))
  have Rbq := Aside0.mk (Rb.out.al (.cells #[.slice A a.length ca, .slice B b.length cb, .slice C c.length cc, .slice D d.length cd] 35))
  have Rcq := Aside0.mk (Rc.out.al (.cells #[.slice A a.length ca, .slice B b.length cb, .slice C c.length cc, .slice D d.length cd] 35))
  have Rdq := Aside0.mk (Rd.out.al (.cells #[.slice A a.length ca, .slice B b.length cb, .slice C c.length cc, .slice D d.length cd] 35))
  go_quiet (fail)
  have HBq := Aside0.mk (pw_below_drewN (below_al HB0.out (.cells #[.slice A a.length ca, .slice B b.length cb, .slice C c.length cc, .slice D d.length cd] 35)) nq)
  have Rar := Aside0.mk (Raq.out.drewN nq)
  have Rbr := Aside0.mk (Rbq.out.drewN nq)
  have Rcr := Aside0.mk (Rcq.out.drewN nq)
  have Rdr := Aside0.mk (Rdq.out.drewN nq)
  clear HB0 Ra Raq Rb Rbq Rc Rcq Rd Rdq
  generalize (w.alloc (.cells #[.slice A a.length ca, .slice B b.length cb, .slice C c.length cc, .slice D d.length cd] 35)).drewN nq = wq at *
  go_wp2_with fail
  refine (refIs_calls _ _ _ _ Rar.out).mono ?_
  rintro e wq ⟨rfl, rfl⟩
  rw [H1.out]
  go_wp2_with fail
  refine (refIs_calls _ _ _ _ Rbr.out).mono ?_
  rintro e wq ⟨rfl, rfl⟩
  rw [H2.out]
  go_wp2_with fail
  refine (refIs_calls _ _ _ _ Rcr.out).mono ?_
  rintro e wq ⟨rfl, rfl⟩
  rw [H3.out]
  go_wp2_with fail
  refine (awake_calls _).mono ?_
  rintro e w1 ⟨rfl, hb⟩
  have HBz := Aside0.mk (below_step HBq.out hb)
  clear hb
  go_wp2_with fail
  go_ret
  exact ⟨rfl, HBz.out⟩
set_option maxRecDepth 100000 in
set_option maxHeartbeats 8000000 in
theorem known_bad4 (w : World) (a : List Int) (A : Option Addr) (ca : Nat) (ra : Rd w A a) (b : List Int) (B : Option Addr) (cb : Nat) (rb : Rd w B b) (c : List Int) (C : Option Addr) (cc : Nat) (rc : Rd w C c) (d : List Int) (D : Option Addr) (cd : Nat) (rd : Rd w D d) (h1 : isV a = true) (h2 : isV b = true) (h3 : isV c = true) (h4 : isV d = false) :
    Calls Try.prog 6 #[.agg #[.slice A a.length ca, .slice B b.length cb, .slice C c.length cc, .slice D d.length cd]] w fun e w' => e = .returned (.bool true) ∧ Below w.heap.size w w' := by
  have Ra := Aside0.mk ra
  have Rb := Aside0.mk rb
  have Rc := Aside0.mk rc
  have Rd := Aside0.mk rd
  clear ra rb rc rd
  have H1 := Aside0.mk h1
  clear h1
  have H2 := Aside0.mk h2
  clear h2
  have H3 := Aside0.mk h3
  clear h3
  have H4 := Aside0.mk h4
  clear h4
  have HB0 := Aside0.mk (Below.refl w.heap.size w)
  go_enter Try.func6, Try.ntmps6
  go_wp2_with fail
  have Raq := Aside0.mk (Ra.out.al (.cells #[.slice A a.length ca, .slice B b.length cb, .slice C c.length cc, .slice D d.length cd] 35))
  have Rbq := Aside0.mk (Rb.out.al (.cells #[.slice A a.length ca, .slice B b.length cb, .slice C c.length cc, .slice D d.length cd] 35))
  have Rcq := Aside0.mk (Rc.out.al (.cells #[.slice A a.length ca, .slice B b.length cb, .slice C c.length cc, .slice D d.length cd] 35))
  have Rdq := Aside0.mk (Rd.out.al (.cells #[.slice A a.length ca, .slice B b.length cb, .slice C c.length cc, .slice D d.length cd] 35))
  go_quiet (fail)
  have HBq := Aside0.mk (pw_below_drewN (below_al HB0.out (.cells #[.slice A a.length ca, .slice B b.length cb, .slice C c.length cc, .slice D d.length cd] 35)) nq)
  have Rar := Aside0.mk (Raq.out.drewN nq)
  have Rbr := Aside0.mk (Rbq.out.drewN nq)
  have Rcr := Aside0.mk (Rcq.out.drewN nq)
  have Rdr := Aside0.mk (Rdq.out.drewN nq)
  clear HB0 Ra Raq Rb Rbq Rc Rcq Rd Rdq
  generalize (w.alloc (.cells #[.slice A a.length ca, .slice B b.length cb, .slice C c.length cc, .slice D d.length cd] 35)).drewN nq = wq at *
  go_wp2_with fail
  refine (refIs_calls _ _ _ _ Rar.out).mono ?_
  rintro e wq ⟨rfl, rfl⟩
  rw [H1.out]
  go_wp2_with fail
  refine (refIs_calls _ _ _ _ Rbr.out).mono ?_
  rintro e wq ⟨rfl, rfl⟩
  rw [H2.out]
  go_wp2_with fail
  refine (refIs_calls _ _ _ _ Rcr.out).mono ?_
  rintro e wq ⟨rfl, rfl⟩
  rw [H3.out]
  go_wp2_with fail
  refine (refIs_calls _ _ _ _ Rdr.out).mono ?_
  rintro e wq ⟨rfl, rfl⟩
  rw [H4.out]
  go_wp2_with fail
  refine (awake_calls _).mono ?_
  rintro e w1 ⟨rfl, hb⟩
  have HBz := Aside0.mk (below_step HBq.out hb)
  clear hb
  go_wp2_with fail
  go_ret
  exact ⟨rfl, HBz.out⟩
set_option maxRecDepth 100000 in
set_option maxHeartbeats 8000000 in
theorem known_lenb (w : World) (a : List Int) (A : Option Addr) (ca : Nat) (ra : Rd w A a) (b : List Int) (B : Option Addr) (cb : Nat) (rb : Rd w B b) (c : List Int) (C : Option Addr) (cc : Nat) (rc : Rd w C c) (d : List Int) (D : Option Addr) (cd : Nat) (rd : Rd w D d) (h1 : isV a = true) (h2 : isV b = true) (h3 : isV c = true) (h4 : isV d = true)  (eb : ((a.length : Int) != (b.length : Int)) = true) :
    Calls Try.prog 6 #[.agg #[.slice A a.length ca, .slice B b.length cb, .slice C c.length cc, .slice D d.length cd]] w fun e w' => e = .returned (.bool true) ∧ Below w.heap.size w w' := by
  have Ra := Aside0.mk ra
  have Rb := Aside0.mk rb
  have Rc := Aside0.mk rc
  have Rd := Aside0.mk rd
  clear ra rb rc rd
  have H1 := Aside0.mk h1
  clear h1
  have H2 := Aside0.mk h2
  clear h2
  have H3 := Aside0.mk h3
  clear h3
  have H4 := Aside0.mk h4
  clear h4
  have HB0 := Aside0.mk (Below.refl w.heap.size w)
  go_enter Try.func6, Try.ntmps6
  go_wp2_with fail
  have Raq := Aside0.mk (Ra.out.al (.cells #[.slice A a.length ca, .slice B b.length cb, .slice C c.length cc, .slice D d.length cd] 35))
  have Rbq := Aside0.mk (Rb.out.al (.cells #[.slice A a.length ca, .slice B b.length cb, .slice C c.length cc, .slice D d.length cd] 35))
  have Rcq := Aside0.mk (Rc.out.al (.cells #[.slice A a.length ca, .slice B b.length cb, .slice C c.length cc, .slice D d.length cd] 35))
  have Rdq := Aside0.mk (Rd.out.al (.cells #[.slice A a.length ca, .slice B b.length cb, .slice C c.length cc, .slice D d.length cd] 35))
  go_quiet (fail)
  have HBq := Aside0.mk (pw_below_drewN (below_al HB0.out (.cells #[.slice A a.length ca, .slice B b.length cb, .slice C c.length cc, .slice D d.length cd] 35)) nq)
  have Rar := Aside0.mk (Raq.out.drewN nq)
  have Rbr := Aside0.mk (Rbq.out.drewN nq)
  have Rcr := Aside0.mk (Rcq.out.drewN nq)
  have Rdr := Aside0.mk (Rdq.out.drewN nq)
  clear HB0 Ra Raq Rb Rbq Rc Rcq Rd Rdq
  generalize (w.alloc (.cells #[.slice A a.length ca, .slice B b.length cb, .slice C c.length cc, .slice D d.length cd] 35)).drewN nq = wq at *
  go_wp2_with fail
  refine (refIs_calls _ _ _ _ Rar.out).mono ?_
  rintro e wq ⟨rfl, rfl⟩
  rw [H1.out]
  go_wp2_with fail
  refine (refIs_calls _ _ _ _ Rbr.out).mono ?_
  rintro e wq ⟨rfl, rfl⟩
  rw [H2.out]
  go_wp2_with fail
  refine (refIs_calls _ _ _ _ Rcr.out).mono ?_
  rintro e wq ⟨rfl, rfl⟩
  rw [H3.out]
  go_wp2_with fail
  refine (refIs_calls _ _ _ _ Rdr.out).mono ?_
  rintro e wq ⟨rfl, rfl⟩
  rw [H4.out]
  go_wp2_with fail
  refine (awake_calls _).mono ?_
  rintro e w1 ⟨rfl, hb⟩
  have HBz := Aside0.mk (below_step HBq.out hb)
  clear hb
  go_wp2_with fail
  go_ret
  exact ⟨rfl, HBz.out⟩
set_option maxRecDepth 100000 in
set_option maxHeartbeats 8000000 in
theorem known_lenc (w : World) (a : List Int) (A : Option Addr) (ca : Nat) (ra : Rd w A a) (b : List Int) (B : Option Addr) (cb : Nat) (rb : Rd w B b) (c : List Int) (C : Option Addr) (cc : Nat) (rc : Rd w C c) (d : List Int) (D : Option Addr) (cd : Nat) (rd : Rd w D d) (h1 : isV a = true) (h2 : isV b = true) (h3 : isV c = true) (h4 : isV d = true) (eb : ((a.length : Int) != (b.length : Int)) = false) (ec : ((a.length : Int) != (c.length : Int)) = true) :
    Calls Try.prog 6 #[.agg #[.slice A a.length ca, .slice B b.length cb, .slice C c.length cc, .slice D d.length cd]] w fun e w' => e = .returned (.bool true) ∧ Below w.heap.size w w' := by
  have Ra := Aside0.mk ra
  have Rb := Aside0.mk rb
  have Rc := Aside0.mk rc
  have Rd := Aside0.mk rd
  clear ra rb rc rd
  have H1 := Aside0.mk h1
  clear h1
  have H2 := Aside0.mk h2
  clear h2
  have H3 := Aside0.mk h3
  clear h3
  have H4 := Aside0.mk h4
  clear h4
  have HB0 := Aside0.mk (Below.refl w.heap.size w)
  go_enter Try.func6, Try.ntmps6
  go_wp2_with fail
  have Raq := Aside0.mk (Ra.out.al (.cells #[.slice A a.length ca, .slice B b.length cb, .slice C c.length cc, .slice D d.length cd] 35))
  have Rbq := Aside0.mk (Rb.out.al (.cells #[.slice A a.length ca, .slice B b.length cb, .slice C c.length cc, .slice D d.length cd] 35))
  have Rcq := Aside0.mk (Rc.out.al (.cells #[.slice A a.length ca, .slice B b.length cb, .slice C c.length cc, .slice D d.length cd] 35))
  have Rdq := Aside0.mk (Rd.out.al (.cells #[.slice A a.length ca, .slice B b.length cb, .slice C c.length cc, .slice D d.length cd] 35))
  go_quiet (fail)
  have HBq := Aside0.mk (pw_below_drewN (below_al HB0.out (.cells #[.slice A a.length ca, .slice B b.length cb, .slice C c.length cc, .slice D d.length cd] 35)) nq)
  have Rar := Aside0.mk (Raq.out.drewN nq)
  have Rbr := Aside0.mk (Rbq.out.drewN nq)
  have Rcr := Aside0.mk (Rcq.out.drewN nq)
  have Rdr := Aside0.mk (Rdq.out.drewN nq)
  clear HB0 Ra Raq Rb Rbq Rc Rcq Rd Rdq
  generalize (w.alloc (.cells #[.slice A a.length ca, .slice B b.length cb, .slice C c.length cc, .slice D d.length cd] 35)).drewN nq = wq at *
  go_wp2_with fail
  refine (refIs_calls _ _ _ _ Rar.out).mono ?_
  rintro e wq ⟨rfl, rfl⟩
  rw [H1.out]
  go_wp2_with fail
  refine (refIs_calls _ _ _ _ Rbr.out).mono ?_
  rintro e wq ⟨rfl, rfl⟩
  rw [H2.out]
  go_wp2_with fail
  refine (refIs_calls _ _ _ _ Rcr.out).mono ?_
  rintro e wq ⟨rfl, rfl⟩
  rw [H3.out]
  go_wp2_with fail
  refine (refIs_calls _ _ _ _ Rdr.out).mono ?_
  rintro e wq ⟨rfl, rfl⟩
  rw [H4.out]
  go_wp2_with fail
  refine (awake_calls _).mono ?_
  rintro e w1 ⟨rfl, hb⟩
  have HBz := Aside0.mk (below_step HBq.out hb)
  clear hb
  go_wp2_with fail
  go_ret
  exact ⟨rfl, HBz.out⟩
set_option maxRecDepth 100000 in
set_option maxHeartbeats 8000000 in
theorem known_lend (w : World) (a : List Int) (A : Option Addr) (ca : Nat) (ra : Rd w A a) (b : List Int) (B : Option Addr) (cb : Nat) (rb : Rd w B b) (c : List Int) (C : Option Addr) (cc : Nat) (rc : Rd w C c) (d : List Int) (D : Option Addr) (cd : Nat) (rd : Rd w D d) (h1 : isV a = true) (h2 : isV b = true) (h3 : isV c = true) (h4 : isV d = true) (eb : ((a.length : Int) != (b.length : Int)) = false) (ec : ((a.length : Int) != (c.length : Int)) = false) (ed : ((a.length : Int) != (d.length : Int)) = true) :
    Calls Try.prog 6 #[.agg #[.slice A a.length ca, .slice B b.length cb, .slice C c.length cc, .slice D d.length cd]] w fun e w' => e = .returned (.bool true) ∧ Below w.heap.size w w' := by
  have Ra := Aside0.mk ra
  have Rb := Aside0.mk rb
  have Rc := Aside0.mk rc
  have Rd := Aside0.mk rd
  clear ra rb rc rd
  have H1 := Aside0.mk h1
  clear h1
  have H2 := Aside0.mk h2
  clear h2
  have H3 := Aside0.mk h3
  clear h3
  have H4 := Aside0.mk h4
  clear h4
  have HB0 := Aside0.mk (Below.refl w.heap.size w)
  go_enter Try.func6, Try.ntmps6
  go_wp2_with fail
  have Raq := Aside0.mk (Ra.out.al (.cells #[.slice A a.length ca, .slice B b.length cb, .slice C c.length cc, .slice D d.length cd] 35))
  have Rbq := Aside0.mk (Rb.out.al (.cells #[.slice A a.length ca, .slice B b.length cb, .slice C c.length cc, .slice D d.length cd] 35))
  have Rcq := Aside0.mk (Rc.out.al (.cells #[.slice A a.length ca, .slice B b.length cb, .slice C c.length cc, .slice D d.length cd] 35))
  have Rdq := Aside0.mk (Rd.out.al (.cells #[.slice A a.length ca, .slice B b.length cb, .slice C c.length cc, .slice D d.length cd] 35))
  go_quiet (fail)
  have HBq := Aside0.mk (pw_below_drewN (below_al HB0.out (.cells #[.slice A a.length ca, .slice B b.length cb, .slice C c.length cc, .slice D d.length cd] 35)) nq)
  have Rar := Aside0.mk (Raq.out.drewN nq)
  have Rbr := Aside0.mk (Rbq.out.drewN nq)
  have Rcr := Aside0.mk (Rcq.out.drewN nq)
  have Rdr := Aside0.mk (Rdq.out.drewN nq)
  clear HB0 Ra Raq Rb Rbq Rc Rcq Rd Rdq
  generalize (w.alloc (.cells #[.slice A a.length ca, .slice B b.length cb, .slice C c.length cc, .slice D d.length cd] 35)).drewN nq = wq at *
  go_wp2_with fail
  refine (refIs_calls _ _ _ _ Rar.out).mono ?_
  rintro e wq ⟨rfl, rfl⟩
  rw [H1.out]
  go_wp2_with fail
  refine (refIs_calls _ _ _ _ Rbr.out).mono ?_
  rintro e wq ⟨rfl, rfl⟩
  rw [H2.out]
  go_wp2_with fail
  refine (refIs_calls _ _ _ _ Rcr.out).mono ?_
  rintro e wq ⟨rfl, rfl⟩
  rw [H3.out]
  go_wp2_with fail
  refine (refIs_calls _ _ _ _ Rdr.out).mono ?_
  rintro e wq ⟨rfl, rfl⟩
  rw [H4.out]
  go_wp2_with fail
  refine (awake_calls _).mono ?_
  rintro e w1 ⟨rfl, hb⟩
  have HBz := Aside0.mk (below_step HBq.out hb)
  clear hb
  go_wp2_with fail
  go_ret
  exact ⟨rfl, HBz.out⟩
set_option maxRecDepth 100000 in
set_option maxHeartbeats 8000000 in
theorem known_ok (w : World) (a : List Int) (A : Option Addr) (ca : Nat) (ra : Rd w A a) (b : List Int) (B : Option Addr) (cb : Nat) (rb : Rd w B b) (c : List Int) (C : Option Addr) (cc : Nat) (rc : Rd w C c) (d : List Int) (D : Option Addr) (cd : Nat) (rd : Rd w D d) (h1 : isV a = true) (h2 : isV b = true) (h3 : isV c = true) (h4 : isV d = true) (hb : a.length = b.length) (hc : a.length = c.length) (hd : a.length = d.length) :
    Calls Try.prog 6 #[.agg #[.slice A a.length ca, .slice B b.length cb, .slice C c.length cc, .slice D d.length cd]] w fun e w' => e = .returned (.bool true) ∧ Below w.heap.size w w' := by
  have Ra := Aside0.mk ra
  have Rb := Aside0.mk rb
  have Rc := Aside0.mk rc
  have Rd := Aside0.mk rd
  clear ra rb rc rd
  have l1 := isV_pos h1
  have hn1 := l1.1
  have h64 := l1.2.1
  clear l1
  have p := Aside0.mk (pairB_intro h1 h2 hb)
  have P2 : Aside0 (pairB (mixUp a c a.length) (mixUp b d a.length) = true) := ⟨pairB_intro (mixUp_isV a c _ h1 h3) (mixUp_isV b d _ h2 h4) (by rw [mixUp_length, mixUp_length, hb])⟩
  have MM : Aside0 (bothB a b = true → mixUp a c a.length = a ∧ mixUp b d a.length = b) := ⟨fun k => by
    have k' : knownB a = true ∧ knownB b = true := by simpa [bothB] using k
    exact ⟨mixUp_known a c _ k'.1, mixUp_known b d _ k'.2⟩⟩
  have CE1 := Aside0.mk (compE_ok p.out)
  have CE2 := Aside0.mk (compE_ok P2.out)
  have eb : ((a.length : Int) != (b.length : Int)) = false := by simp [hb]
  have ec : ((a.length : Int) != (c.length : Int)) = false := by simp [hc]
  have ed : ((a.length : Int) != (d.length : Int)) = false := by simp [hd]
  have LE := Aside0.mk (And.intro hb (And.intro hc hd))
  have LA : a.length ≤ 1000 := by omega
  have LB : b.length ≤ 1000 := by omega
  clear hb hc hd
  have H1 := Aside0.mk h1
  clear h1
  have H2 := Aside0.mk h2
  clear h2
  have H3 := Aside0.mk h3
  clear h3
  have H4 := Aside0.mk h4
  clear h4
  have HB0 := Aside0.mk (Below.refl w.heap.size w)
  go_enter Try.func6, Try.ntmps6
  go_wp2_with fail
  have Raq := Aside0.mk (Ra.out.al (.cells #[.slice A a.length ca, .slice B b.length cb, .slice C c.length cc, .slice D d.length cd] 35))
  have Rbq := Aside0.mk (Rb.out.al (.cells #[.slice A a.length ca, .slice B b.length cb, .slice C c.length cc, .slice D d.length cd] 35))
  have Rcq := Aside0.mk (Rc.out.al (.cells #[.slice A a.length ca, .slice B b.length cb, .slice C c.length cc, .slice D d.length cd] 35))
  have Rdq := Aside0.mk (Rd.out.al (.cells #[.slice A a.length ca, .slice B b.length cb, .slice C c.length cc, .slice D d.length cd] 35))
  go_quiet (fail)
  have HBq := Aside0.mk (pw_below_drewN (below_al HB0.out (.cells #[.slice A a.length ca, .slice B b.length cb, .slice C c.length cc, .slice D d.length cd] 35)) nq)
  have Rar := Aside0.mk (Raq.out.drewN nq)
  have Rbr := Aside0.mk (Rbq.out.drewN nq)
  have Rcr := Aside0.mk (Rcq.out.drewN nq)
  have Rdr := Aside0.mk (Rdq.out.drewN nq)
  clear HB0 Ra Raq Rb Rbq Rc Rcq Rd Rdq
  generalize (w.alloc (.cells #[.slice A a.length ca, .slice B b.length cb, .slice C c.length cc, .slice D d.length cd] 35)).drewN nq = wq at *
  go_wp2_with fail
  refine (refIs_calls _ _ _ _ Rar.out).mono ?_
  rintro e wq ⟨rfl, rfl⟩
  rw [H1.out]
  go_wp2_with fail
  refine (refIs_calls _ _ _ _ Rbr.out).mono ?_
  rintro e wq ⟨rfl, rfl⟩
  rw [H2.out]
  go_wp2_with fail
  refine (refIs_calls _ _ _ _ Rcr.out).mono ?_
  rintro e wq ⟨rfl, rfl⟩
  rw [H3.out]
  go_wp2_with fail
  refine (refIs_calls _ _ _ _ Rdr.out).mono ?_
  rintro e wq ⟨rfl, rfl⟩
  rw [H4.out]
  go_wp2_with fail
  clear eb ec ed
  refine (copied_calls a _ _ _ Rar.out LA).mono ?_
  rintro e w1 ⟨v, rfl, ho, hb⟩
  obtain ⟨g1, c1, rfl, hg1, hg1b⟩ := ho.form (by omega)
  have HO1 := Aside0.mk ho
  have HK := Aside0.mk hb
  have Rb1 := Aside0.mk (Rbr.out.below hb)
  clear ho hb
  go_wp2_with fail
  refine (copied_calls b _ _ _ Rb1.out LB).mono ?_
  rintro e w2 ⟨v, rfl, ho, hb⟩
  obtain ⟨g2, c2, rfl, hg2, hg2b⟩ := ho.form (by have := LE.out.1; omega)
  have hz2 : wq.heap.size ≤ g2 := Nat.le_trans HK.out.size hg2
  have hne : ¬ g1 = g2 := by omega
  have hne' : ¬ g2 = g1 := by omega
  have HP := Aside0.mk (HO1.out.below hb)
  have HQ := Aside0.mk (ho.lower HK.out.size)
  have HW := Aside0.mk (below_step HK.out hb)
  clear ho hb HO1 HK Rb1 hg2 hg1b hg2b
  go_wp2_with fail
  go_loopw [68] (fun i wr => ∃ j : Nat, j ≤ a.length ∧ i = .int .i64 j ∧ Aside0 (Own wr wq.heap.size (.slice (some ⟨g1, 0, none⟩) a.length c1) (mixUp a c j)) ∧ Aside0 (Own wr wq.heap.size (.slice (some ⟨g2, 0, none⟩) b.length c2) (mixUp b d j)) ∧ Aside0 (Below wq.heap.size wq wr)) (fun i _ => a.length - (intOf i).toNat)
  case atStart => exact ⟨0, Nat.zero_le _, rfl, ⟨by rw [mixUp_zero]; exact HP.out⟩, ⟨by rw [mixUp_zero]; exact HQ.out⟩, HW⟩
  case round =>
    clear HP HQ HW
    obtain ⟨j, hj, rfl, HP, HQ, HW⟩ := hrel
    by_cases hlt : j < a.length
    · have hb := LE.out
      have jb : j < b.length := by omega
      have jc : j < c.length := by omega
      have jd : j < d.length := by omega
      clear hb
      obtain ⟨hx1, hf1⟩ := HP.out.cell j hlt
      obtain ⟨hx2, hf2⟩ := HQ.out.cell j jb
      rw [mixUp_at a c j hlt] at hx1
      rw [mixUp_at b d j jb] at hx2
      obtain ⟨ac, ec, hxc⟩ := (Rcr.out.below HW.out).at_ j jc
      cases ec
      obtain ⟨ad, ed, hxd⟩ := (Rdr.out.below HW.out).at_ j jd
      cases ed
      have BC := Aside0.mk (Rcr.out.b.nth j)
      have BD := Aside0.mk (Rdr.out.b.nth j)
      by_cases u1 : 1 < nth a j <;> by_cases u2 : 1 < nth b j
      · have MA := Aside0.mk (mixUp_set a c j u1)
        have MB := Aside0.mk (mixUp_set b d j u2)
        have hxd2 : (wr.setCell ⟨g1, j, none⟩ (.int .u8 (nth c j))).cell? (ad.add j) = some (.int .u8 (nth d j)) := by
          obtain ⟨ad', ed', h⟩ := (Rdr.out.below (HW.out.setCell hg1 _ : Below _ _ (wr.setCell ⟨g1, j, none⟩ (.int .u8 (nth c j))))).at_ j jd
          cases ed'
          exact h
        go_wp2
        go_roundw
        case rel => exact ⟨j + 1, by omega, by go_num, ⟨by rw [← MA.out]; exact (HP.out.put j BC.out.1 BC.out.2).apart hne _⟩, ⟨by rw [← MB.out]; exact (HQ.out.apart hne' _).put j BD.out.1 BD.out.2⟩, ⟨(HW.out.setCell hg1 _).setCell hz2 _⟩⟩
        case measure => simp [intOf]; omega
      · have MA := Aside0.mk (mixUp_set a c j u1)
        have MB := Aside0.mk (mixUp_keep b d j u2)
        go_wp2
        go_roundw
        case rel => exact ⟨j + 1, by omega, by go_num, ⟨by rw [← MA.out]; exact HP.out.put j BC.out.1 BC.out.2⟩, ⟨by rw [MB.out]; exact HQ.out.apart hne' _⟩, ⟨HW.out.setCell hg1 _⟩⟩
        case measure => simp [intOf]; omega
      · have MA := Aside0.mk (mixUp_keep a c j u1)
        have MB := Aside0.mk (mixUp_set b d j u2)
        go_wp2
        go_roundw
        case rel => exact ⟨j + 1, by omega, by go_num, ⟨by rw [MA.out]; exact HP.out.apart hne _⟩, ⟨by rw [← MB.out]; exact HQ.out.put j BD.out.1 BD.out.2⟩, ⟨HW.out.setCell hz2 _⟩⟩
        case measure => simp [intOf]; omega
      · have MA := Aside0.mk (mixUp_keep a c j u1)
        have MB := Aside0.mk (mixUp_keep b d j u2)
        go_wp2
        go_roundw
        case rel => exact ⟨j + 1, by omega, by go_num, ⟨by rw [MA.out]; exact HP.out⟩, ⟨by rw [MB.out]; exact HQ.out⟩, HW⟩
        case measure => simp [intOf]; omega
    · obtain rfl : j = a.length := by omega
      have HBw := Aside0.mk (below_step HBq.out HW.out)
      have Raw := Aside0.mk (Rar.out.below HW.out)
      have Rbw := Aside0.mk (Rbr.out.below HW.out)
      have Rvw := Aside0.mk HP.out.reads_here
      have Rww := Aside0.mk HQ.out.reads_here
      clear HP HQ HW Rar Rbr Rcr Rdr HBq
      obtain ⟨V, eV⟩ : ∃ y, y = mixUp a c a.length := ⟨_, rfl⟩
      obtain ⟨W, eW⟩ : ∃ y, y = mixUp b d a.length := ⟨_, rfl⟩
      have LV : V.length = a.length := by rw [eV, mixUp_length]
      have LW : W.length = b.length := by rw [eW, mixUp_length]
      rw [← eV] at P2 MM Rvw CE2
      rw [← eW] at P2 MM Rww CE2
      have HV := Aside0.mk LV
      have HWl := Aside0.mk LW
      clear eV eW LV LW
      go_wp2_with fail
      refine (add_calls a b _ _ _ _ _ Raw.out Rbw.out).mono ?_
      rintro e w1 ⟨v, rfl, ho, hb⟩
      rw [CE1.out]
      obtain ⟨A_p_1, c_p_1, rfl, h_p_1, hr⟩ := ho.reads
      have HB1 := Aside0.mk (below_step HBw.out hb)
      have Ra_1 := Aside0.mk (Raw.out.below hb)
      have Rb_1 := Aside0.mk (Rbw.out.below hb)
      have Rv_1 := Aside0.mk (Rvw.out.below hb)
      have Rw_1 := Aside0.mk (Rww.out.below hb)
      clear HBw Raw Rbw Rvw Rww
      have Rp_n1 := Aside0.mk hr
      clear ho hb hr
      go_wp2_with fail
      have S := add_calls V W _ _ c1 c2 _ Rv_1.out Rw_1.out
      rw [HV.out, HWl.out, CE2.out] at S
      refine (S).mono ?_
      rintro e w2 ⟨v, rfl, ho, hb⟩
      obtain ⟨A_q_2, c_q_2, rfl, h_q_2, hr⟩ := ho.reads
      have HB2 := Aside0.mk (below_step HB1.out hb)
      have Ra_2 := Aside0.mk (Ra_1.out.below hb)
      have Rb_2 := Aside0.mk (Rb_1.out.below hb)
      have Rv_2 := Aside0.mk (Rv_1.out.below hb)
      have Rw_2 := Aside0.mk (Rw_1.out.below hb)
      have Rp_2 := Aside0.mk (Rp_n1.out.below hb)
      clear HB1 Ra_1 Rb_1 Rv_1 Rw_1 Rp_n1
      have Rq_n2 := Aside0.mk hr
      clear ho hb hr
      go_wp2_with fail
      clear S
      refine (cov_calls addW _ _ _ _ _ p.out P2.out HV.out MM.out Rp_2.out Rq_n2.out).mono ?_
      rintro e w3 ⟨rfl, hb⟩
      have HB3 := Aside0.mk (below_step HB2.out hb)
      have Ra_3 := Aside0.mk (Ra_2.out.below hb)
      have Rb_3 := Aside0.mk (Rb_2.out.below hb)
      have Rv_3 := Aside0.mk (Rv_2.out.below hb)
      have Rw_3 := Aside0.mk (Rw_2.out.below hb)
      have Rp_3 := Aside0.mk (Rp_2.out.below hb)
      have Rq_3 := Aside0.mk (Rq_n2.out.below hb)
      clear HB2 Ra_2 Rb_2 Rv_2 Rw_2 Rp_2 Rq_n2
      clear hb
      go_wp2_with fail
      clear Rp_3
      clear Rq_3
      refine (sub_calls a b _ _ _ _ _ Ra_3.out Rb_3.out).mono ?_
      rintro e w4 ⟨v, rfl, ho, hb⟩
      rw [CE1.out]
      obtain ⟨A_p_4, c_p_4, rfl, h_p_4, hr⟩ := ho.reads
      have HB4 := Aside0.mk (below_step HB3.out hb)
      have Ra_4 := Aside0.mk (Ra_3.out.below hb)
      have Rb_4 := Aside0.mk (Rb_3.out.below hb)
      have Rv_4 := Aside0.mk (Rv_3.out.below hb)
      have Rw_4 := Aside0.mk (Rw_3.out.below hb)
      clear HB3 Ra_3 Rb_3 Rv_3 Rw_3
      have Rp_n4 := Aside0.mk hr
      clear ho hb hr
      go_wp2_with fail
      have S := sub_calls V W _ _ c1 c2 _ Rv_4.out Rw_4.out
      rw [HV.out, HWl.out, CE2.out] at S
      refine (S).mono ?_
      rintro e w5 ⟨v, rfl, ho, hb⟩
      obtain ⟨A_q_5, c_q_5, rfl, h_q_5, hr⟩ := ho.reads
      have HB5 := Aside0.mk (below_step HB4.out hb)
      have Ra_5 := Aside0.mk (Ra_4.out.below hb)
      have Rb_5 := Aside0.mk (Rb_4.out.below hb)
      have Rv_5 := Aside0.mk (Rv_4.out.below hb)
      have Rw_5 := Aside0.mk (Rw_4.out.below hb)
      have Rp_5 := Aside0.mk (Rp_n4.out.below hb)
      clear HB4 Ra_4 Rb_4 Rv_4 Rw_4 Rp_n4
      have Rq_n5 := Aside0.mk hr
      clear ho hb hr
      go_wp2_with fail
      clear S
      refine (cov_calls subW _ _ _ _ _ p.out P2.out HV.out MM.out Rp_5.out Rq_n5.out).mono ?_
      rintro e w6 ⟨rfl, hb⟩
      have HB6 := Aside0.mk (below_step HB5.out hb)
      have Ra_6 := Aside0.mk (Ra_5.out.below hb)
      have Rb_6 := Aside0.mk (Rb_5.out.below hb)
      have Rv_6 := Aside0.mk (Rv_5.out.below hb)
      have Rw_6 := Aside0.mk (Rw_5.out.below hb)
      have Rp_6 := Aside0.mk (Rp_5.out.below hb)
      have Rq_6 := Aside0.mk (Rq_n5.out.below hb)
      clear HB5 Ra_5 Rb_5 Rv_5 Rw_5 Rp_5 Rq_n5
      clear hb
      go_wp2_with fail
      clear Rp_6
      clear Rq_6
      refine (mul_calls a b _ _ _ _ _ Ra_6.out Rb_6.out).mono ?_
      rintro e w7 ⟨v, rfl, ho, hb⟩
      rw [CE1.out]
      obtain ⟨A_p_7, c_p_7, rfl, h_p_7, hr⟩ := ho.reads
      have HB7 := Aside0.mk (below_step HB6.out hb)
      have Ra_7 := Aside0.mk (Ra_6.out.below hb)
      have Rb_7 := Aside0.mk (Rb_6.out.below hb)
      have Rv_7 := Aside0.mk (Rv_6.out.below hb)
      have Rw_7 := Aside0.mk (Rw_6.out.below hb)
      clear HB6 Ra_6 Rb_6 Rv_6 Rw_6
      have Rp_n7 := Aside0.mk hr
      clear ho hb hr
      go_wp2_with fail
      have S := mul_calls V W _ _ c1 c2 _ Rv_7.out Rw_7.out
      rw [HV.out, HWl.out, CE2.out] at S
      refine (S).mono ?_
      rintro e w8 ⟨v, rfl, ho, hb⟩
      obtain ⟨A_q_8, c_q_8, rfl, h_q_8, hr⟩ := ho.reads
      have HB8 := Aside0.mk (below_step HB7.out hb)
      have Ra_8 := Aside0.mk (Ra_7.out.below hb)
      have Rb_8 := Aside0.mk (Rb_7.out.below hb)
      have Rv_8 := Aside0.mk (Rv_7.out.below hb)
      have Rw_8 := Aside0.mk (Rw_7.out.below hb)
      have Rp_8 := Aside0.mk (Rp_n7.out.below hb)
      clear HB7 Ra_7 Rb_7 Rv_7 Rw_7 Rp_n7
      have Rq_n8 := Aside0.mk hr
      clear ho hb hr
      go_wp2_with fail
      clear S
      refine (cov_calls mulW _ _ _ _ _ p.out P2.out HV.out MM.out Rp_8.out Rq_n8.out).mono ?_
      rintro e w9 ⟨rfl, hb⟩
      have HB9 := Aside0.mk (below_step HB8.out hb)
      have Ra_9 := Aside0.mk (Ra_8.out.below hb)
      have Rb_9 := Aside0.mk (Rb_8.out.below hb)
      have Rv_9 := Aside0.mk (Rv_8.out.below hb)
      have Rw_9 := Aside0.mk (Rw_8.out.below hb)
      have Rp_9 := Aside0.mk (Rp_8.out.below hb)
      have Rq_9 := Aside0.mk (Rq_n8.out.below hb)
      clear HB8 Ra_8 Rb_8 Rv_8 Rw_8 Rp_8 Rq_n8
      clear hb
      go_wp2_with fail
      clear Rp_9
      clear Rq_9
      refine (awake_calls _).mono ?_
      rintro e w10 ⟨rfl, hb⟩
      have HBz := Aside0.mk (below_step HB9.out hb)
      clear hb
      go_wp2_with fail
      go_ret
      exact ⟨rfl, HBz.out⟩
theorem vecKnown_walk (w : World) (a : List Int) (A : Option Addr) (ca : Nat) (ra : Rd w A a) (b : List Int) (B : Option Addr) (cb : Nat) (rb : Rd w B b) (c : List Int) (C : Option Addr) (cc : Nat) (rc : Rd w C c) (d : List Int) (D : Option Addr) (cd : Nat) (rd : Rd w D d) :
    Calls Try.prog 6 #[.agg #[.slice A a.length ca, .slice B b.length cb, .slice C c.length cc, .slice D d.length cd]] w fun e w' => e = .returned (.bool true) ∧ Below w.heap.size w w' := by
  cases h1 : isV a
  · exact known_bad1 w a A ca ra b B cb rb c C cc rc d D cd rd h1
  cases h2 : isV b
  · exact known_bad2 w a A ca ra b B cb rb c C cc rc d D cd rd h1 h2
  cases h3 : isV c
  · exact known_bad3 w a A ca ra b B cb rb c C cc rc d D cd rd h1 h2 h3
  cases h4 : isV d
  · exact known_bad4 w a A ca ra b B cb rb c C cc rc d D cd rd h1 h2 h3 h4
  by_cases eb : a.length = b.length
  rotate_left
  · exact known_lenb w a A ca ra b B cb rb c C cc rc d D cd rd h1 h2 h3 h4  (by simp; omega)
  by_cases ec : a.length = c.length
  rotate_left
  · exact known_lenc w a A ca ra b B cb rb c C cc rc d D cd rd h1 h2 h3 h4 (by simp [eb]) (by simp; omega)
  by_cases ed : a.length = d.length
  rotate_left
  · exact known_lend w a A ca ra b B cb rb c C cc rc d D cd rd h1 h2 h3 h4 (by simp [eb]) (by simp [ec]) (by simp; omega)
  exact known_ok w a A ca ra b B cb rb c C cc rc d D cd rd h1 h2 h3 h4 eb ec ed
end Go.Proofs.Ytaffdpgacggllaa.V
