import Derived.Test.YtdhcgankmhpgeaaGreatB03
set_option linter.all false
namespace Go.Proofs.YtdhcgankmhpgeaaGreat.M
open Go
set_option maxRecDepth 100000
noncomputable def ae42:Ent:=⟨55,q62,[q63,(.var 122 [q53,.nils,.nils,.nils,(vi 0),(vi 33),(vi 11)]),q66,q1d,q67,q68,q8,q69,q28,q6b,q6c,q30,q1d,q72],(.ret q70),[q63,(.var 122 [q53,.nils,.nils,.nils,(vi 0),(vi 39),(vi 11)]),q66,q1d,q67,q68,q8,q69,q28,q6b,q6c,q30,q1d,q72]⟩
theorem ae42_is:ccall cfg (bcall cfg (memo aw42) 60) ae42.f ae42.args ae42.objs=some (ae42.r,ae42.objs'):=by kernel_rfl
noncomputable def aw43:List Ent:=ae42::aw42
theorem aw43_ok:∀ e∈aw43,FnAt Tryz.prog e.f e.args e.objs e.r e.objs':=at_ok cfg_ok aw42_ok ae42_is
noncomputable def ae43:Ent:=⟨55,q62,[q63,(.var 122 [q53,.nils,.nils,.nils,(vi 0),(vi 30),(vi 10)]),q66,q1d,q67,q68,q8,q69,q28,q6b,q6c,q30,q1d,q77],(.ret q75),[q63,(.var 122 [q53,.nils,.nils,.nils,(vi 0),(vi 39),(vi 10)]),q66,q1d,q67,q68,q8,q69,q28,q6b,q6c,q30,q1d,q77]⟩
theorem ae43_is:ccall cfg (bcall cfg (memo aw43) 60) ae43.f ae43.args ae43.objs=some (ae43.r,ae43.objs'):=by kernel_rfl
noncomputable def aw44:List Ent:=ae43::aw43
theorem aw44_ok:∀ e∈aw44,FnAt Tryz.prog e.f e.args e.objs e.r e.objs':=at_ok cfg_ok aw43_ok ae43_is
noncomputable def ae44:Ent:=⟨55,q62,[q63,(.var 122 [q53,.nils,.nils,.nils,(vi 0),(vi 27),(vi 9)]),q66,q1d,q67,q68,q8,q69,q28,q6b,q6c,q30,q1d,q7b],(.ret q79),[q63,(.var 122 [q53,.nils,.nils,.nils,(vi 0),(vi 39),(vi 9)]),q66,q1d,q67,q68,q8,q69,q28,q6b,q6c,q30,q1d,q7b]⟩
theorem ae44_is:ccall cfg (bcall cfg (memo aw44) 60) ae44.f ae44.args ae44.objs=some (ae44.r,ae44.objs'):=by kernel_rfl
noncomputable def aw45:List Ent:=ae44::aw44
theorem aw45_ok:∀ e∈aw45,FnAt Tryz.prog e.f e.args e.objs e.r e.objs':=at_ok cfg_ok aw44_ok ae44_is
noncomputable def q84:List AV:=[(.ptr 0 0),(.agg q6a)]
noncomputable def q85:Obj':=(.arr 33 4 [q6f])
noncomputable def ae45:Ent:=⟨55,q84,[q63,(.var 122 [q53,.nils,.nils,.nils,(vi 0),(vi 24),(vi 8)]),q66,q1d,q67,q68,q8,q69,q28,q6b,q6c,q30,q1d,q85],(.ret q79),[q63,(.var 122 [q53,.nils,.nils,.nils,(vi 0),(vi 39),(vi 8)]),q66,q1d,q67,q68,q8,q69,q28,q6b,q6c,q30,q1d,q85]⟩
theorem ae45_is:ccall cfg (bcall cfg (memo aw45) 60) ae45.f ae45.args ae45.objs=some (ae45.r,ae45.objs'):=by kernel_rfl
noncomputable def aw46:List Ent:=ae45::aw45
theorem aw46_ok:∀ e∈aw46,FnAt Tryz.prog e.f e.args e.objs e.r e.objs':=at_ok cfg_ok aw45_ok ae45_is
noncomputable def q86:List AV:=[(vi 3),(vi 7),.nils,.nils]
noncomputable def q87:Obj':=(.arr 33 4 [q86])
noncomputable def ae46:Ent:=⟨55,q84,[q63,(.var 122 [q53,.nils,.nils,.nils,(vi 0),(vi 21),(vi 7)]),q66,q1d,q67,q68,q8,q69,q28,q6b,q6c,q30,q1d,q87],(.ret (.agg [(vi 3),(vi 720),.nils,.nils])),[q63,(.var 122 [q53,.nils,.nils,.nils,(vi 0),(vi 39),(vi 7)]),q66,q1d,q67,q68,q8,q69,q28,q6b,q6c,q30,q1d,q87]⟩
theorem ae46_is:ccall cfg (bcall cfg (memo aw46) 60) ae46.f ae46.args ae46.objs=some (ae46.r,ae46.objs'):=by kernel_rfl
noncomputable def aw47:List Ent:=ae46::aw46
theorem aw47_ok:∀ e∈aw47,FnAt Tryz.prog e.f e.args e.objs e.r e.objs':=at_ok cfg_ok aw46_ok ae46_is
noncomputable def q88:Obj':=(.arr 33 4 [[(vi 3),(vi 8),.nils,.nils]])
noncomputable def ae47:Ent:=⟨55,q84,[q63,(.var 122 [q53,.nils,.nils,.nils,(vi 0),(vi 18),(vi 6)]),q66,q1d,q67,q68,q8,q69,q28,q6b,q6c,q30,q1d,q88],(.ret (.agg [(vi 3),(vi 5040),.nils,.nils])),[q63,(.var 122 [q53,.nils,.nils,.nils,(vi 0),(vi 39),(vi 6)]),q66,q1d,q67,q68,q8,q69,q28,q6b,q6c,q30,q1d,q88]⟩
theorem ae47_is:ccall cfg (bcall cfg (memo aw47) 60) ae47.f ae47.args ae47.objs=some (ae47.r,ae47.objs'):=by kernel_rfl
noncomputable def aw48:List Ent:=ae47::aw47
theorem aw48_ok:∀ e∈aw48,FnAt Tryz.prog e.f e.args e.objs e.r e.objs':=at_ok cfg_ok aw47_ok ae47_is
noncomputable def q89:Obj':=(.arr 33 4 [[(vi 3),(vi 9),.nils,.nils]])
noncomputable def ae48:Ent:=⟨55,q84,[q63,(.var 122 [q53,.nils,.nils,.nils,(vi 0),(vi 15),(vi 5)]),q66,q1d,q67,q68,q8,q69,q28,q6b,q6c,q30,q1d,q89],(.ret (.agg [(vi 3),(vi 40320),.nils,.nils])),[q63,(.var 122 [q53,.nils,.nils,.nils,(vi 0),(vi 39),(vi 5)]),q66,q1d,q67,q68,q8,q69,q28,q6b,q6c,q30,q1d,q89]⟩
theorem ae48_is:ccall cfg (bcall cfg (memo aw48) 60) ae48.f ae48.args ae48.objs=some (ae48.r,ae48.objs'):=by kernel_rfl
noncomputable def aw49:List Ent:=ae48::aw48
theorem aw49_ok:∀ e∈aw49,FnAt Tryz.prog e.f e.args e.objs e.r e.objs':=at_ok cfg_ok aw48_ok ae48_is
noncomputable def q8a:Obj':=(.arr 33 4 [[(vi 3),(vi 10),.nils,.nils]])
noncomputable def ae49:Ent:=⟨55,q84,[q63,q64,q66,q1d,q67,q68,q8,q69,q28,q6b,q6c,q30,q1d,q8a],(.ret (.agg [(vi 3),(vi 362880),.nils,.nils])),[q63,(.var 122 [q53,.nils,.nils,.nils,(vi 0),(vi 39),(vi 4)]),q66,q1d,q67,q68,q8,q69,q28,q6b,q6c,q30,q1d,q8a]⟩
theorem ae49_is:ccall cfg (bcall cfg (memo aw49) 60) ae49.f ae49.args ae49.objs=some (ae49.r,ae49.objs'):=by kernel_rfl
noncomputable def aw50:List Ent:=ae49::aw49
theorem aw50_ok:∀ e∈aw50,FnAt Tryz.prog e.f e.args e.objs e.r e.objs':=at_ok cfg_ok aw49_ok ae49_is
noncomputable def q8b:Obj':=(.arr 33 4 [[(vi 3),(vi 11),.nils,.nils]])
noncomputable def ae50:Ent:=⟨55,q84,[q63,q71,q66,q1d,q67,q68,q8,q69,q28,q6b,q6c,q30,q1d,q8b],(.ret (.agg [(vi 3),(vi 3628800),.nils,.nils])),[q63,(.var 122 [q53,.nils,.nils,.nils,(vi 0),(vi 39),(vi 3)]),q66,q1d,q67,q68,q8,q69,q28,q6b,q6c,q30,q1d,q8b]⟩
theorem ae50_is:ccall cfg (bcall cfg (memo aw50) 60) ae50.f ae50.args ae50.objs=some (ae50.r,ae50.objs'):=by kernel_rfl
noncomputable def aw51:List Ent:=ae50::aw50
theorem aw51_ok:∀ e∈aw51,FnAt Tryz.prog e.f e.args e.objs e.r e.objs':=at_ok cfg_ok aw50_ok ae50_is
noncomputable def q8c:Obj':=(.arr 33 4 [[(vi 3),(vi 12),.nils,.nils]])
noncomputable def ae51:Ent:=⟨55,q84,[q63,q76,q66,q1d,q67,q68,q8,q69,q28,q6b,q6c,q30,q1d,q8c],(.ret (.agg [(vi 3),(vi 39916800),.nils,.nils])),[q63,(.var 122 [q53,.nils,.nils,.nils,(vi 0),(vi 39),(vi 2)]),q66,q1d,q67,q68,q8,q69,q28,q6b,q6c,q30,q1d,q8c]⟩
theorem ae51_is:ccall cfg (bcall cfg (memo aw51) 60) ae51.f ae51.args ae51.objs=some (ae51.r,ae51.objs'):=by kernel_rfl
noncomputable def aw52:List Ent:=ae51::aw51
theorem aw52_ok:∀ e∈aw52,FnAt Tryz.prog e.f e.args e.objs e.r e.objs':=at_ok cfg_ok aw51_ok ae51_is
end Go.Proofs.YtdhcgankmhpgeaaGreat.M
