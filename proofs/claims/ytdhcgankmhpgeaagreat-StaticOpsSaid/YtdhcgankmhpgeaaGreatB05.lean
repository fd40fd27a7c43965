import Derived.Test.YtdhcgankmhpgeaaGreatB04
set_option linter.all false
namespace Go.Proofs.YtdhcgankmhpgeaaGreat.M
open Go
set_option maxRecDepth 100000
noncomputable def q8d:Obj':=(.arr 33 4 [[(vi 3),(vi 13),.nils,.nils]])
noncomputable def ae52:Ent:=⟨55,q84,[q63,q7a,q66,q1d,q67,q68,q8,q69,q28,q6b,q6c,q30,q1d,q8d],(.ret (.agg [(vi 3),(vi 479001600),.nils,.nils])),[q63,(.var 122 [q53,.nils,.nils,.nils,(vi 0),(vi 39),(vi 1)]),q66,q1d,q67,q68,q8,q69,q28,q6b,q6c,q30,q1d,q8d]⟩
theorem ae52_is:ccall cfg (bcall cfg (memo aw52) 60) ae52.f ae52.args ae52.objs=some (ae52.r,ae52.objs'):=by kernel_rfl
noncomputable def aw53:List Ent:=ae52::aw52
theorem aw53_ok:∀ e∈aw53,FnAt Tryz.prog e.f e.args e.objs e.r e.objs':=at_ok cfg_ok aw52_ok ae52_is
noncomputable def q8e:List Obj':=[q7d,q1d,q7e,q7f,q8,q80,q28,q81,q82,q30,q1d,q8d]
noncomputable def q8f:AV:=(.agg [(vi 0),(vi 0),.nils,.nils])
noncomputable def ae53:Ent:=⟨20,q7c,q8e,(.ret (.tup [q8f,(vi 0),(vi 19)])),q8e⟩
theorem ae53_is:ccall cfg (bcall cfg (memo aw53) 60) ae53.f ae53.args ae53.objs=some (ae53.r,ae53.objs'):=by kernel_rfl
noncomputable def aw54:List Ent:=ae53::aw53
theorem aw54_ok:∀ e∈aw54,FnAt Tryz.prog e.f e.args e.objs e.r e.objs':=at_ok cfg_ok aw53_ok ae53_is
noncomputable def q90:List AV:=[.nils,.nils,.nils,(vi 0)]
noncomputable def q91:AV:=(.agg q90)
noncomputable def q92:AV:=(.fn 203 q15)
noncomputable def q93:Obj':=(.var 23 [.nils])
noncomputable def ae54:Ent:=⟨50,[.nils,.nils,q91],[],(.ret (.tup [(.ptr 0 0),qa])),[(.var 136 [q92,(.fn 112 [(.ptr 2 0),(.ptr 3 0),(.ptr 5 0)]),(.fn 203 q39),(.mp 7)]),q93,(.var 134 [q92]),(.var 134 [(.fn 203 [(.ptr 4 0)])]),q93,(.var 26 q90),q93,(.mapo [])]⟩
theorem ae54_is:ccall cfg (bcall cfg (memo aw54) 60) ae54.f ae54.args ae54.objs=some (ae54.r,ae54.objs'):=by kernel_rfl
noncomputable def aw55:List Ent:=ae54::aw54
theorem aw55_ok:∀ e∈aw55,FnAt Tryz.prog e.f e.args e.objs e.r e.objs':=at_ok cfg_ok aw54_ok ae54_is
noncomputable def ae55:Ent:=⟨140,[q0,(.str [43])],q2,(.ret q3),q2⟩
theorem ae55_is:ccall cfg (bcall cfg (memo aw55) 60) ae55.f ae55.args ae55.objs=some (ae55.r,ae55.objs'):=by kernel_rfl
noncomputable def aw56:List Ent:=ae55::aw55
theorem aw56_ok:∀ e∈aw56,FnAt Tryz.prog e.f e.args e.objs e.r e.objs':=at_ok cfg_ok aw55_ok ae55_is
noncomputable def ae56:Ent:=⟨225,[q4,(.str [43])],q5,(.ret (vi 12)),q5⟩
theorem ae56_is:ccall cfg (bcall cfg (memo aw56) 60) ae56.f ae56.args ae56.objs=some (ae56.r,ae56.objs'):=by kernel_rfl
noncomputable def aw57:List Ent:=ae56::aw56
theorem aw57_ok:∀ e∈aw57,FnAt Tryz.prog e.f e.args e.objs e.r e.objs':=at_ok cfg_ok aw56_ok ae56_is
noncomputable def q94:List AV:=[(vi 8),(.str []),(vi 0),.nils,(vi 3),(vi 6),.nils,.nils,.nils,(vi 3),(vi 0),(.str []),.nils,.nils,(vi 0),(vi 0)]
noncomputable def q95:List Obj':=[(.arr 40 16 [q94,q2f])]
noncomputable def ae57:Ent:=⟨15,[.nils,.nils,q91,(.agg [(vi 5),(.str [43]),(vi 0),.nils,(vi 0),(vi 0),.nils,.nils,q6,(vi 3),(vi 0),(.str []),.nils,.nils,(vi 0),(vi 0)])],q95,(.ret (.tup [(.agg q86),(vi 0)])),q95⟩
theorem ae57_is:ccall cfg (bcall cfg (memo aw57) 60) ae57.f ae57.args ae57.objs=some (ae57.r,ae57.objs'):=by kernel_rfl
noncomputable def aw58:List Ent:=ae57::aw57
theorem aw58_ok:∀ e∈aw58,FnAt Tryz.prog e.f e.args e.objs e.r e.objs':=at_ok cfg_ok aw57_ok ae57_is
noncomputable def ae58:Ent:=⟨140,[q0,(.str [47])],q2,(.ret q3),q2⟩
theorem ae58_is:ccall cfg (bcall cfg (memo aw58) 60) ae58.f ae58.args ae58.objs=some (ae58.r,ae58.objs'):=by kernel_rfl
noncomputable def aw59:List Ent:=ae58::aw58
theorem aw59_ok:∀ e∈aw59,FnAt Tryz.prog e.f e.args e.objs e.r e.objs':=at_ok cfg_ok aw58_ok ae58_is
noncomputable def ae59:Ent:=⟨225,[q4,(.str [47])],q5,(.ret (vi 15)),q5⟩
theorem ae59_is:ccall cfg (bcall cfg (memo aw59) 60) ae59.f ae59.args ae59.objs=some (ae59.r,ae59.objs'):=by kernel_rfl
noncomputable def aw60:List Ent:=ae59::aw59
theorem aw60_ok:∀ e∈aw60,FnAt Tryz.prog e.f e.args e.objs e.r e.objs':=at_ok cfg_ok aw59_ok ae59_is
noncomputable def q96:List Obj':=[(.arr 40 16 [q2f,[(vi 8),(.str []),(vi 0),.nils,(vi 3),(vi 0),.nils,.nils,.nils,(vi 3),(vi 0),(.str []),.nils,.nils,(vi 0),(vi 0)]])]
noncomputable def ae60:Ent:=⟨15,[.nils,.nils,q91,(.agg [(vi 5),(.str [47]),(vi 0),.nils,(vi 0),(vi 0),.nils,.nils,q6,(vi 3),(vi 0),(.str []),.nils,.nils,(vi 0),(vi 0)])],q96,(.ret (.tup [q8f,(vi 20)])),q96⟩
theorem ae60_is:ccall cfg (bcall cfg (memo aw60) 60) ae60.f ae60.args ae60.objs=some (ae60.r,ae60.objs'):=by kernel_rfl
noncomputable def aw61:List Ent:=ae60::aw60
theorem aw61_ok:∀ e∈aw61,FnAt Tryz.prog e.f e.args e.objs e.r e.objs':=at_ok cfg_ok aw60_ok ae60_is
noncomputable def ae61:Ent:=⟨32,[qc,q5d],[],(.ret qa),[]⟩
theorem ae61_is:ccall cfg (bcall cfg (memo aw61) 60) ae61.f ae61.args ae61.objs=some (ae61.r,ae61.objs'):=by kernel_rfl
noncomputable def aw62:List Ent:=ae61::aw61
theorem aw62_ok:∀ e∈aw62,FnAt Tryz.prog e.f e.args e.objs e.r e.objs':=at_ok cfg_ok aw61_ok ae61_is
noncomputable def ae62:Ent:=⟨55,q62,[q63,q76,q66,q1d,q67,q68,q8,q69,q28,q6b,q6c,q30,q1d,q6d],(.ret qe),[q63,(.var 122 [q53,.nils,.nils,.nils,(vi 0),(vi 9),(vi 2)]),q66,q1d,q67,q68,q8,q69,q28,q6b,q6c,q30,q1d,q6d]⟩
theorem ae62_is:ccall cfg (bcall cfg (memo aw62) 60) ae62.f ae62.args ae62.objs=some (ae62.r,ae62.objs'):=by kernel_rfl
noncomputable def aw63:List Ent:=ae62::aw62
theorem aw63_ok:∀ e∈aw63,FnAt Tryz.prog e.f e.args e.objs e.r e.objs':=at_ok cfg_ok aw62_ok ae62_is
noncomputable def ae63:Ent:=⟨55,q62,[q63,q7a,q66,q1d,q67,q68,q8,q69,q28,q6b,q6c,q30,q1d,q72],(.ret q70),[q63,(.var 122 [q53,.nils,.nils,.nils,(vi 0),(vi 9),(vi 1)]),q66,q1d,q67,q68,q8,q69,q28,q6b,q6c,q30,q1d,q72]⟩
theorem ae63_is:ccall cfg (bcall cfg (memo aw63) 60) ae63.f ae63.args ae63.objs=some (ae63.r,ae63.objs'):=by kernel_rfl
noncomputable def aw64:List Ent:=ae63::aw63
theorem aw64_ok:∀ e∈aw64,FnAt Tryz.prog e.f e.args e.objs e.r e.objs':=at_ok cfg_ok aw63_ok ae63_is
noncomputable def q97:List Obj':=[q7d,q1d,q7e,q7f,q8,q80,q28,q81,q82,q30,q1d,(.arr 40 16 [[(vi 8),(.str []),(vi 0),.nils,(vi 3),(vi 3),.nils,.nils,.nils,(vi 3),(vi 0),(.str []),.nils,.nils,(vi 0),(vi 0)]])]
noncomputable def ae64:Ent:=⟨26,[q34,(.agg [(vi 5),q1,(vi 0),.nils,(vi 0),(vi 0),.nils,.nils,q3f,(vi 3),(vi 0),(.str []),.nils,.nils,(vi 0),(vi 0)])],q97,(.ret (.tup [(.agg q94),(vi 0)])),q97⟩
theorem ae64_is:ccall cfg (bcall cfg (memo aw64) 60) ae64.f ae64.args ae64.objs=some (ae64.r,ae64.objs'):=by kernel_rfl
noncomputable def aw65:List Ent:=ae64::aw64
theorem aw65_ok:∀ e∈aw65,FnAt Tryz.prog e.f e.args e.objs e.r e.objs':=at_ok cfg_ok aw64_ok ae64_is
noncomputable def ae65:Ent:=⟨32,[qc,q5a],[],(.ret qa),[]⟩
theorem ae65_is:ccall cfg (bcall cfg (memo aw65) 60) ae65.f ae65.args ae65.objs=some (ae65.r,ae65.objs'):=by kernel_rfl
noncomputable def aw66:List Ent:=ae65::aw65
theorem aw66_ok:∀ e∈aw66,FnAt Tryz.prog e.f e.args e.objs e.r e.objs':=at_ok cfg_ok aw65_ok ae65_is
noncomputable def ae66:Ent:=⟨14,[],[],(.ret qa),[]⟩
theorem ae66_is:ccall cfg (bcall cfg (memo aw66) 60) ae66.f ae66.args ae66.objs=some (ae66.r,ae66.objs'):=by kernel_rfl
noncomputable def aw67:List Ent:=ae66::aw66
theorem aw67_ok:∀ e∈aw67,FnAt Tryz.prog e.f e.args e.objs e.r e.objs':=at_ok cfg_ok aw66_ok ae66_is
end Go.Proofs.YtdhcgankmhpgeaaGreat.M
