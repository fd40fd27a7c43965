import Derived.Test.YtdhcgankmhpgeaaGreatB02
set_option linter.all false
namespace Go.Proofs.YtdhcgankmhpgeaaGreat.M
open Go
set_option maxRecDepth 100000
abbrev vi(n:Int):AV := .int .i64 n
noncomputable def aw0:List Ent:=[]
theorem aw0_ok{P:Program}:∀ e∈aw0,FnAt P e.f e.args e.objs e.r e.objs':=fun e he=>by cases he
noncomputable def q0:AV:=(.row 0 0 8)
noncomputable def q1:AV:=(.str [112,46,102,46,48])
noncomputable def q2:List Obj':=[(.arr 9 1 [[(.str [114,105,115,105,110,103])],[(.str [102,97,108,108,105,110,103])],[(.str [116,111,95,105,110,116])],[(.str [116,111,95,118,101,99])],[(.str [114,101,115,105,122,101])],[(.str [115,108,116])],[(.str [105,115,95,120])],[(.str [108,101,110,103,116,104])]])]
noncomputable def q3:AV:=(.bool false)
noncomputable def ae0:Ent:=⟨140,[q0,q1],q2,(.ret q3),q2⟩
theorem ae0_is:ccall cfg (bcall cfg (memo aw0) 60) ae0.f ae0.args ae0.objs=some (ae0.r,ae0.objs'):=by kernel_rfl
noncomputable def aw1:List Ent:=ae0::aw0
theorem aw1_ok:∀ e∈aw1,FnAt Tryz.prog e.f e.args e.objs e.r e.objs':=at_ok cfg_ok aw0_ok ae0_is
noncomputable def q4:AV:=(.row 0 0 21)
noncomputable def q5:List Obj':=[(.arr 9 1 [[(.str [97,110,100])],[(.str [111,114])],[(.str [120,111,114])],[(.str [110,97,110,100])],[(.str [110,111,114])],[(.str [120,110,111,114])],[(.str [61])],[(.str [47,61])],[(.str [60])],[(.str [60,61])],[(.str [62])],[(.str [62,61])],[(.str [43])],[(.str [45])],[(.str [42])],[(.str [47])],[(.str [109,111,100])],[(.str [38])],[(.str [115,104,108])],[(.str [115,104,114])],[(.str [110,111,116])]])]
noncomputable def ae1:Ent:=⟨225,[q4,q1],q5,(.ret (vi (-1))),q5⟩
theorem ae1_is:ccall cfg (bcall cfg (memo aw1) 60) ae1.f ae1.args ae1.objs=some (ae1.r,ae1.objs'):=by kernel_rfl
noncomputable def aw2:List Ent:=ae1::aw1
theorem aw2_ok:∀ e∈aw2,FnAt Tryz.prog e.f e.args e.objs e.r e.objs':=at_ok cfg_ok aw1_ok ae1_is
noncomputable def q6:AV:=(.row 0 0 2)
noncomputable def q7:List AV:=[(vi 10),(.str []),(vi 0),.nils,(vi 0),(vi 0),.nils,.nils,.nils,(vi 3),(vi 0),(.str []),.nils,.nils,(vi 0),(vi 0)]
noncomputable def q8:Obj':=(.arr 40 16 [q7,[(vi 8),(.str []),(vi 0),.nils,(vi 3),(vi 2),.nils,.nils,.nils,(vi 3),(vi 0),(.str []),.nils,.nils,(vi 0),(vi 0)]])
noncomputable def q9:List Obj':=[q8]
noncomputable def qa:AV:=(.bool true)
noncomputable def ae2:Ent:=⟨204,[(.agg [(vi 5),(.str [60]),(vi 0),.nils,(vi 0),(vi 0),.nils,.nils,q6,(vi 2),(vi 0),(.str []),.nils,.nils,(vi 0),(vi 0)]),(vi 0)],q9,(.ret qa),q9⟩
theorem ae2_is:ccall cfg (bcall cfg (memo aw2) 60) ae2.f ae2.args ae2.objs=some (ae2.r,ae2.objs'):=by kernel_rfl
noncomputable def aw3:List Ent:=ae2::aw2
theorem aw3_ok:∀ e∈aw3,FnAt Tryz.prog e.f e.args e.objs e.r e.objs':=at_ok cfg_ok aw2_ok ae2_is
noncomputable def qb:List AV:=[(vi 3),(vi 0),(.str []),.nils,.nils]
noncomputable def qc:AV:=(.agg qb)
noncomputable def ae3:Ent:=⟨142,[qc,qc],[],(.ret qa),[]⟩
theorem ae3_is:ccall cfg (bcall cfg (memo aw3) 60) ae3.f ae3.args ae3.objs=some (ae3.r,ae3.objs'):=by kernel_rfl
noncomputable def aw4:List Ent:=ae3::aw3
theorem aw4_ok:∀ e∈aw4,FnAt Tryz.prog e.f e.args e.objs e.r e.objs':=at_ok cfg_ok aw3_ok ae3_is
noncomputable def qd:List AV:=[(vi 3),(vi 2),.nils,.nils]
noncomputable def qe:AV:=(.agg qd)
noncomputable def ae4:Ent:=⟨32,[qc,qe],[],(.ret qa),[]⟩
theorem ae4_is:ccall cfg (bcall cfg (memo aw4) 60) ae4.f ae4.args ae4.objs=some (ae4.r,ae4.objs'):=by kernel_rfl
noncomputable def aw5:List Ent:=ae4::aw4
theorem aw5_ok:∀ e∈aw5,FnAt Tryz.prog e.f e.args e.objs e.r e.objs':=at_ok cfg_ok aw4_ok ae4_is
noncomputable def ae5:Ent:=⟨140,[q0,(.str [60])],q2,(.ret q3),q2⟩
theorem ae5_is:ccall cfg (bcall cfg (memo aw5) 60) ae5.f ae5.args ae5.objs=some (ae5.r,ae5.objs'):=by kernel_rfl
noncomputable def aw6:List Ent:=ae5::aw5
theorem aw6_ok:∀ e∈aw6,FnAt Tryz.prog e.f e.args e.objs e.r e.objs':=at_ok cfg_ok aw5_ok ae5_is
noncomputable def ae6:Ent:=⟨225,[q4,(.str [60])],q5,(.ret (vi 8)),q5⟩
theorem ae6_is:ccall cfg (bcall cfg (memo aw6) 60) ae6.f ae6.args ae6.objs=some (ae6.r,ae6.objs'):=by kernel_rfl
noncomputable def aw7:List Ent:=ae6::aw6
theorem aw7_ok:∀ e∈aw7,FnAt Tryz.prog e.f e.args e.objs e.r e.objs':=at_ok cfg_ok aw6_ok ae6_is
noncomputable def qf:List AV:=[(vi 2),(vi 0),(.str []),.nils,.nils]
noncomputable def q10:AV:=(.agg qf)
noncomputable def ae7:Ent:=⟨142,[q10,q10],[],(.ret qa),[]⟩
theorem ae7_is:ccall cfg (bcall cfg (memo aw7) 60) ae7.f ae7.args ae7.objs=some (ae7.r,ae7.objs'):=by kernel_rfl
noncomputable def aw8:List Ent:=ae7::aw7
theorem aw8_ok:∀ e∈aw8,FnAt Tryz.prog e.f e.args e.objs e.r e.objs':=at_ok cfg_ok aw7_ok ae7_is
noncomputable def q11:AV:=(.row 8 0 2)
noncomputable def q12:List AV:=[(vi 5),(.str [60]),(vi 0),.nils,(vi 0),(vi 0),.nils,.nils,q11,(vi 2),(vi 0),(.str []),.nils,.nils,(vi 0),(vi 0)]
noncomputable def q13:AV:=(.agg q12)
noncomputable def q14:AV:=(.row 15 0 2)
noncomputable def q15:List AV:=[(.ptr 1 0)]
noncomputable def q16:List AV:=[(.ptr 2 0)]
noncomputable def q17:List AV:=[(.ptr 3 0)]
noncomputable def q18:Obj':=(.var 136 [(.fn 282 q15),(.fn 282 q16),(.fn 282 q17),(.mp 5)])
noncomputable def q19:Obj':=(.var 36 [.nils])
noncomputable def q1a:AV:=(.row 4 0 1)
noncomputable def q1b:List AV:=[q1a]
noncomputable def q1c:Obj':=(.var 36 q1b)
noncomputable def q1d:Obj':=(.arr 38 5 [qb])
noncomputable def q1e:AV:=(.row 6 0 2)
noncomputable def q1f:AV:=(.row 14 0 1)
noncomputable def q20:Obj':=(.mapo [([112,46,102,46,48] ,(.agg [q1,(vi 1),.nils,.nils,q1a,.nils,q3,q1e,.nils,.nils,.nils,q1f]))])
noncomputable def q21:AV:=(.row 7 0 1)
noncomputable def q22:AV:=(.row 9 0 1)
noncomputable def q23:AV:=(.row 11 0 2)
noncomputable def q24:Obj':=(.arr 94 62 [[(vi 3),(.str []),(vi 0),(vi 0),(.str []),(vi 0),.nils,(vi 0),(vi 0),.nils,.nils,.nils,(vi 0),(vi 0),(.str []),.nils,.nils,(vi 0),(vi 0),(vi 0),(.str []),(vi 0),.nils,(vi 0),(vi 0),.nils,.nils,.nils,(vi 0),(vi 0),(.str []),.nils,.nils,(vi 0),(vi 0),(vi 0),(.str []),(vi 0),.nils,(vi 0),(vi 0),.nils,.nils,.nils,(vi 0),(vi 0),(.str []),.nils,.nils,(vi 0),(vi 0),.nils,q3,q21,.nils,q22,.nils,.nils,.nils,(.str []),(vi 0),(vi 0)],[(vi 8),(.str []),(vi 0),(vi 0),(.str []),(vi 0),.nils,(vi 0),(vi 0),.nils,.nils,.nils,(vi 0),(vi 0),(.str []),.nils,.nils,(vi 0),(vi 0),(vi 5),(.str [42]),(vi 0),.nils,(vi 0),(vi 0),.nils,.nils,q23,(vi 3),(vi 0),(.str []),.nils,.nils,(vi 0),(vi 0),(vi 0),(.str []),(vi 0),.nils,(vi 0),(vi 0),.nils,.nils,.nils,(vi 0),(vi 0),(.str []),.nils,.nils,(vi 0),(vi 0),.nils,q3,.nils,.nils,.nils,.nils,.nils,.nils,(.str []),(vi 0),(vi 0)]])
noncomputable def q25:Obj':=(.arr 40 16 [q12])
noncomputable def q26:AV:=(.row 10 0 1)
noncomputable def q27:Obj':=(.arr 79 1 [[q26]])
noncomputable def q28:Obj':=(.arr 94 62 [[(vi 8),(.str []),(vi 0),(vi 0),(.str []),(vi 0),.nils,(vi 0),(vi 0),.nils,.nils,.nils,(vi 0),(vi 0),(.str []),.nils,.nils,(vi 0),(vi 0),(vi 8),(.str []),(vi 0),.nils,(vi 3),(vi 1),.nils,.nils,.nils,(vi 3),(vi 0),(.str []),.nils,.nils,(vi 0),(vi 0),(vi 0),(.str []),(vi 0),.nils,(vi 0),(vi 0),.nils,.nils,.nils,(vi 0),(vi 0),(.str []),.nils,.nils,(vi 0),(vi 0),.nils,q3,.nils,.nils,.nils,.nils,.nils,.nils,(.str []),(vi 0),(vi 0)]])
noncomputable def q29:AV:=(.row 12 0 1)
noncomputable def q2a:List AV:=[(vi 5),q1,(vi 0),.nils,(vi 0),(vi 0),.nils,.nils,q29,(vi 3),(vi 0),(.str []),.nils,.nils,(vi 0),(vi 0)]
noncomputable def q2b:Obj':=(.arr 40 16 [q7,q2a])
noncomputable def q2c:AV:=(.row 13 0 2)
noncomputable def q2d:List AV:=[(vi 5),(.str [45]),(vi 0),.nils,(vi 0),(vi 0),.nils,.nils,q2c,(vi 3),(vi 0),(.str []),.nils,.nils,(vi 0),(vi 0)]
noncomputable def q2e:Obj':=(.arr 40 16 [q2d])
noncomputable def q2f:List AV:=[(vi 8),(.str []),(vi 0),.nils,(vi 3),(vi 1),.nils,.nils,.nils,(vi 3),(vi 0),(.str []),.nils,.nils,(vi 0),(vi 0)]
noncomputable def q30:Obj':=(.arr 40 16 [q7,q2f])
noncomputable def q31:Obj':=(.arr 38 5 [qb,qb])
noncomputable def q32:List Obj':=[q18,q19,q19,q1c,q1d,q20,q24,q25,q8,q27,q28,q2b,q2e,q30,q1d,q31]
noncomputable def ae8:Ent:=⟨207,[(.ptr 0 0),q13,q14],q32,(.ret qa),q32⟩
theorem ae8_is:ccall cfg (bcall cfg (memo aw8) 60) ae8.f ae8.args ae8.objs=some (ae8.r,ae8.objs'):=by kernel_rfl
noncomputable def aw9:List Ent:=ae8::aw8
theorem aw9_ok:∀ e∈aw9,FnAt Tryz.prog e.f e.args e.objs e.r e.objs':=at_ok cfg_ok aw8_ok ae8_is
noncomputable def q33:List Obj':=[q18,q19,q19,q1c,q1d,q20,q24,q25,q8,q27,q28,q2b,q2e,q30,q1d]
noncomputable def ae9:Ent:=⟨114,[(.ptr 0 0),q13],q33,(.ret qa),q33⟩
theorem ae9_is:ccall cfg (bcall cfg (memo aw9) 60) ae9.f ae9.args ae9.objs=some (ae9.r,ae9.objs'):=by kernel_rfl
noncomputable def aw10:List Ent:=ae9::aw9
theorem aw10_ok:∀ e∈aw10,FnAt Tryz.prog e.f e.args e.objs e.r e.objs':=at_ok cfg_ok aw9_ok ae9_is
noncomputable def q34:AV:=(.row 0 0 1)
noncomputable def q35:AV:=(.row 1 0 2)
noncomputable def q36:Obj':=(.var 241 q17)
noncomputable def q37:AV:=(.row 16 0 1)
noncomputable def q38:Obj':=(.var 243 [(.ptr 4 0),qa,q3,q37])
noncomputable def q39:List AV:=[(.ptr 6 0)]
noncomputable def q3a:Obj':=(.var 136 [(.fn 282 [(.ptr 5 0)]),(.fn 282 q39),(.fn 282 [(.ptr 7 0)]),(.mp 9)])
noncomputable def q3b:AV:=(.row 8 0 1)
noncomputable def q3c:List AV:=[q3b]
noncomputable def q3d:Obj':=(.var 36 q3c)
noncomputable def q3e:Obj':=(.mapo [([112,46,102,46,48] ,(.agg [q1,(vi 1),.nils,.nils,q3b,.nils,q3,(.row 10 0 2),.nils,.nils,.nils,q37]))])
noncomputable def q3f:AV:=(.row 11 0 1)
noncomputable def q40:List AV:=[(vi 8),(.str []),(vi 0),(vi 0),(.str []),(vi 0),.nils,(vi 0),(vi 0),.nils,.nils,.nils,(vi 0),(vi 0),(.str []),.nils,.nils,(vi 0),(vi 0),(vi 5),(.str [42]),(vi 0),.nils,(vi 0),(vi 0),.nils,.nils,q2c,(vi 3),(vi 0),(.str []),.nils,.nils,(vi 0),(vi 0),(vi 0),(.str []),(vi 0),.nils,(vi 0),(vi 0),.nils,.nils,.nils,(vi 0),(vi 0),(.str []),.nils,.nils,(vi 0),(vi 0),.nils,q3,.nils,.nils,.nils,.nils,.nils,.nils,(.str []),(vi 0),(vi 0)]
noncomputable def q41:Obj':=(.arr 40 16 [q7,[(vi 5),q1,(vi 0),.nils,(vi 0),(vi 0),.nils,.nils,q1f,(vi 3),(vi 0),(.str []),.nils,.nils,(vi 0),(vi 0)]])
noncomputable def q42:Obj':=(.arr 40 16 [[(vi 5),(.str [45]),(vi 0),.nils,(vi 0),(vi 0),.nils,.nils,q14,(vi 3),(vi 0),(.str []),.nils,.nils,(vi 0),(vi 0)]])
noncomputable def q43:List Obj':=[(.arr 40 16 [[(vi 5),(.str [60]),(vi 0),.nils,(vi 0),(vi 0),.nils,.nils,q35,(vi 2),(vi 0),(.str []),.nils,.nils,(vi 0),(vi 0)]]),q8,q36,q38,q3a,q19,q19,q3d,q1d,q3e,(.arr 94 62 [[(vi 3),(.str []),(vi 0),(vi 0),(.str []),(vi 0),.nils,(vi 0),(vi 0),.nils,.nils,.nils,(vi 0),(vi 0),(.str []),.nils,.nils,(vi 0),(vi 0),(vi 0),(.str []),(vi 0),.nils,(vi 0),(vi 0),.nils,.nils,.nils,(vi 0),(vi 0),(.str []),.nils,.nils,(vi 0),(vi 0),(vi 0),(.str []),(vi 0),.nils,(vi 0),(vi 0),.nils,.nils,.nils,(vi 0),(vi 0),(.str []),.nils,.nils,(vi 0),(vi 0),.nils,q3,q34,.nils,q3f,.nils,.nils,.nils,(.str []),(vi 0),(vi 0)],q40]),(.arr 79 1 [[q29]]),q28,q41,q42,q30,q1d,(.var 38 qf)]
noncomputable def ae10:Ent:=⟨257,[q34,(.fn 348 [(.ptr 2 0),(.ptr 17 0)])],q43,(.ret (vi (-1))),q43⟩
theorem ae10_is:ccall cfg (bcall cfg (memo aw10) 60) ae10.f ae10.args ae10.objs=some (ae10.r,ae10.objs'):=by kernel_rfl
noncomputable def aw11:List Ent:=ae10::aw10
theorem aw11_ok:∀ e∈aw11,FnAt Tryz.prog e.f e.args e.objs e.r e.objs':=at_ok cfg_ok aw10_ok ae10_is
noncomputable def q44:List AV:=[(vi 3),(vi 1),.nils,.nils]
noncomputable def q45:AV:=(.agg q44)
noncomputable def ae11:Ent:=⟨32,[qc,q45],[],(.ret qa),[]⟩
theorem ae11_is:ccall cfg (bcall cfg (memo aw11) 60) ae11.f ae11.args ae11.objs=some (ae11.r,ae11.objs'):=by kernel_rfl
noncomputable def aw12:List Ent:=ae11::aw11
theorem aw12_ok:∀ e∈aw12,FnAt Tryz.prog e.f e.args e.objs e.r e.objs':=at_ok cfg_ok aw11_ok ae11_is
noncomputable def ae12:Ent:=⟨221,[(.ptr 0 0),(.agg q2f),qc],q33,(.ret qa),q33⟩
theorem ae12_is:ccall cfg (bcall cfg (memo aw12) 60) ae12.f ae12.args ae12.objs=some (ae12.r,ae12.objs'):=by kernel_rfl
noncomputable def aw13:List Ent:=ae12::aw12
theorem aw13_ok:∀ e∈aw13,FnAt Tryz.prog e.f e.args e.objs e.r e.objs':=at_ok cfg_ok aw12_ok ae12_is
noncomputable def q46:AV:=(.row 1 0 1)
noncomputable def q47:List Obj':=[(.arr 79 1 [[q46]]),q28,q36,q38,q3a,q19,q19,q3d,q1d,q3e,(.arr 94 62 [[(vi 3),(.str []),(vi 0),(vi 0),(.str []),(vi 0),.nils,(vi 0),(vi 0),.nils,.nils,.nils,(vi 0),(vi 0),(.str []),.nils,.nils,(vi 0),(vi 0),(vi 0),(.str []),(vi 0),.nils,(vi 0),(vi 0),.nils,.nils,.nils,(vi 0),(vi 0),(.str []),.nils,.nils,(vi 0),(vi 0),(vi 0),(.str []),(vi 0),.nils,(vi 0),(vi 0),.nils,.nils,.nils,(vi 0),(vi 0),(.str []),.nils,.nils,(vi 0),(vi 0),.nils,q3,q3f,.nils,q34,.nils,.nils,.nils,(.str []),(vi 0),(vi 0)],q40]),(.arr 40 16 [[(vi 5),(.str [60]),(vi 0),.nils,(vi 0),(vi 0),.nils,.nils,(.row 12 0 2),(vi 2),(vi 0),(.str []),.nils,.nils,(vi 0),(vi 0)]]),q8,q41,q42,q30,q1d]
noncomputable def ae13:Ent:=⟨358,[q34,(.fn 351 q16)],q47,(.ret (vi (-1))),q47⟩
theorem ae13_is:ccall cfg (bcall cfg (memo aw13) 60) ae13.f ae13.args ae13.objs=some (ae13.r,ae13.objs'):=by kernel_rfl
noncomputable def aw14:List Ent:=ae13::aw13
theorem aw14_ok:∀ e∈aw14,FnAt Tryz.prog e.f e.args e.objs e.r e.objs':=at_ok cfg_ok aw13_ok ae13_is
noncomputable def q48:List Obj':=[q30]
noncomputable def ae14:Ent:=⟨204,[(.agg [(vi 5),(.str [45]),(vi 0),.nils,(vi 0),(vi 0),.nils,.nils,q6,(vi 3),(vi 0),(.str []),.nils,.nils,(vi 0),(vi 0)]),(vi 2)],q48,(.ret qa),q48⟩
theorem ae14_is:ccall cfg (bcall cfg (memo aw14) 60) ae14.f ae14.args ae14.objs=some (ae14.r,ae14.objs'):=by kernel_rfl
noncomputable def aw15:List Ent:=ae14::aw14
theorem aw15_ok:∀ e∈aw15,FnAt Tryz.prog e.f e.args e.objs e.r e.objs':=at_ok cfg_ok aw14_ok ae14_is
noncomputable def q49:AV:=(.row 2 0 2)
noncomputable def q4a:List Obj':=[(.arr 40 16 [q7,[(vi 5),q1,(vi 0),.nils,(vi 0),(vi 0),.nils,.nils,q46,(vi 3),(vi 0),(.str []),.nils,.nils,(vi 0),(vi 0)]]),(.arr 40 16 [[(vi 5),(.str [45]),(vi 0),.nils,(vi 0),(vi 0),.nils,.nils,q49,(vi 3),(vi 0),(.str []),.nils,.nils,(vi 0),(vi 0)]]),q30,(.var 3 [(vi 0)])]
noncomputable def ae15:Ent:=⟨257,[q6,(.fn 272 q17)],q4a,(.ret (vi (-1))),q4a⟩
theorem ae15_is:ccall cfg (bcall cfg (memo aw15) 60) ae15.f ae15.args ae15.objs=some (ae15.r,ae15.objs'):=by kernel_rfl
noncomputable def aw16:List Ent:=ae15::aw15
theorem aw16_ok:∀ e∈aw16,FnAt Tryz.prog e.f e.args e.objs e.r e.objs':=at_ok cfg_ok aw15_ok ae15_is
noncomputable def ae16:Ent:=⟨140,[q0,(.str [45])],q2,(.ret q3),q2⟩
theorem ae16_is:ccall cfg (bcall cfg (memo aw16) 60) ae16.f ae16.args ae16.objs=some (ae16.r,ae16.objs'):=by kernel_rfl
noncomputable def aw17:List Ent:=ae16::aw16
theorem aw17_ok:∀ e∈aw17,FnAt Tryz.prog e.f e.args e.objs e.r e.objs':=at_ok cfg_ok aw16_ok ae16_is
noncomputable def ae17:Ent:=⟨225,[q4,(.str [45])],q5,(.ret (vi 13)),q5⟩
theorem ae17_is:ccall cfg (bcall cfg (memo aw17) 60) ae17.f ae17.args ae17.objs=some (ae17.r,ae17.objs'):=by kernel_rfl
noncomputable def aw18:List Ent:=ae17::aw17
theorem aw18_ok:∀ e∈aw18,FnAt Tryz.prog e.f e.args e.objs e.r e.objs':=at_ok cfg_ok aw17_ok ae17_is
noncomputable def q4b:AV:=(.agg q2d)
noncomputable def ae18:Ent:=⟨207,[(.ptr 0 0),q4b,q14],q32,(.ret qa),q32⟩
theorem ae18_is:ccall cfg (bcall cfg (memo aw18) 60) ae18.f ae18.args ae18.objs=some (ae18.r,ae18.objs'):=by kernel_rfl
noncomputable def aw19:List Ent:=ae18::aw18
theorem aw19_ok:∀ e∈aw19,FnAt Tryz.prog e.f e.args e.objs e.r e.objs':=at_ok cfg_ok aw18_ok ae18_is
noncomputable def ae19:Ent:=⟨114,[(.ptr 0 0),q4b],q33,(.ret qa),q33⟩
theorem ae19_is:ccall cfg (bcall cfg (memo aw19) 60) ae19.f ae19.args ae19.objs=some (ae19.r,ae19.objs'):=by kernel_rfl
noncomputable def aw20:List Ent:=ae19::aw19
theorem aw20_ok:∀ e∈aw20,FnAt Tryz.prog e.f e.args e.objs e.r e.objs':=at_ok cfg_ok aw19_ok ae19_is
noncomputable def q4c:List Obj':=[q18,q19,q19,q1c,q1d,q20,q24,q25,q8,q27,q28,q2b,q2e,q30,q1d,q1d]
noncomputable def ae20:Ent:=⟨207,[(.ptr 0 0),(.agg q2a),(.row 15 0 1)],q4c,(.ret qa),q4c⟩
theorem ae20_is:ccall cfg (bcall cfg (memo aw20) 60) ae20.f ae20.args ae20.objs=some (ae20.r,ae20.objs'):=by kernel_rfl
noncomputable def aw21:List Ent:=ae20::aw20
theorem aw21_ok:∀ e∈aw21,FnAt Tryz.prog e.f e.args e.objs e.r e.objs':=at_ok cfg_ok aw20_ok ae20_is
noncomputable def ae21:Ent:=⟨140,[q0,(.str [42])],q2,(.ret q3),q2⟩
theorem ae21_is:ccall cfg (bcall cfg (memo aw21) 60) ae21.f ae21.args ae21.objs=some (ae21.r,ae21.objs'):=by kernel_rfl
noncomputable def aw22:List Ent:=ae21::aw21
theorem aw22_ok:∀ e∈aw22,FnAt Tryz.prog e.f e.args e.objs e.r e.objs':=at_ok cfg_ok aw21_ok ae21_is
noncomputable def ae22:Ent:=⟨225,[q4,(.str [42])],q5,(.ret (vi 14)),q5⟩
theorem ae22_is:ccall cfg (bcall cfg (memo aw22) 60) ae22.f ae22.args ae22.objs=some (ae22.r,ae22.objs'):=by kernel_rfl
noncomputable def aw23:List Ent:=ae22::aw22
theorem aw23_ok:∀ e∈aw23,FnAt Tryz.prog e.f e.args e.objs e.r e.objs':=at_ok cfg_ok aw22_ok ae22_is
noncomputable def q4d:AV:=(.agg [(vi 5),(.str [42]),(vi 0),.nils,(vi 0),(vi 0),.nils,.nils,q23,(vi 3),(vi 0),(.str []),.nils,.nils,(vi 0),(vi 0)])
noncomputable def ae23:Ent:=⟨207,[(.ptr 0 0),q4d,q14],q32,(.ret qa),q32⟩
theorem ae23_is:ccall cfg (bcall cfg (memo aw23) 60) ae23.f ae23.args ae23.objs=some (ae23.r,ae23.objs'):=by kernel_rfl
noncomputable def aw24:List Ent:=ae23::aw23
theorem aw24_ok:∀ e∈aw24,FnAt Tryz.prog e.f e.args e.objs e.r e.objs':=at_ok cfg_ok aw23_ok ae23_is
noncomputable def q4e:List AV:=[(.ptr 0 0),q4d]
noncomputable def ae24:Ent:=⟨114,q4e,q33,(.ret qa),q33⟩
theorem ae24_is:ccall cfg (bcall cfg (memo aw24) 60) ae24.f ae24.args ae24.objs=some (ae24.r,ae24.objs'):=by kernel_rfl
noncomputable def aw25:List Ent:=ae24::aw24
theorem aw25_ok:∀ e∈aw25,FnAt Tryz.prog e.f e.args e.objs e.r e.objs':=at_ok cfg_ok aw24_ok ae24_is
noncomputable def ae25:Ent:=⟨51,q4e,q33,(.ret qa),q33⟩
theorem ae25_is:ccall cfg (bcall cfg (memo aw25) 60) ae25.f ae25.args ae25.objs=some (ae25.r,ae25.objs'):=by kernel_rfl
noncomputable def aw26:List Ent:=ae25::aw25
theorem aw26_ok:∀ e∈aw26,FnAt Tryz.prog e.f e.args e.objs e.r e.objs':=at_ok cfg_ok aw25_ok ae25_is
noncomputable def q4f:AV:=(.row 3 0 1)
noncomputable def q50:AV:=(.row 6 0 1)
noncomputable def q51:AV:=(.row 7 0 2)
noncomputable def q52:List Obj':=[(.arr 94 62 [[(vi 3),(.str []),(vi 0),(vi 0),(.str []),(vi 0),.nils,(vi 0),(vi 0),.nils,.nils,.nils,(vi 0),(vi 0),(.str []),.nils,.nils,(vi 0),(vi 0),(vi 0),(.str []),(vi 0),.nils,(vi 0),(vi 0),.nils,.nils,.nils,(vi 0),(vi 0),(.str []),.nils,.nils,(vi 0),(vi 0),(vi 0),(.str []),(vi 0),.nils,(vi 0),(vi 0),.nils,.nils,.nils,(vi 0),(vi 0),(.str []),.nils,.nils,(vi 0),(vi 0),.nils,q3,q46,.nils,q4f,.nils,.nils,.nils,(.str []),(vi 0),(vi 0)],[(vi 8),(.str []),(vi 0),(vi 0),(.str []),(vi 0),.nils,(vi 0),(vi 0),.nils,.nils,.nils,(vi 0),(vi 0),(.str []),.nils,.nils,(vi 0),(vi 0),(vi 5),(.str [42]),(vi 0),.nils,(vi 0),(vi 0),.nils,.nils,(.row 5 0 2),(vi 3),(vi 0),(.str []),.nils,.nils,(vi 0),(vi 0),(vi 0),(.str []),(vi 0),.nils,(vi 0),(vi 0),.nils,.nils,.nils,(vi 0),(vi 0),(.str []),.nils,.nils,(vi 0),(vi 0),.nils,q3,.nils,.nils,.nils,.nils,.nils,.nils,(.str []),(vi 0),(vi 0)]]),(.arr 40 16 [[(vi 5),(.str [60]),(vi 0),.nils,(vi 0),(vi 0),.nils,.nils,q49,(vi 2),(vi 0),(.str []),.nils,.nils,(vi 0),(vi 0)]]),q8,(.arr 79 1 [q1b]),q28,(.arr 40 16 [q7,[(vi 5),q1,(vi 0),.nils,(vi 0),(vi 0),.nils,.nils,q50,(vi 3),(vi 0),(.str []),.nils,.nils,(vi 0),(vi 0)]]),(.arr 40 16 [[(vi 5),(.str [45]),(vi 0),.nils,(vi 0),(vi 0),.nils,.nils,q51,(vi 3),(vi 0),(.str []),.nils,.nils,(vi 0),(vi 0)]]),q30,(.var 241 [(.ptr 9 0)]),(.var 243 [(.ptr 10 0),qa,q3,q37]),(.var 136 [(.fn 282 [(.ptr 11 0)]),(.fn 282 [(.ptr 12 0)]),(.fn 282 [(.ptr 13 0)]),(.mp 15)]),q19,q19,(.var 36 [q1f]),q1d,(.mapo [([112,46,102,46,48] ,(.agg [q1,(vi 1),.nils,.nils,q1f,.nils,q3,q6,.nils,.nils,.nils,q37]))]),q1d]
noncomputable def ae26:Ent:=⟨319,[q6,(.fn 284 [(.ptr 8 0)])],q52,(.ret (vi (-1))),q52⟩
theorem ae26_is:ccall cfg (bcall cfg (memo aw26) 60) ae26.f ae26.args ae26.objs=some (ae26.r,ae26.objs'):=by kernel_rfl
noncomputable def aw27:List Ent:=ae26::aw26
theorem aw27_ok:∀ e∈aw27,FnAt Tryz.prog e.f e.args e.objs e.r e.objs':=at_ok cfg_ok aw26_ok ae26_is
noncomputable def q53:AV:=(.row 2 0 1)
noncomputable def q54:AV:=(.row 5 0 1)
noncomputable def q55:List Obj':=[q1d,(.arr 94 62 [[(vi 3),(.str []),(vi 0),(vi 0),(.str []),(vi 0),.nils,(vi 0),(vi 0),.nils,.nils,.nils,(vi 0),(vi 0),(.str []),.nils,.nils,(vi 0),(vi 0),(vi 0),(.str []),(vi 0),.nils,(vi 0),(vi 0),.nils,.nils,.nils,(vi 0),(vi 0),(.str []),.nils,.nils,(vi 0),(vi 0),(vi 0),(.str []),(vi 0),.nils,(vi 0),(vi 0),.nils,.nils,.nils,(vi 0),(vi 0),(.str []),.nils,.nils,(vi 0),(vi 0),.nils,q3,q53,.nils,q1a,.nils,.nils,.nils,(.str []),(vi 0),(vi 0)],[(vi 8),(.str []),(vi 0),(vi 0),(.str []),(vi 0),.nils,(vi 0),(vi 0),.nils,.nils,.nils,(vi 0),(vi 0),(.str []),.nils,.nils,(vi 0),(vi 0),(vi 5),(.str [42]),(vi 0),.nils,(vi 0),(vi 0),.nils,.nils,q1e,(vi 3),(vi 0),(.str []),.nils,.nils,(vi 0),(vi 0),(vi 0),(.str []),(vi 0),.nils,(vi 0),(vi 0),.nils,.nils,.nils,(vi 0),(vi 0),(.str []),.nils,.nils,(vi 0),(vi 0),.nils,q3,.nils,.nils,.nils,.nils,.nils,.nils,(.str []),(vi 0),(vi 0)]]),(.arr 40 16 [[(vi 5),(.str [60]),(vi 0),.nils,(vi 0),(vi 0),.nils,.nils,(.row 3 0 2),(vi 2),(vi 0),(.str []),.nils,.nils,(vi 0),(vi 0)]]),q8,(.arr 79 1 [[q54]]),q28,(.arr 40 16 [q7,[(vi 5),q1,(vi 0),.nils,(vi 0),(vi 0),.nils,.nils,q21,(vi 3),(vi 0),(.str []),.nils,.nils,(vi 0),(vi 0)]]),(.arr 40 16 [[(vi 5),(.str [45]),(vi 0),.nils,(vi 0),(vi 0),.nils,.nils,q11,(vi 3),(vi 0),(.str []),.nils,.nils,(vi 0),(vi 0)]]),q30,q1d,(.mapo [([112,46,102,46,48] ,(.agg [q1,(vi 1),.nils,.nils,q34,.nils,q3,q35,.nils,.nils,.nils,q22]))])]
noncomputable def ae27:Ent:=⟨131,[(.agg [q1,(vi 1),.nils,.nils,q34,.nils,q3,q35,.nils,.nils,.nils,q22]),(.mp 10)],q55,(.ret qa),q55⟩
theorem ae27_is:ccall cfg (bcall cfg (memo aw27) 60) ae27.f ae27.args ae27.objs=some (ae27.r,ae27.objs'):=by kernel_rfl
noncomputable def aw28:List Ent:=ae27::aw27
theorem aw28_ok:∀ e∈aw28,FnAt Tryz.prog e.f e.args e.objs e.r e.objs':=at_ok cfg_ok aw27_ok ae27_is
noncomputable def q56:List AV:=[(.str [45]),q6,q35]
noncomputable def q57:List AV:=[(vi 3),(vi 5),.nils,.nils]
noncomputable def q58:List Obj':=[(.arr 33 4 [q57,q44]),q31]
noncomputable def q59:List AV:=[(vi 3),(vi 4),.nils,.nils]
noncomputable def q5a:AV:=(.agg q59)
noncomputable def ae28:Ent:=⟨75,q56,q58,(.ret (.tup [q5a,(vi 0)])),q58⟩
theorem ae28_is:ccall cfg (bcall cfg (memo aw28) 60) ae28.f ae28.args ae28.objs=some (ae28.r,ae28.objs'):=by kernel_rfl
noncomputable def aw29:List Ent:=ae28::aw28
theorem aw29_ok:∀ e∈aw29,FnAt Tryz.prog e.f e.args e.objs e.r e.objs':=at_ok cfg_ok aw28_ok ae28_is
noncomputable def q5b:List Obj':=[(.arr 33 4 [q59,q44]),q31]
noncomputable def q5c:List AV:=[(vi 3),(vi 3),.nils,.nils]
noncomputable def q5d:AV:=(.agg q5c)
noncomputable def ae29:Ent:=⟨75,q56,q5b,(.ret (.tup [q5d,(vi 0)])),q5b⟩
theorem ae29_is:ccall cfg (bcall cfg (memo aw29) 60) ae29.f ae29.args ae29.objs=some (ae29.r,ae29.objs'):=by kernel_rfl
noncomputable def aw30:List Ent:=ae29::aw29
theorem aw30_ok:∀ e∈aw30,FnAt Tryz.prog e.f e.args e.objs e.r e.objs':=at_ok cfg_ok aw29_ok ae29_is
noncomputable def q5e:List Obj':=[(.arr 33 4 [q5c,q44]),q31]
noncomputable def ae30:Ent:=⟨75,q56,q5e,(.ret (.tup [qe,(vi 0)])),q5e⟩
theorem ae30_is:ccall cfg (bcall cfg (memo aw30) 60) ae30.f ae30.args ae30.objs=some (ae30.r,ae30.objs'):=by kernel_rfl
noncomputable def aw31:List Ent:=ae30::aw30
theorem aw31_ok:∀ e∈aw31,FnAt Tryz.prog e.f e.args e.objs e.r e.objs':=at_ok cfg_ok aw30_ok ae30_is
noncomputable def q5f:List Obj':=[(.arr 33 4 [qd,q44]),q31]
noncomputable def ae31:Ent:=⟨75,q56,q5f,(.ret (.tup [q45,(vi 0)])),q5f⟩
theorem ae31_is:ccall cfg (bcall cfg (memo aw31) 60) ae31.f ae31.args ae31.objs=some (ae31.r,ae31.objs'):=by kernel_rfl
noncomputable def aw32:List Ent:=ae31::aw31
theorem aw32_ok:∀ e∈aw32,FnAt Tryz.prog e.f e.args e.objs e.r e.objs':=at_ok cfg_ok aw31_ok ae31_is
noncomputable def q60:List AV:=[(.str [42]),q6,q35]
noncomputable def ae32:Ent:=⟨75,q60,q5f,(.ret (.tup [qe,(vi 0)])),q5f⟩
theorem ae32_is:ccall cfg (bcall cfg (memo aw32) 60) ae32.f ae32.args ae32.objs=some (ae32.r,ae32.objs'):=by kernel_rfl
noncomputable def aw33:List Ent:=ae32::aw32
theorem aw33_ok:∀ e∈aw33,FnAt Tryz.prog e.f e.args e.objs e.r e.objs':=at_ok cfg_ok aw32_ok ae32_is
noncomputable def q61:AV:=(.row 9 0 2)
noncomputable def q62:List AV:=[(.ptr 0 0),(.agg [(vi 5),(.str [42]),(vi 0),.nils,(vi 0),(vi 0),.nils,.nils,q61,(vi 3),(vi 0),(.str []),.nils,.nils,(vi 0),(vi 0)])]
noncomputable def q63:Obj':=(.var 143 [(.ptr 1 0),(.row 13 0 1),.nilfn,.nilfn])
noncomputable def q64:Obj':=(.var 122 [q53,.nils,.nils,.nils,(vi 0),(vi 12),(vi 4)])
noncomputable def q65:AV:=(.row 4 0 2)
noncomputable def q66:Obj':=(.arr 83 12 [[q1,(vi 1),.nils,.nils,q4f,.nils,q3,q65,.nils,.nils,.nils,q29]])
noncomputable def q67:Obj':=(.arr 94 62 [[(vi 3),(.str []),(vi 0),(vi 0),(.str []),(vi 0),.nils,(vi 0),(vi 0),.nils,.nils,.nils,(vi 0),(vi 0),(.str []),.nils,.nils,(vi 0),(vi 0),(vi 0),(.str []),(vi 0),.nils,(vi 0),(vi 0),.nils,.nils,.nils,(vi 0),(vi 0),(.str []),.nils,.nils,(vi 0),(vi 0),(vi 0),(.str []),(vi 0),.nils,(vi 0),(vi 0),.nils,.nils,.nils,(vi 0),(vi 0),(.str []),.nils,.nils,(vi 0),(vi 0),.nils,q3,q54,.nils,q21,.nils,.nils,.nils,(.str []),(vi 0),(vi 0)],[(vi 8),(.str []),(vi 0),(vi 0),(.str []),(vi 0),.nils,(vi 0),(vi 0),.nils,.nils,.nils,(vi 0),(vi 0),(.str []),.nils,.nils,(vi 0),(vi 0),(vi 5),(.str [42]),(vi 0),.nils,(vi 0),(vi 0),.nils,.nils,q61,(vi 3),(vi 0),(.str []),.nils,.nils,(vi 0),(vi 0),(vi 0),(.str []),(vi 0),.nils,(vi 0),(vi 0),.nils,.nils,.nils,(vi 0),(vi 0),(.str []),.nils,.nils,(vi 0),(vi 0),.nils,q3,.nils,.nils,.nils,.nils,.nils,.nils,(.str []),(vi 0),(vi 0)]])
noncomputable def q68:Obj':=(.arr 40 16 [[(vi 5),(.str [60]),(vi 0),.nils,(vi 0),(vi 0),.nils,.nils,q1e,(vi 2),(vi 0),(.str []),.nils,.nils,(vi 0),(vi 0)]])
noncomputable def q69:Obj':=(.arr 79 1 [q3c])
noncomputable def q6a:List AV:=[(vi 5),q1,(vi 0),.nils,(vi 0),(vi 0),.nils,.nils,q26,(vi 3),(vi 0),(.str []),.nils,.nils,(vi 0),(vi 0)]
noncomputable def q6b:Obj':=(.arr 40 16 [q7,q6a])
noncomputable def q6c:Obj':=(.arr 40 16 [[(vi 5),(.str [45]),(vi 0),.nils,(vi 0),(vi 0),.nils,.nils,q23,(vi 3),(vi 0),(.str []),.nils,.nils,(vi 0),(vi 0)]])
noncomputable def q6d:Obj':=(.arr 33 4 [qd])
noncomputable def ae33:Ent:=⟨55,q62,[q63,q64,q66,q1d,q67,q68,q8,q69,q28,q6b,q6c,q30,q1d,q6d],(.ret qe),[q63,(.var 122 [q53,.nils,.nils,.nils,(vi 0),(vi 15),(vi 4)]),q66,q1d,q67,q68,q8,q69,q28,q6b,q6c,q30,q1d,q6d]⟩
theorem ae33_is:ccall cfg (bcall cfg (memo aw33) 60) ae33.f ae33.args ae33.objs=some (ae33.r,ae33.objs'):=by kernel_rfl
noncomputable def aw34:List Ent:=ae33::aw33
theorem aw34_ok:∀ e∈aw34,FnAt Tryz.prog e.f e.args e.objs e.r e.objs':=at_ok cfg_ok aw33_ok ae33_is
noncomputable def q6e:List Obj':=[(.arr 33 4 [q5c,qd]),q31]
noncomputable def q6f:List AV:=[(vi 3),(vi 6),.nils,.nils]
noncomputable def q70:AV:=(.agg q6f)
noncomputable def ae34:Ent:=⟨75,q60,q6e,(.ret (.tup [q70,(vi 0)])),q6e⟩
theorem ae34_is:ccall cfg (bcall cfg (memo aw34) 60) ae34.f ae34.args ae34.objs=some (ae34.r,ae34.objs'):=by kernel_rfl
noncomputable def aw35:List Ent:=ae34::aw34
theorem aw35_ok:∀ e∈aw35,FnAt Tryz.prog e.f e.args e.objs e.r e.objs':=at_ok cfg_ok aw34_ok ae34_is
noncomputable def q71:Obj':=(.var 122 [q53,.nils,.nils,.nils,(vi 0),(vi 9),(vi 3)])
noncomputable def q72:Obj':=(.arr 33 4 [q5c])
noncomputable def ae35:Ent:=⟨55,q62,[q63,q71,q66,q1d,q67,q68,q8,q69,q28,q6b,q6c,q30,q1d,q72],(.ret q70),[q63,(.var 122 [q53,.nils,.nils,.nils,(vi 0),(vi 15),(vi 3)]),q66,q1d,q67,q68,q8,q69,q28,q6b,q6c,q30,q1d,q72]⟩
theorem ae35_is:ccall cfg (bcall cfg (memo aw35) 60) ae35.f ae35.args ae35.objs=some (ae35.r,ae35.objs'):=by kernel_rfl
noncomputable def aw36:List Ent:=ae35::aw35
theorem aw36_ok:∀ e∈aw36,FnAt Tryz.prog e.f e.args e.objs e.r e.objs':=at_ok cfg_ok aw35_ok ae35_is
noncomputable def q73:List Obj':=[(.arr 33 4 [q59,q6f]),q31]
noncomputable def q74:List AV:=[(vi 3),(vi 24),.nils,.nils]
noncomputable def q75:AV:=(.agg q74)
noncomputable def ae36:Ent:=⟨75,q60,q73,(.ret (.tup [q75,(vi 0)])),q73⟩
theorem ae36_is:ccall cfg (bcall cfg (memo aw36) 60) ae36.f ae36.args ae36.objs=some (ae36.r,ae36.objs'):=by kernel_rfl
noncomputable def aw37:List Ent:=ae36::aw36
theorem aw37_ok:∀ e∈aw37,FnAt Tryz.prog e.f e.args e.objs e.r e.objs':=at_ok cfg_ok aw36_ok ae36_is
noncomputable def q76:Obj':=(.var 122 [q53,.nils,.nils,.nils,(vi 0),(vi 6),(vi 2)])
noncomputable def q77:Obj':=(.arr 33 4 [q59])
noncomputable def ae37:Ent:=⟨55,q62,[q63,q76,q66,q1d,q67,q68,q8,q69,q28,q6b,q6c,q30,q1d,q77],(.ret q75),[q63,(.var 122 [q53,.nils,.nils,.nils,(vi 0),(vi 15),(vi 2)]),q66,q1d,q67,q68,q8,q69,q28,q6b,q6c,q30,q1d,q77]⟩
theorem ae37_is:ccall cfg (bcall cfg (memo aw37) 60) ae37.f ae37.args ae37.objs=some (ae37.r,ae37.objs'):=by kernel_rfl
noncomputable def aw38:List Ent:=ae37::aw37
theorem aw38_ok:∀ e∈aw38,FnAt Tryz.prog e.f e.args e.objs e.r e.objs':=at_ok cfg_ok aw37_ok ae37_is
noncomputable def q78:List Obj':=[(.arr 33 4 [q57,q74]),q31]
noncomputable def q79:AV:=(.agg [(vi 3),(vi 120),.nils,.nils])
noncomputable def ae38:Ent:=⟨75,q60,q78,(.ret (.tup [q79,(vi 0)])),q78⟩
theorem ae38_is:ccall cfg (bcall cfg (memo aw38) 60) ae38.f ae38.args ae38.objs=some (ae38.r,ae38.objs'):=by kernel_rfl
noncomputable def aw39:List Ent:=ae38::aw38
theorem aw39_ok:∀ e∈aw39,FnAt Tryz.prog e.f e.args e.objs e.r e.objs':=at_ok cfg_ok aw38_ok ae38_is
noncomputable def q7a:Obj':=(.var 122 [q53,.nils,.nils,.nils,(vi 0),(vi 3),(vi 1)])
noncomputable def q7b:Obj':=(.arr 33 4 [q57])
noncomputable def ae39:Ent:=⟨55,q62,[q63,q7a,q66,q1d,q67,q68,q8,q69,q28,q6b,q6c,q30,q1d,q7b],(.ret q79),[q63,(.var 122 [q53,.nils,.nils,.nils,(vi 0),(vi 15),(vi 1)]),q66,q1d,q67,q68,q8,q69,q28,q6b,q6c,q30,q1d,q7b]⟩
theorem ae39_is:ccall cfg (bcall cfg (memo aw39) 60) ae39.f ae39.args ae39.objs=some (ae39.r,ae39.objs'):=by kernel_rfl
noncomputable def aw40:List Ent:=ae39::aw39
theorem aw40_ok:∀ e∈aw40,FnAt Tryz.prog e.f e.args e.objs e.r e.objs':=at_ok cfg_ok aw39_ok ae39_is
noncomputable def q7c:List AV:=[q34,q1,q3f]
noncomputable def q7d:Obj':=(.arr 83 12 [[q1,(vi 1),.nils,.nils,q46,.nils,q3,q49,.nils,.nils,.nils,q26]])
noncomputable def q7e:Obj':=(.arr 94 62 [[(vi 3),(.str []),(vi 0),(vi 0),(.str []),(vi 0),.nils,(vi 0),(vi 0),.nils,.nils,.nils,(vi 0),(vi 0),(.str []),.nils,.nils,(vi 0),(vi 0),(vi 0),(.str []),(vi 0),.nils,(vi 0),(vi 0),.nils,.nils,.nils,(vi 0),(vi 0),(.str []),.nils,.nils,(vi 0),(vi 0),(vi 0),(.str []),(vi 0),.nils,(vi 0),(vi 0),.nils,.nils,.nils,(vi 0),(vi 0),(.str []),.nils,.nils,(vi 0),(vi 0),.nils,q3,q4f,.nils,q54,.nils,.nils,.nils,(.str []),(vi 0),(vi 0)],[(vi 8),(.str []),(vi 0),(vi 0),(.str []),(vi 0),.nils,(vi 0),(vi 0),.nils,.nils,.nils,(vi 0),(vi 0),(.str []),.nils,.nils,(vi 0),(vi 0),(vi 5),(.str [42]),(vi 0),.nils,(vi 0),(vi 0),.nils,.nils,q51,(vi 3),(vi 0),(.str []),.nils,.nils,(vi 0),(vi 0),(vi 0),(.str []),(vi 0),.nils,(vi 0),(vi 0),.nils,.nils,.nils,(vi 0),(vi 0),(.str []),.nils,.nils,(vi 0),(vi 0),.nils,q3,.nils,.nils,.nils,.nils,.nils,.nils,(.str []),(vi 0),(vi 0)]])
noncomputable def q7f:Obj':=(.arr 40 16 [[(vi 5),(.str [60]),(vi 0),.nils,(vi 0),(vi 0),.nils,.nils,q65,(vi 2),(vi 0),(.str []),.nils,.nils,(vi 0),(vi 0)]])
noncomputable def q80:Obj':=(.arr 79 1 [[q50]])
noncomputable def q81:Obj':=(.arr 40 16 [q7,[(vi 5),q1,(vi 0),.nils,(vi 0),(vi 0),.nils,.nils,q3b,(vi 3),(vi 0),(.str []),.nils,.nils,(vi 0),(vi 0)]])
noncomputable def q82:Obj':=(.arr 40 16 [[(vi 5),(.str [45]),(vi 0),.nils,(vi 0),(vi 0),.nils,.nils,q61,(vi 3),(vi 0),(.str []),.nils,.nils,(vi 0),(vi 0)]])
noncomputable def q83:List Obj':=[q7d,q1d,q7e,q7f,q8,q80,q28,q81,q82,q30,q1d,q7b]
noncomputable def ae40:Ent:=⟨20,q7c,q83,(.ret (.tup [q79,(vi 15),(vi 0)])),q83⟩
theorem ae40_is:ccall cfg (bcall cfg (memo aw40) 60) ae40.f ae40.args ae40.objs=some (ae40.r,ae40.objs'):=by kernel_rfl
noncomputable def aw41:List Ent:=ae40::aw40
theorem aw41_ok:∀ e∈aw41,FnAt Tryz.prog e.f e.args e.objs e.r e.objs':=at_ok cfg_ok aw40_ok ae40_is
noncomputable def ae41:Ent:=⟨55,q62,[q63,(.var 122 [q53,.nils,.nils,.nils,(vi 0),(vi 36),(vi 12)]),q66,q1d,q67,q68,q8,q69,q28,q6b,q6c,q30,q1d,q6d],(.ret qe),[q63,(.var 122 [q53,.nils,.nils,.nils,(vi 0),(vi 39),(vi 12)]),q66,q1d,q67,q68,q8,q69,q28,q6b,q6c,q30,q1d,q6d]⟩
theorem ae41_is:ccall cfg (bcall cfg (memo aw41) 60) ae41.f ae41.args ae41.objs=some (ae41.r,ae41.objs'):=by kernel_rfl
noncomputable def aw42:List Ent:=ae41::aw41
theorem aw42_ok:∀ e∈aw42,FnAt Tryz.prog e.f e.args e.objs e.r e.objs':=at_ok cfg_ok aw41_ok ae41_is
end Go.Proofs.YtdhcgankmhpgeaaGreat.M
