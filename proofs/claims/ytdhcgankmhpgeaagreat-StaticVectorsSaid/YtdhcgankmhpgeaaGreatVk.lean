/- R, the sixth text: what each function's call is. Printed by mkrh.py. -/
import Derived.Test.YtdhcgankmhpgeaaGreatVj
set_option linter.unusedSectionVars false
namespace Go.Proofs.YtdhcgankmhpgeaaGreat.M
open Go
set_option linter.unusedVariables false
def noTab : Nat → Tab := fun _ => []
def tb9 : Nat → Tab := fun i => (look i [(31, [([], []), ([], []), ([1], []), ([1, 2], [0]), ([], [3]), ([4], [3]), ([1, 2, 3, 4, 5], [0]), ([1, 2, 3, 4, 5, 6], [0]), ([1, 2, 3, 4, 5, 6], [0, 7]), ([1, 2, 3, 4, 5, 6, 8], [0, 7]), ([1, 2, 3, 4, 5, 6, 8, 9], [0, 7]), ([0, 1, 2, 3, 4, 5, 6, 7, 8, 9, 10], []), ([0, 1, 2, 3, 4, 5, 6, 7, 8, 9, 10, 11], []), ([0, 1, 2, 3, 4, 5, 6, 7, 8, 9, 10, 11, 12], []), ([0, 1, 2, 3, 4, 5, 6, 7, 8, 9, 10, 11, 12], []), ([0, 1, 2, 3, 4, 5, 6, 7, 8, 9, 10, 11, 12], []), ([], [0, 1, 2, 3, 4, 5, 6, 7, 8, 9, 10, 11, 12, 13, 14, 15]), ([], [0, 1, 2, 3, 4, 5, 6, 7, 8, 9, 10, 11, 12, 13, 14, 15, 16]), ([0, 1, 2, 3, 4, 5, 6, 7, 8, 9, 10, 11, 12, 13, 16, 17], [14, 15]), ([0, 1, 2, 3, 4, 5, 6, 7, 8, 9, 10, 11, 12, 13, 14, 16, 17, 18], [15]), ([0, 1, 2, 3, 4, 5, 6, 7, 8, 9, 10, 11, 12, 13, 14, 15, 16, 17, 18, 19], [])])]).getD []
theorem tbr9 (i : Nat) : tb9 i = (look i [(31, [([], []), ([], []), ([1], []), ([1, 2], [0]), ([], [3]), ([4], [3]), ([1, 2, 3, 4, 5], [0]), ([1, 2, 3, 4, 5, 6], [0]), ([1, 2, 3, 4, 5, 6], [0, 7]), ([1, 2, 3, 4, 5, 6, 8], [0, 7]), ([1, 2, 3, 4, 5, 6, 8, 9], [0, 7]), ([0, 1, 2, 3, 4, 5, 6, 7, 8, 9, 10], []), ([0, 1, 2, 3, 4, 5, 6, 7, 8, 9, 10, 11], []), ([0, 1, 2, 3, 4, 5, 6, 7, 8, 9, 10, 11, 12], []), ([0, 1, 2, 3, 4, 5, 6, 7, 8, 9, 10, 11, 12], []), ([0, 1, 2, 3, 4, 5, 6, 7, 8, 9, 10, 11, 12], []), ([], [0, 1, 2, 3, 4, 5, 6, 7, 8, 9, 10, 11, 12, 13, 14, 15]), ([], [0, 1, 2, 3, 4, 5, 6, 7, 8, 9, 10, 11, 12, 13, 14, 15, 16]), ([0, 1, 2, 3, 4, 5, 6, 7, 8, 9, 10, 11, 12, 13, 16, 17], [14, 15]), ([0, 1, 2, 3, 4, 5, 6, 7, 8, 9, 10, 11, 12, 13, 14, 16, 17, 18], [15]), ([0, 1, 2, 3, 4, 5, 6, 7, 8, 9, 10, 11, 12, 13, 14, 15, 16, 17, 18, 19], [])])]).getD [] := rfl
theorem w9 {args : List AV} {objs : List Obj'} (hl : Nat.ble args.length 247 = true) : evW 9 args objs = ex ⟨247, objs.length, kpOf 9, tb9⟩ (bodyOf Tryz.f9) ⟨numbered 0 (canVs [[some 1], [some 1], []] args), numbered 0 objs, objs.length, []⟩ (fnR (kpOf 9) [.tmp 6] objs.length []) := evW_ex (kn_none rfl) (by kernel_rfl : cfg.G.fn 9 = some Tryz.f9) (by kernel_rfl) rfl rfl (by kernel_rfl) (by kernel_rfl) (by kernel_rfl) hl
theorem lv9 (i : Nat) : (kpOf 9).live i = if i = 99999 then [6] else (look i [(0, [0, 1, 2]), (1, [0, 1, 5]), (2, []), (3, [0, 1, 5]), (4, [0, 1, 5, 7]), (5, [0, 1, 5, 7, 8, 9]), (6, []), (7, [0, 1, 5, 7, 8, 9]), (8, [0, 1, 5, 7, 8, 9, 70, 71, 72]), (9, [0, 1, 5, 7, 8, 9, 70, 71, 72]), (10, [0, 1, 5, 7, 8, 9, 11, 70, 71, 72]), (11, [0, 1, 5, 7, 8, 9, 11, 12, 13, 14, 70, 71, 72]), (12, [0, 1, 5, 7, 8, 9, 11, 12, 13, 14, 70, 71, 72]), (14, [0, 1, 5, 7, 8, 9, 12, 13, 14, 70, 71, 72, 88]), (15, [0, 1, 5, 7, 8, 9, 12, 13, 14, 70, 71, 72]), (16, [0, 1, 5, 7, 8, 9, 12, 13, 14, 70, 71, 72, 88]), (17, [0, 1, 5, 7, 8, 9, 12, 13, 14, 70, 71, 72]), (13, [0, 1, 5, 7, 8, 9, 12, 13, 14, 70, 71, 72]), (18, [0, 1, 5, 7, 8, 9, 12, 13, 14, 15, 70, 71, 72]), (19, []), (20, [0, 1, 5, 7, 8, 9, 70, 71, 72]), (21, [0, 1, 5, 7, 8, 9]), (22, [0, 1, 5, 7, 8, 9, 16, 18]), (23, [5, 7, 8, 9, 16, 18, 19]), (24, [5, 7, 8, 9, 16, 18, 19, 21, 23]), (25, [5, 7, 8, 9, 16, 18, 19, 21, 23, 24]), (26, [5, 16, 18, 19, 21, 23, 24, 26, 28]), (27, []), (28, [5]), (29, [5, 205, 206, 207]), (30, [5, 205, 206, 207]), (31, [5, 30, 205, 206, 207]), (32, [5, 30, 31, 33, 205, 206, 207]), (33, [5, 31, 33, 34, 35, 205, 206, 207]), (34, []), (35, [5, 205, 206, 207]), (36, [])]).getD [] := by kernel_rfl
theorem fz9 (i : Nat) : (kpOf 9).frz i = if i = 99999 then [6] else [] := by kernel_rfl
def tb17 : Nat → Tab := fun i => (look i [(6, [([], []), ([0], []), ([], []), ([0, 1, 2], []), ([0, 1, 2, 3], []), ([], []), ([5], []), ([], []), ([5, 6, 7], []), ([5, 6, 7, 8], []), ([0, 1, 2, 3, 4, 5, 6, 7, 8, 9], []), ([0, 1, 2, 3, 4, 5, 6, 7, 8, 9, 10], [])])]).getD []
theorem tbr17 (i : Nat) : tb17 i = (look i [(6, [([], []), ([0], []), ([], []), ([0, 1, 2], []), ([0, 1, 2, 3], []), ([], []), ([5], []), ([], []), ([5, 6, 7], []), ([5, 6, 7, 8], []), ([0, 1, 2, 3, 4, 5, 6, 7, 8, 9], []), ([0, 1, 2, 3, 4, 5, 6, 7, 8, 9, 10], [])])]).getD [] := rfl
theorem w17 {args : List AV} {objs : List Obj'} (hl : Nat.ble args.length 54 = true) : evW 17 args objs = ex ⟨54, objs.length, kpOf 17, tb17⟩ (bodyOf Tryz.f17) ⟨numbered 0 (canVs [[none, none, some 1, some 4], [none, none, some 1, some 4]] args), numbered 0 objs, objs.length, []⟩ (fnR (kpOf 17) [.tmp 4] objs.length []) := evW_ex (kn_none rfl) (by kernel_rfl : cfg.G.fn 17 = some Tryz.f17) (by kernel_rfl) rfl rfl (by kernel_rfl) (by kernel_rfl) (by kernel_rfl) hl
theorem lv17 (i : Nat) : (kpOf 17).live i = if i = 99999 then [4] else (look i [(0, [0, 1]), (1, [2, 3]), (2, []), (3, [2, 3]), (4, [2, 3, 37, 38]), (5, [2, 3, 37, 38]), (6, [2, 3, 5, 37, 38]), (7, []), (8, [2, 3, 37, 38]), (9, [])]).getD [] := by kernel_rfl
theorem fz17 (i : Nat) : (kpOf 17).frz i = if i = 99999 then [4] else [] := by kernel_rfl
def tb23 : Nat → Tab := fun i => (look i [(13, [([], []), ([0], []), ([], [1]), ([0, 1, 2], []), ([0, 1, 2, 3], []), ([0, 1, 2, 3, 4], []), ([0, 1, 2, 3, 4, 5], [])])]).getD []
theorem tbr23 (i : Nat) : tb23 i = (look i [(13, [([], []), ([0], []), ([], [1]), ([0, 1, 2], []), ([0, 1, 2, 3], []), ([0, 1, 2, 3, 4], []), ([0, 1, 2, 3, 4, 5], [])])]).getD [] := rfl
theorem w23 {args : List AV} {objs : List Obj'} (hl : Nat.ble args.length 74 = true) : evW 23 args objs = ex ⟨74, objs.length, kpOf 23, tb23⟩ (bodyOf Tryz.f23) ⟨numbered 0 (canVs [[], [some 4], [some 5]] args), numbered 0 objs, objs.length, []⟩ (fnR (kpOf 23) [.cell 6 33, .cell 7 38, .tmp 8] objs.length [[none, none, some 1, some 4], [none, none, none, some 1, some 5], []]) := evW_ex (kn_none rfl) (by kernel_rfl : cfg.G.fn 23 = some Tryz.f23) (by kernel_rfl) rfl rfl (by kernel_rfl) (by kernel_rfl) (by kernel_rfl) hl
theorem lv23 (i : Nat) : (kpOf 23).live i = if i = 99999 then [6, 7, 8] else (look i [(0, [0, 1, 2]), (1, [0, 1, 2, 6, 7]), (2, [0, 1, 2, 6, 7, 9]), (3, [6, 7, 9]), (4, [0, 1, 2, 6, 7, 9]), (5, [0, 1, 2, 6, 7, 9, 10]), (6, [0, 1, 2, 6, 7, 9]), (7, [0, 1, 2, 6, 7, 9, 10]), (8, [0, 1, 2, 6, 7, 9, 11, 12]), (9, [6, 7, 9]), (10, [0, 1, 2, 6, 7, 9, 11]), (11, [6, 7, 9, 11, 13, 14]), (12, [6, 7, 9, 14]), (13, [6, 7, 11, 13])]).getD [] := by kernel_rfl
theorem fz23 (i : Nat) : (kpOf 23).frz i = if i = 99999 then [6, 7, 8] else [] := by kernel_rfl
theorem w32 {args : List AV} {objs : List Obj'} (hl : Nat.ble args.length 12 = true) : evW 32 args objs = ex ⟨12, objs.length, kpOf 32, noTab⟩ (bodyOf Tryz.f32) ⟨numbered 0 (canVs [[none, none, none, some 1, some 5], [none, none, some 1, some 4]] args), numbered 0 objs, objs.length, []⟩ (fnR (kpOf 32) [.tmp 4] objs.length []) := evW_ex (kn_none rfl) (by kernel_rfl : cfg.G.fn 32 = some Tryz.f32) (by kernel_rfl) rfl rfl (by kernel_rfl) (by kernel_rfl) (by kernel_rfl) hl
theorem lv32 (i : Nat) : (kpOf 32).live i = if i = 99999 then [4] else (look i [(0, [0, 1]), (1, [2, 3])]).getD [] := by kernel_rfl
theorem fz32 (i : Nat) : (kpOf 32).frz i = if i = 99999 then [4] else [] := by kernel_rfl
theorem w33 {args : List AV} {objs : List Obj'} (hl : Nat.ble args.length 5 = true) : evW 33 args objs = ex ⟨5, objs.length, kpOf 33, noTab⟩ (bodyOf Tryz.f33) ⟨numbered 0 (canVs [] args), numbered 0 objs, objs.length, []⟩ (fnR (kpOf 33) [.cell 2 38] objs.length [[none, none, none, some 1, some 5]]) := evW_ex (kn_none rfl) (by kernel_rfl : cfg.G.fn 33 = some Tryz.f33) (by kernel_rfl) rfl rfl (by kernel_rfl) (by kernel_rfl) (by kernel_rfl) hl
theorem lv33 (i : Nat) : (kpOf 33).live i = if i = 99999 then [2] else (look i [(0, [0]), (1, [0, 2])]).getD [] := by kernel_rfl
theorem fz33 (i : Nat) : (kpOf 33).frz i = if i = 99999 then [2] else [] := by kernel_rfl
def tb34 : Nat → Tab := fun i => (look i [(19, [([], []), ([0], []), ([0, 1], []), ([0, 1, 2], []), ([], []), ([0, 1, 2, 3, 4], []), ([0, 1, 2, 3, 4, 5], [])])]).getD []
theorem tbr34 (i : Nat) : tb34 i = (look i [(19, [([], []), ([0], []), ([0, 1], []), ([0, 1, 2], []), ([], []), ([0, 1, 2, 3, 4], []), ([0, 1, 2, 3, 4, 5], [])])]).getD [] := rfl
theorem w34 {args : List AV} {objs : List Obj'} (hl : Nat.ble args.length 161 = true) : evW 34 args objs = ex ⟨161, objs.length, kpOf 34, tb34⟩ (bodyOf Tryz.f34) ⟨numbered 0 (canVs [[none, none, none, some 1, some 5], [none, none, some 1, some 4]] args), numbered 0 objs, objs.length, []⟩ (fnR (kpOf 34) [.tmp 4] objs.length []) := evW_ex (kn_none rfl) (by kernel_rfl : cfg.G.fn 34 = some Tryz.f34) (by kernel_rfl) rfl rfl (by kernel_rfl) (by kernel_rfl) (by kernel_rfl) hl
theorem lv34 (i : Nat) : (kpOf 34).live i = if i = 99999 then [4] else (look i [(0, [0, 1]), (1, [2, 3]), (2, []), (3, [2, 3]), (4, [2, 3, 18]), (5, [3]), (6, [2, 3, 18]), (7, [3]), (8, [2, 3, 18]), (9, [3]), (10, [2, 3, 18]), (11, [2, 3]), (12, [2, 3, 18]), (13, [2, 3]), (14, [2, 3]), (15, []), (16, [2, 3]), (17, [2, 147, 148, 149]), (18, [2, 147, 148, 149]), (19, [2, 6, 147, 148, 149]), (20, []), (21, [2, 147, 148, 149]), (22, [])]).getD [] := by kernel_rfl
theorem fz34 (i : Nat) : (kpOf 34).frz i = if i = 99999 then [4] else [] := by kernel_rfl
theorem w35 {args : List AV} {objs : List Obj'} (hl : Nat.ble args.length 12 = true) : evW 35 args objs = ex ⟨12, objs.length, kpOf 35, noTab⟩ (bodyOf Tryz.f35) ⟨numbered 0 (canVs [[some 1], [some 1]] args), numbered 0 objs, objs.length, []⟩ (fnR (kpOf 35) [.tmp 4, .tmp 5] objs.length [[some 1], []]) := evW_ex (kn_none rfl) (by kernel_rfl : cfg.G.fn 35 = some Tryz.f35) (by kernel_rfl) rfl rfl (by kernel_rfl) (by kernel_rfl) (by kernel_rfl) hl
theorem lv35 (i : Nat) : (kpOf 35).live i = if i = 99999 then [4, 5] else (look i [(0, [0, 1]), (1, [0, 1])]).getD [] := by kernel_rfl
theorem fz35 (i : Nat) : (kpOf 35).frz i = if i = 99999 then [4, 5] else [] := by kernel_rfl
theorem w36 {args : List AV} {objs : List Obj'} (hl : Nat.ble args.length 12 = true) : evW 36 args objs = ex ⟨12, objs.length, kpOf 36, noTab⟩ (bodyOf Tryz.f36) ⟨numbered 0 (canVs [[some 1], [some 1]] args), numbered 0 objs, objs.length, []⟩ (fnR (kpOf 36) [.tmp 4, .tmp 5] objs.length [[some 1], []]) := evW_ex (kn_none rfl) (by kernel_rfl : cfg.G.fn 36 = some Tryz.f36) (by kernel_rfl) rfl rfl (by kernel_rfl) (by kernel_rfl) (by kernel_rfl) hl
theorem lv36 (i : Nat) : (kpOf 36).live i = if i = 99999 then [4, 5] else (look i [(0, [0, 1]), (1, [0, 1])]).getD [] := by kernel_rfl
theorem fz36 (i : Nat) : (kpOf 36).frz i = if i = 99999 then [4, 5] else [] := by kernel_rfl
theorem w37 {args : List AV} {objs : List Obj'} (hl : Nat.ble args.length 12 = true) : evW 37 args objs = ex ⟨12, objs.length, kpOf 37, noTab⟩ (bodyOf Tryz.f37) ⟨numbered 0 (canVs [[some 1], [some 1]] args), numbered 0 objs, objs.length, []⟩ (fnR (kpOf 37) [.tmp 4, .tmp 5] objs.length [[some 1], []]) := evW_ex (kn_none rfl) (by kernel_rfl : cfg.G.fn 37 = some Tryz.f37) (by kernel_rfl) rfl rfl (by kernel_rfl) (by kernel_rfl) (by kernel_rfl) hl
theorem lv37 (i : Nat) : (kpOf 37).live i = if i = 99999 then [4, 5] else (look i [(0, [0, 1]), (1, [0, 1])]).getD [] := by kernel_rfl
theorem fz37 (i : Nat) : (kpOf 37).frz i = if i = 99999 then [4, 5] else [] := by kernel_rfl
def tb38 : Nat → Tab := fun i => (look i [(6, [([], []), ([0], []), ([], []), ([0, 1, 2], []), ([0, 1, 2, 3], []), ([], []), ([5], []), ([], []), ([5, 6, 7], []), ([5, 6, 7, 8], []), ([0, 1, 2, 3, 4, 5, 6, 7, 8, 9], [])]), (9, [([], []), ([0], []), ([0, 1], []), ([0, 1, 2], []), ([0, 1, 2, 3], []), ([0, 1, 2, 3, 4], []), ([0, 1, 2, 3, 4, 5], []), ([0, 1, 2, 3, 4, 5, 6], []), ([0, 1, 2, 3], []), ([0, 1, 2, 3, 8], []), ([0, 1, 2, 3, 8, 9], []), ([0, 1, 2, 3, 8, 9, 10], []), ([0, 1, 2, 3, 4, 5, 6, 7, 8, 9, 10, 11], []), ([0, 1, 2, 3, 4, 5, 6, 7, 8, 9, 10, 11, 12], []), ([0, 1, 2, 3, 4, 5, 6, 7, 8, 9, 10, 11, 12, 13], [])])]).getD []
theorem tbr38 (i : Nat) : tb38 i = (look i [(6, [([], []), ([0], []), ([], []), ([0, 1, 2], []), ([0, 1, 2, 3], []), ([], []), ([5], []), ([], []), ([5, 6, 7], []), ([5, 6, 7, 8], []), ([0, 1, 2, 3, 4, 5, 6, 7, 8, 9], [])]), (9, [([], []), ([0], []), ([0, 1], []), ([0, 1, 2], []), ([0, 1, 2, 3], []), ([0, 1, 2, 3, 4], []), ([0, 1, 2, 3, 4, 5], []), ([0, 1, 2, 3, 4, 5, 6], []), ([0, 1, 2, 3], []), ([0, 1, 2, 3, 8], []), ([0, 1, 2, 3, 8, 9], []), ([0, 1, 2, 3, 8, 9, 10], []), ([0, 1, 2, 3, 4, 5, 6, 7, 8, 9, 10, 11], []), ([0, 1, 2, 3, 4, 5, 6, 7, 8, 9, 10, 11, 12], []), ([0, 1, 2, 3, 4, 5, 6, 7, 8, 9, 10, 11, 12, 13], [])])]).getD [] := rfl
theorem w38 {args : List AV} {objs : List Obj'} (hl : Nat.ble args.length 76 = true) : evW 38 args objs = ex ⟨76, objs.length, kpOf 38, tb38⟩ (bodyOf Tryz.f38) ⟨numbered 0 (canVs [[none, none, none, some 1, some 5], [none, none, none, some 1, some 5]] args), numbered 0 objs, objs.length, []⟩ (fnR (kpOf 38) [.tmp 4] objs.length []) := evW_ex (kn_none rfl) (by kernel_rfl : cfg.G.fn 38 = some Tryz.f38) (by kernel_rfl) rfl rfl (by kernel_rfl) (by kernel_rfl) (by kernel_rfl) hl
theorem lv38 (i : Nat) : (kpOf 38).live i = if i = 99999 then [4] else (look i [(0, [0, 1]), (1, [2, 3]), (2, []), (3, [2, 3]), (4, [2, 3, 46, 47]), (5, [2, 3, 46, 47]), (6, [2, 3, 5, 46, 47]), (7, []), (8, [2, 3, 46, 47]), (9, [2, 3])]).getD [] := by kernel_rfl
theorem fz38 (i : Nat) : (kpOf 38).frz i = if i = 99999 then [4] else [] := by kernel_rfl
theorem w39 {args : List AV} {objs : List Obj'} (hl : Nat.ble args.length 12 = true) : evW 39 args objs = ex ⟨12, objs.length, kpOf 39, noTab⟩ (bodyOf Tryz.f39) ⟨numbered 0 (canVs [[some 1], [some 1]] args), numbered 0 objs, objs.length, []⟩ (fnR (kpOf 39) [.tmp 4, .tmp 5] objs.length []) := evW_ex (kn_none rfl) (by kernel_rfl : cfg.G.fn 39 = some Tryz.f39) (by kernel_rfl) rfl rfl (by kernel_rfl) (by kernel_rfl) (by kernel_rfl) hl
theorem lv39 (i : Nat) : (kpOf 39).live i = if i = 99999 then [4, 5] else (look i [(0, [0, 1]), (1, [0, 1])]).getD [] := by kernel_rfl
theorem fz39 (i : Nat) : (kpOf 39).frz i = if i = 99999 then [4, 5] else [] := by kernel_rfl
theorem w40 {args : List AV} {objs : List Obj'} (hl : Nat.ble args.length 21 = true) : evW 40 args objs = ex ⟨21, objs.length, kpOf 40, noTab⟩ (bodyOf Tryz.f40) ⟨numbered 0 (canVs [[none, none, none, some 1, some 5], [none, none, some 1, some 4], [none, none, some 1, some 4]] args), numbered 0 objs, objs.length, []⟩ (fnR (kpOf 40) [.tmp 6, .tmp 7] objs.length []) := evW_ex (kn_none rfl) (by kernel_rfl : cfg.G.fn 40 = some Tryz.f40) (by kernel_rfl) rfl rfl (by kernel_rfl) (by kernel_rfl) (by kernel_rfl) hl
theorem lv40 (i : Nat) : (kpOf 40).live i = if i = 99999 then [6, 7] else (look i [(0, [0, 1, 2]), (1, [3, 4, 5]), (2, []), (3, [4, 5])]).getD [] := by kernel_rfl
theorem fz40 (i : Nat) : (kpOf 40).frz i = if i = 99999 then [6, 7] else [] := by kernel_rfl
theorem w41 {args : List AV} {objs : List Obj'} (hl : Nat.ble args.length 5 = true) : evW 41 args objs = ex ⟨5, objs.length, kpOf 41, noTab⟩ (bodyOf Tryz.f41) ⟨numbered 0 (canVs [] args), numbered 0 objs, objs.length, []⟩ (fnR (kpOf 41) [.cell 2 33] objs.length [[none, none, some 1, some 4]]) := evW_ex (kn_none rfl) (by kernel_rfl : cfg.G.fn 41 = some Tryz.f41) (by kernel_rfl) rfl rfl (by kernel_rfl) (by kernel_rfl) (by kernel_rfl) hl
theorem lv41 (i : Nat) : (kpOf 41).live i = if i = 99999 then [2] else (look i [(0, [0]), (1, [0, 2])]).getD [] := by kernel_rfl
theorem fz41 (i : Nat) : (kpOf 41).frz i = if i = 99999 then [2] else [] := by kernel_rfl
theorem w42 {args : List AV} {objs : List Obj'} (hl : Nat.ble args.length 2 = true) : evW 42 args objs = ex ⟨2, objs.length, kpOf 42, noTab⟩ (bodyOf Tryz.f42) ⟨numbered 0 (canVs [] args), numbered 0 objs, objs.length, []⟩ (fnR (kpOf 42) [.cell 0 38] objs.length [[none, none, none, some 1, some 5]]) := evW_ex (kn_none rfl) (by kernel_rfl : cfg.G.fn 42 = some Tryz.f42) (by kernel_rfl) rfl rfl (by kernel_rfl) (by kernel_rfl) (by kernel_rfl) hl
theorem lv42 (i : Nat) : (kpOf 42).live i = if i = 99999 then [0] else (look i [(0, []), (1, [0])]).getD [] := by kernel_rfl
theorem fz42 (i : Nat) : (kpOf 42).frz i = if i = 99999 then [0] else [] := by kernel_rfl
theorem w43 {args : List AV} {objs : List Obj'} (hl : Nat.ble args.length 52 = true) : evW 43 args objs = ex ⟨52, objs.length, kpOf 43, noTab⟩ (bodyOf Tryz.f43) ⟨numbered 0 (canVs [] args), numbered 0 objs, objs.length, []⟩ (fnR (kpOf 43) [.tmp 6, .tmp 7] objs.length []) := evW_ex (kn_none rfl) (by kernel_rfl : cfg.G.fn 43 = some Tryz.f43) (by kernel_rfl) rfl rfl (by kernel_rfl) (by kernel_rfl) (by kernel_rfl) hl
theorem lv43 (i : Nat) : (kpOf 43).live i = if i = 99999 then [6, 7] else (look i [(0, [0, 1, 2]), (1, [0, 1, 2]), (2, []), (3, [0, 1, 2]), (4, [0, 1, 2]), (6, [0, 1, 2, 17]), (7, [1, 2]), (8, [0, 1, 2, 17]), (9, [1, 2]), (10, [0, 1, 2, 17]), (11, [1, 2]), (12, [0, 1, 2, 17]), (13, [0, 1, 2, 17]), (14, [0, 1, 2]), (15, []), (16, [0, 1, 2]), (17, [0, 1, 2, 8]), (18, [1, 2, 8]), (5, []), (19, [8]), (20, []), (21, [8])]).getD [] := by kernel_rfl
theorem fz43 (i : Nat) : (kpOf 43).frz i = if i = 99999 then [6, 7] else [] := by kernel_rfl
def tb53 : Nat → Tab := fun i => (look i [(6, [([], []), ([0], []), ([], []), ([], []), ([3], [0, 1, 2]), ([0, 1, 2, 3, 4], []), ([0, 1, 2, 3, 4, 5], [])])]).getD []
theorem tbr53 (i : Nat) : tb53 i = (look i [(6, [([], []), ([0], []), ([], []), ([], []), ([3], [0, 1, 2]), ([0, 1, 2, 3, 4], []), ([0, 1, 2, 3, 4, 5], [])])]).getD [] := rfl
theorem w53 {args : List AV} {objs : List Obj'} (hl : Nat.ble args.length 29 = true) : evW 53 args objs = ex ⟨29, objs.length, kpOf 53, tb53⟩ (bodyOf Tryz.f53) ⟨numbered 0 (canVs [[none, none, some 1, some 4]] args), numbered 0 objs, objs.length, []⟩ (fnR (kpOf 53) [.cell 2 33] objs.length [[none, none, some 1, some 4]]) := evW_ex (kn_none rfl) (by kernel_rfl : cfg.G.fn 53 = some Tryz.f53) (by kernel_rfl) rfl rfl (by kernel_rfl) (by kernel_rfl) (by kernel_rfl) hl
theorem lv53 (i : Nat) : (kpOf 53).live i = if i = 99999 then [2] else (look i [(0, [0]), (1, [1, 2]), (2, [1, 2]), (3, [1, 2]), (4, [1, 2, 14, 15, 16]), (5, [1, 2, 14, 15, 16]), (6, [1, 2, 3, 4, 14, 15, 16]), (7, [1, 2, 14, 15, 16]), (8, [1, 2])]).getD [] := by kernel_rfl
theorem fz53 (i : Nat) : (kpOf 53).frz i = if i = 99999 then [2] else [] := by kernel_rfl
def tb59 : Nat → Tab := fun i => (look i [(6, [([], []), ([], []), ([0, 1], []), ([0, 1, 2], []), ([], []), ([], []), ([4, 5], []), ([4, 5, 6], []), ([0, 1, 2, 3, 4, 5, 6, 7], [])])]).getD []
theorem tbr59 (i : Nat) : tb59 i = (look i [(6, [([], []), ([], []), ([0, 1], []), ([0, 1, 2], []), ([], []), ([], []), ([4, 5], []), ([4, 5, 6], []), ([0, 1, 2, 3, 4, 5, 6, 7], [])])]).getD [] := rfl
theorem w59 {args : List AV} {objs : List Obj'} (hl : Nat.ble args.length 26 = true) : evW 59 args objs = ex ⟨26, objs.length, kpOf 59, tb59⟩ (bodyOf Tryz.f59) ⟨numbered 0 (canVs [[some 1], [some 1]] args), numbered 0 objs, objs.length, []⟩ (fnR (kpOf 59) [.tmp 4] objs.length []) := evW_ex (kn_none rfl) (by kernel_rfl : cfg.G.fn 59 = some Tryz.f59) (by kernel_rfl) rfl rfl (by kernel_rfl) (by kernel_rfl) (by kernel_rfl) hl
theorem lv59 (i : Nat) : (kpOf 59).live i = if i = 99999 then [4] else (look i [(0, [0, 1]), (1, [0, 1]), (2, []), (3, [0, 1]), (4, [0, 1, 12, 13]), (5, [0, 1, 12, 13]), (6, [0, 1, 5, 12, 13]), (7, []), (8, [0, 1, 12, 13]), (9, [])]).getD [] := by kernel_rfl
theorem fz59 (i : Nat) : (kpOf 59).frz i = if i = 99999 then [4] else [] := by kernel_rfl
theorem w65 {args : List AV} {objs : List Obj'} (hl : Nat.ble args.length 32 = true) : evW 65 args objs = ex ⟨32, objs.length, kpOf 65, noTab⟩ (bodyOf Tryz.f65) ⟨numbered 0 (canVs [[some 5], [some 4], []] args), numbered 0 objs, objs.length, []⟩ (fnR (kpOf 65) [.tmp 6] objs.length []) := evW_ex (kn_none rfl) (by kernel_rfl : cfg.G.fn 65 = some Tryz.f65) (by kernel_rfl) rfl rfl (by kernel_rfl) (by kernel_rfl) (by kernel_rfl) hl
theorem lv65 (i : Nat) : (kpOf 65).live i = if i = 99999 then [6] else (look i [(0, [0, 1, 2]), (1, [0, 1, 2]), (2, []), (3, [0, 1, 2]), (4, [1, 2, 15, 16, 17]), (5, [1, 2, 15, 16, 17]), (6, [1, 2, 7, 8, 15, 16, 17]), (7, [1, 2, 8, 9, 15, 16, 17]), (8, []), (9, [1, 2, 15, 16, 17]), (10, [])]).getD [] := by kernel_rfl
theorem fz65 (i : Nat) : (kpOf 65).frz i = if i = 99999 then [] else [] := by kernel_rfl
def tb74 : Nat → Tab := fun i => (look i [(5, [([], []), ([0], []), ([0, 1], []), ([], []), ([3], []), ([3, 4], []), ([], [0, 1, 2, 3, 4, 5]), ([], [0, 1, 2, 3, 4, 5, 6]), ([0, 1, 2, 6, 7], [3, 4, 5]), ([0, 1, 2, 3, 4, 5, 6, 7, 8], [])]), (15, [([], []), ([], []), ([1], []), ([1, 2], []), ([1, 2, 3], [0]), ([1, 2, 3, 4], []), ([1, 2, 3, 4, 5], []), ([1, 2, 3, 4, 5, 6], []), ([1, 2, 3, 4, 5, 6, 7], []), ([1, 2, 3, 4, 5, 6, 7, 8], []), ([1, 2, 3, 4, 5, 6, 7, 8, 9], []), ([0, 1, 2, 3, 4, 5], [6, 7, 8, 9, 10]), ([0, 1, 2, 3, 4, 5, 6, 7, 8, 9, 10, 11], [])]), (30, [([], []), ([], []), ([1], []), ([1, 2], []), ([1, 2, 3], []), ([1, 2, 3, 4], []), ([1, 2, 3, 4, 5], []), ([0, 1, 2], [3, 4, 5, 6]), ([0, 1, 2, 3, 4, 5, 6, 7], [])]), (32, [([], []), ([0], []), ([], [1]), ([0, 1, 2], []), ([0, 1, 2, 3], []), ([0, 1, 2, 3, 4], []), ([], [1, 3, 5]), ([0, 1, 2, 3, 4, 5, 6], []), ([0, 1, 2, 3, 4, 5, 6, 7], []), ([0, 1, 2, 3, 4, 5, 6, 7, 8], []), ([0, 1, 2, 3, 4, 5, 6, 7, 8, 9], []), ([0, 1, 2, 3, 4, 5, 6, 7, 8, 9, 10], []), ([0, 1, 2, 3, 4, 5, 6, 7, 8, 9, 10, 11], []), ([0, 1, 2, 3, 4, 5, 6, 7, 8, 9, 10, 11, 12], []), ([0, 1, 2, 3, 4, 5, 6, 7, 8, 9, 10, 11, 12, 13], []), ([0, 1, 2, 3, 4, 5, 6, 7, 8, 9, 10, 11, 12], [14]), ([0, 1, 2, 3, 4, 5, 6, 7, 8, 9, 10, 11, 12, 13, 14, 15], []), ([0, 1, 2, 3, 4, 5, 6, 7, 8, 9, 10, 11, 12, 13, 14, 15, 16], []), ([0, 1, 2, 3, 4, 5, 6, 7, 8, 9, 10, 11, 12, 13, 14, 15, 16, 17], []), ([0, 1, 2, 3, 4, 5, 6, 7, 8, 9, 10, 11, 12, 13, 14, 15, 16, 17, 18], []), ([0, 1, 2, 3, 4, 5, 6, 7, 8, 9, 10, 11, 12, 13, 14, 15, 16], [17, 18, 19]), ([0, 1, 2, 3, 4, 5, 6, 7, 8, 9, 10, 11, 12, 13, 14, 15, 16, 17, 18, 19, 20], [])]), (35, [([], []), ([], []), ([1], []), ([1, 2], []), ([1, 2, 3], []), ([1, 2, 3, 4], []), ([1, 2, 3, 4, 5], []), ([1, 2, 3, 4, 5, 6], []), ([1, 2, 3, 4, 5, 6, 7], []), ([0, 1, 2, 3, 4], [5, 6, 7, 8]), ([0, 1, 2, 3, 4, 5, 6, 7, 8, 9], [])]), (37, [([], []), ([], [0]), ([0, 1], []), ([0, 1, 2], []), ([0, 1, 2, 3], []), ([0, 1, 2, 3, 4], []), ([0, 1, 2, 3, 4, 5], []), ([0, 1, 2], [3, 4, 5, 6]), ([0, 1, 2, 3, 4, 5, 6, 7], [])]), (39, [([], []), ([0], []), ([], [1]), ([2], [1]), ([2, 3], [1]), ([0, 1, 2, 3, 4], []), ([0, 1, 2, 3, 4, 5], []), ([0, 1, 2, 3, 4, 5, 6], []), ([0, 1, 2, 3, 4, 5, 6, 7], []), ([0, 1, 2, 3, 4, 5, 6, 7, 8], []), ([0, 1, 2, 3, 4, 5], [6, 7, 8, 9]), ([0, 1, 2, 3, 4, 5, 6, 7, 8, 9, 10], [])]), (41, [([], []), ([0], []), ([], [1]), ([2], [1]), ([2, 3], [1]), ([0, 1, 2, 3, 4], []), ([0, 1, 2, 3, 4, 5], []), ([0, 1, 2, 3, 4, 5, 6], []), ([0, 1, 2, 3, 4, 5, 6, 7], []), ([0, 1, 2, 3, 4, 5, 6, 7, 8], []), ([0, 1, 2, 3, 4, 5], [6, 7, 8, 9]), ([0, 1, 2, 3, 4, 5, 6, 7, 8, 9, 10], [])])]).getD []
theorem tbr74 (i : Nat) : tb74 i = (look i [(5, [([], []), ([0], []), ([0, 1], []), ([], []), ([3], []), ([3, 4], []), ([], [0, 1, 2, 3, 4, 5]), ([], [0, 1, 2, 3, 4, 5, 6]), ([0, 1, 2, 6, 7], [3, 4, 5]), ([0, 1, 2, 3, 4, 5, 6, 7, 8], [])]), (15, [([], []), ([], []), ([1], []), ([1, 2], []), ([1, 2, 3], [0]), ([1, 2, 3, 4], []), ([1, 2, 3, 4, 5], []), ([1, 2, 3, 4, 5, 6], []), ([1, 2, 3, 4, 5, 6, 7], []), ([1, 2, 3, 4, 5, 6, 7, 8], []), ([1, 2, 3, 4, 5, 6, 7, 8, 9], []), ([0, 1, 2, 3, 4, 5], [6, 7, 8, 9, 10]), ([0, 1, 2, 3, 4, 5, 6, 7, 8, 9, 10, 11], [])]), (30, [([], []), ([], []), ([1], []), ([1, 2], []), ([1, 2, 3], []), ([1, 2, 3, 4], []), ([1, 2, 3, 4, 5], []), ([0, 1, 2], [3, 4, 5, 6]), ([0, 1, 2, 3, 4, 5, 6, 7], [])]), (32, [([], []), ([0], []), ([], [1]), ([0, 1, 2], []), ([0, 1, 2, 3], []), ([0, 1, 2, 3, 4], []), ([], [1, 3, 5]), ([0, 1, 2, 3, 4, 5, 6], []), ([0, 1, 2, 3, 4, 5, 6, 7], []), ([0, 1, 2, 3, 4, 5, 6, 7, 8], []), ([0, 1, 2, 3, 4, 5, 6, 7, 8, 9], []), ([0, 1, 2, 3, 4, 5, 6, 7, 8, 9, 10], []), ([0, 1, 2, 3, 4, 5, 6, 7, 8, 9, 10, 11], []), ([0, 1, 2, 3, 4, 5, 6, 7, 8, 9, 10, 11, 12], []), ([0, 1, 2, 3, 4, 5, 6, 7, 8, 9, 10, 11, 12, 13], []), ([0, 1, 2, 3, 4, 5, 6, 7, 8, 9, 10, 11, 12], [14]), ([0, 1, 2, 3, 4, 5, 6, 7, 8, 9, 10, 11, 12, 13, 14, 15], []), ([0, 1, 2, 3, 4, 5, 6, 7, 8, 9, 10, 11, 12, 13, 14, 15, 16], []), ([0, 1, 2, 3, 4, 5, 6, 7, 8, 9, 10, 11, 12, 13, 14, 15, 16, 17], []), ([0, 1, 2, 3, 4, 5, 6, 7, 8, 9, 10, 11, 12, 13, 14, 15, 16, 17, 18], []), ([0, 1, 2, 3, 4, 5, 6, 7, 8, 9, 10, 11, 12, 13, 14, 15, 16], [17, 18, 19]), ([0, 1, 2, 3, 4, 5, 6, 7, 8, 9, 10, 11, 12, 13, 14, 15, 16, 17, 18, 19, 20], [])]), (35, [([], []), ([], []), ([1], []), ([1, 2], []), ([1, 2, 3], []), ([1, 2, 3, 4], []), ([1, 2, 3, 4, 5], []), ([1, 2, 3, 4, 5, 6], []), ([1, 2, 3, 4, 5, 6, 7], []), ([0, 1, 2, 3, 4], [5, 6, 7, 8]), ([0, 1, 2, 3, 4, 5, 6, 7, 8, 9], [])]), (37, [([], []), ([], [0]), ([0, 1], []), ([0, 1, 2], []), ([0, 1, 2, 3], []), ([0, 1, 2, 3, 4], []), ([0, 1, 2, 3, 4, 5], []), ([0, 1, 2], [3, 4, 5, 6]), ([0, 1, 2, 3, 4, 5, 6, 7], [])]), (39, [([], []), ([0], []), ([], [1]), ([2], [1]), ([2, 3], [1]), ([0, 1, 2, 3, 4], []), ([0, 1, 2, 3, 4, 5], []), ([0, 1, 2, 3, 4, 5, 6], []), ([0, 1, 2, 3, 4, 5, 6, 7], []), ([0, 1, 2, 3, 4, 5, 6, 7, 8], []), ([0, 1, 2, 3, 4, 5], [6, 7, 8, 9]), ([0, 1, 2, 3, 4, 5, 6, 7, 8, 9, 10], [])]), (41, [([], []), ([0], []), ([], [1]), ([2], [1]), ([2, 3], [1]), ([0, 1, 2, 3, 4], []), ([0, 1, 2, 3, 4, 5], []), ([0, 1, 2, 3, 4, 5, 6], []), ([0, 1, 2, 3, 4, 5, 6, 7], []), ([0, 1, 2, 3, 4, 5, 6, 7, 8], []), ([0, 1, 2, 3, 4, 5], [6, 7, 8, 9]), ([0, 1, 2, 3, 4, 5, 6, 7, 8, 9, 10], [])])]).getD [] := rfl
theorem w74 {args : List AV} {objs : List Obj'} (hl : Nat.ble args.length 161 = true) : evW 74 args objs = ex ⟨161, objs.length, kpOf 74, tb74⟩ (bodyOf Tryz.f74) ⟨numbered 0 (canVs [[], [some 5], []] args), numbered 0 objs, objs.length, []⟩ (fnR (kpOf 74) [.cell 6 38, .tmp 7] objs.length [[none, none, none, some 1, some 5], []]) := evW_ex (kn_none rfl) (by kernel_rfl : cfg.G.fn 74 = some Tryz.f74) (by kernel_rfl) rfl rfl (by kernel_rfl) (by kernel_rfl) (by kernel_rfl) hl
theorem lv74 (i : Nat) : (kpOf 74).live i = if i = 99999 then [6, 7] else (look i [(0, [0, 1, 2]), (1, [0, 1, 2, 6]), (2, [0, 1, 6]), (3, [0, 1, 2, 6]), (4, [6]), (5, [0, 1, 2, 6]), (6, [0, 2, 6, 8, 9]), (7, [0, 2, 6, 8, 9, 10]), (8, [0, 2, 6, 8, 9, 10, 11]), (9, [2, 6, 8, 9, 10, 11, 46]), (10, [2, 6, 8, 9, 10, 11, 46]), (11, [2, 6, 8, 9, 10, 11, 46]), (12, [2, 6, 8, 9, 10, 11, 46]), (13, [2, 6, 8, 9, 10, 11, 46]), (14, [2, 6, 8, 9, 10, 11, 46]), (15, [6, 8, 10]), (16, [2, 6, 8, 9, 10, 11, 46]), (17, [2, 6, 8, 9, 10, 11, 46]), (18, [6, 10]), (19, [2, 6, 8, 9, 10, 11, 46]), (20, [2, 6, 8, 9, 10, 11, 46]), (21, [2, 6, 8, 9, 10, 11, 46]), (22, [2, 6, 8, 9, 10, 11, 46]), (23, [6, 11]), (24, [2, 6, 8, 9, 10, 11, 46]), (25, [2, 6, 8, 9, 10, 11, 46]), (26, [2, 6, 8, 9, 10, 11, 46]), (27, [6, 8, 11]), (28, [2, 6, 8, 9, 10, 46]), (29, [2, 6, 8, 9, 10, 46]), (30, [6, 8, 10]), (31, [2, 6, 8, 9, 10, 46]), (32, [6, 8, 9]), (33, [2, 6, 8, 9, 10, 46]), (34, [2, 6, 8, 9, 10, 46]), (35, [6, 8, 9]), (36, [2, 6, 8, 9, 10, 46]), (37, [6, 8, 10]), (38, [2, 6, 8, 9, 46]), (39, [2, 6, 8, 9]), (40, [2, 6, 8, 9, 46]), (41, [2, 6, 8, 9]), (42, [6])]).getD [] := by kernel_rfl
theorem fz74 (i : Nat) : (kpOf 74).frz i = if i = 99999 then [6, 7] else [] := by kernel_rfl
def tb75 : Nat → Tab := fun i => (look i [(3, [([], []), ([], []), ([1], []), ([1, 2], []), ([], []), ([0, 1, 2, 3, 4], []), ([0, 1, 2, 3, 4, 5], []), ([0, 1, 2, 3, 4, 5], []), ([0, 1, 2, 3, 4, 5, 6, 7], []), ([0, 1, 2, 3, 4, 5, 6, 7, 8], [])]), (4, [([], []), ([0], []), ([0, 1], []), ([], []), ([3], []), ([3, 4], []), ([], [0, 1, 2, 3, 4, 5]), ([], [0, 1, 2, 3, 4, 5, 6]), ([0, 1, 2, 6, 7], [3, 4, 5]), ([0, 1, 2, 3, 4, 5, 6, 7, 8], [])])]).getD []
theorem tbr75 (i : Nat) : tb75 i = (look i [(3, [([], []), ([], []), ([1], []), ([1, 2], []), ([], []), ([0, 1, 2, 3, 4], []), ([0, 1, 2, 3, 4, 5], []), ([0, 1, 2, 3, 4, 5], []), ([0, 1, 2, 3, 4, 5, 6, 7], []), ([0, 1, 2, 3, 4, 5, 6, 7, 8], [])]), (4, [([], []), ([0], []), ([0, 1], []), ([], []), ([3], []), ([3, 4], []), ([], [0, 1, 2, 3, 4, 5]), ([], [0, 1, 2, 3, 4, 5, 6]), ([0, 1, 2, 6, 7], [3, 4, 5]), ([0, 1, 2, 3, 4, 5, 6, 7, 8], [])])]).getD [] := rfl
theorem w75 {args : List AV} {objs : List Obj'} (hl : Nat.ble args.length 103 = true) : evW 75 args objs = ex ⟨103, objs.length, kpOf 75, tb75⟩ (bodyOf Tryz.f75) ⟨numbered 0 (canVs [[], [some 4], [some 5]] args), numbered 0 objs, objs.length, []⟩ (fnR (kpOf 75) [.cell 6 33, .tmp 7] objs.length [[none, none, some 1, some 4], []]) := evW_ex (kn_none rfl) (by kernel_rfl : cfg.G.fn 75 = some Tryz.f75) (by kernel_rfl) rfl rfl (by kernel_rfl) (by kernel_rfl) (by kernel_rfl) hl
theorem lv75 (i : Nat) : (kpOf 75).live i = if i = 99999 then [6, 7] else (look i [(0, [0, 1, 2]), (1, [0, 1, 2, 6]), (2, [0, 1, 6, 8]), (3, [0, 1, 6, 8]), (4, [0, 1, 6, 8]), (5, [0, 6, 8, 9, 10]), (6, [0, 6, 8, 9, 10, 36]), (7, [0, 6, 8, 9, 10]), (8, [0, 6, 9, 10]), (9, [0, 6, 8, 9, 10, 36]), (10, [0, 6, 8, 9, 10]), (11, [0, 6, 9, 10]), (12, [6, 11]), (13, [0, 6, 8, 9, 10, 36]), (14, [0, 6, 8, 9, 10, 36]), (15, [0, 6, 8, 9, 10]), (16, [0, 6, 8, 9, 10]), (17, [0, 6, 8, 9, 10]), (18, [0, 6, 13])]).getD [] := by kernel_rfl
theorem fz75 (i : Nat) : (kpOf 75).frz i = if i = 99999 then [6, 7] else [] := by kernel_rfl
def tb76 : Nat → Tab := fun i => (look i [(6, [([], []), ([0], []), ([], []), ([], []), ([3], [0, 1, 2]), ([0, 1, 2, 3, 4], []), ([0, 1, 2, 3, 4, 5], [])])]).getD []
theorem tbr76 (i : Nat) : tb76 i = (look i [(6, [([], []), ([0], []), ([], []), ([], []), ([3], [0, 1, 2]), ([0, 1, 2, 3, 4], []), ([0, 1, 2, 3, 4, 5], [])])]).getD [] := rfl
theorem w76 {args : List AV} {objs : List Obj'} (hl : Nat.ble args.length 29 = true) : evW 76 args objs = ex ⟨29, objs.length, kpOf 76, tb76⟩ (bodyOf Tryz.f76) ⟨numbered 0 (canVs [[none, none, none, some 1, some 5]] args), numbered 0 objs, objs.length, []⟩ (fnR (kpOf 76) [.cell 2 38] objs.length [[none, none, none, some 1, some 5]]) := evW_ex (kn_none rfl) (by kernel_rfl : cfg.G.fn 76 = some Tryz.f76) (by kernel_rfl) rfl rfl (by kernel_rfl) (by kernel_rfl) (by kernel_rfl) hl
theorem lv76 (i : Nat) : (kpOf 76).live i = if i = 99999 then [2] else (look i [(0, [0]), (1, [1, 2]), (2, [1, 2]), (3, [1, 2]), (4, [1, 2, 14, 15, 16]), (5, [1, 2, 14, 15, 16]), (6, [1, 2, 3, 4, 14, 15, 16]), (7, [1, 2, 14, 15, 16]), (8, [1, 2])]).getD [] := by kernel_rfl
theorem fz76 (i : Nat) : (kpOf 76).frz i = if i = 99999 then [2] else [] := by kernel_rfl
theorem w94 {args : List AV} {objs : List Obj'} (hl : Nat.ble args.length 68 = true) : evW 94 args objs = ex ⟨68, objs.length, kpOf 94, noTab⟩ (bodyOf Tryz.f94) ⟨numbered 0 (canVs [[none, none, none, some 1, some 5]] args), numbered 0 objs, objs.length, []⟩ (fnR (kpOf 94) [.tmp 2] objs.length []) := evW_ex (kn_none rfl) (by kernel_rfl : cfg.G.fn 94 = some Tryz.f94) (by kernel_rfl) rfl rfl (by kernel_rfl) (by kernel_rfl) (by kernel_rfl) hl
theorem lv94 (i : Nat) : (kpOf 94).live i = if i = 99999 then [2] else (look i [(0, [0]), (1, [1]), (2, [1, 4]), (3, [1, 4]), (4, [1, 4]), (5, [1]), (6, [1, 4]), (7, [1]), (8, [1, 4]), (9, [1]), (10, [1, 4]), (11, [1]), (12, [])]).getD [] := by kernel_rfl
theorem fz94 (i : Nat) : (kpOf 94).frz i = if i = 99999 then [2] else [] := by kernel_rfl
theorem w95 {args : List AV} {objs : List Obj'} (hl : Nat.ble args.length 93 = true) : evW 95 args objs = ex ⟨93, objs.length, kpOf 95, noTab⟩ (bodyOf Tryz.f95) ⟨numbered 0 (canVs [[none, none, none, some 1, some 5], [none, none, some 1, some 4]] args), numbered 0 objs, objs.length, []⟩ (fnR (kpOf 95) [.tmp 4] objs.length []) := evW_ex (kn_none rfl) (by kernel_rfl : cfg.G.fn 95 = some Tryz.f95) (by kernel_rfl) rfl rfl (by kernel_rfl) (by kernel_rfl) (by kernel_rfl) hl
theorem lv95 (i : Nat) : (kpOf 95).live i = if i = 99999 then [4] else (look i [(0, [0, 1]), (1, [2, 3]), (2, []), (3, [2, 3]), (4, [2, 3, 11]), (5, [2, 3, 11]), (6, [2, 3]), (7, [2, 3, 11]), (8, [3]), (9, [2, 3, 11]), (10, [3]), (11, [2, 3, 11]), (12, [2, 3]), (13, [2, 3])]).getD [] := by kernel_rfl
theorem fz95 (i : Nat) : (kpOf 95).frz i = if i = 99999 then [4] else [] := by kernel_rfl
theorem w96 {args : List AV} {objs : List Obj'} (hl : Nat.ble args.length 140 = true) : evW 96 args objs = ex ⟨140, objs.length, kpOf 96, noTab⟩ (bodyOf Tryz.f96) ⟨numbered 0 (canVs [[none, none, none, some 1, some 5]] args), numbered 0 objs, objs.length, []⟩ (fnR (kpOf 96) [.tmp 2] objs.length []) := evW_ex (kn_none rfl) (by kernel_rfl : cfg.G.fn 96 = some Tryz.f96) (by kernel_rfl) rfl rfl (by kernel_rfl) (by kernel_rfl) (by kernel_rfl) hl
theorem lv96 (i : Nat) : (kpOf 96).live i = if i = 99999 then [2] else (look i [(0, [0]), (1, [1]), (2, [1, 3]), (3, [1, 3, 17]), (4, [1, 3, 17]), (5, [1, 3, 17]), (6, [1, 3]), (7, [1, 3, 17]), (8, [1, 3]), (9, [1, 3, 17]), (10, [1, 3]), (11, [1, 17]), (12, [1]), (13, []), (14, [1]), (15, [1, 117, 118, 119]), (16, [1, 117, 118, 119]), (17, [1, 4, 5, 117, 118, 119]), (18, []), (19, [1, 4, 5, 117, 118, 119]), (20, [1, 5, 117, 118, 119, 127, 128]), (21, [1, 5, 117, 118, 119, 127, 128]), (22, [1, 5, 6, 117, 118, 119, 127, 128]), (23, []), (24, [1, 5, 117, 118, 119, 127, 128]), (25, [1, 117, 118, 119]), (26, []), (27, [])]).getD [] := by kernel_rfl
theorem fz96 (i : Nat) : (kpOf 96).frz i = if i = 99999 then [2] else [] := by kernel_rfl
theorem w97 {args : List AV} {objs : List Obj'} (hl : Nat.ble args.length 23 = true) : evW 97 args objs = ex ⟨23, objs.length, kpOf 97, noTab⟩ (bodyOf Tryz.f97) ⟨numbered 0 (canVs [[some 1]] args), numbered 0 objs, objs.length, []⟩ (fnR (kpOf 97) [.tmp 2] objs.length []) := evW_ex (kn_none rfl) (by kernel_rfl : cfg.G.fn 97 = some Tryz.f97) (by kernel_rfl) rfl rfl (by kernel_rfl) (by kernel_rfl) (by kernel_rfl) hl
theorem lv97 (i : Nat) : (kpOf 97).live i = if i = 99999 then [2] else (look i [(0, [0]), (1, [0]), (2, [0, 5, 6, 7]), (3, [0, 5, 6, 7]), (4, [0, 4, 5, 6, 7]), (5, []), (6, [0, 5, 6, 7]), (7, [0])]).getD [] := by kernel_rfl
theorem fz97 (i : Nat) : (kpOf 97).frz i = if i = 99999 then [2] else [] := by kernel_rfl
def tb99 : Nat → Tab := fun i => (look i [(5, [([], []), ([], []), ([1], []), ([1, 2], [0]), ([], [3]), ([4], [3]), ([1, 2, 3, 4, 5], [0]), ([0, 1, 2, 3, 4, 5, 6], []), ([], [3, 6, 7]), ([8], [3, 6, 7]), ([8, 9], [0, 1, 2, 3, 4, 5, 6, 7]), ([0, 1, 2, 3, 4, 5, 6, 7, 8, 9, 10], []), ([0, 1, 2, 3, 4, 5, 6, 7, 8, 9, 10, 11], []), ([0, 1, 2, 3, 4, 5, 6, 7, 8, 9, 10, 11, 12], [])])]).getD []
theorem tbr99 (i : Nat) : tb99 i = (look i [(5, [([], []), ([], []), ([1], []), ([1, 2], [0]), ([], [3]), ([4], [3]), ([1, 2, 3, 4, 5], [0]), ([0, 1, 2, 3, 4, 5, 6], []), ([], [3, 6, 7]), ([8], [3, 6, 7]), ([8, 9], [0, 1, 2, 3, 4, 5, 6, 7]), ([0, 1, 2, 3, 4, 5, 6, 7, 8, 9, 10], []), ([0, 1, 2, 3, 4, 5, 6, 7, 8, 9, 10, 11], []), ([0, 1, 2, 3, 4, 5, 6, 7, 8, 9, 10, 11, 12], [])])]).getD [] := rfl
theorem w99 {args : List AV} {objs : List Obj'} (hl : Nat.ble args.length 37 = true) : evW 99 args objs = ex ⟨37, objs.length, kpOf 99, tb99⟩ (bodyOf Tryz.f99) ⟨numbered 0 (canVs [[some 1, some 1], []] args), numbered 0 objs, objs.length, []⟩ (fnR (kpOf 99) [.tmp 4, .tmp 5] objs.length [[some 1], []]) := evW_ex (kn_none rfl) (by kernel_rfl : cfg.G.fn 99 = some Tryz.f99) (by kernel_rfl) rfl rfl (by kernel_rfl) (by kernel_rfl) (by kernel_rfl) hl
theorem lv99 (i : Nat) : (kpOf 99).live i = if i = 99999 then [4, 5] else (look i [(0, [0, 1]), (1, [1, 2]), (2, []), (3, [1, 2]), (4, [2]), (5, [1, 2])]).getD [] := by kernel_rfl
theorem fz99 (i : Nat) : (kpOf 99).frz i = if i = 99999 then [4, 5] else [] := by kernel_rfl
theorem w100 {args : List AV} {objs : List Obj'} (hl : Nat.ble args.length 8 = true) : evW 100 args objs = ex ⟨8, objs.length, kpOf 100, noTab⟩ (bodyOf Tryz.f100) ⟨numbered 0 (canVs [] args), numbered 0 objs, objs.length, []⟩ (fnR (kpOf 100) [.tmp 4] objs.length []) := evW_ex (kn_none rfl) (by kernel_rfl : cfg.G.fn 100 = some Tryz.f100) (by kernel_rfl) rfl rfl (by kernel_rfl) (by kernel_rfl) (by kernel_rfl) hl
theorem lv100 (i : Nat) : (kpOf 100).live i = if i = 99999 then [4] else (look i [(0, [0, 1]), (1, [0, 1])]).getD [] := by kernel_rfl
theorem fz100 (i : Nat) : (kpOf 100).frz i = if i = 99999 then [4] else [] := by kernel_rfl
theorem w101 {args : List AV} {objs : List Obj'} (hl : Nat.ble args.length 8 = true) : evW 101 args objs = ex ⟨8, objs.length, kpOf 101, noTab⟩ (bodyOf Tryz.f101) ⟨numbered 0 (canVs [] args), numbered 0 objs, objs.length, []⟩ (fnR (kpOf 101) [.tmp 4] objs.length []) := evW_ex (kn_none rfl) (by kernel_rfl : cfg.G.fn 101 = some Tryz.f101) (by kernel_rfl) rfl rfl (by kernel_rfl) (by kernel_rfl) (by kernel_rfl) hl
theorem lv101 (i : Nat) : (kpOf 101).live i = if i = 99999 then [4] else (look i [(0, [0, 1]), (1, [0, 1])]).getD [] := by kernel_rfl
theorem fz101 (i : Nat) : (kpOf 101).frz i = if i = 99999 then [4] else [] := by kernel_rfl
theorem w102 {args : List AV} {objs : List Obj'} (hl : Nat.ble args.length 8 = true) : evW 102 args objs = ex ⟨8, objs.length, kpOf 102, noTab⟩ (bodyOf Tryz.f102) ⟨numbered 0 (canVs [] args), numbered 0 objs, objs.length, []⟩ (fnR (kpOf 102) [.tmp 4] objs.length []) := evW_ex (kn_none rfl) (by kernel_rfl : cfg.G.fn 102 = some Tryz.f102) (by kernel_rfl) rfl rfl (by kernel_rfl) (by kernel_rfl) (by kernel_rfl) hl
theorem lv102 (i : Nat) : (kpOf 102).live i = if i = 99999 then [4] else (look i [(0, [0, 1]), (1, [0, 1])]).getD [] := by kernel_rfl
theorem fz102 (i : Nat) : (kpOf 102).frz i = if i = 99999 then [4] else [] := by kernel_rfl
def tb103 : Nat → Tab := fun i => (look i [(3, [([], []), ([0], []), ([0, 1], []), ([0, 1, 2], []), ([0, 1, 2, 3], []), ([0, 1, 2, 3, 4], []), ([0, 1, 2, 3, 4, 5], []), ([0, 1, 2, 3, 4, 5, 6], []), ([0, 1, 2, 3, 4, 5, 6, 7], []), ([0, 1, 2, 3, 4, 5, 6, 7, 8], []), ([0, 1, 2, 3, 4, 5, 6, 7, 8], []), ([0, 1, 2, 3, 4, 5, 6, 7, 8, 10], []), ([0, 1, 2, 3, 4, 5, 6, 7, 8, 10, 11], [9]), ([0, 1, 2, 3, 4, 5, 6, 7, 8], [12]), ([0, 1, 2, 3, 4, 5, 6, 7, 8, 13], [12]), ([0, 1, 2, 3, 4, 5, 6, 7, 8, 10, 11, 12, 13, 14], [9]), ([0, 1, 2, 3, 4, 5, 6, 7, 8, 9, 10, 11, 12, 13, 14, 15], []), ([0, 1, 2, 3, 4, 5, 6, 7, 8, 9, 10, 11, 12, 13, 14, 15, 16], []), ([0, 1, 2, 3, 4, 5, 6, 7, 8, 9, 10, 11, 12, 13, 14, 15, 16, 17], []), ([0, 1, 2, 3, 4, 5, 6, 7, 8, 9, 10, 11, 12, 13, 14, 15, 16, 17, 18], [])])]).getD []
theorem tbr103 (i : Nat) : tb103 i = (look i [(3, [([], []), ([0], []), ([0, 1], []), ([0, 1, 2], []), ([0, 1, 2, 3], []), ([0, 1, 2, 3, 4], []), ([0, 1, 2, 3, 4, 5], []), ([0, 1, 2, 3, 4, 5, 6], []), ([0, 1, 2, 3, 4, 5, 6, 7], []), ([0, 1, 2, 3, 4, 5, 6, 7, 8], []), ([0, 1, 2, 3, 4, 5, 6, 7, 8], []), ([0, 1, 2, 3, 4, 5, 6, 7, 8, 10], []), ([0, 1, 2, 3, 4, 5, 6, 7, 8, 10, 11], [9]), ([0, 1, 2, 3, 4, 5, 6, 7, 8], [12]), ([0, 1, 2, 3, 4, 5, 6, 7, 8, 13], [12]), ([0, 1, 2, 3, 4, 5, 6, 7, 8, 10, 11, 12, 13, 14], [9]), ([0, 1, 2, 3, 4, 5, 6, 7, 8, 9, 10, 11, 12, 13, 14, 15], []), ([0, 1, 2, 3, 4, 5, 6, 7, 8, 9, 10, 11, 12, 13, 14, 15, 16], []), ([0, 1, 2, 3, 4, 5, 6, 7, 8, 9, 10, 11, 12, 13, 14, 15, 16, 17], []), ([0, 1, 2, 3, 4, 5, 6, 7, 8, 9, 10, 11, 12, 13, 14, 15, 16, 17, 18], [])])]).getD [] := rfl
theorem w103 {args : List AV} {objs : List Obj'} (hl : Nat.ble args.length 27 = true) : evW 103 args objs = ex ⟨27, objs.length, kpOf 103, tb103⟩ (bodyOf Tryz.f103) ⟨numbered 0 (canVs [[some 1, some 1], []] args), numbered 0 objs, objs.length, []⟩ (fnR (kpOf 103) [.tmp 4, .tmp 5] objs.length []) := evW_ex (kn_none rfl) (by kernel_rfl : cfg.G.fn 103 = some Tryz.f103) (by kernel_rfl) rfl rfl (by kernel_rfl) (by kernel_rfl) (by kernel_rfl) hl
theorem lv103 (i : Nat) : (kpOf 103).live i = if i = 99999 then [4, 5] else (look i [(0, [0, 1]), (1, [1, 2]), (2, []), (3, [1, 2])]).getD [] := by kernel_rfl
theorem fz103 (i : Nat) : (kpOf 103).frz i = if i = 99999 then [4, 5] else [] := by kernel_rfl
theorem w104 {args : List AV} {objs : List Obj'} (hl : Nat.ble args.length 8 = true) : evW 104 args objs = ex ⟨8, objs.length, kpOf 104, noTab⟩ (bodyOf Tryz.f104) ⟨numbered 0 (canVs [] args), numbered 0 objs, objs.length, []⟩ (fnR (kpOf 104) [.tmp 4] objs.length []) := evW_ex (kn_none rfl) (by kernel_rfl : cfg.G.fn 104 = some Tryz.f104) (by kernel_rfl) rfl rfl (by kernel_rfl) (by kernel_rfl) (by kernel_rfl) hl
theorem lv104 (i : Nat) : (kpOf 104).live i = if i = 99999 then [4] else (look i [(0, [0, 1]), (1, [0, 1])]).getD [] := by kernel_rfl
theorem fz104 (i : Nat) : (kpOf 104).frz i = if i = 99999 then [4] else [] := by kernel_rfl
theorem w105 {args : List AV} {objs : List Obj'} (hl : Nat.ble args.length 24 = true) : evW 105 args objs = ex ⟨24, objs.length, kpOf 105, noTab⟩ (bodyOf Tryz.f105) ⟨numbered 0 (canVs [[none, none, some 1, some 4], [none, none, some 1, some 4]] args), numbered 0 objs, objs.length, []⟩ (fnR (kpOf 105) [.tmp 4] objs.length []) := evW_ex (kn_none rfl) (by kernel_rfl : cfg.G.fn 105 = some Tryz.f105) (by kernel_rfl) rfl rfl (by kernel_rfl) (by kernel_rfl) (by kernel_rfl) hl
theorem lv105 (i : Nat) : (kpOf 105).live i = if i = 99999 then [4] else (look i [(0, [0, 1]), (1, [2, 3])]).getD [] := by kernel_rfl
theorem fz105 (i : Nat) : (kpOf 105).frz i = if i = 99999 then [4] else [] := by kernel_rfl
theorem w106 {args : List AV} {objs : List Obj'} (hl : Nat.ble args.length 9 = true) : evW 106 args objs = ex ⟨9, objs.length, kpOf 106, noTab⟩ (bodyOf Tryz.f106) ⟨numbered 0 (canVs [] args), numbered 0 objs, objs.length, []⟩ (fnR (kpOf 106) [.tmp 2] objs.length []) := evW_ex (kn_none rfl) (by kernel_rfl : cfg.G.fn 106 = some Tryz.f106) (by kernel_rfl) rfl rfl (by kernel_rfl) (by kernel_rfl) (by kernel_rfl) hl
theorem lv106 (i : Nat) : (kpOf 106).live i = if i = 99999 then [2] else (look i [(0, [0]), (1, [0])]).getD [] := by kernel_rfl
theorem fz106 (i : Nat) : (kpOf 106).frz i = if i = 99999 then [2] else [] := by kernel_rfl
theorem w107 {args : List AV} {objs : List Obj'} (hl : Nat.ble args.length 23 = true) : evW 107 args objs = ex ⟨23, objs.length, kpOf 107, noTab⟩ (bodyOf Tryz.f107) ⟨numbered 0 (canVs [] args), numbered 0 objs, objs.length, []⟩ (fnR (kpOf 107) [.tmp 4] objs.length []) := evW_ex (kn_none rfl) (by kernel_rfl : cfg.G.fn 107 = some Tryz.f107) (by kernel_rfl) rfl rfl (by kernel_rfl) (by kernel_rfl) (by kernel_rfl) hl
theorem lv107 (i : Nat) : (kpOf 107).live i = if i = 99999 then [4] else (look i [(0, [0, 1]), (1, [0, 1]), (2, [0, 1, 5]), (3, [5]), (4, [5])]).getD [] := by kernel_rfl
theorem fz107 (i : Nat) : (kpOf 107).frz i = if i = 99999 then [4] else [] := by kernel_rfl
theorem w115 {args : List AV} {objs : List Obj'} (hk : kn 115 (canVs (ashOf 115) args) objs = none) (hl : Nat.ble args.length 8 = true) : evW 115 args objs = ex ⟨8, objs.length, kpOf 115, noTab⟩ (bodyOf Tryz.f115) ⟨numbered 0 (canVs [[some 1]] args), numbered 0 objs, objs.length, []⟩ (fnR (kpOf 115) [.tmp 2] objs.length [[some 1]]) := evW_ex hk (by kernel_rfl : cfg.G.fn 115 = some Tryz.f115) (by kernel_rfl) rfl rfl (by kernel_rfl) (by kernel_rfl) (by kernel_rfl) hl
theorem lv115 (i : Nat) : (kpOf 115).live i = if i = 99999 then [2] else (look i [(0, [0]), (1, [0]), (2, []), (3, [0])]).getD [] := by kernel_rfl
theorem fz115 (i : Nat) : (kpOf 115).frz i = if i = 99999 then [] else [] := by kernel_rfl
theorem w142 {args : List AV} {objs : List Obj'} (hl : Nat.ble args.length 16 = true) : evW 142 args objs = ex ⟨16, objs.length, kpOf 142, noTab⟩ (bodyOf Tryz.f142) ⟨numbered 0 (canVs [[none, none, none, some 1, some 5], [none, none, none, some 1, some 5]] args), numbered 0 objs, objs.length, []⟩ (fnR (kpOf 142) [.tmp 4] objs.length []) := evW_ex (kn_none rfl) (by kernel_rfl : cfg.G.fn 142 = some Tryz.f142) (by kernel_rfl) rfl rfl (by kernel_rfl) (by kernel_rfl) (by kernel_rfl) hl
theorem lv142 (i : Nat) : (kpOf 142).live i = if i = 99999 then [4] else (look i [(0, [0, 1]), (1, [2, 3])]).getD [] := by kernel_rfl
theorem fz142 (i : Nat) : (kpOf 142).frz i = if i = 99999 then [4] else [] := by kernel_rfl
theorem w144 {args : List AV} {objs : List Obj'} (hl : Nat.ble args.length 2 = true) : evW 144 args objs = ex ⟨2, objs.length, kpOf 144, noTab⟩ (bodyOf Tryz.f144) ⟨numbered 0 (canVs [] args), numbered 0 objs, objs.length, []⟩ (fnR (kpOf 144) [.cell 0 38] objs.length [[none, none, none, some 1, some 5]]) := evW_ex (kn_none rfl) (by kernel_rfl : cfg.G.fn 144 = some Tryz.f144) (by kernel_rfl) rfl rfl (by kernel_rfl) (by kernel_rfl) (by kernel_rfl) hl
theorem lv144 (i : Nat) : (kpOf 144).live i = if i = 99999 then [0] else (look i [(0, []), (1, [0])]).getD [] := by kernel_rfl
theorem fz144 (i : Nat) : (kpOf 144).frz i = if i = 99999 then [0] else [] := by kernel_rfl
theorem w148 {args : List AV} {objs : List Obj'} (hl : Nat.ble args.length 64 = true) : evW 148 args objs = ex ⟨64, objs.length, kpOf 148, noTab⟩ (bodyOf Tryz.f148) ⟨numbered 0 (canVs [] args), numbered 0 objs, objs.length, []⟩ (fnR (kpOf 148) [.cell 6 33, .tmp 7] objs.length [[none, none, some 1, some 4], []]) := evW_ex (kn_none rfl) (by kernel_rfl : cfg.G.fn 148 = some Tryz.f148) (by kernel_rfl) rfl rfl (by kernel_rfl) (by kernel_rfl) (by kernel_rfl) hl
theorem lv148 (i : Nat) : (kpOf 148).live i = if i = 99999 then [6, 7] else (look i [(0, [0, 1, 2]), (1, [0, 1, 2, 6]), (2, [0, 1, 2, 6, 12]), (3, [1, 2, 6]), (4, [0, 1, 2, 6, 12]), (5, [1, 2, 6]), (6, [0, 1, 2, 6, 12]), (7, [1, 2, 6]), (8, [0, 1, 2, 6, 12]), (9, [1, 2, 6]), (10, [0, 1, 2, 6, 12]), (11, [1, 2, 6]), (12, [6, 8, 9]), (13, [0, 1, 2, 6]), (14, [6, 10, 11]), (15, [6, 11]), (16, [6, 10])]).getD [] := by kernel_rfl
theorem fz148 (i : Nat) : (kpOf 148).frz i = if i = 99999 then [6, 7] else [] := by kernel_rfl
theorem w150 {args : List AV} {objs : List Obj'} (hl : Nat.ble args.length 6 = true) : evW 150 args objs = ex ⟨6, objs.length, kpOf 150, noTab⟩ (bodyOf Tryz.f150) ⟨numbered 0 (canVs [] args), numbered 0 objs, objs.length, []⟩ (fnR (kpOf 150) [.cell 2 33] objs.length [[none, none, some 1, some 4]]) := evW_ex (kn_none rfl) (by kernel_rfl : cfg.G.fn 150 = some Tryz.f150) (by kernel_rfl) rfl rfl (by kernel_rfl) (by kernel_rfl) (by kernel_rfl) hl
theorem lv150 (i : Nat) : (kpOf 150).live i = if i = 99999 then [2] else (look i [(0, [0]), (1, [0, 2]), (2, [2]), (3, [2])]).getD [] := by kernel_rfl
theorem fz150 (i : Nat) : (kpOf 150).frz i = if i = 99999 then [2] else [] := by kernel_rfl
def tb151 : Nat → Tab := fun i => (look i [(1, [([], []), ([0], []), ([], []), ([2], []), ([0, 1], []), ([0, 1, 2, 3, 4], [])])]).getD []
theorem tbr151 (i : Nat) : tb151 i = (look i [(1, [([], []), ([0], []), ([], []), ([2], []), ([0, 1], []), ([0, 1, 2, 3, 4], [])])]).getD [] := rfl
theorem w151 {args : List AV} {objs : List Obj'} (hl : Nat.ble args.length 156 = true) : evW 151 args objs = ex ⟨156, objs.length, kpOf 151, tb151⟩ (bodyOf Tryz.f151) ⟨numbered 0 (canVs [[], [none, none, some 1, some 4], [none, none, some 1, some 4], [none, none, none, some 1, some 5]] args), numbered 0 objs, objs.length, []⟩ (fnR (kpOf 151) [.cell 8 33, .tmp 9] objs.length [[none, none, some 1, some 4], []]) := evW_ex (kn_none rfl) (by kernel_rfl : cfg.G.fn 151 = some Tryz.f151) (by kernel_rfl) rfl rfl (by kernel_rfl) (by kernel_rfl) (by kernel_rfl) hl
theorem lv151 (i : Nat) : (kpOf 151).live i = if i = 99999 then [8, 9] else (look i [(0, [0, 1, 2, 3]), (1, [0, 5, 6, 7, 8]), (2, [0, 6, 7, 8, 10, 11]), (3, [0, 6, 7, 8, 10, 11, 12]), (4, [0, 6, 7, 8, 10, 11, 12, 13]), (5, [0, 6, 7, 8, 10, 11, 12, 13]), (6, [0, 6, 7, 8, 10, 11, 12, 13]), (8, [0, 6, 7, 8, 10, 11, 12, 13, 22]), (9, [8, 10, 11, 12, 13]), (10, [0, 6, 7, 8, 10, 11, 12, 13, 22]), (11, [8, 10, 11, 12, 13]), (12, [0, 6, 7, 8, 10, 11, 12, 13, 22]), (13, [8, 10, 11, 12, 13]), (14, [0, 6, 7, 8, 10, 11, 12, 13, 22]), (15, [8, 10, 11, 12, 13]), (16, [0, 6, 7, 8, 10, 11, 22]), (17, [8, 10, 11]), (18, [8, 16]), (19, [0, 6, 7, 8, 10, 11, 22]), (20, [7, 8, 10, 11]), (21, [0, 6, 7, 8, 10, 11, 22]), (22, [7, 8, 10, 11]), (23, [0, 6, 7, 8, 10, 11, 22]), (24, [7, 8, 10, 11]), (25, [0, 6, 7, 8, 10, 11, 22]), (26, [7, 8, 10, 11]), (27, [7, 8, 14, 15]), (28, [0, 6, 7, 8, 10, 11, 22]), (29, [6, 7, 8, 10]), (30, [0, 6, 7, 8, 10, 11, 22]), (31, [6, 7, 8, 10]), (32, [0, 6, 7, 8, 10, 11, 22]), (33, [6, 7, 8, 10]), (7, [0, 7, 8, 10, 11]), (34, [7, 8, 14, 15])]).getD [] := by kernel_rfl
theorem fz151 (i : Nat) : (kpOf 151).frz i = if i = 99999 then [8, 9] else [] := by kernel_rfl
theorem w185 {args : List AV} {objs : List Obj'} (hl : Nat.ble args.length 38 = true) : evW 185 args objs = ex ⟨38, objs.length, kpOf 185, noTab⟩ (bodyOf Tryz.f185) ⟨numbered 0 (canVs [[none, none, none, some 1, some 5], [], [], []] args), numbered 0 objs, objs.length, []⟩ (fnR (kpOf 185) [.tmp 8] objs.length []) := evW_ex (kn_none rfl) (by kernel_rfl : cfg.G.fn 185 = some Tryz.f185) (by kernel_rfl) rfl rfl (by kernel_rfl) (by kernel_rfl) (by kernel_rfl) hl
theorem lv185 (i : Nat) : (kpOf 185).live i = if i = 99999 then [8] else (look i [(0, [0, 1, 2, 3]), (1, [1, 2, 3, 4])]).getD [] := by kernel_rfl
theorem fz185 (i : Nat) : (kpOf 185).frz i = if i = 99999 then [8] else [] := by kernel_rfl
theorem w187 {args : List AV} {objs : List Obj'} (hl : Nat.ble args.length 33 = true) : evW 187 args objs = ex ⟨33, objs.length, kpOf 187, noTab⟩ (bodyOf Tryz.f187) ⟨numbered 0 (canVs [[none, none, some 1, some 4], [], [], []] args), numbered 0 objs, objs.length, []⟩ (fnR (kpOf 187) [.tmp 8] objs.length []) := evW_ex (kn_none rfl) (by kernel_rfl : cfg.G.fn 187 = some Tryz.f187) (by kernel_rfl) rfl rfl (by kernel_rfl) (by kernel_rfl) (by kernel_rfl) hl
theorem lv187 (i : Nat) : (kpOf 187).live i = if i = 99999 then [8] else (look i [(0, [0, 1, 2, 3]), (1, [1, 2, 3, 4])]).getD [] := by kernel_rfl
theorem fz187 (i : Nat) : (kpOf 187).frz i = if i = 99999 then [8] else [] := by kernel_rfl
theorem w188 {args : List AV} {objs : List Obj'} (hl : Nat.ble args.length 16 = true) : evW 188 args objs = ex ⟨16, objs.length, kpOf 188, noTab⟩ (bodyOf Tryz.f188) ⟨numbered 0 (canVs [[some 1]] args), numbered 0 objs, objs.length, []⟩ (fnR (kpOf 188) [.tmp 2] objs.length []) := evW_ex (kn_none rfl) (by kernel_rfl : cfg.G.fn 188 = some Tryz.f188) (by kernel_rfl) rfl rfl (by kernel_rfl) (by kernel_rfl) (by kernel_rfl) hl
theorem lv188 (i : Nat) : (kpOf 188).live i = if i = 99999 then [2] else (look i [(0, [0]), (1, [0])]).getD [] := by kernel_rfl
theorem fz188 (i : Nat) : (kpOf 188).frz i = if i = 99999 then [2] else [] := by kernel_rfl
theorem w193 {args : List AV} {objs : List Obj'} (hl : Nat.ble args.length 17 = true) : evW 193 args objs = ex ⟨17, objs.length, kpOf 193, noTab⟩ (bodyOf Tryz.f193) ⟨numbered 0 (canVs [] args), numbered 0 objs, objs.length, []⟩ (fnR (kpOf 193) [.tmp 2] objs.length []) := evW_ex (kn_none rfl) (by kernel_rfl : cfg.G.fn 193 = some Tryz.f193) (by kernel_rfl) rfl rfl (by kernel_rfl) (by kernel_rfl) (by kernel_rfl) hl
theorem lv193 (i : Nat) : (kpOf 193).live i = if i = 99999 then [2] else (look i [(0, [0]), (1, [0])]).getD [] := by kernel_rfl
theorem fz193 (i : Nat) : (kpOf 193).frz i = if i = 99999 then [2] else [] := by kernel_rfl
theorem w194 {args : List AV} {objs : List Obj'} (hl : Nat.ble args.length 20 = true) : evW 194 args objs = ex ⟨20, objs.length, kpOf 194, noTab⟩ (bodyOf Tryz.f194) ⟨numbered 0 (canVs [[some 1, some 1]] args), numbered 0 objs, objs.length, []⟩ (fnR (kpOf 194) [.tmp 2] objs.length []) := evW_ex (kn_none rfl) (by kernel_rfl : cfg.G.fn 194 = some Tryz.f194) (by kernel_rfl) rfl rfl (by kernel_rfl) (by kernel_rfl) (by kernel_rfl) hl
theorem lv194 (i : Nat) : (kpOf 194).live i = if i = 99999 then [2] else (look i [(0, [0]), (1, [1])]).getD [] := by kernel_rfl
theorem fz194 (i : Nat) : (kpOf 194).frz i = if i = 99999 then [2] else [] := by kernel_rfl
theorem w195 {args : List AV} {objs : List Obj'} (hl : Nat.ble args.length 6 = true) : evW 195 args objs = ex ⟨6, objs.length, kpOf 195, noTab⟩ (bodyOf Tryz.f195) ⟨numbered 0 (canVs [[some 1]] args), numbered 0 objs, objs.length, []⟩ (fnR (kpOf 195) [.tmp 2] objs.length []) := evW_ex (kn_none rfl) (by kernel_rfl : cfg.G.fn 195 = some Tryz.f195) (by kernel_rfl) rfl rfl (by kernel_rfl) (by kernel_rfl) (by kernel_rfl) hl
theorem lv195 (i : Nat) : (kpOf 195).live i = if i = 99999 then [2] else (look i [(0, [0]), (1, [0])]).getD [] := by kernel_rfl
theorem fz195 (i : Nat) : (kpOf 195).frz i = if i = 99999 then [2] else [] := by kernel_rfl
theorem w197 {args : List AV} {objs : List Obj'} (hl : Nat.ble args.length 24 = true) : evW 197 args objs = ex ⟨24, objs.length, kpOf 197, noTab⟩ (bodyOf Tryz.f197) ⟨numbered 0 (canVs [] args), numbered 0 objs, objs.length, []⟩ (fnR (kpOf 197) [.tmp 4] objs.length [[some 1]]) := evW_ex (kn_none rfl) (by kernel_rfl : cfg.G.fn 197 = some Tryz.f197) (by kernel_rfl) rfl rfl (by kernel_rfl) (by kernel_rfl) (by kernel_rfl) hl
theorem lv197 (i : Nat) : (kpOf 197).live i = if i = 99999 then [4] else (look i [(0, [0, 1]), (1, [0, 1]), (2, [0, 5]), (3, [0, 5, 10, 11]), (4, [0, 5, 10, 11]), (5, [0, 5, 6, 10, 11]), (6, [0, 5, 10, 11]), (7, [5])]).getD [] := by kernel_rfl
theorem fz197 (i : Nat) : (kpOf 197).frz i = if i = 99999 then [4] else [] := by kernel_rfl
theorem w198 {args : List AV} {objs : List Obj'} (hl : Nat.ble args.length 22 = true) : evW 198 args objs = ex ⟨22, objs.length, kpOf 198, noTab⟩ (bodyOf Tryz.f198) ⟨numbered 0 (canVs [[some 1]] args), numbered 0 objs, objs.length, []⟩ (fnR (kpOf 198) [.tmp 2] objs.length []) := evW_ex (kn_none rfl) (by kernel_rfl : cfg.G.fn 198 = some Tryz.f198) (by kernel_rfl) rfl rfl (by kernel_rfl) (by kernel_rfl) (by kernel_rfl) hl
theorem lv198 (i : Nat) : (kpOf 198).live i = if i = 99999 then [2] else (look i [(0, [0]), (1, [0]), (2, [0, 3]), (3, [3, 6, 7, 8]), (4, [3, 6, 7, 8]), (5, [3, 4, 5, 6, 7, 8]), (6, [3, 6, 7, 8]), (7, [3])]).getD [] := by kernel_rfl
theorem fz198 (i : Nat) : (kpOf 198).frz i = if i = 99999 then [2] else [] := by kernel_rfl
def tb199 : Nat → Tab := fun i => (look i [(6, [([], []), ([], []), ([0, 1], []), ([0, 1, 2], []), ([], []), ([], []), ([4, 5], []), ([4, 5, 6], []), ([0, 1, 2, 3, 4, 5, 6, 7], [])])]).getD []
theorem tbr199 (i : Nat) : tb199 i = (look i [(6, [([], []), ([], []), ([0, 1], []), ([0, 1, 2], []), ([], []), ([], []), ([4, 5], []), ([4, 5, 6], []), ([0, 1, 2, 3, 4, 5, 6, 7], [])])]).getD [] := rfl
theorem w199 {args : List AV} {objs : List Obj'} (hl : Nat.ble args.length 26 = true) : evW 199 args objs = ex ⟨26, objs.length, kpOf 199, tb199⟩ (bodyOf Tryz.f199) ⟨numbered 0 (canVs [[some 1], [some 1]] args), numbered 0 objs, objs.length, []⟩ (fnR (kpOf 199) [.tmp 4] objs.length []) := evW_ex (kn_none rfl) (by kernel_rfl : cfg.G.fn 199 = some Tryz.f199) (by kernel_rfl) rfl rfl (by kernel_rfl) (by kernel_rfl) (by kernel_rfl) hl
theorem lv199 (i : Nat) : (kpOf 199).live i = if i = 99999 then [4] else (look i [(0, [0, 1]), (1, [0, 1]), (2, []), (3, [0, 1]), (4, [0, 1, 12, 13]), (5, [0, 1, 12, 13]), (6, [0, 1, 5, 12, 13]), (7, []), (8, [0, 1, 12, 13]), (9, [])]).getD [] := by kernel_rfl
theorem fz199 (i : Nat) : (kpOf 199).frz i = if i = 99999 then [] else [] := by kernel_rfl
theorem w227 {args : List AV} {objs : List Obj'} (hl : Nat.ble args.length 38 = true) : evW 227 args objs = ex ⟨38, objs.length, kpOf 227, noTab⟩ (bodyOf Tryz.f227) ⟨numbered 0 (canVs [[none, none, none, some 1, some 5], [none, none, none, some 1, some 5]] args), numbered 0 objs, objs.length, []⟩ (fnR (kpOf 227) [.tmp 4] objs.length []) := evW_ex (kn_none rfl) (by kernel_rfl : cfg.G.fn 227 = some Tryz.f227) (by kernel_rfl) rfl rfl (by kernel_rfl) (by kernel_rfl) (by kernel_rfl) hl
theorem lv227 (i : Nat) : (kpOf 227).live i = if i = 99999 then [4] else (look i [(0, [0, 1]), (1, [2, 3])]).getD [] := by kernel_rfl
theorem fz227 (i : Nat) : (kpOf 227).frz i = if i = 99999 then [4] else [] := by kernel_rfl
theorem w229 {args : List AV} {objs : List Obj'} (hl : Nat.ble args.length 16 = true) : evW 229 args objs = ex ⟨16, objs.length, kpOf 229, noTab⟩ (bodyOf Tryz.f229) ⟨numbered 0 (canVs [[none, none, none, some 1, some 5], [some 1], []] args), numbered 0 objs, objs.length, []⟩ (fnR (kpOf 229) [.cell 6 33, .tmp 7] objs.length [[none, none, some 1, some 4], []]) := evW_ex (kn_none rfl) (by kernel_rfl : cfg.G.fn 229 = some Tryz.f229) (by kernel_rfl) rfl rfl (by kernel_rfl) (by kernel_rfl) (by kernel_rfl) hl
theorem lv229 (i : Nat) : (kpOf 229).live i = if i = 99999 then [6, 7] else (look i [(0, [0, 1, 2]), (1, [1, 2, 3, 6]), (2, [2, 6]), (3, [1, 3, 6])]).getD [] := by kernel_rfl
theorem fz229 (i : Nat) : (kpOf 229).frz i = if i = 99999 then [6, 7] else [] := by kernel_rfl
theorem w231 {args : List AV} {objs : List Obj'} (hl : Nat.ble args.length 5 = true) : evW 231 args objs = ex ⟨5, objs.length, kpOf 231, noTab⟩ (bodyOf Tryz.f231) ⟨numbered 0 (canVs [] args), numbered 0 objs, objs.length, []⟩ (fnR (kpOf 231) [.cell 2 33] objs.length [[none, none, some 1, some 4]]) := evW_ex (kn_none rfl) (by kernel_rfl : cfg.G.fn 231 = some Tryz.f231) (by kernel_rfl) rfl rfl (by kernel_rfl) (by kernel_rfl) (by kernel_rfl) hl
theorem lv231 (i : Nat) : (kpOf 231).live i = if i = 99999 then [2] else (look i [(0, [0]), (1, [0, 2])]).getD [] := by kernel_rfl
theorem fz231 (i : Nat) : (kpOf 231).frz i = if i = 99999 then [2] else [] := by kernel_rfl
theorem w232 {args : List AV} {objs : List Obj'} (hl : Nat.ble args.length 10 = true) : evW 232 args objs = ex ⟨10, objs.length, kpOf 232, noTab⟩ (bodyOf Tryz.f232) ⟨numbered 0 (canVs [[some 1]] args), numbered 0 objs, objs.length, []⟩ (fnR (kpOf 232) [.tmp 2, .tmp 3] objs.length []) := evW_ex (kn_none rfl) (by kernel_rfl : cfg.G.fn 232 = some Tryz.f232) (by kernel_rfl) rfl rfl (by kernel_rfl) (by kernel_rfl) (by kernel_rfl) hl
theorem lv232 (i : Nat) : (kpOf 232).live i = if i = 99999 then [2, 3] else (look i [(0, [0]), (1, [0]), (2, []), (3, [0])]).getD [] := by kernel_rfl
theorem fz232 (i : Nat) : (kpOf 232).frz i = if i = 99999 then [2, 3] else [] := by kernel_rfl
theorem w235 {args : List AV} {objs : List Obj'} (hl : Nat.ble args.length 5 = true) : evW 235 args objs = ex ⟨5, objs.length, kpOf 235, noTab⟩ (bodyOf Tryz.f235) ⟨numbered 0 (canVs [] args), numbered 0 objs, objs.length, []⟩ (fnR (kpOf 235) [.tmp 2] objs.length []) := evW_ex (kn_none rfl) (by kernel_rfl : cfg.G.fn 235 = some Tryz.f235) (by kernel_rfl) rfl rfl (by kernel_rfl) (by kernel_rfl) (by kernel_rfl) hl
theorem lv235 (i : Nat) : (kpOf 235).live i = if i = 99999 then [2] else (look i [(0, [0]), (1, [0])]).getD [] := by kernel_rfl
theorem fz235 (i : Nat) : (kpOf 235).frz i = if i = 99999 then [2] else [] := by kernel_rfl
theorem w237 {args : List AV} {objs : List Obj'} (hl : Nat.ble args.length 30 = true) : evW 237 args objs = ex ⟨30, objs.length, kpOf 237, noTab⟩ (bodyOf Tryz.f237) ⟨numbered 0 (canVs [[], [some 1], [some 1]] args), numbered 0 objs, objs.length, []⟩ (fnR (kpOf 237) [.cell 6 33, .tmp 7] objs.length [[none, none, some 1, some 4], []]) := evW_ex (kn_none rfl) (by kernel_rfl : cfg.G.fn 237 = some Tryz.f237) (by kernel_rfl) rfl rfl (by kernel_rfl) (by kernel_rfl) (by kernel_rfl) hl
theorem lv237 (i : Nat) : (kpOf 237).live i = if i = 99999 then [6, 7] else (look i [(0, [0, 1, 2]), (1, [0, 1, 2, 6]), (2, [0, 2, 6, 8]), (3, [0, 6, 8, 10])]).getD [] := by kernel_rfl
theorem fz237 (i : Nat) : (kpOf 237).frz i = if i = 99999 then [6, 7] else [] := by kernel_rfl
theorem w238 {args : List AV} {objs : List Obj'} (hl : Nat.ble args.length 14 = true) : evW 238 args objs = ex ⟨14, objs.length, kpOf 238, noTab⟩ (bodyOf Tryz.f238) ⟨numbered 0 (canVs [[some 1], [some 1]] args), numbered 0 objs, objs.length, []⟩ (fnR (kpOf 238) [.tmp 4] objs.length []) := evW_ex (kn_none rfl) (by kernel_rfl : cfg.G.fn 238 = some Tryz.f238) (by kernel_rfl) rfl rfl (by kernel_rfl) (by kernel_rfl) (by kernel_rfl) hl
theorem lv238 (i : Nat) : (kpOf 238).live i = if i = 99999 then [4] else (look i [(0, [0, 1]), (1, [0, 1]), (2, [5])]).getD [] := by kernel_rfl
theorem fz238 (i : Nat) : (kpOf 238).frz i = if i = 99999 then [4] else [] := by kernel_rfl
theorem w262 {args : List AV} {objs : List Obj'} (hl : Nat.ble args.length 9 = true) : evW 262 args objs = ex ⟨9, objs.length, kpOf 262, noTab⟩ (bodyOf Tryz.f262) ⟨numbered 0 (canVs [[some 1], []] args), numbered 0 objs, objs.length, []⟩ (fnR (kpOf 262) [.tmp 4] objs.length []) := evW_ex (kn_none rfl) (by kernel_rfl : cfg.G.fn 262 = some Tryz.f262) (by kernel_rfl) rfl rfl (by kernel_rfl) (by kernel_rfl) (by kernel_rfl) hl
theorem lv262 (i : Nat) : (kpOf 262).live i = if i = 99999 then [4] else (look i [(0, [0, 1]), (1, [0, 1])]).getD [] := by kernel_rfl
theorem fz262 (i : Nat) : (kpOf 262).frz i = if i = 99999 then [] else [] := by kernel_rfl
theorem w263 {args : List AV} {objs : List Obj'} (hl : Nat.ble args.length 6 = true) : evW 263 args objs = ex ⟨6, objs.length, kpOf 263, noTab⟩ (bodyOf Tryz.f263) ⟨numbered 0 (canVs [] args), numbered 0 objs, objs.length, []⟩ (fnR (kpOf 263) [.tmp 2] objs.length []) := evW_ex (kn_none rfl) (by kernel_rfl : cfg.G.fn 263 = some Tryz.f263) (by kernel_rfl) rfl rfl (by kernel_rfl) (by kernel_rfl) (by kernel_rfl) hl
theorem lv263 (i : Nat) : (kpOf 263).live i = if i = 99999 then [2] else (look i [(0, [0]), (1, [0])]).getD [] := by kernel_rfl
theorem fz263 (i : Nat) : (kpOf 263).frz i = if i = 99999 then [2] else [] := by kernel_rfl
theorem w268 {args : List AV} {objs : List Obj'} (hl : Nat.ble args.length 25 = true) : evW 268 args objs = ex ⟨25, objs.length, kpOf 268, noTab⟩ (bodyOf Tryz.f268) ⟨numbered 0 (canVs [[some 1]] args), numbered 0 objs, objs.length, []⟩ (fnR (kpOf 268) [.tmp 2] objs.length []) := evW_ex (kn_none rfl) (by kernel_rfl : cfg.G.fn 268 = some Tryz.f268) (by kernel_rfl) rfl rfl (by kernel_rfl) (by kernel_rfl) (by kernel_rfl) hl
theorem lv268 (i : Nat) : (kpOf 268).live i = if i = 99999 then [2] else (look i [(0, [0]), (1, [0]), (2, [0]), (3, [0]), (4, [0, 3]), (5, [0, 3, 4]), (7, [0, 3, 4]), (6, [0, 3, 4]), (8, [3])]).getD [] := by kernel_rfl
theorem fz268 (i : Nat) : (kpOf 268).frz i = if i = 99999 then [] else [] := by kernel_rfl
theorem w296 {args : List AV} {objs : List Obj'} (hl : Nat.ble args.length 25 = true) : evW 296 args objs = ex ⟨25, objs.length, kpOf 296, noTab⟩ (bodyOf Tryz.f296) ⟨numbered 0 (canVs [[some 1]] args), numbered 0 objs, objs.length, []⟩ (fnR (kpOf 296) [.tmp 2] objs.length []) := evW_ex (kn_none rfl) (by kernel_rfl : cfg.G.fn 296 = some Tryz.f296) (by kernel_rfl) rfl rfl (by kernel_rfl) (by kernel_rfl) (by kernel_rfl) hl
theorem lv296 (i : Nat) : (kpOf 296).live i = if i = 99999 then [2] else (look i [(0, [0]), (1, [0]), (2, [0]), (3, [0]), (4, [0, 3]), (5, [0, 3, 4]), (7, [0, 3, 4]), (6, [0, 3, 4]), (8, [3])]).getD [] := by kernel_rfl
theorem fz296 (i : Nat) : (kpOf 296).frz i = if i = 99999 then [] else [] := by kernel_rfl
theorem w312 {args : List AV} {objs : List Obj'} (hl : Nat.ble args.length 19 = true) : evW 312 args objs = ex ⟨19, objs.length, kpOf 312, noTab⟩ (bodyOf Tryz.f312) ⟨numbered 0 (canVs [[some 1], []] args), numbered 0 objs, objs.length, []⟩ (fnR (kpOf 312) [.tmp 4] objs.length []) := evW_ex (kn_none rfl) (by kernel_rfl : cfg.G.fn 312 = some Tryz.f312) (by kernel_rfl) rfl rfl (by kernel_rfl) (by kernel_rfl) (by kernel_rfl) hl
theorem lv312 (i : Nat) : (kpOf 312).live i = if i = 99999 then [4] else (look i [(0, [0, 1]), (1, [0, 1]), (2, [0, 1, 7, 8]), (3, [0, 1, 7, 8]), (4, [0, 1, 5, 7, 8]), (5, [5]), (6, [0, 1, 7, 8]), (7, [])]).getD [] := by kernel_rfl
theorem fz312 (i : Nat) : (kpOf 312).frz i = if i = 99999 then [] else [] := by kernel_rfl
theorem tyr3 : cfg.G.ty 3 = some ty3 := by kernel_rfl
theorem tyr4 : cfg.G.ty 4 = some ty4 := by kernel_rfl
theorem tyr9 : cfg.G.ty 9 = some ty9 := by kernel_rfl
theorem tyr23 : cfg.G.ty 23 = some ty23 := by kernel_rfl
theorem tyr30 : cfg.G.ty 30 = some ty30 := by kernel_rfl
theorem tyr31 : cfg.G.ty 31 = some ty31 := by kernel_rfl
theorem tyr33 : cfg.G.ty 33 = some ty33 := by kernel_rfl
theorem tyr35 : cfg.G.ty 35 = some ty35 := by kernel_rfl
theorem tyr36 : cfg.G.ty 36 = some ty36 := by kernel_rfl
theorem tyr38 : cfg.G.ty 38 = some ty38 := by kernel_rfl
theorem tyr43 : cfg.G.ty 43 = some ty43 := by kernel_rfl
theorem tyr66 : cfg.G.ty 66 = some ty66 := by kernel_rfl
theorem tyr151 : cfg.G.ty 151 = some ty151 := by kernel_rfl
theorem tyr153 : cfg.G.ty 153 = some ty153 := by kernel_rfl
theorem tyr155 : cfg.G.ty 155 = some ty155 := by kernel_rfl
theorem tyr162 : cfg.G.ty 162 = some ty162 := by kernel_rfl
theorem tyr169 : cfg.G.ty 169 = some ty169 := by kernel_rfl
end Go.Proofs.YtdhcgankmhpgeaaGreat.M
/- R, the seventh text: loads, stores, fields, rows of this program's types. Printed by mkri.py. -/
namespace Go.Proofs.YtdhcgankmhpgeaaGreat.M
open Go
set_option linter.unusedVariables false
def varC : Obj' → Option (List AV)
  | .var _ cs => some cs
  | _ => none
def arrC : Obj' → Option (List (List AV))
  | .arr _ _ es => some es
  | _ => none
theorem varC_var {T : Nat} {cs : List AV} : varC (.var T cs) = some cs := rfl
theorem arrC_arr {T n : Nat} {es : List (List AV)} : arrC (.arr T n es) = some es := rfl
theorem tk_s {a : AV} {r : List AV} {n m : Nat} : takeN (a :: r) (n + 1) m = takeN r n m := by
  simp only [takeN, List.length_cons, List.drop_succ_cons]
  by_cases h : n + m ≤ r.length
  · rw [if_pos h, if_pos (by omega)]
  · rw [if_neg h, if_neg (by omega)]
theorem tk_0 {l : List AV} : takeN l 0 0 = some [] := by simp [takeN]
theorem tk_t {a : AV} {r : List AV} {m : Nat} : takeN (a :: r) 0 (m + 1) = ob (takeN r 0 m) fun l => some (a :: l) := by
  simp only [takeN, List.length_cons, List.drop_zero, Nat.zero_add, List.take_succ_cons]
  by_cases h : m ≤ r.length
  · rw [if_pos h, if_pos (by omega)]; rfl
  · rw [if_neg h, if_neg (by omega)]; rfl
theorem pa_s {c : AV} {cs new : List AV} {n : Nat} : putAt (c :: cs) (n + 1) new = c :: putAt cs n new := by
  simp [putAt, Nat.add_right_comm]
theorem pa_t {c x : AV} {cs new : List AV} : putAt (c :: cs) 0 (x :: new) = x :: putAt cs 0 new := by
  simp [putAt]
theorem pa_0 {cs : List AV} : putAt cs 0 [] = cs := by simp [putAt]
theorem oc_one {x : AV} : ofCells false [x] = some x := rfl
theorem oc_agg {cs : List AV} : ofCells true cs = some (.agg cs) := rfl
theorem ce_agg {cs : List AV} : cellsOf (.agg cs) = some cs := rfl
theorem ce_int {k : IntKind} {n : Int} : cellsOf (.int k n) = some [.int k n] := rfl
theorem ce_bool {b : Bool} : cellsOf (.bool b) = some [.bool b] := rfl
theorem ce_str {s : List UInt8} : cellsOf (.str s) = some [.str s] := rfl
theorem ce_sl {n : Nat} {es : List (List AV)} : cellsOf (.sl n es) = some [.sl n es] := rfl
theorem ce_nils : cellsOf .nils = some [.nils] := rfl
theorem ce_nilp : cellsOf .nilp = some [.nilp] := rfl
theorem ce_nilfn : cellsOf .nilfn = some [.nilfn] := rfl
theorem ce_nilif : cellsOf .nilif = some [.nilif] := rfl
theorem ce_nilm : cellsOf .nilm = some [.nilm] := rfl
theorem ce_ep {cs : List AV} : cellsOf (.ep cs) = some [.ep cs] := rfl
theorem ce_fn {f : Nat} {cs : List AV} : cellsOf (.fn f cs) = some [.fn f cs] := rfl
theorem ce_ifc {t : Nat} {v : AV} : cellsOf (.ifc t v) = some [.ifc t v] := rfl
theorem ce_ptr {b f : Nat} : cellsOf (.ptr b f) = some [.ptr b f] := rfl
theorem ce_rp {b i f : Nat} : cellsOf (.rp b i f) = some [.rp b i f] := rfl
theorem ce_row {b i f : Nat} : cellsOf (.row b i f) = some [.row b i f] := rfl
theorem ce_mp {b : Nat} : cellsOf (.mp b) = some [.mp b] := rfl
/-- A load, a store, by size. -/
def ldP (sz : Nat) (agg : Bool) (hp : Hp) (a : AV) : Option AV := match a with
  | .ptr b off => match look b hp with
    | some (.var _ cs) => (takeN cs off sz).bind (ofCells agg)
    | _ => none
  | .rp b k off => match look b hp with
    | some (.arr _ _ es) => match es[k]? with
      | some e => (takeN e off sz).bind (ofCells agg)
      | none => none
    | _ => none
  | .ep cs => (takeN cs 0 sz).bind (ofCells agg)
  | _ => none
theorem ldP_of {G : Gl} {hp : Hp} {T : Nat} {a : AV} {i : TI} (h : G.ty T = some i) : loadD G hp T a = ldP i.size i.agg hp a := by
  simp only [loadD, h, ldP]
  rfl
theorem ldP_ptr {sz : Nat} {agg : Bool} {hp : Hp} {b off : Nat} : ldP sz agg hp (.ptr b off) = ob (look b hp) fun o => ob (varC o) fun cs => ob (takeN cs off sz) fun l => ofCells agg l := by
  simp only [ldP]
  cases look b hp with
  | none => rfl
  | some o => cases o <;> rfl
theorem ldP_rp {sz : Nat} {agg : Bool} {hp : Hp} {b k off : Nat} : ldP sz agg hp (.rp b k off) = ob (look b hp) fun o => ob (arrC o) fun es => ob (es[k]?) fun e => ob (takeN e off sz) fun l => ofCells agg l := by
  simp only [ldP]
  cases look b hp with
  | none => rfl
  | some o =>
    cases o <;> try rfl
    rename_i T n es
    simp only [ob_some, arrC]
    cases es[k]? <;> rfl
theorem ldP_ep {sz : Nat} {agg : Bool} {hp : Hp} {cs : List AV} : ldP sz agg hp (.ep cs) = ob (takeN cs 0 sz) fun l => ofCells agg l := rfl
def varT : Obj' → Option (Nat × List AV)
  | .var T cs => some (T, cs)
  | _ => none
def arrT : Obj' → Option (Nat × Nat × List (List AV))
  | .arr T n es => some (T, n, es)
  | _ => none
theorem varT_var {T : Nat} {cs : List AV} : varT (.var T cs) = some (T, cs) := rfl
theorem arrT_arr {T n : Nat} {es : List (List AV)} : arrT (.arr T n es) = some (T, n, es) := rfl
def stP (sz : Nat) (hp : Hp) (a : AV) (new : List AV) : Option Hp :=
    if new.length = sz then match a with
      | .ptr b off => match look b hp with
        | some (.var T' cs) => if off + new.length ≤ cs.length then some [(b, .var T' (putAt cs off new))] else none
        | _ => none
      | .rp b k off => match look b hp with
        | some (.arr T' sz es) => match es[k]? with
          | some e => if off + new.length ≤ e.length then some [(b, .arr T' sz (es.set k (putAt e off new)))] else none
          | none => none
        | _ => none
      | _ => none
    else none
theorem stP_of {G : Gl} {hp : Hp} {T : Nat} {a x : AV} {i : TI} (h : G.ty T = some i) : storeD G hp T a x = ob (cellsOf x) fun new => stP i.size hp a new := by
  simp only [storeD, h, stP]
  cases cellsOf x <;> rfl
/-- Whether it fits is looked at first. -/
theorem stP_ptr {sz : Nat} {hp : Hp} {b off : Nat} {new : List AV} : stP sz hp (.ptr b off) new = sel (decide (new.length = sz)) (ob (look b hp) fun o => ob (varT o) fun q => sel (decide (off + sz ≤ q.2.length)) (some [(b, .var q.1 (putAt q.2 off new))]) none) none := by
  unfold stP
  by_cases h : new.length = sz
  · subst h
    simp only [if_true, decide_true, sel]
    cases look b hp with
    | none => rfl
    | some o =>
      cases o <;> try rfl
      rename_i T cs
      simp only [ob_some, varT]
      by_cases h2 : off + new.length ≤ cs.length
      · simp only [h2, if_true, decide_true]
      · simp only [h2, if_false, decide_false]
  · simp only [h, if_false, decide_false, sel]
theorem stP_rp {sz : Nat} {hp : Hp} {b k off : Nat} {new : List AV} : stP sz hp (.rp b k off) new = sel (decide (new.length = sz)) (ob (look b hp) fun o => ob (arrT o) fun q => ob (q.2.2[k]?) fun e => sel (decide (off + sz ≤ e.length)) (some [(b, .arr q.1 q.2.1 (q.2.2.set k (putAt e off new)))]) none) none := by
  unfold stP
  by_cases h : new.length = sz
  · subst h
    simp only [if_true, decide_true, sel]
    cases look b hp with
    | none => rfl
    | some o =>
      cases o <;> try rfl
      rename_i T n es
      simp only [ob_some, arrT]
      cases es[k]? with
      | none => rfl
      | some e =>
        simp only [ob_some]
        by_cases h2 : off + new.length ≤ e.length
        · simp only [h2, if_true, decide_true]
        · simp only [h2, if_false, decide_false]
  · simp only [h, if_false, decide_false, sel]
def faP (o : Nat) (a : AV) : Option AV := match a with
    | .ptr b off => some (.ptr b (off + o))
    | .rp b k off => some (.rp b k (off + o))
    | .ep cs => if o ≤ cs.length then some (.ep (cs.drop o)) else none
    | _ => none
theorem faP_ptr {o b off : Nat} : faP o (.ptr b off) = some (.ptr b (off + o)) := rfl
theorem faP_rp {o b k off : Nat} : faP o (.rp b k off) = some (.rp b k (off + o)) := rfl
theorem faP_ep0 {cs : List AV} : faP 0 (.ep cs) = some (.ep cs) := by simp [faP]
theorem faP_eps {o : Nat} {c : AV} {cs : List AV} : faP (o + 1) (.ep (c :: cs)) = faP o (.ep cs) := by
  simp only [faP, List.length_cons, List.drop_succ_cons]
  by_cases h : o ≤ cs.length
  · rw [if_pos h, if_pos (by omega)]
  · rw [if_neg h, if_neg (by omega)]
def flP (o sz : Nat) (agg : Bool) (x : AV) : Option AV := match x with
  | .agg cs => (takeN cs o sz).bind (ofCells agg)
  | _ => none
theorem flP_agg {o sz : Nat} {agg : Bool} {cs : List AV} : flP o sz agg (.agg cs) = ob (takeN cs o sz) fun l => ofCells agg l := rfl
/-- Lengths. -/
def lnS (x : AV) : Option AV := match x with
  | .str _ => none
  | .sl _ es => some (.int .i64 es.length)
  | .row _ _ n => some (.int .i64 n)
  | .nils => some (.int .i64 0)
  | _ => none
def lnT (x : AV) : Option AV := match x with
  | .str s => some (.int .i64 s.length)
  | _ => none
theorem lnS_sl {n : Nat} {es : List (List AV)} : lnS (.sl n es) = some (.int .i64 (es.length : Nat)) := rfl
theorem lnS_row {b o n : Nat} : lnS (.row b o n) = some (.int .i64 (n : Nat)) := rfl
theorem lnS_nils : lnS .nils = some (.int .i64 0) := rfl
theorem lnT_str {s : List UInt8} : lnT (.str s) = some (.int .i64 (s.length : Nat)) := rfl
theorem ln_slice {G : Gl} {hp : Hp} {T : Nat} {x : AV} (h : isSliceT G T = true) (h2 : isStrT G T = false) : lenD G hp T x = lnS x := by
  cases x <;> simp [lenD, lnS, h, h2]
theorem ln_str {G : Gl} {hp : Hp} {T : Nat} {x : AV} (h : isSliceT G T = false) (h2 : isStrT G T = true) : lenD G hp T x = lnT x := by
  cases x <;> simp [lenD, lnT, h, h2]
/-- Elements. -/
def iaP (esz : Nat) (hp : Hp) (x i : AV) : Option AV := match i with
  | .int _ n => if 0 ≤ n then match x with
    | .sl sz es => if Nat.beq sz esz then (es[n.toNat]?).map .ep else none
    | .row b off len => match look b hp with
      | some (.arr _ sz es) => if n.toNat < len ∧ off + len ≤ es.length ∧ sz = esz then some (.rp b (off + n.toNat) 0) else none
      | _ => none
    | _ => none else none
  | _ => none
theorem iaP_of {G : Gl} {hp : Hp} {T : Nat} {x i : AV} {ie : TI} (h : sliceElem G T = some ie) : indexAddrD G hp T x i = iaP ie.size hp x i := by
  cases i <;> simp only [indexAddrD, iaP]
  simp only [h]
  rfl
theorem iaP_sl {esz : Nat} {hp : Hp} {k : IntKind} {n : Int} {es : List (List AV)} : iaP esz hp (.sl esz es) (.int k n) = sel (decide (0 ≤ n)) (ob (es[n.toNat]?) fun e => some (.ep e)) none := by
  simp only [iaP]
  by_cases h : 0 ≤ n
  · simp only [h, if_true, decide_true, sel, Nat.beq_refl]
    cases es[n.toNat]? <;> rfl
  · simp only [h, if_false, decide_false, sel]
theorem iaP_row {esz : Nat} {hp : Hp} {k : IntKind} {n : Int} {b off len : Nat} : iaP esz hp (.row b off len) (.int k n) = sel (decide (0 ≤ n)) (ob (look b hp) fun o => ob (arrT o) fun q => sel (decide (n.toNat < len ∧ off + len ≤ q.2.2.length ∧ q.2.1 = esz)) (some (.rp b (off + n.toNat) 0)) none) none := by
  simp only [iaP]
  by_cases h : 0 ≤ n
  · simp only [h, if_true, decide_true, sel]
    cases look b hp with
    | none => rfl
    | some o =>
      cases o <;> try rfl
      rename_i T sz es
      simp only [ob_some, arrT]
      by_cases h2 : n.toNat < len ∧ off + len ≤ es.length ∧ sz = esz
      · simp only [h2, and_self, if_true, decide_true]
      · simp only [h2, if_false, decide_false]
  · simp only [h, if_false, decide_false, sel]
/-- Whole numbers of another kind. -/
def cvP (k : IntKind) (x : AV) : Option AV := match x with
  | .int _ n => some (.int k (k.wrap n))
  | _ => none
theorem cvP_int {k k' : IntKind} {n : Int} : cvP k (.int k' n) = some (.int k (k.wrap n)) := rfl
theorem fill_nil {place : Nat → Option (Nat × Nat)} {cs : List AV} : fillD place cs [] = some cs := rfl
theorem fill_cons {place : Nat → Option (Nat × Nat)} {cs new : List AV} {i : Nat} {r : List (Nat × List AV)} : fillD place cs ((i, new) :: r) = ob (place i) fun q => sel (decide (new.length = q.2 ∧ q.1 + q.2 ≤ cs.length)) (fillD place (putAt cs q.1 new) r) none := by
  conv => lhs; unfold fillD
  cases place i with
  | none => rfl
  | some q =>
    obtain ⟨off, size⟩ := q
    simp only [ob_some]
    by_cases h : new.length = size ∧ off + size ≤ cs.length
    · simp only [h, and_self, if_true, decide_true, sel]
    · simp only [h, if_false, decide_false, sel]
theorem setAll_nil {sz : Nat} {es : List (List AV)} : setAll sz es [] = some es := rfl
theorem setAll_cons {sz i : Nat} {es : List (List AV)} {new : List AV} {r : List (Nat × List AV)} : setAll sz es ((i, new) :: r) = sel (decide (new.length = sz ∧ i < es.length)) (setAll sz (es.set i new) r) none := by
  conv => lhs; unfold setAll
  by_cases h : new.length = sz ∧ i < es.length
  · simp only [h, and_self, if_true, decide_true, sel]
  · simp only [h, if_false, decide_false, sel]
/-- Rows made of parts. -/
def bsP (e sz : Nat) (z : List AV) (len : Nat) (ps : List (Nat × List AV)) : Option (Nat × Nat × List (List AV)) := sel (decide (len * sz ≤ 100000)) (ob (setAll sz (List.replicate len z) ps) fun es => some (e, sz, es)) none
theorem bsP_go {e sz len : Nat} {z : List AV} {ps : List (Nat × List AV)} : bsP e sz z len ps = sel (decide (len * sz ≤ 100000)) (ob (setAll sz (List.replicate len z) ps) fun es => some (e, sz, es)) none := rfl
theorem bsP_of {T len e : Nat} {ps : List (Nat × List AV)} {i ie : TI} (h : cfg.G.ty T = some i) (hd : i.desc = .slice e) (he : cfg.G.ty e = some ie) (hz : (decide (0 < ie.size) && decide (ie.zero.length = ie.size)) = true) : bsD T len ps = bsP e ie.size ie.zero len ps := by
  obtain ⟨de, s1, s2, s3⟩ := i
  simp only at hd
  subst hd
  simp only [bsD, h, he, bsP, hz, Bool.true_and]
  by_cases h2 : len * ie.size ≤ 100000
  · simp only [h2, decide_true, if_true, sel]
    cases setAll ie.size (List.replicate len ie.zero) ps <;> rfl
  · simp only [h2, decide_false, sel]
    rfl
theorem mkS_of {T e base : Nat} {k k' : IntKind} {n m : Int} {i ie : TI} (h : cfg.G.ty T = some i) (hd : i.desc = .slice e) (he : cfg.G.ty e = some ie) (hz : (decide (0 < ie.size) && (decide (ie.zero.length = ie.size) && decide (ie.bytes ≤ 1000))) = true) : makeSliceD cfg.G base T (.int k n) (.int k' m) = sel (decide (n = m ∧ 0 ≤ n ∧ n ≤ 1000000)) (some (.row base 0 n.toNat, [(base, .arr e ie.size (List.replicate n.toNat ie.zero))])) none := by
  obtain ⟨de, s1, s2, s3⟩ := i
  simp only at hd
  subst hd
  simp only [Bool.and_eq_true, decide_eq_true_eq] at hz
  simp only [makeSliceD, h, he]
  by_cases h2 : n = m ∧ 0 ≤ n ∧ n ≤ 1000000
  · rw [if_pos ⟨h2.1, h2.2.1, h2.2.2, hz.1, hz.2.1, hz.2.2⟩, decide_eq_true h2]; rfl
  · rw [if_neg (fun x => h2 ⟨x.1, x.2.1, x.2.2.1⟩), decide_eq_false h2]; rfl
/-- Rows that grow. -/
def apP (e sz base : Nat) (hp : Hp) (s x : AV) : Option (AV × Hp) := match elemsOf hp sz x with
  | some new => match s with
    | .nils => if new.length ≤ most then some (.row base 0 new.length, [(base, .arr e sz new)]) else none
    | .row b 0 n => match look b hp with
      | some (.arr e' sz' es) => if e' = e ∧ sz' = sz ∧ n = es.length ∧ n + new.length ≤ most then some (.row base 0 (n + new.length), [(base, .arr e sz (es ++ new)), (b, .dead)]) else none
      | _ => none
    | _ => none
  | none => none
theorem apP_of {T e base : Nat} {hp : Hp} {s x : AV} {i ie : TI} (h : cfg.G.ty T = some i) (hd : i.desc = .slice e) (he : cfg.G.ty e = some ie) (hz : (decide (0 < ie.size) && decide (0 < ie.bytes) && decide (ie.bytes ≤ 1000)) = true) : appendD cfg.G base hp T s x = apP e ie.size base hp s x := by
  obtain ⟨de, s1, s2, s3⟩ := i
  simp only at hd
  subst hd
  simp only [appendD, h, he, Option.bind_some, apP]
  cases elemsOf hp ie.size x with
  | none => rfl
  | some new =>
    simp only [hz, if_true]
    rfl
theorem apP_nils {e sz base : Nat} {hp : Hp} {x : AV} : apP e sz base hp .nils x = ob (elemsOf hp sz x) fun new => sel (decide (new.length ≤ most)) (some (.row base 0 new.length, [(base, .arr e sz new)])) none := by
  simp only [apP]
  cases elemsOf hp sz x with
  | none => rfl
  | some new =>
    simp only [ob_some]
    by_cases h : new.length ≤ most
    · simp only [h, if_true, decide_true, sel]
    · simp only [h, if_false, decide_false, sel]
theorem apP_row {e sz base b n : Nat} {hp : Hp} {x : AV} : apP e sz base hp (.row b 0 n) x = ob (elemsOf hp sz x) fun new => ob (look b hp) fun o => ob (arrT o) fun q => sel (decide (q.1 = e ∧ q.2.1 = sz ∧ n = q.2.2.length ∧ n + new.length ≤ most)) (some (.row base 0 (n + new.length), [(base, .arr e sz (q.2.2 ++ new)), (b, .dead)])) none := by
  simp only [apP]
  cases elemsOf hp sz x with
  | none => rfl
  | some new =>
    simp only [ob_some]
    cases look b hp with
    | none => rfl
    | some o =>
      cases o <;> try rfl
      rename_i e' sz' es
      simp only [ob_some, arrT]
      by_cases h : e' = e ∧ sz' = sz ∧ n = es.length ∧ n + new.length ≤ most
      · rw [if_pos h, decide_eq_true h]; rfl
      · rw [if_neg h, decide_eq_false h]; rfl
theorem eo_nils {hp : Hp} {n : Nat} : elemsOf hp n .nils = some [] := rfl
theorem eo_sl {hp : Hp} {n : Nat} {es : List (List AV)} : elemsOf hp n (.sl n es) = some es := by simp [elemsOf]
theorem eo_row {hp : Hp} {n b off m : Nat} : elemsOf hp n (.row b off m) = ob (look b hp) fun o => ob (arrT o) fun q => sel (decide (off + m ≤ q.2.2.length ∧ q.2.1 = n)) (some ((q.2.2.drop off).take m)) none := by
  simp only [elemsOf]
  cases look b hp with
  | none => rfl
  | some o =>
    cases o <;> try rfl
    rename_i e' sz' es
    simp only [ob_some, arrT]
    by_cases h : off + m ≤ es.length ∧ sz' = n
    · simp only [h, and_self, if_true, decide_true, sel]
    · simp only [h, if_false, decide_false, sel]
/-- Parts of rows and strings. -/
theorem bd_none {d : Nat} : bound d none = some d := rfl
theorem bd_some {d : Nat} {k : IntKind} {n : Int} : bound d (some (.int k n)) = sel (decide (0 ≤ n)) (some n.toNat) none := by
  simp only [bound]
  by_cases h : 0 ≤ n
  · simp only [h, if_true, decide_true, sel]
  · simp only [h, if_false, decide_false, sel]
theorem sc_str {G : Gl} {hp : Hp} {T : Nat} {s : List UInt8} {lo hi : Option AV} (h : isStrT G T = true) : sliceD G hp T (.str s) lo hi = ob (bound 0 lo) fun l => ob (bound s.length hi) fun u => sel (decide (l ≤ u ∧ u ≤ s.length)) (some (.str ((s.drop l).take (u - l)))) none := by
  simp only [sliceD, h, if_true]
  cases bound 0 lo with
  | none => rfl
  | some l =>
    cases bound s.length hi with
    | none => rfl
    | some u =>
      simp only [ob_some]
      by_cases h : l ≤ u ∧ u ≤ s.length
      · simp only [h, and_self, if_true, decide_true, sel]
      · simp only [h, if_false, decide_false, sel]
theorem sc_sl {G : Gl} {hp : Hp} {T n : Nat} {es : List (List AV)} {lo hi : Option AV} {ie : TI} (h : sliceElem G T = some ie) (hn : ie.size = n) : sliceD G hp T (.sl n es) lo hi = ob (bound 0 lo) fun l => ob (bound es.length hi) fun u => sel (decide (l ≤ u ∧ u ≤ es.length)) (some (.sl n ((es.drop l).take (u - l)))) none := by
  subst hn
  simp only [sliceD, h, Nat.beq_refl, if_true]
  cases bound 0 lo with
  | none => rfl
  | some l =>
    cases bound es.length hi with
    | none => rfl
    | some u =>
      simp only [ob_some]
      by_cases h : l ≤ u ∧ u ≤ es.length
      · simp only [h, and_self, if_true, decide_true, sel]
      · simp only [h, if_false, decide_false, sel]
/-- Letters of strings. -/
theorem ix_str {G : Gl} {T : Nat} {s : List UInt8} {k : IntKind} {n : Int} (h : isStrT G T = true) : indexD G T (.str s) (.int k n) = sel (decide (0 ≤ n)) (ob (s[n.toNat]?) fun c => some (.int .u8 c.toNat)) none := by
  simp only [indexD, h, if_true]
  by_cases h : 0 ≤ n
  · simp only [h, if_true, decide_true, sel]
    cases s[n.toNat]? <;> rfl
  · simp only [h, if_false, decide_false, sel]
theorem tyz3 : ty3.zero = [.int Go.IntKind.i64 0] := rfl
theorem tyz4 : ty4.zero = [.bool false] := rfl
theorem tyz9 : ty9.zero = [.str []] := rfl
theorem tyz23 : ty23.zero = [.nils] := rfl
theorem tyz30 : ty30.zero = [.nils] := rfl
theorem tyz31 : ty31.zero = [.int Go.IntKind.i64 0] := rfl
theorem tyz33 : ty33.zero = [.int Go.IntKind.i64 0, .int Go.IntKind.i64 0, .nils, .nils] := rfl
theorem tyz35 : ty35.zero = [.nils] := rfl
theorem tyz36 : ty36.zero = [.nils] := rfl
theorem tyz38 : ty38.zero = [.int Go.IntKind.i64 0, .int Go.IntKind.i64 0, .str [], .nils, .nils] := rfl
theorem tyz43 : ty43.zero = [.int Go.IntKind.i64 0] := rfl
theorem tyz66 : ty66.zero = [.int Go.IntKind.i64 0, .int Go.IntKind.i64 0] := rfl
theorem tyz151 : ty151.zero = [.nils] := rfl
theorem tyz153 : ty153.zero = [.nils, .nils] := rfl
theorem tyz155 : ty155.zero = [.int Go.IntKind.u64 0] := rfl
theorem tyz162 : ty162.zero = [.int Go.IntKind.u8 0] := rfl
theorem tyz169 : ty169.zero = [.nilfn] := rfl
theorem ld3 {hp : Hp} {a : AV} : loadD cfg.G hp 3 a = ldP 1 false hp a := ldP_of tyr3
theorem sto3 {hp : Hp} {a x : AV} : storeD cfg.G hp 3 a x = ob (cellsOf x) fun new => stP 1 hp a new := stP_of tyr3
theorem mki3 {x : AV} : mkIfD 3 x = some (.ifc 3 x) := by simp only [mkIfD, tyr3]; rfl
theorem ld4 {hp : Hp} {a : AV} : loadD cfg.G hp 4 a = ldP 1 false hp a := ldP_of tyr4
theorem sto4 {hp : Hp} {a x : AV} : storeD cfg.G hp 4 a x = ob (cellsOf x) fun new => stP 1 hp a new := stP_of tyr4
theorem bbe4 {a b : Bool} : binD cfg.G .eql 4 (.bool a) (.bool b) = some (.bool (a == b)) := bin_bool_eql (by kernel_rfl)
theorem bbn4 {a b : Bool} : binD cfg.G .neq 4 (.bool a) (.bool b) = some (.bool (!(a == b))) := bin_bool_neq (by kernel_rfl)
theorem ld9 {hp : Hp} {a : AV} : loadD cfg.G hp 9 a = ldP 1 false hp a := ldP_of tyr9
theorem sto9 {hp : Hp} {a x : AV} : storeD cfg.G hp 9 a x = ob (cellsOf x) fun new => stP 1 hp a new := stP_of tyr9
theorem len9 {hp : Hp} {x : AV} : lenD cfg.G hp 9 x = lnT x := ln_str (by kernel_rfl) (by kernel_rfl)
theorem sc9 {hp : Hp} {s : List UInt8} {lo hi : Option AV} : sliceD cfg.G hp 9 (.str s) lo hi = ob (bound 0 lo) fun l => ob (bound s.length hi) fun u => sel (decide (l ≤ u ∧ u ≤ s.length)) (some (.str ((s.drop l).take (u - l)))) none := sc_str (by kernel_rfl)
theorem ix9 {s : List UInt8} {k : IntKind} {n : Int} : indexD cfg.G 9 (.str s) (.int k n) = sel (decide (0 ≤ n)) (ob (s[n.toNat]?) fun c => some (.int .u8 c.toNat)) none := ix_str (by kernel_rfl)
theorem ld23 {hp : Hp} {a : AV} : loadD cfg.G hp 23 a = ldP 1 false hp a := ldP_of tyr23
theorem sto23 {hp : Hp} {a x : AV} : storeD cfg.G hp 23 a x = ob (cellsOf x) fun new => stP 1 hp a new := stP_of tyr23
theorem len23 {hp : Hp} {x : AV} : lenD cfg.G hp 23 x = lnS x := ln_slice (by kernel_rfl) (by kernel_rfl)
theorem nle23 {n : Nat} {e : List AV} {es : List (List AV)} : binD cfg.G .eql 23 (.sl n (e :: es)) .nils = some (.bool false) := by kernel_rfl
theorem nln23 {n : Nat} {e : List AV} {es : List (List AV)} : binD cfg.G .neq 23 (.sl n (e :: es)) .nils = some (.bool true) := by kernel_rfl
theorem ia23 {hp : Hp} {x y : AV} : indexAddrD cfg.G hp 23 x y = iaP 4 hp x y := iaP_of (ie := ty33) (by kernel_rfl)
theorem sc23 {hp : Hp} {es : List (List AV)} {lo hi : Option AV} : sliceD cfg.G hp 23 (.sl 4 es) lo hi = ob (bound 0 lo) fun l => ob (bound es.length hi) fun u => sel (decide (l ≤ u ∧ u ≤ es.length)) (some (.sl 4 ((es.drop l).take (u - l)))) none := sc_sl (ie := ty33) (by kernel_rfl) rfl
theorem bs23 {n : Nat} {ps : List (Nat × List AV)} : bsD 23 n ps = bsP 33 4 [.int Go.IntKind.i64 0, .int Go.IntKind.i64 0, .nils, .nils] n ps := bsP_of tyr23 rfl tyr33 (by kernel_rfl)
theorem mk23 {base : Nat} {k k' : IntKind} {n m : Int} : makeSliceD cfg.G base 23 (.int k n) (.int k' m) = sel (decide (n = m ∧ 0 ≤ n ∧ n ≤ 1000000)) (some (.row base 0 n.toNat, [(base, .arr 33 4 (List.replicate n.toNat [.int Go.IntKind.i64 0, .int Go.IntKind.i64 0, .nils, .nils]))])) none := mkS_of tyr23 rfl tyr33 (by kernel_rfl)
theorem ap23 {base : Nat} {hp : Hp} {s x : AV} : appendD cfg.G base hp 23 s x = apP 33 4 base hp s x := apP_of tyr23 rfl tyr33 (by kernel_rfl)
theorem ld30 {hp : Hp} {a : AV} : loadD cfg.G hp 30 a = ldP 1 false hp a := ldP_of tyr30
theorem sto30 {hp : Hp} {a x : AV} : storeD cfg.G hp 30 a x = ob (cellsOf x) fun new => stP 1 hp a new := stP_of tyr30
theorem len30 {hp : Hp} {x : AV} : lenD cfg.G hp 30 x = lnS x := ln_slice (by kernel_rfl) (by kernel_rfl)
theorem nle30 {n : Nat} {e : List AV} {es : List (List AV)} : binD cfg.G .eql 30 (.sl n (e :: es)) .nils = some (.bool false) := by kernel_rfl
theorem nln30 {n : Nat} {e : List AV} {es : List (List AV)} : binD cfg.G .neq 30 (.sl n (e :: es)) .nils = some (.bool true) := by kernel_rfl
theorem ia30 {hp : Hp} {x y : AV} : indexAddrD cfg.G hp 30 x y = iaP 1 hp x y := iaP_of (ie := ty162) (by kernel_rfl)
theorem sc30 {hp : Hp} {es : List (List AV)} {lo hi : Option AV} : sliceD cfg.G hp 30 (.sl 1 es) lo hi = ob (bound 0 lo) fun l => ob (bound es.length hi) fun u => sel (decide (l ≤ u ∧ u ≤ es.length)) (some (.sl 1 ((es.drop l).take (u - l)))) none := sc_sl (ie := ty162) (by kernel_rfl) rfl
theorem bs30 {n : Nat} {ps : List (Nat × List AV)} : bsD 30 n ps = bsP 162 1 [.int Go.IntKind.u8 0] n ps := bsP_of tyr30 rfl tyr162 (by kernel_rfl)
theorem mk30 {base : Nat} {k k' : IntKind} {n m : Int} : makeSliceD cfg.G base 30 (.int k n) (.int k' m) = sel (decide (n = m ∧ 0 ≤ n ∧ n ≤ 1000000)) (some (.row base 0 n.toNat, [(base, .arr 162 1 (List.replicate n.toNat [.int Go.IntKind.u8 0]))])) none := mkS_of tyr30 rfl tyr162 (by kernel_rfl)
theorem ap30 {base : Nat} {hp : Hp} {s x : AV} : appendD cfg.G base hp 30 s x = apP 162 1 base hp s x := apP_of tyr30 rfl tyr162 (by kernel_rfl)
theorem ld31 {hp : Hp} {a : AV} : loadD cfg.G hp 31 a = ldP 1 false hp a := ldP_of tyr31
theorem sto31 {hp : Hp} {a x : AV} : storeD cfg.G hp 31 a x = ob (cellsOf x) fun new => stP 1 hp a new := stP_of tyr31
theorem mki31 {x : AV} : mkIfD 31 x = some (.ifc 31 x) := by simp only [mkIfD, tyr31]; rfl
theorem ld33 {hp : Hp} {a : AV} : loadD cfg.G hp 33 a = ldP 4 true hp a := ldP_of tyr33
theorem sto33 {hp : Hp} {a x : AV} : storeD cfg.G hp 33 a x = ob (cellsOf x) fun new => stP 4 hp a new := stP_of tyr33
theorem fa33_0 {a : AV} : fieldAddrD cfg.G 33 a 0 = faP 0 a := by kernel_rfl
theorem fl33_0 {x : AV} : fieldD cfg.G 33 x 0 = flP 0 1 false x := by cases x <;> kernel_rfl
theorem fa33_1 {a : AV} : fieldAddrD cfg.G 33 a 1 = faP 1 a := by kernel_rfl
theorem fl33_1 {x : AV} : fieldD cfg.G 33 x 1 = flP 1 1 false x := by cases x <;> kernel_rfl
theorem fa33_2 {a : AV} : fieldAddrD cfg.G 33 a 2 = faP 2 a := by kernel_rfl
theorem fl33_2 {x : AV} : fieldD cfg.G 33 x 2 = flP 2 1 false x := by cases x <;> kernel_rfl
theorem fa33_3 {a : AV} : fieldAddrD cfg.G 33 a 3 = faP 3 a := by kernel_rfl
theorem fl33_3 {x : AV} : fieldD cfg.G 33 x 3 = flP 3 1 false x := by cases x <;> kernel_rfl
theorem bl33 {ps : List (Nat × List AV)} : buildD cfg.G 33 ps = ob (fillD (fun i => ([(0, 1), (1, 1), (2, 1), (3, 1)] : List (Nat × Nat))[i]?) [.int Go.IntKind.i64 0, .int Go.IntKind.i64 0, .nils, .nils] ps) fun cs => some (.agg cs) := by
  show (fillD (fun i => ([(0, 1), (1, 1), (2, 1), (3, 1)] : List (Nat × Nat))[i]?) [.int Go.IntKind.i64 0, .int Go.IntKind.i64 0, .nils, .nils] ps).map AV.agg = _
  cases fillD (fun i => ([(0, 1), (1, 1), (2, 1), (3, 1)] : List (Nat × Nat))[i]?) [.int Go.IntKind.i64 0, .int Go.IntKind.i64 0, .nils, .nils] ps <;> rfl
theorem ld35 {hp : Hp} {a : AV} : loadD cfg.G hp 35 a = ldP 1 false hp a := ldP_of tyr35
theorem sto35 {hp : Hp} {a x : AV} : storeD cfg.G hp 35 a x = ob (cellsOf x) fun new => stP 1 hp a new := stP_of tyr35
theorem len35 {hp : Hp} {x : AV} : lenD cfg.G hp 35 x = lnS x := ln_slice (by kernel_rfl) (by kernel_rfl)
theorem nle35 {n : Nat} {e : List AV} {es : List (List AV)} : binD cfg.G .eql 35 (.sl n (e :: es)) .nils = some (.bool false) := by kernel_rfl
theorem nln35 {n : Nat} {e : List AV} {es : List (List AV)} : binD cfg.G .neq 35 (.sl n (e :: es)) .nils = some (.bool true) := by kernel_rfl
theorem ia35 {hp : Hp} {x y : AV} : indexAddrD cfg.G hp 35 x y = iaP 1 hp x y := iaP_of (ie := ty9) (by kernel_rfl)
theorem sc35 {hp : Hp} {es : List (List AV)} {lo hi : Option AV} : sliceD cfg.G hp 35 (.sl 1 es) lo hi = ob (bound 0 lo) fun l => ob (bound es.length hi) fun u => sel (decide (l ≤ u ∧ u ≤ es.length)) (some (.sl 1 ((es.drop l).take (u - l)))) none := sc_sl (ie := ty9) (by kernel_rfl) rfl
theorem bs35 {n : Nat} {ps : List (Nat × List AV)} : bsD 35 n ps = bsP 9 1 [.str []] n ps := bsP_of tyr35 rfl tyr9 (by kernel_rfl)
theorem mk35 {base : Nat} {k k' : IntKind} {n m : Int} : makeSliceD cfg.G base 35 (.int k n) (.int k' m) = sel (decide (n = m ∧ 0 ≤ n ∧ n ≤ 1000000)) (some (.row base 0 n.toNat, [(base, .arr 9 1 (List.replicate n.toNat [.str []]))])) none := mkS_of tyr35 rfl tyr9 (by kernel_rfl)
theorem ap35 {base : Nat} {hp : Hp} {s x : AV} : appendD cfg.G base hp 35 s x = apP 9 1 base hp s x := apP_of tyr35 rfl tyr9 (by kernel_rfl)
theorem ld36 {hp : Hp} {a : AV} : loadD cfg.G hp 36 a = ldP 1 false hp a := ldP_of tyr36
theorem sto36 {hp : Hp} {a x : AV} : storeD cfg.G hp 36 a x = ob (cellsOf x) fun new => stP 1 hp a new := stP_of tyr36
theorem len36 {hp : Hp} {x : AV} : lenD cfg.G hp 36 x = lnS x := ln_slice (by kernel_rfl) (by kernel_rfl)
theorem nle36 {n : Nat} {e : List AV} {es : List (List AV)} : binD cfg.G .eql 36 (.sl n (e :: es)) .nils = some (.bool false) := by kernel_rfl
theorem nln36 {n : Nat} {e : List AV} {es : List (List AV)} : binD cfg.G .neq 36 (.sl n (e :: es)) .nils = some (.bool true) := by kernel_rfl
theorem ia36 {hp : Hp} {x y : AV} : indexAddrD cfg.G hp 36 x y = iaP 5 hp x y := iaP_of (ie := ty38) (by kernel_rfl)
theorem sc36 {hp : Hp} {es : List (List AV)} {lo hi : Option AV} : sliceD cfg.G hp 36 (.sl 5 es) lo hi = ob (bound 0 lo) fun l => ob (bound es.length hi) fun u => sel (decide (l ≤ u ∧ u ≤ es.length)) (some (.sl 5 ((es.drop l).take (u - l)))) none := sc_sl (ie := ty38) (by kernel_rfl) rfl
theorem bs36 {n : Nat} {ps : List (Nat × List AV)} : bsD 36 n ps = bsP 38 5 [.int Go.IntKind.i64 0, .int Go.IntKind.i64 0, .str [], .nils, .nils] n ps := bsP_of tyr36 rfl tyr38 (by kernel_rfl)
theorem mk36 {base : Nat} {k k' : IntKind} {n m : Int} : makeSliceD cfg.G base 36 (.int k n) (.int k' m) = sel (decide (n = m ∧ 0 ≤ n ∧ n ≤ 1000000)) (some (.row base 0 n.toNat, [(base, .arr 38 5 (List.replicate n.toNat [.int Go.IntKind.i64 0, .int Go.IntKind.i64 0, .str [], .nils, .nils]))])) none := mkS_of tyr36 rfl tyr38 (by kernel_rfl)
theorem ap36 {base : Nat} {hp : Hp} {s x : AV} : appendD cfg.G base hp 36 s x = apP 38 5 base hp s x := apP_of tyr36 rfl tyr38 (by kernel_rfl)
theorem ld38 {hp : Hp} {a : AV} : loadD cfg.G hp 38 a = ldP 5 true hp a := ldP_of tyr38
theorem sto38 {hp : Hp} {a x : AV} : storeD cfg.G hp 38 a x = ob (cellsOf x) fun new => stP 5 hp a new := stP_of tyr38
theorem fa38_0 {a : AV} : fieldAddrD cfg.G 38 a 0 = faP 0 a := by kernel_rfl
theorem fl38_0 {x : AV} : fieldD cfg.G 38 x 0 = flP 0 1 false x := by cases x <;> kernel_rfl
theorem fa38_1 {a : AV} : fieldAddrD cfg.G 38 a 1 = faP 1 a := by kernel_rfl
theorem fl38_1 {x : AV} : fieldD cfg.G 38 x 1 = flP 1 1 false x := by cases x <;> kernel_rfl
theorem fa38_2 {a : AV} : fieldAddrD cfg.G 38 a 2 = faP 2 a := by kernel_rfl
theorem fl38_2 {x : AV} : fieldD cfg.G 38 x 2 = flP 2 1 false x := by cases x <;> kernel_rfl
theorem fa38_3 {a : AV} : fieldAddrD cfg.G 38 a 3 = faP 3 a := by kernel_rfl
theorem fl38_3 {x : AV} : fieldD cfg.G 38 x 3 = flP 3 1 false x := by cases x <;> kernel_rfl
theorem fa38_4 {a : AV} : fieldAddrD cfg.G 38 a 4 = faP 4 a := by kernel_rfl
theorem fl38_4 {x : AV} : fieldD cfg.G 38 x 4 = flP 4 1 false x := by cases x <;> kernel_rfl
theorem bl38 {ps : List (Nat × List AV)} : buildD cfg.G 38 ps = ob (fillD (fun i => ([(0, 1), (1, 1), (2, 1), (3, 1), (4, 1)] : List (Nat × Nat))[i]?) [.int Go.IntKind.i64 0, .int Go.IntKind.i64 0, .str [], .nils, .nils] ps) fun cs => some (.agg cs) := by
  show (fillD (fun i => ([(0, 1), (1, 1), (2, 1), (3, 1), (4, 1)] : List (Nat × Nat))[i]?) [.int Go.IntKind.i64 0, .int Go.IntKind.i64 0, .str [], .nils, .nils] ps).map AV.agg = _
  cases fillD (fun i => ([(0, 1), (1, 1), (2, 1), (3, 1), (4, 1)] : List (Nat × Nat))[i]?) [.int Go.IntKind.i64 0, .int Go.IntKind.i64 0, .str [], .nils, .nils] ps <;> rfl
theorem ld43 {hp : Hp} {a : AV} : loadD cfg.G hp 43 a = ldP 1 false hp a := ldP_of tyr43
theorem sto43 {hp : Hp} {a x : AV} : storeD cfg.G hp 43 a x = ob (cellsOf x) fun new => stP 1 hp a new := stP_of tyr43
theorem mki43 {x : AV} : mkIfD 43 x = some (.ifc 43 x) := by simp only [mkIfD, tyr43]; rfl
theorem ld66 {hp : Hp} {a : AV} : loadD cfg.G hp 66 a = ldP 2 true hp a := ldP_of tyr66
theorem sto66 {hp : Hp} {a x : AV} : storeD cfg.G hp 66 a x = ob (cellsOf x) fun new => stP 2 hp a new := stP_of tyr66
theorem ld151 {hp : Hp} {a : AV} : loadD cfg.G hp 151 a = ldP 1 false hp a := ldP_of tyr151
theorem sto151 {hp : Hp} {a x : AV} : storeD cfg.G hp 151 a x = ob (cellsOf x) fun new => stP 1 hp a new := stP_of tyr151
theorem len151 {hp : Hp} {x : AV} : lenD cfg.G hp 151 x = lnS x := ln_slice (by kernel_rfl) (by kernel_rfl)
theorem nle151 {n : Nat} {e : List AV} {es : List (List AV)} : binD cfg.G .eql 151 (.sl n (e :: es)) .nils = some (.bool false) := by kernel_rfl
theorem nln151 {n : Nat} {e : List AV} {es : List (List AV)} : binD cfg.G .neq 151 (.sl n (e :: es)) .nils = some (.bool true) := by kernel_rfl
theorem ia151 {hp : Hp} {x y : AV} : indexAddrD cfg.G hp 151 x y = iaP 1 hp x y := iaP_of (ie := ty162) (by kernel_rfl)
theorem sc151 {hp : Hp} {es : List (List AV)} {lo hi : Option AV} : sliceD cfg.G hp 151 (.sl 1 es) lo hi = ob (bound 0 lo) fun l => ob (bound es.length hi) fun u => sel (decide (l ≤ u ∧ u ≤ es.length)) (some (.sl 1 ((es.drop l).take (u - l)))) none := sc_sl (ie := ty162) (by kernel_rfl) rfl
theorem bs151 {n : Nat} {ps : List (Nat × List AV)} : bsD 151 n ps = bsP 162 1 [.int Go.IntKind.u8 0] n ps := bsP_of tyr151 rfl tyr162 (by kernel_rfl)
theorem mk151 {base : Nat} {k k' : IntKind} {n m : Int} : makeSliceD cfg.G base 151 (.int k n) (.int k' m) = sel (decide (n = m ∧ 0 ≤ n ∧ n ≤ 1000000)) (some (.row base 0 n.toNat, [(base, .arr 162 1 (List.replicate n.toNat [.int Go.IntKind.u8 0]))])) none := mkS_of tyr151 rfl tyr162 (by kernel_rfl)
theorem ap151 {base : Nat} {hp : Hp} {s x : AV} : appendD cfg.G base hp 151 s x = apP 162 1 base hp s x := apP_of tyr151 rfl tyr162 (by kernel_rfl)
theorem ld153 {hp : Hp} {a : AV} : loadD cfg.G hp 153 a = ldP 2 true hp a := ldP_of tyr153
theorem sto153 {hp : Hp} {a x : AV} : storeD cfg.G hp 153 a x = ob (cellsOf x) fun new => stP 2 hp a new := stP_of tyr153
theorem fa153_0 {a : AV} : fieldAddrD cfg.G 153 a 0 = faP 0 a := by kernel_rfl
theorem fl153_0 {x : AV} : fieldD cfg.G 153 x 0 = flP 0 1 false x := by cases x <;> kernel_rfl
theorem fa153_1 {a : AV} : fieldAddrD cfg.G 153 a 1 = faP 1 a := by kernel_rfl
theorem fl153_1 {x : AV} : fieldD cfg.G 153 x 1 = flP 1 1 false x := by cases x <;> kernel_rfl
theorem bl153 {ps : List (Nat × List AV)} : buildD cfg.G 153 ps = ob (fillD (fun i => ([(0, 1), (1, 1)] : List (Nat × Nat))[i]?) [.nils, .nils] ps) fun cs => some (.agg cs) := by
  show (fillD (fun i => ([(0, 1), (1, 1)] : List (Nat × Nat))[i]?) [.nils, .nils] ps).map AV.agg = _
  cases fillD (fun i => ([(0, 1), (1, 1)] : List (Nat × Nat))[i]?) [.nils, .nils] ps <;> rfl
theorem ld155 {hp : Hp} {a : AV} : loadD cfg.G hp 155 a = ldP 1 false hp a := ldP_of tyr155
theorem sto155 {hp : Hp} {a x : AV} : storeD cfg.G hp 155 a x = ob (cellsOf x) fun new => stP 1 hp a new := stP_of tyr155
theorem mki155 {x : AV} : mkIfD 155 x = some (.ifc 155 x) := by simp only [mkIfD, tyr155]; rfl
theorem ld162 {hp : Hp} {a : AV} : loadD cfg.G hp 162 a = ldP 1 false hp a := ldP_of tyr162
theorem sto162 {hp : Hp} {a x : AV} : storeD cfg.G hp 162 a x = ob (cellsOf x) fun new => stP 1 hp a new := stP_of tyr162
theorem mki162 {x : AV} : mkIfD 162 x = some (.ifc 162 x) := by simp only [mkIfD, tyr162]; rfl
theorem ld169 {hp : Hp} {a : AV} : loadD cfg.G hp 169 a = ldP 1 false hp a := ldP_of tyr169
theorem sto169 {hp : Hp} {a x : AV} : storeD cfg.G hp 169 a x = ob (cellsOf x) fun new => stP 1 hp a new := stP_of tyr169
theorem cv3_155 {k : IntKind} {n : Int} : convD cfg.G 3 155 (.int k n) = some (.int Go.IntKind.u64 (IntKind.wrap Go.IntKind.u64 n)) := by kernel_rfl
theorem cv3_162 {k : IntKind} {n : Int} : convD cfg.G 3 162 (.int k n) = some (.int Go.IntKind.u8 (IntKind.wrap Go.IntKind.u8 n)) := by kernel_rfl
theorem cv3_299 {k : IntKind} {n : Int} : convD cfg.G 3 299 (.int k n) = some (.int Go.IntKind.u64 (IntKind.wrap Go.IntKind.u64 n)) := by kernel_rfl
theorem cv155_2 {k : IntKind} {n : Int} : convD cfg.G 155 2 (.int k n) = some (.int Go.IntKind.i64 (IntKind.wrap Go.IntKind.i64 n)) := by kernel_rfl
theorem cv155_3 {k : IntKind} {n : Int} : convD cfg.G 155 3 (.int k n) = some (.int Go.IntKind.i64 (IntKind.wrap Go.IntKind.i64 n)) := by kernel_rfl
theorem cv155_162 {k : IntKind} {n : Int} : convD cfg.G 155 162 (.int k n) = some (.int Go.IntKind.u8 (IntKind.wrap Go.IntKind.u8 n)) := by kernel_rfl
theorem cv155_326 {k : IntKind} {n : Int} : convD cfg.G 155 326 (.int k n) = some (.int Go.IntKind.u32 (IntKind.wrap Go.IntKind.u32 n)) := by kernel_rfl
theorem cv162_3 {k : IntKind} {n : Int} : convD cfg.G 162 3 (.int k n) = some (.int Go.IntKind.i64 (IntKind.wrap Go.IntKind.i64 n)) := by kernel_rfl
theorem cv162_155 {k : IntKind} {n : Int} : convD cfg.G 162 155 (.int k n) = some (.int Go.IntKind.u64 (IntKind.wrap Go.IntKind.u64 n)) := by kernel_rfl
end Go.Proofs.YtdhcgankmhpgeaaGreat.M
/- R, the eighth text: loops at their heads; data of this program as values. Printed by mkrj.py. -/
namespace Go.Proofs.YtdhcgankmhpgeaaGreat.M
open Go
set_option linter.unusedVariables false
set_option linter.unusedSimpArgs false
noncomputable def lpN {R : Type} (X : FX) (c : Code) (st : St) (k : K R) : Option R := ex X c st (kLoop X c k)
theorem lpX_code {R : Type} {X : FX} {c c' : Code} {st : St} {k : K R} (h : c = c') : lpX X c st k = lpX X c' st k := by rw [h]
theorem lpX_norm {R : Type} {X : FX} {c : Code} {st : St} {k : K R} {l : Option (List Nat)} (h : codeOK X.nt X.tab c = true) (hk : X.keep.keep (firstId c) = l) : lpX X c st k = ob (normSt X.kn l st) fun st0 => lpN X c st0 k := by
  rw [lpX_eq h, hk]
  rfl
def nmK (l : List Nat) (q : Option (AV × List Obj')) : Option St := match q with
  | some (.tup vs', objs) => some ⟨zipK l vs', numbered 0 objs, objs.length, []⟩
  | _ => none
theorem nmK_congr {l : List Nat} {q q' : Option (AV × List Obj')} (h : q = q') : nmK l q = nmK l q' := by rw [h]
theorem nmK_some {l : List Nat} {vs : List AV} {objs : List Obj'} : nmK l (some (.tup vs, objs)) = some ⟨zipK l vs, numbered 0 objs, objs.length, []⟩ := rfl
theorem norm_some {kn : Nat} {l : List Nat} {fr : Fr} {hp : Hp} {nx : Nat} : normSt kn (some l) ⟨fr, hp, nx, []⟩ = ob (looks fr l) fun vs => nmK l (leave kn hp (.tup vs)) := by
  simp only [normSt]
  cases looks fr l with
  | none => rfl
  | some vs =>
    simp only [ob_some]
    cases leave kn hp (.tup vs) with
    | none => rfl
    | some q =>
      obtain ⟨v, o⟩ := q
      cases v <;> rfl
theorem looks_nil {fr : Fr} : looks fr [] = some [] := rfl
theorem looks_cons {fr : Fr} {t : Nat} {r : List Nat} : looks fr (t :: r) = ob (look t fr) fun v => ob (looks fr r) fun l => some (v :: l) := by
  conv => lhs; unfold looks
  cases look t fr with
  | none => rfl
  | some v => cases looks fr r <;> rfl
theorem zipK_cons {t : Nat} {r : List Nat} {v : AV} {vs : List AV} : zipK (t :: r) (v :: vs) = (t, v) :: zipK r vs := rfl
theorem zipK_nil : zipK [] [] = [] := rfl
theorem leave0 {hp : Hp} {v : AV} (h : keysAV v = []) : leave 0 hp v = some (v, []) := leave_pure h
/-! rows that stand still -/
theorem frzK_z {n : Nat} {st : St} : frzK (n + 1) [] st = some st := rfl
def fzO (n b : Nat) (r : List Nat) (fr : Fr) (hp : Hp) (nx : Nat) (df : Df) (o : Option Obj') : Option St := match o with
  | some (.arr _ sz es) => match keysE es with
    | [] => frzK n r ⟨mapF (subAV b sz es) fr, (b, .dead) :: mapF (subO b sz es) hp, nx, subD b sz es df⟩
    | ks => frzK n (ks ++ b :: r) ⟨fr, hp, nx, df⟩
  | some (.var _ cs) => frzK n (keysL cs ++ r) ⟨fr, hp, nx, df⟩
  | _ => frzK n r ⟨fr, hp, nx, df⟩
theorem fzO_congr {n b : Nat} {r : List Nat} {fr : Fr} {hp : Hp} {nx : Nat} {df : Df} {o o' : Option Obj'} (h : o = o') : fzO n b r fr hp nx df o = fzO n b r fr hp nx df o' := by rw [h]
theorem frzK_cons {n b : Nat} {r : List Nat} {fr : Fr} {hp : Hp} {nx : Nat} {df : Df} : frzK (n + 1) (b :: r) ⟨fr, hp, nx, df⟩ = fzO n b r fr hp nx df (look b hp) := by
  conv => lhs; unfold frzK
  simp only [fzO]
  cases hl : look b hp with
  | none => rfl
  | some o =>
    cases o <;> try rfl
    rename_i T sz es
    simp only
    cases hk : keysE es with
    | nil => simp only [freeze, hl, hk, List.isEmpty_nil, if_true]
    | cons k ks => rfl
theorem fzO_var {n b T : Nat} {r : List Nat} {fr : Fr} {hp : Hp} {nx : Nat} {df : Df} {cs : List AV} : fzO n b r fr hp nx df (some (.var T cs)) = frzK n (keysL cs ++ r) ⟨fr, hp, nx, df⟩ := rfl
theorem fzO_dead {n b : Nat} {r : List Nat} {fr : Fr} {hp : Hp} {nx : Nat} {df : Df} : fzO n b r fr hp nx df (some .dead) = frzK n r ⟨fr, hp, nx, df⟩ := rfl
theorem fzO_arr {n b T sz : Nat} {r : List Nat} {fr : Fr} {hp : Hp} {nx : Nat} {df : Df} {es : List (List AV)} (h : keysE es = []) : fzO n b r fr hp nx df (some (.arr T sz es)) = frzK n r ⟨mapF (subAV b sz es) fr, (b, .dead) :: mapF (subO b sz es) hp, nx, subD b sz es df⟩ := by
  simp only [fzO, h]
theorem mapF_nil {A : Type} {f : A → A} : mapF f [] = [] := rfl
theorem mapF_cons {A : Type} {f : A → A} {k : Nat} {x : A} {l : List (Nat × A)} : mapF f ((k, x) :: l) = (k, f x) :: mapF f l := rfl
section
variable {b sz : Nat} {es : List (List AV)}
theorem sA_row {c o n : Nat} : subAV b sz es (.row c o n) = sel (decide (b = c)) (sel (decide (o + n ≤ es.length)) (.sl sz ((es.drop o).take n)) .undef) (.row c o n) := by
  unfold subAV
  by_cases h : b = c
  · subst h
    simp only [Nat.beq_refl, if_true, decide_true, sel]
    by_cases h2 : o + n ≤ es.length
    · rw [if_pos (Nat.ble_eq_true_of_le h2), decide_eq_true h2]
    · rw [if_neg (fun e => h2 (Nat.le_of_ble_eq_true e)), decide_eq_false h2]
  · rw [if_neg (fun e => h (Nat.eq_of_beq_eq_true e)), decide_eq_false h]
    rfl
theorem sA_ptr {c o : Nat} : subAV b sz es (.ptr c o) = sel (decide (b = c)) .undef (.ptr c o) := by
  unfold subAV
  by_cases h : b = c
  · subst h; simp only [Nat.beq_refl, if_true, decide_true, sel]
  · rw [if_neg (fun e => h (Nat.eq_of_beq_eq_true e)), decide_eq_false h]; rfl
theorem sA_agg {cs : List AV} : subAV b sz es (.agg cs) = .agg (subL b sz es cs) := rfl
theorem sA_tup {cs : List AV} : subAV b sz es (.tup cs) = .tup (subL b sz es cs) := rfl
theorem sA_fn {f : Nat} {cs : List AV} : subAV b sz es (.fn f cs) = .fn f (subL b sz es cs) := rfl
theorem sA_int {k : IntKind} {n : Int} : subAV b sz es (.int k n) = .int k n := rfl
theorem sA_bool {t : Bool} : subAV b sz es (.bool t) = .bool t := rfl
theorem sA_str {s : List UInt8} : subAV b sz es (.str s) = .str s := rfl
theorem sA_sl {n : Nat} {l : List (List AV)} : subAV b sz es (.sl n l) = .sl n l := rfl
theorem sA_nils : subAV b sz es .nils = .nils := rfl
theorem sA_nilp : subAV b sz es .nilp = .nilp := rfl
theorem sA_nilfn : subAV b sz es .nilfn = .nilfn := rfl
theorem sA_undef : subAV b sz es .undef = .undef := rfl
theorem sL_nil : subL b sz es [] = [] := rfl
theorem sL_cons {x : AV} {xs : List AV} : subL b sz es (x :: xs) = subAV b sz es x :: subL b sz es xs := rfl
theorem sO_var {T : Nat} {cs : List AV} : subO b sz es (.var T cs) = .var T (subL b sz es cs) := rfl
theorem sO_dead : subO b sz es .dead = .dead := rfl
theorem sO_arr {T z : Nat} {l : List (List AV)} : subO b sz es (.arr T z l) = .arr T z (subE b sz es l) := rfl
theorem sD_nil : subD b sz es [] = [] := rfl
end
theorem kE_nil : keysE [] = [] := rfl
theorem kE_cons {e : List AV} {l : List (List AV)} : keysE (e :: l) = keysL e ++ keysE l := rfl
theorem kE_u8 {k : IntKind} {bs : List Int} : keysE (bs.map fun b => [AV.int k b]) = [] := by
  induction bs with
  | nil => rfl
  | cons b bs ih => simp only [List.map_cons, keysE, ih]; rfl
theorem take_all {A : Type} {l : List A} : l.take l.length = l := List.take_length
theorem lq9_0 {R : Type} {kn : Nat} {st : St} {k : K R} : lpX ⟨247, kn, kpOf 9, tb9⟩ (lp Tryz.f9 0) st k = ob (normSt kn (some [0, 1, 5, 7, 8, 9, 70, 71, 72]) st) fun st0 => lpN ⟨247, kn, kpOf 9, tb9⟩ (lp Tryz.f9 0) st0 k := lpX_norm (by kernel_rfl) (by kernel_rfl)
theorem lq9_1 {R : Type} {kn : Nat} {st : St} {k : K R} : lpX ⟨247, kn, kpOf 9, tb9⟩ (lp Tryz.f9 1) st k = ob (normSt kn (some [5, 205, 206, 207]) st) fun st0 => lpN ⟨247, kn, kpOf 9, tb9⟩ (lp Tryz.f9 1) st0 k := lpX_norm (by kernel_rfl) (by kernel_rfl)
theorem lq17_0 {R : Type} {kn : Nat} {st : St} {k : K R} : lpX ⟨54, kn, kpOf 17, tb17⟩ (lp Tryz.f17 0) st k = ob (normSt kn (some [2, 3, 37, 38]) st) fun st0 => lpN ⟨54, kn, kpOf 17, tb17⟩ (lp Tryz.f17 0) st0 k := lpX_norm (by kernel_rfl) (by kernel_rfl)
theorem lq38_0 {R : Type} {kn : Nat} {st : St} {k : K R} : lpX ⟨76, kn, kpOf 38, tb38⟩ (lp Tryz.f38 0) st k = ob (normSt kn (some [2, 3, 46, 47]) st) fun st0 => lpN ⟨76, kn, kpOf 38, tb38⟩ (lp Tryz.f38 0) st0 k := lpX_norm (by kernel_rfl) (by kernel_rfl)
theorem lq53_0 {R : Type} {kn : Nat} {st : St} {k : K R} : lpX ⟨29, kn, kpOf 53, tb53⟩ (lp Tryz.f53 0) st k = ob (normSt kn (some [1, 2, 14, 15, 16]) st) fun st0 => lpN ⟨29, kn, kpOf 53, tb53⟩ (lp Tryz.f53 0) st0 k := lpX_norm (by kernel_rfl) (by kernel_rfl)
theorem lq59_0 {R : Type} {kn : Nat} {st : St} {k : K R} : lpX ⟨26, kn, kpOf 59, tb59⟩ (lp Tryz.f59 0) st k = ob (normSt kn (some [0, 1, 12, 13]) st) fun st0 => lpN ⟨26, kn, kpOf 59, tb59⟩ (lp Tryz.f59 0) st0 k := lpX_norm (by kernel_rfl) (by kernel_rfl)
theorem lq65_0 {R : Type} {kn : Nat} {st : St} {k : K R} : lpX ⟨32, kn, kpOf 65, noTab⟩ (lp Tryz.f65 0) st k = ob (normSt kn (some [1, 2, 15, 16, 17]) st) fun st0 => lpN ⟨32, kn, kpOf 65, noTab⟩ (lp Tryz.f65 0) st0 k := lpX_norm (by kernel_rfl) (by kernel_rfl)
theorem lq76_0 {R : Type} {kn : Nat} {st : St} {k : K R} : lpX ⟨29, kn, kpOf 76, tb76⟩ (lp Tryz.f76 0) st k = ob (normSt kn (some [1, 2, 14, 15, 16]) st) fun st0 => lpN ⟨29, kn, kpOf 76, tb76⟩ (lp Tryz.f76 0) st0 k := lpX_norm (by kernel_rfl) (by kernel_rfl)
theorem lq97_0 {R : Type} {kn : Nat} {st : St} {k : K R} : lpX ⟨23, kn, kpOf 97, noTab⟩ (lp Tryz.f97 0) st k = ob (normSt kn (some [0, 5, 6, 7]) st) fun st0 => lpN ⟨23, kn, kpOf 97, noTab⟩ (lp Tryz.f97 0) st0 k := lpX_norm (by kernel_rfl) (by kernel_rfl)
theorem lq197_0 {R : Type} {kn : Nat} {st : St} {k : K R} : lpX ⟨24, kn, kpOf 197, noTab⟩ (lp Tryz.f197 0) st k = ob (normSt kn (some [0, 5, 10, 11]) st) fun st0 => lpN ⟨24, kn, kpOf 197, noTab⟩ (lp Tryz.f197 0) st0 k := lpX_norm (by kernel_rfl) (by kernel_rfl)
theorem lq198_0 {R : Type} {kn : Nat} {st : St} {k : K R} : lpX ⟨22, kn, kpOf 198, noTab⟩ (lp Tryz.f198 0) st k = ob (normSt kn (some [3, 6, 7, 8]) st) fun st0 => lpN ⟨22, kn, kpOf 198, noTab⟩ (lp Tryz.f198 0) st0 k := lpX_norm (by kernel_rfl) (by kernel_rfl)
theorem lq199_0 {R : Type} {kn : Nat} {st : St} {k : K R} : lpX ⟨26, kn, kpOf 199, tb199⟩ (lp Tryz.f199 0) st k = ob (normSt kn (some [0, 1, 12, 13]) st) fun st0 => lpN ⟨26, kn, kpOf 199, tb199⟩ (lp Tryz.f199 0) st0 k := lpX_norm (by kernel_rfl) (by kernel_rfl)
theorem lq268_0 {R : Type} {kn : Nat} {st : St} {k : K R} : lpX ⟨25, kn, kpOf 268, noTab⟩ (lp Tryz.f268 0) st k = ob (normSt kn (some [0, 3, 4]) st) fun st0 => lpN ⟨25, kn, kpOf 268, noTab⟩ (lp Tryz.f268 0) st0 k := lpX_norm (by kernel_rfl) (by kernel_rfl)
theorem lq296_0 {R : Type} {kn : Nat} {st : St} {k : K R} : lpX ⟨25, kn, kpOf 296, noTab⟩ (lp Tryz.f296 0) st k = ob (normSt kn (some [0, 3, 4]) st) fun st0 => lpN ⟨25, kn, kpOf 296, noTab⟩ (lp Tryz.f296 0) st0 k := lpX_norm (by kernel_rfl) (by kernel_rfl)
theorem lq312_0 {R : Type} {kn : Nat} {st : St} {k : K R} : lpX ⟨19, kn, kpOf 312, noTab⟩ (lp Tryz.f312 0) st k = ob (normSt kn (some [0, 1, 7, 8]) st) fun st0 => lpN ⟨19, kn, kpOf 312, noTab⟩ (lp Tryz.f312 0) st0 k := lpX_norm (by kernel_rfl) (by kernel_rfl)
/-! what is handed over with its objects -/
theorem beqN {a b : Nat} : Nat.beq a b = decide (a = b) := by
  by_cases h : a = b
  · subst h; simp
  · cases hb : Nat.beq a b with
    | true => exact absurd (Nat.eq_of_beq_eq_true hb) h
    | false => simp [h]
def rcK (hp : Hp) (n b : Nat) (todo seen : List Nat) (o : Option Obj') : List Nat := match o with
  | some o => reach hp n (keysO o ++ todo) (seen ++ [b])
  | none => reach hp n todo (seen ++ [b])
theorem rcK_congr {hp : Hp} {n b : Nat} {todo seen : List Nat} {o o' : Option Obj'} (h : o = o') : rcK hp n b todo seen o = rcK hp n b todo seen o' := by rw [h]
theorem rcK_some {hp : Hp} {n b : Nat} {todo seen : List Nat} {o : Obj'} : rcK hp n b todo seen (some o) = reach hp n (keysO o ++ todo) (seen ++ [b]) := rfl
theorem reach_z {hp : Hp} {n : Nat} {seen : List Nat} : reach hp (n + 1) [] seen = seen := rfl
theorem reach_s {hp : Hp} {n b : Nat} {todo seen : List Nat} : reach hp (n + 1) (b :: todo) seen = sel (hasN b seen) (reach hp n todo seen) (rcK hp n b todo seen (look b hp)) := by
  conv => lhs; unfold reach
  have e : ∀ l : List Nat, l.any (Nat.beq b) = hasN b l := by
    intro l
    induction l with
    | nil => rfl
    | cons c l ih => simp only [List.any_cons, hasN, ih]
  rw [e]
  cases hasN b seen with
  | true => rfl
  | false =>
    simp only [Bool.false_eq_true, if_false, sel, rcK]
    cases look b hp <;> rfl
theorem kO_var {T : Nat} {cs : List AV} : keysO (.var T cs) = keysL cs := rfl
theorem kO_arr {T n : Nat} {es : List (List AV)} : keysO (.arr T n es) = keysE es := rfl
theorem kO_dead : keysO .dead = [] := rfl
theorem idx_n {b i : Nat} : idx b [] i = none := rfl
theorem idx_c {b c i : Nat} {r : List Nat} : idx b (c :: r) i = if b = c then some i else idx b r (i + 1) := by
  conv => lhs; unfold idx
  rw [beqN]
  by_cases h : b = c
  · simp [h]
  · simp [h]
theorem rn_ptr {ρ : Nat → Option Nat} {b o : Nat} : ren ρ (.ptr b o) = ob (ρ b) fun b => some (.ptr b o) := by
  show (ρ b).map _ = _
  cases ρ b <;> rfl
theorem rn_rp {ρ : Nat → Option Nat} {b i o : Nat} : ren ρ (.rp b i o) = ob (ρ b) fun b => some (.rp b i o) := by
  show (ρ b).map _ = _
  cases ρ b <;> rfl
theorem rn_row {ρ : Nat → Option Nat} {b i o : Nat} : ren ρ (.row b i o) = ob (ρ b) fun b => some (.row b i o) := by
  show (ρ b).map _ = _
  cases ρ b <;> rfl
theorem rn_mp {ρ : Nat → Option Nat} {b : Nat} : ren ρ (.mp b) = ob (ρ b) fun b => some (.mp b) := by
  show (ρ b).map _ = _
  cases ρ b <;> rfl
theorem rn_fn {ρ : Nat → Option Nat} {f : Nat} {cs : List AV} : ren ρ (.fn f cs) = ob (renL ρ cs) fun l => some (.fn f l) := by
  show (renL ρ cs).map _ = _
  cases renL ρ cs <;> rfl
theorem rn_agg {ρ : Nat → Option Nat} {cs : List AV} : ren ρ (.agg cs) = ob (renL ρ cs) fun l => some (.agg l) := by
  show (renL ρ cs).map _ = _
  cases renL ρ cs <;> rfl
theorem rn_tup {ρ : Nat → Option Nat} {cs : List AV} : ren ρ (.tup cs) = ob (renL ρ cs) fun l => some (.tup l) := by
  show (renL ρ cs).map _ = _
  cases renL ρ cs <;> rfl
theorem rn_ifc {ρ : Nat → Option Nat} {t : Nat} {v : AV} : ren ρ (.ifc t v) = ob (ren ρ v) fun l => some (.ifc t l) := by
  show (ren ρ v).map _ = _
  cases ren ρ v <;> rfl
theorem rn_int {ρ : Nat → Option Nat} {k : IntKind} {n : Int} : ren ρ (.int k n) = some (.int k n) := rfl
theorem rn_bool {ρ : Nat → Option Nat} {b : Bool} : ren ρ (.bool b) = some (.bool b) := rfl
theorem rn_str {ρ : Nat → Option Nat} {s : List UInt8} : ren ρ (.str s) = some (.str s) := rfl
theorem rn_sl {ρ : Nat → Option Nat} {n : Nat} {es : List (List AV)} : ren ρ (.sl n es) = some (.sl n es) := rfl
theorem rn_nils {ρ : Nat → Option Nat} : ren ρ .nils = some .nils := rfl
theorem rn_nilp {ρ : Nat → Option Nat} : ren ρ .nilp = some .nilp := rfl
theorem rn_nilfn {ρ : Nat → Option Nat} : ren ρ .nilfn = some .nilfn := rfl
theorem rn_nilif {ρ : Nat → Option Nat} : ren ρ .nilif = some .nilif := rfl
theorem rn_ep {ρ : Nat → Option Nat} {cs : List AV} : ren ρ (.ep cs) = some (.ep cs) := rfl
theorem rn_undef {ρ : Nat → Option Nat} : ren ρ .undef = some .undef := rfl
theorem rL_nil {ρ : Nat → Option Nat} : renL ρ [] = some [] := rfl
theorem rL_cons {ρ : Nat → Option Nat} {x : AV} {xs : List AV} : renL ρ (x :: xs) = ob (ren ρ x) fun y => ob (renL ρ xs) fun ys => some (y :: ys) := by
  show (match ren ρ x, renL ρ xs with | some y, some ys => some (y :: ys) | _, _ => none) = _
  cases ren ρ x with
  | none => rfl
  | some y => cases renL ρ xs <;> rfl
theorem rE_pure {ρ : Nat → Option Nat} : ∀ {es : List (List AV)}, keysE es = [] → renE ρ es = some es
  | [], _ => rfl
  | e :: es, h => by
    simp only [keysE, List.append_eq_nil_iff] at h
    show (match renL ρ e, renE ρ es with | some y, some ys => some (y :: ys) | _, _ => none) = _
    rw [renL_pure ρ e h.1, rE_pure h.2]
theorem rO_var {ρ : Nat → Option Nat} {T : Nat} {cs : List AV} : renO ρ (.var T cs) = ob (renL ρ cs) fun l => some (.var T l) := by
  show (renL ρ cs).map _ = _
  cases renL ρ cs <;> rfl
theorem rO_arr {ρ : Nat → Option Nat} {T n : Nat} {es : List (List AV)} : renO ρ (.arr T n es) = ob (renE ρ es) fun l => some (.arr T n l) := by
  show (renE ρ es).map _ = _
  cases renE ρ es <;> rfl
theorem rO_dead {ρ : Nat → Option Nat} : renO ρ .dead = some .dead := rfl
theorem oO_nil {hp : Hp} {ρ : Nat → Option Nat} : objsOf hp ρ [] = some [] := rfl
theorem oO_cons {hp : Hp} {ρ : Nat → Option Nat} {b : Nat} {r : List Nat} : objsOf hp ρ (b :: r) = ob (look b hp) fun o => ob (renO ρ o) fun o => ob (objsOf hp ρ r) fun l => some (o :: l) := by
  conv => lhs; unfold objsOf
  cases look b hp with
  | none => rfl
  | some o =>
    simp only [Option.bind_some, ob_some]
    cases renO ρ o with
    | none => rfl
    | some o => cases objsOf hp ρ r <;> rfl
def lvB (k : Nat) (hp : Hp) (r : AV) (keys : List Nat) : Option (AV × List Obj') := sel (keys.take k == List.range k) (ob (ren (fun b => idx b keys 0) r) fun r' => ob (objsOf hp (fun b => idx b keys 0) keys) fun objs => some (r', objs)) none
theorem lvB_congr {k : Nat} {hp : Hp} {r : AV} {ks ks' : List Nat} (h : ks = ks') : lvB k hp r ks = lvB k hp r ks' := by rw [h]
theorem lvB_cons {k : Nat} {hp : Hp} {r : AV} {b : Nat} {ks : List Nat} : lvB k hp r (b :: ks) = sel ((b :: ks).take k == List.range k) (ob (ren (fun b' => idx b' (b :: ks) 0) r) fun r' => ob (objsOf hp (fun b' => idx b' (b :: ks) 0) (b :: ks)) fun objs => some (r', objs)) none := rfl
theorem leave_lvB {k : Nat} {hp : Hp} {r : AV} : leave k hp r = lvB k hp r (reach hp 200 (List.range k ++ keysAV r) []) := by
  simp only [leave, lvB]
  generalize reach hp 200 (List.range k ++ keysAV r) [] = keys
  cases (keys.take k == List.range k) with
  | false => rfl
  | true =>
    simp only [if_true, sel]
    cases ren (fun b => idx b keys 0) r with
    | none => rfl
    | some r' => cases objsOf hp (fun b => idx b keys 0) keys <;> rfl
theorem bk_eq {keys : List Nat} {base i : Nat} : back keys base i = sel (decide (i < keys.length)) (keys[i]?) (sel (decide (i - keys.length < 64)) (some (base + (i - keys.length))) none) := by
  unfold back
  by_cases h : i < keys.length
  · simp only [h, if_true, decide_true, sel]
  · simp only [h, if_false, decide_false, sel]
    by_cases h2 : i - keys.length < 64
    · simp only [h2, if_true, decide_true]
    · simp only [h2, if_false, decide_false]
theorem up_nil {keys : List Nat} {base i : Nat} : upsOf keys base i [] = some [] := rfl
theorem up_cons {keys : List Nat} {base i : Nat} {o : Obj'} {r : List Obj'} : upsOf keys base i (o :: r) = ob (back keys base i) fun b => ob (renO (back keys base) o) fun o => ob (upsOf keys base (i + 1) r) fun l => some ((b, o) :: l) := by
  conv => lhs; unfold upsOf
  cases back keys base i with
  | none => rfl
  | some b =>
    simp only [ob_some]
    cases renO (back keys base) o with
    | none => rfl
    | some o => cases upsOf keys base (i + 1) r <;> rfl
def crK (keys : List Nat) (base : Nat) (q : Option (AE × List Obj')) : Option (AE × Hp) := match q with
  | some (.ret r, objs') => ob (ren (back keys base) r) fun v => ob (upsOf keys base 0 objs') fun up => sel (decide (keys.length ≤ objs'.length)) (some (.ret v, up)) none
  | some (.pan r, objs') => ob (ren (back keys base) r) fun v => ob (upsOf keys base 0 objs') fun up => sel (decide (keys.length ≤ objs'.length)) (some (.pan v, up)) none
  | none => none
theorem crK_congr {keys : List Nat} {base : Nat} {q q' : Option (AE × List Obj')} (h : q = q') : crK keys base q = crK keys base q' := by rw [h]
theorem crK_ret {keys : List Nat} {base : Nat} {r : AV} {objs' : List Obj'} : crK keys base (some (.ret r, objs')) = ob (ren (back keys base) r) fun v => ob (upsOf keys base 0 objs') fun up => sel (decide (keys.length ≤ objs'.length)) (some (.ret v, up)) none := rfl
theorem crK_pan {keys : List Nat} {base : Nat} {r : AV} {objs' : List Obj'} : crK keys base (some (.pan r, objs')) = ob (ren (back keys base) r) fun v => ob (upsOf keys base 0 objs') fun up => sel (decide (keys.length ≤ objs'.length)) (some (.pan v, up)) none := rfl
noncomputable def cdB (base f : Nat) (args : List AV) (hp : Hp) (keys : List Nat) : Option (AE × Hp) := ob (renL (fun b => idx b keys 0) args) fun args' => ob (objsOf hp (fun b => idx b keys 0) keys) fun objs => crK keys base (evW f args' objs)
theorem cdB_congr {base f : Nat} {args : List AV} {hp : Hp} {ks ks' : List Nat} (h : ks = ks') : cdB base f args hp ks = cdB base f args hp ks' := by rw [h]
theorem cdB_cons {base f : Nat} {args : List AV} {hp : Hp} {b : Nat} {ks : List Nat} : cdB base f args hp (b :: ks) = ob (renL (fun b' => idx b' (b :: ks) 0) args) fun args' => ob (objsOf hp (fun b' => idx b' (b :: ks) 0) (b :: ks)) fun objs => crK (b :: ks) base (evW f args' objs) := rfl
theorem callD_cdB {base f : Nat} {args : List AV} {hp : Hp} : callD evW base f args hp = cdB base f args hp (reach hp 200 (keysL args) []) := by
  simp only [callD, cdB]
  generalize reach hp 200 (keysL args) [] = keys
  cases renL (fun b => idx b keys 0) args with
  | none => rfl
  | some args' =>
    simp only [ob_some]
    cases objsOf hp (fun b => idx b keys 0) keys with
    | none => rfl
    | some objs =>
      simp only [ob_some]
      cases evW f args' objs with
      | none => rfl
      | some q =>
        obtain ⟨ae, objs'⟩ := q
        cases ae with
        | ret r =>
          simp only [crK]
          cases ren (back keys base) r with
          | none => rfl
          | some v =>
            simp only [ob_some]
            cases upsOf keys base 0 objs' with
            | none => rfl
            | some up =>
              simp only [ob_some]
              by_cases h : keys.length ≤ objs'.length
              · simp only [h, if_true, decide_true, sel]
              · simp only [h, if_false, decide_false, sel]
        | pan r =>
          simp only [crK]
          cases ren (back keys base) r with
          | none => rfl
          | some v =>
            simp only [ob_some]
            cases upsOf keys base 0 objs' with
            | none => rfl
            | some up =>
              simp only [ob_some]
              by_cases h : keys.length ≤ objs'.length
              · simp only [h, if_true, decide_true, sel]
              · simp only [h, if_false, decide_false, sel]
theorem crs_ret {base : Nat} {r : AV} {o : Obj'} {objs' : List Obj'} : cres base (some (.ret r, o :: objs')) = ob (ren (back [] base) r) fun v => ob (upsOf [] base 0 (o :: objs')) fun up => some (.ret v, up) := by
  simp only [cres]
  cases ren (back [] base) r with
  | none => rfl
  | some v => cases upsOf [] base 0 (o :: objs') <;> rfl
theorem crs_pan {base : Nat} {r : AV} {o : Obj'} {objs' : List Obj'} : cres base (some (.pan r, o :: objs')) = ob (ren (back [] base) r) fun v => ob (upsOf [] base 0 (o :: objs')) fun up => some (.pan v, up) := by
  simp only [cres]
  cases ren (back [] base) r with
  | none => rfl
  | some v => cases upsOf [] base 0 (o :: objs') <;> rfl
theorem lvK_lvB {kn : Nat} {ss : List (List (Option Nat))} {hp : Hp} {v : AV} : lvK kn ss hp v = ob (leave kn hp v) fun q => some (.ret (canR ss q.1), q.2) := by
  unfold lvK
  cases leave kn hp v <;> rfl
theorem lvP_lvB {kn : Nat} {hp : Hp} {v : AV} : lvP kn hp v = ob (leave kn hp v) fun q => some (.pan q.1, q.2) := by
  unfold lvP
  cases leave kn hp v <;> rfl
theorem rng0 : List.range 0 = [] := rfl
theorem rng1 : List.range 1 = [0] := rfl
theorem rng2 : List.range 2 = [0, 1] := rfl
theorem rng3 : List.range 3 = [0, 1, 2] := rfl
theorem beq_nn : (([] : List Nat) == []) = true := rfl
theorem beq_cc {a b : Nat} {r s : List Nat} : ((a :: r) == (b :: s)) = (decide (a = b) && (r == s)) := by
  show (a == b && r == s) = _
  rw [show (a == b) = decide (a = b) from rfl]
theorem tk_z {l : List Nat} : l.take 0 = [] := rfl
theorem tk_c {a n : Nat} {l : List Nat} : (a :: l).take (n + 1) = a :: l.take n := rfl
theorem map_set8 {xs : List Int} {i : Nat} {c : Int} : (xs.map fun b => [AV.int .u8 b]).set i [AV.int .u8 c] = (xs.set i c).map fun b => [AV.int .u8 b] := by
  rw [List.map_set]
/-! data -/
def bitsA (bs : List Int) : AV := .sl 1 (bs.map fun b => [.int .u8 b])
theorem bitsA_get {bs : List Int} {i : Nat} : (bs.map fun b => [AV.int .u8 b])[i]? = (bs[i]?).map fun b => [AV.int .u8 b] := List.getElem?_map
theorem wrap_i64 {z : Int} (h1 : -9223372036854775808 ≤ z) (h2 : z < 9223372036854775808) : IntKind.i64.wrap z = z := by
  simp [IntKind.wrap, IntKind.bits, IntKind.signed]
  omega
theorem wrap_succ {i : Nat} (h : i < 4611686018427387904) : IntKind.i64.wrap ((i : Int) + 1) = ((i + 1 : Nat) : Int) := by
  rw [wrap_i64 (by omega) (by omega)]
  rfl
theorem nat_le {n : Nat} : decide ((0 : Int) ≤ (n : Int)) = true := by simp
theorem toNat_cast {n : Nat} : ((n : Nat) : Int).toNat = n := Int.toNat_natCast n
theorem map_some' {A B : Type} {f : A → B} {a : A} : Option.map f (some a) = some (f a) := rfl
theorem map_none' {A B : Type} {f : A → B} : Option.map f (none : Option A) = none := rfl
theorem kA_bits {bs : List Int} : keysAV (bitsA bs) = [] := rfl
theorem cC_bits {n : Nat} {bs : List Int} {ss : List (Option Nat)} {xs : List AV} : canCs (some n :: ss) (bitsA bs :: xs) = bitsA bs :: canCs ss xs := rfl
theorem cV_bits {n : Nat} {bs : List Int} {ss : List (Option Nat)} : canV (some n :: ss) (bitsA bs) = bitsA bs := rfl
theorem lnS_bits {bs : List Int} : lnS (bitsA bs) = some (.int .i64 (bs.length : Nat)) := by
  show some (AV.int .i64 ((bs.map fun b => [AV.int .u8 b]).length : Nat)) = _
  rw [List.length_map]
theorem ce_bits {bs : List Int} : cellsOf (bitsA bs) = some [bitsA bs] := rfl
theorem rn_bits {ρ : Nat → Option Nat} {bs : List Int} : ren ρ (bitsA bs) = some (bitsA bs) := rfl
theorem sA_bits {b sz : Nat} {es : List (List AV)} {bs : List Int} : subAV b sz es (bitsA bs) = bitsA bs := rfl
theorem eo_bits {hp : Hp} {bs : List Int} : elemsOf hp 1 (bitsA bs) = some (bs.map fun b => [.int .u8 b]) := rfl
theorem rep8 {n : Nat} {b : Int} : List.replicate n [AV.int .u8 b] = (List.replicate n b).map fun b => [.int .u8 b] := by rw [List.map_replicate]
theorem cast0 : ((0 : Nat) : Int) = 0 := rfl
theorem cast1 : ((1 : Nat) : Int) = 1 := rfl
theorem cast2 : ((2 : Nat) : Int) = 2 := rfl
theorem cast3 : ((3 : Nat) : Int) = 3 := rfl
theorem cast4 : ((4 : Nat) : Int) = 4 := rfl
theorem cast5 : ((5 : Nat) : Int) = 5 := rfl
theorem u8b {a b : UInt8} : (a == b) = decide (a.toNat = b.toNat) := by
  by_cases h : a = b
  · subst h; simp
  · have : a.toNat ≠ b.toNat := fun e => h (UInt8.toNat_inj.1 e)
    rw [decide_eq_false this]
    simpa using h
theorem bs_nn : (([] : List UInt8) == []) = true := rfl
theorem bs_nc {b : UInt8} {s : List UInt8} : (([] : List UInt8) == b :: s) = false := rfl
theorem bs_cn {b : UInt8} {s : List UInt8} : (b :: s == ([] : List UInt8)) = false := rfl
theorem bs_cc {a b : UInt8} {r s : List UInt8} : (a :: r == b :: s) = ((a == b) && (r == s)) := rfl
theorem wr0 : IntKind.i64.wrap 0 = 0 := by decide
theorem wr1 : IntKind.i64.wrap 1 = 1 := by decide
theorem wr2 : IntKind.i64.wrap 2 = 2 := by decide
theorem wr3 : IntKind.i64.wrap 3 = 3 := by decide
theorem wr4 : IntKind.i64.wrap 4 = 4 := by decide
theorem wr5 : IntKind.i64.wrap 5 = 5 := by decide
theorem wr6 : IntKind.i64.wrap 6 = 6 := by decide
theorem wr7 : IntKind.i64.wrap 7 = 7 := by decide
theorem wr8 : IntKind.i64.wrap 8 = 8 := by decide
/-! what an operation looks at -/
def kTo (o : Option AV) (r : List Nat) : List Nat := match o with
  | some v => keyTop v ++ r
  | none => r
theorem kTo_congr {o o' : Option AV} {r : List Nat} (h : o = o') : kTo o r = kTo o' r := by rw [h]
theorem kTo_some {v : AV} {r : List Nat} : kTo (some v) r = keyTop v ++ r := rfl
theorem kTo_none {r : List Nat} : kTo none r = r := rfl
def rkL (fr : Fr) : List Operand → List Nat
  | [] => []
  | x :: r => kTo (opv fr x) (rkL fr r)
theorem rkL_nil {fr : Fr} : rkL fr [] = [] := rfl
theorem rkL_cons {fr : Fr} {x : Operand} {r : List Operand} : rkL fr (x :: r) = kTo (opv fr x) (rkL fr r) := rfl
theorem rkL_eq {fr : Fr} : ∀ (l : List Operand), (l.flatMap fun x => match opv fr x with | some v => keyTop v | none => []) = rkL fr l
  | [] => rfl
  | x :: r => by
    rw [List.flatMap_cons, rkL_eq r]
    simp only [rkL, kTo]
    cases opv fr x <;> rfl
section
variable {dst : Option Nat} {ty : TypeId} {pos : String} {af : Array Edge} {gd : Option (Nat × Bool)} {fr : Fr} {hp : Hp}
theorem rk_move {x : Operand} : rkD ⟨dst, .move x, ty, pos, af, gd⟩ fr hp = rkL fr [x] := rkL_eq _
theorem rk_assign {x : Operand} : rkD ⟨dst, .assign x, ty, pos, af, gd⟩ fr hp = rkL fr [x] := rkL_eq _
theorem rk_pick {a b c : Operand} : rkD ⟨dst, .pick a b c, ty, pos, af, gd⟩ fr hp = rkL fr [a, b, c] := rkL_eq _
theorem rk_alloc {T : TypeId} : rkD ⟨dst, .alloc T, ty, pos, af, gd⟩ fr hp = rkL fr [] := rkL_eq _
theorem rk_box {T : TypeId} {x : Operand} : rkD ⟨dst, .box T x, ty, pos, af, gd⟩ fr hp = rkL fr [x] := rkL_eq _
theorem rk_load {T : TypeId} {x : Operand} : rkD ⟨dst, .load T x, ty, pos, af, gd⟩ fr hp = rkL fr [x] := rkL_eq _
theorem rk_store {T : TypeId} {x y : Operand} : rkD ⟨dst, .store T x y, ty, pos, af, gd⟩ fr hp = rkL fr [x, y] := rkL_eq _
theorem rk_nilCheck {x : Operand} : rkD ⟨dst, .nilCheck x, ty, pos, af, gd⟩ fr hp = rkL fr [x] := rkL_eq _
theorem rk_binOp {p : BinOp} {T U : TypeId} {x y : Operand} : rkD ⟨dst, .binOp p T x y U, ty, pos, af, gd⟩ fr hp = rkL fr [x, y] := rkL_eq _
theorem rk_unOp {p : UnOp} {T : TypeId} {x : Operand} : rkD ⟨dst, .unOp p T x, ty, pos, af, gd⟩ fr hp = rkL fr [x] := rkL_eq _
theorem rk_convert {T U : TypeId} {x : Operand} : rkD ⟨dst, .convert T U x, ty, pos, af, gd⟩ fr hp = rkL fr [x] := rkL_eq _
theorem rk_makeInterface {T : TypeId} {x : Operand} : rkD ⟨dst, .makeInterface T x, ty, pos, af, gd⟩ fr hp = rkL fr [x] := rkL_eq _
theorem rk_fieldAddr {T : TypeId} {x : Operand} {n : Nat} : rkD ⟨dst, .fieldAddr T x n, ty, pos, af, gd⟩ fr hp = rkL fr [x] := rkL_eq _
theorem rk_field {T : TypeId} {x : Operand} {n : Nat} : rkD ⟨dst, .field T x n, ty, pos, af, gd⟩ fr hp = rkL fr [x] := rkL_eq _
theorem rk_indexAddr {T : TypeId} {x y : Operand} : rkD ⟨dst, .indexAddr T x y, ty, pos, af, gd⟩ fr hp = rkL fr [x, y] := rkL_eq _
theorem rk_index {T : TypeId} {x y : Operand} : rkD ⟨dst, .index T x y, ty, pos, af, gd⟩ fr hp = rkL fr [x, y] := rkL_eq _
theorem rk_extract {x : Operand} {n : Nat} : rkD ⟨dst, .extract x n, ty, pos, af, gd⟩ fr hp = rkL fr [x] := rkL_eq _
theorem rk_makeSlice {T : TypeId} {x y : Operand} : rkD ⟨dst, .makeSlice T x y, ty, pos, af, gd⟩ fr hp = rkL fr [x, y] := rkL_eq _
theorem rk_lookup {T : TypeId} {x y : Operand} {b : Bool} : rkD ⟨dst, .lookup T x y b, ty, pos, af, gd⟩ fr hp = rkL fr [x, y] := rkL_eq _
theorem rk_panic {x : Operand} : rkD ⟨dst, .panic x, ty, pos, af, gd⟩ fr hp = rkL fr [x] := rkL_eq _
theorem rk_blt {b : Builtin} {xs : Array Operand} {Ts : Array TypeId} : rkD ⟨dst, .call ⟨.builtin b, xs, Ts⟩, ty, pos, af, gd⟩ fr hp = rkL fr (#[] ++ xs).toList := rkL_eq _
theorem rk_slice {T : TypeId} {x : Operand} {lo hi mx : Option Operand} : rkD ⟨dst, .slice T x lo hi mx, ty, pos, af, gd⟩ fr hp = rkL fr (Op.slice T x lo hi mx).operands.toList := rkL_eq _
theorem rk_build {T : TypeId} {ps : Array (Nat × Operand)} : rkD ⟨dst, .build T ps, ty, pos, af, gd⟩ fr hp = rkL fr (Op.build T ps).operands.toList := rkL_eq _
theorem rk_buildSlice {T n : Nat} {ps : Array (Nat × Operand)} : rkD ⟨dst, .buildSlice T n ps, ty, pos, af, gd⟩ fr hp = rkL fr (Op.buildSlice T n ps).operands.toList := rkL_eq _
theorem rk_makeFunc {f : Fn} {a b : Array Operand} : rkD ⟨dst, .makeFunc f a b, ty, pos, af, gd⟩ fr hp = rkL fr (Op.makeFunc f a b).operands.toList := rkL_eq _
def rkC (hp : Hp) (q : Option (Nat × List AV)) (l : Option (List AV)) : List Nat := match q, l with
  | some (_, caps), some l => reach hp 200 (keysL (l ++ caps)) []
  | _, _ => []
theorem rkC_some {n : Nat} {caps l : List AV} : rkC hp (some (n, caps)) (some l) = reach hp 200 (keysL (l ++ caps)) [] := rfl
theorem rk_call {f : Operand} {xs : Array Operand} {Ts : Array TypeId} : rkD ⟨dst, .call ⟨.value f, xs, Ts⟩, ty, pos, af, gd⟩ fr hp = rkC hp (ob (opv fr f) clF) (argsD fr xs.toList) := by
  unfold rkD
  simp only [rkC]
  cases opv fr f with
  | none => rfl
  | some v =>
    cases v <;> try (cases argsD fr xs.toList <;> rfl)
end
theorem ops_build0 {T : TypeId} {l : List (Nat × Operand)} : (Op.build T l.toArray).operands.toList = l.map (·.2) := by simp [Op.operands]
theorem ops_bs0 {T n : Nat} {l : List (Nat × Operand)} : (Op.buildSlice T n l.toArray).operands.toList = l.map (·.2) := by simp [Op.operands]
theorem ops_sl0 {T : TypeId} {x : Operand} : (Op.slice T x none none none).operands.toList = [x] := rfl
theorem ops_sl1 {T : TypeId} {x y : Operand} : (Op.slice T x (some y) none none).operands.toList = [x, y] := rfl
theorem ops_sl2 {T : TypeId} {x y : Operand} : (Op.slice T x none (some y) none).operands.toList = [x, y] := rfl
theorem ops_sl3 {T : TypeId} {x y z : Operand} : (Op.slice T x (some y) (some z) none).operands.toList = [x, y, z] := rfl
theorem ops_mf {f : Nat} {l : List Operand} : (Op.makeFunc (.func f) #[] l.toArray).operands.toList = l := by simp [Op.operands]
theorem arr_nil_app {l : List Operand} : ((#[] : Array Operand) ++ l.toArray).toList = l := by simp
theorem map_snd_c {a : Nat} {x : Operand} {l : List (Nat × Operand)} : ((a, x) :: l).map (·.2) = x :: l.map (·.2) := rfl
theorem map_snd_n : ([] : List (Nat × Operand)).map (·.2) = [] := rfl
theorem kt_ptr {b o : Nat} : keyTop (.ptr b o) = [b] := rfl
theorem kt_rp {b i o : Nat} : keyTop (.rp b i o) = [b] := rfl
theorem kt_row {b i o : Nat} : keyTop (.row b i o) = [b] := rfl
theorem kt_mp {b : Nat} : keyTop (.mp b) = [b] := rfl
theorem kt_int {k : IntKind} {n : Int} : keyTop (.int k n) = [] := rfl
theorem kt_bool {b : Bool} : keyTop (.bool b) = [] := rfl
theorem kt_str {s : List UInt8} : keyTop (.str s) = [] := rfl
theorem kt_sl {n : Nat} {es : List (List AV)} : keyTop (.sl n es) = [] := rfl
theorem kt_bits {bs : List Int} : keyTop (bitsA bs) = [] := rfl
theorem kt_agg {cs : List AV} : keyTop (.agg cs) = [] := rfl
theorem kt_tup {cs : List AV} : keyTop (.tup cs) = [] := rfl
theorem kt_fn {f : Nat} {cs : List AV} : keyTop (.fn f cs) = [] := rfl
theorem kt_ifc {t : Nat} {v : AV} : keyTop (.ifc t v) = [] := rfl
theorem kt_ep {cs : List AV} : keyTop (.ep cs) = [] := rfl
theorem kt_nils : keyTop .nils = [] := rfl
theorem kt_nilp : keyTop .nilp = [] := rfl
theorem kt_nilfn : keyTop .nilfn = [] := rfl
theorem kt_undef : keyTop .undef = [] := rfl
end Go.Proofs.YtdhcgankmhpgeaaGreat.M
/- The lemmas of a walk, tied together: simp takes a conjunction apart. -/
namespace Go.Proofs.YtdhcgankmhpgeaaGreat.M
open Go
set_option linter.unusedVariables false
set_option maxRecDepth 100000
theorem wk0 : type_of% (And.intro (And.intro (And.intro (And.intro (And.intro (@ex_seq) (@ex_block)) (And.intro (@ex_loop) (And.intro (@ex_cond) (@ex_region)))) (And.intro (And.intro (@ex_skip) (@ex_label)) (And.intro (@ex_exit) (And.intro (@ex_ret) (@kSeq_normal))))) (And.intro (And.intro (And.intro (@kSeq_exit) (@kSeq_ret)) (And.intro (@kSeq_pan) (And.intro (@kBlk_normal) (@kBlk_exit)))) (And.intro (And.intro (@kBlk_ret) (@kBlk_pan)) (And.intro (@kLoop_normal) (And.intro (@kLoop_exit) (@kLoop_ret)))))) (And.intro (And.intro (And.intro (And.intro (@kLoop_pan) (@reg_text)) (And.intro (@reg_draw) (And.intro (@dlT_go) (@rl_nil)))) (And.intro (And.intro (@rl_cons) (@rl_ps)) (And.intro (@rl_pn) (And.intro (@rl_ps1) (@rl_pn1))))) (And.intro (And.intro (And.intro (@rl_ps2) (@rl_pn2)) (And.intro (@rl_ps3) (And.intro (@rl_pn3) (@rl_dfs)))) (And.intro (And.intro (@rl_dfn) (@dl_ps)) (And.intro (@dl_pn) (And.intro (@dl_ps1) (@dl_pn1))))))) := And.intro (And.intro (And.intro (And.intro (And.intro (@ex_seq) (@ex_block)) (And.intro (@ex_loop) (And.intro (@ex_cond) (@ex_region)))) (And.intro (And.intro (@ex_skip) (@ex_label)) (And.intro (@ex_exit) (And.intro (@ex_ret) (@kSeq_normal))))) (And.intro (And.intro (And.intro (@kSeq_exit) (@kSeq_ret)) (And.intro (@kSeq_pan) (And.intro (@kBlk_normal) (@kBlk_exit)))) (And.intro (And.intro (@kBlk_ret) (@kBlk_pan)) (And.intro (@kLoop_normal) (And.intro (@kLoop_exit) (@kLoop_ret)))))) (And.intro (And.intro (And.intro (And.intro (@kLoop_pan) (@reg_text)) (And.intro (@reg_draw) (And.intro (@dlT_go) (@rl_nil)))) (And.intro (And.intro (@rl_cons) (@rl_ps)) (And.intro (@rl_pn) (And.intro (@rl_ps1) (@rl_pn1))))) (And.intro (And.intro (And.intro (@rl_ps2) (@rl_pn2)) (And.intro (@rl_ps3) (And.intro (@rl_pn3) (@rl_dfs)))) (And.intro (And.intro (@rl_dfn) (@dl_ps)) (And.intro (@dl_pn) (And.intro (@dl_ps1) (@dl_pn1))))))
theorem wk1 : type_of% (And.intro (And.intro (And.intro (And.intro (And.intro (@dl_ps2) (@dl_pn2)) (And.intro (@dl_ps3) (And.intro (@dl_pn3) (@dl_nil)))) (And.intro (And.intro (@dl_end) (@dl_live)) (And.intro (@dl_livec) (And.intro (@dl_pan) (@gck_nil))))) (And.intro (And.intro (And.intro (@gck_own) (@gck_true)) (And.intro (@iff2_true) (And.intro (@iff2_false) (@sel_true)))) (And.intro (And.intro (@sel_false) (@stp_guard)) (And.intro (@st_move) (And.intro (@st_assign) (@st_pick)))))) (And.intro (And.intro (And.intro (And.intro (@st_binOp) (@st_unOp)) (And.intro (@st_convert) (And.intro (@st_build) (@st_load)))) (And.intro (And.intro (@st_nilCheck) (@st_fieldAddr)) (And.intro (@st_field) (And.intro (@st_indexAddr) (@st_index))))) (And.intro (And.intro (And.intro (@st_extract) (@st_makeInterface)) (And.intro (@st_makeFunc) (And.intro (@st_store) (@st_alloc)))) (And.intro (And.intro (@st_box) (@st_buildSlice)) (And.intro (@st_makeSlice) (And.intro (@st_slice2) (@st_lookup))))))) := And.intro (And.intro (And.intro (And.intro (And.intro (@dl_ps2) (@dl_pn2)) (And.intro (@dl_ps3) (And.intro (@dl_pn3) (@dl_nil)))) (And.intro (And.intro (@dl_end) (@dl_live)) (And.intro (@dl_livec) (And.intro (@dl_pan) (@gck_nil))))) (And.intro (And.intro (And.intro (@gck_own) (@gck_true)) (And.intro (@iff2_true) (And.intro (@iff2_false) (@sel_true)))) (And.intro (And.intro (@sel_false) (@stp_guard)) (And.intro (@st_move) (And.intro (@st_assign) (@st_pick)))))) (And.intro (And.intro (And.intro (And.intro (@st_binOp) (@st_unOp)) (And.intro (@st_convert) (And.intro (@st_build) (@st_load)))) (And.intro (And.intro (@st_nilCheck) (@st_fieldAddr)) (And.intro (@st_field) (And.intro (@st_indexAddr) (@st_index))))) (And.intro (And.intro (And.intro (@st_extract) (@st_makeInterface)) (And.intro (@st_makeFunc) (And.intro (@st_store) (@st_alloc)))) (And.intro (And.intro (@st_box) (@st_buildSlice)) (And.intro (@st_makeSlice) (And.intro (@st_slice2) (@st_lookup))))))
theorem wk2 : type_of% (And.intro (And.intro (And.intro (And.intro (And.intro (@st_makeMap) (@st_mapUpdate)) (And.intro (@st_len) (And.intro (@st_max) (@st_min)))) (And.intro (And.intro (@st_append) (@st_copy)) (And.intro (@st_call) (And.intro (@st_defer) (@st_panic))))) (And.intro (And.intro (And.intro (@br_true) (@br_false)) (And.intro (@br_not) (And.intro (@fin_ret) (@fin_normal)))) (And.intro (And.intro (@fin_pan) (@finK_ret)) (And.intro (@finK_normal) (And.intro (@finK_pan) (@cnd_bool)))))) (And.intro (And.intro (And.intro (And.intro (@gdK_t) (@gdK_f)) (And.intro (@gdK_u) (And.intro (@ob_some) (@ob2_some)))) (And.intro (And.intro (@pickD_bool) (@clF_fn)) (And.intro (@clK_ret) (And.intro (@clK_pan) (@panD_ifc))))) (And.intro (And.intro (And.intro (@look_k) (@opv_tmp)) (And.intro (@opv_func) (And.intro (@opv_int) (@opv_bool)))) (And.intro (And.intro (@opv_str) (@opv_nilp)) (And.intro (@opv_nils) (And.intro (@opv_nilfn) (@opv_nilif))))))) := And.intro (And.intro (And.intro (And.intro (And.intro (@st_makeMap) (@st_mapUpdate)) (And.intro (@st_len) (And.intro (@st_max) (@st_min)))) (And.intro (And.intro (@st_append) (@st_copy)) (And.intro (@st_call) (And.intro (@st_defer) (@st_panic))))) (And.intro (And.intro (And.intro (@br_true) (@br_false)) (And.intro (@br_not) (And.intro (@fin_ret) (@fin_normal)))) (And.intro (And.intro (@fin_pan) (@finK_ret)) (And.intro (@finK_normal) (And.intro (@finK_pan) (@cnd_bool)))))) (And.intro (And.intro (And.intro (And.intro (@gdK_t) (@gdK_f)) (And.intro (@gdK_u) (And.intro (@ob_some) (@ob2_some)))) (And.intro (And.intro (@pickD_bool) (@clF_fn)) (And.intro (@clK_ret) (And.intro (@clK_pan) (@panD_ifc))))) (And.intro (And.intro (And.intro (@look_k) (@opv_tmp)) (And.intro (@opv_func) (And.intro (@opv_int) (@opv_bool)))) (And.intro (And.intro (@opv_str) (@opv_nilp)) (And.intro (@opv_nils) (And.intro (@opv_nilfn) (@opv_nilif))))))
theorem wk3 : type_of% (And.intro (And.intro (And.intro (And.intro (And.intro (@opv_nilm) (@optV_none)) (And.intro (@optV_some) (And.intro (@pickF_nil) (@pickF_cons)))) (And.intro (And.intro (@pickS_mk) (@pkK_some)) (And.intro (@pkK_none) (And.intro (@frzTs_nil) (@bin_eql))))) (And.intro (And.intro (And.intro (@bin_neq) (@bin_lss)) (And.intro (@bin_leq) (And.intro (@bin_gtr) (@bin_geq)))) (And.intro (And.intro (@bin_add) (@bin_sub)) (And.intro (@bin_mul) (And.intro (@bin_and) (@bin_or)))))) (And.intro (And.intro (And.intro (And.intro (@bin_xor) (@bin_str_eql)) (And.intro (@bin_str_neq) (And.intro (@un_not) (@un_neg)))) (And.intro (And.intro (@extractD_tup) (@argsD_nil)) (And.intro (@argsD_cons) (And.intro (@partsD_nil) (@partsD_cons))))) (And.intro (And.intro (And.intro (@resV_nil) (@resV_tmp)) (And.intro (@resV_cell) (And.intro (@lvK_pure) (@lvP_pure)))) (And.intro (And.intro (@callD_nokeys) (@cres_ret)) (And.intro (@cres_pan) (And.intro (@nilD_ptr) (@nilD_rp))))))) := And.intro (And.intro (And.intro (And.intro (And.intro (@opv_nilm) (@optV_none)) (And.intro (@optV_some) (And.intro (@pickF_nil) (@pickF_cons)))) (And.intro (And.intro (@pickS_mk) (@pkK_some)) (And.intro (@pkK_none) (And.intro (@frzTs_nil) (@bin_eql))))) (And.intro (And.intro (And.intro (@bin_neq) (@bin_lss)) (And.intro (@bin_leq) (And.intro (@bin_gtr) (@bin_geq)))) (And.intro (And.intro (@bin_add) (@bin_sub)) (And.intro (@bin_mul) (And.intro (@bin_and) (@bin_or)))))) (And.intro (And.intro (And.intro (And.intro (@bin_xor) (@bin_str_eql)) (And.intro (@bin_str_neq) (And.intro (@un_not) (@un_neg)))) (And.intro (And.intro (@extractD_tup) (@argsD_nil)) (And.intro (@argsD_cons) (And.intro (@partsD_nil) (@partsD_cons))))) (And.intro (And.intro (And.intro (@resV_nil) (@resV_tmp)) (And.intro (@resV_cell) (And.intro (@lvK_pure) (@lvP_pure)))) (And.intro (And.intro (@callD_nokeys) (@cres_ret)) (And.intro (@cres_pan) (And.intro (@nilD_ptr) (@nilD_rp))))))
theorem wk4 : type_of% (And.intro (And.intro (And.intro (And.intro (And.intro (@nilD_ep) (@nilD_fn)) (And.intro (@List.append_nil.{0}) (And.intro (@List.nil_append.{0}) (@List.cons_append.{0})))) (And.intro (And.intro (@List.length_nil.{0}) (@List.length_cons.{0})) (And.intro (@List.getElem?_toArray.{0}) (And.intro (@List.getElem?_cons_zero.{0}) (@List.getElem?_cons_succ.{0}))))) (And.intro (And.intro (And.intro (@List.size_toArray.{0}) (@Option.bind_some.{0, 0})) (And.intro (@Option.getD_some.{0}) (And.intro (@Bool.not_true) (@Bool.not_false)))) (And.intro (And.intro (@Bool.not_not) (@num_nil)) (And.intro (@num_cons) (And.intro (@kL_nil) (@kL_cons)))))) (And.intro (And.intro (And.intro (And.intro (@kA_int) (@kA_bool)) (And.intro (@kA_str) (And.intro (@kA_sl) (@kA_nils)))) (And.intro (And.intro (@kA_nilp) (@kA_nilfn)) (And.intro (@kA_nilif) (And.intro (@kA_nilm) (@kA_ep))))) (And.intro (And.intro (And.intro (@kA_fn) (@kA_agg)) (And.intro (@kA_tup) (And.intro (@kA_ifc) (@kA_ptr)))) (And.intro (And.intro (@kA_rp) (@kA_row)) (And.intro (@kA_mp) (And.intro (@kA_undef) (@kT_nil))))))) := And.intro (And.intro (And.intro (And.intro (And.intro (@nilD_ep) (@nilD_fn)) (And.intro (@List.append_nil.{0}) (And.intro (@List.nil_append.{0}) (@List.cons_append.{0})))) (And.intro (And.intro (@List.length_nil.{0}) (@List.length_cons.{0})) (And.intro (@List.getElem?_toArray.{0}) (And.intro (@List.getElem?_cons_zero.{0}) (@List.getElem?_cons_succ.{0}))))) (And.intro (And.intro (And.intro (@List.size_toArray.{0}) (@Option.bind_some.{0, 0})) (And.intro (@Option.getD_some.{0}) (And.intro (@Bool.not_true) (@Bool.not_false)))) (And.intro (And.intro (@Bool.not_not) (@num_nil)) (And.intro (@num_cons) (And.intro (@kL_nil) (@kL_cons)))))) (And.intro (And.intro (And.intro (And.intro (@kA_int) (@kA_bool)) (And.intro (@kA_str) (And.intro (@kA_sl) (@kA_nils)))) (And.intro (And.intro (@kA_nilp) (@kA_nilfn)) (And.intro (@kA_nilif) (And.intro (@kA_nilm) (@kA_ep))))) (And.intro (And.intro (And.intro (@kA_fn) (@kA_agg)) (And.intro (@kA_tup) (And.intro (@kA_ifc) (@kA_ptr)))) (And.intro (And.intro (@kA_rp) (@kA_row)) (And.intro (@kA_mp) (And.intro (@kA_undef) (@kT_nil))))))
theorem wk5 : type_of% (And.intro (And.intro (And.intro (And.intro (And.intro (@kT_cons) (@kTK_some)) (And.intro (@frzTs_cons) (And.intro (@pack1) (@pack0)))) (And.intro (And.intro (@pack2) (@keysL2_nil)) (And.intro (@keysL2_cons) (And.intro (@hasN_nil) (@hasN_cons))))) (And.intro (And.intro (And.intro (@hasK_nil) (@hasK_cons)) (And.intro (@apL_nil) (And.intro (@apL_cons) (@findR_cons)))) (And.intro (And.intro (@apJ_some) (@apartK_mk)) (And.intro (@apU_nn) (And.intro (@apU_nc) (@apU_cn)))))) (And.intro (And.intro (And.intro (And.intro (@apU_cc) (@maskOf_nil)) (And.intro (@maskOf_some) (And.intro (@maskOf_none) (@hpL_nil)))) (And.intro (And.intro (@hpL_cons0) (@hpL_cons1)) (And.intro (@besL_nil) (And.intro (@besL_cons0) (@besL_cons1))))) (And.intro (And.intro (And.intro (@dPn_nil) (@dPn_cons)) (And.intro (@app_nil) (And.intro (@app_cons) (@Bool.true_and)))) (And.intro (And.intro (@Bool.and_true) (@tk_s)) (And.intro (@tk_0) (And.intro (@tk_t) (@pa_s))))))) := And.intro (And.intro (And.intro (And.intro (And.intro (@kT_cons) (@kTK_some)) (And.intro (@frzTs_cons) (And.intro (@pack1) (@pack0)))) (And.intro (And.intro (@pack2) (@keysL2_nil)) (And.intro (@keysL2_cons) (And.intro (@hasN_nil) (@hasN_cons))))) (And.intro (And.intro (And.intro (@hasK_nil) (@hasK_cons)) (And.intro (@apL_nil) (And.intro (@apL_cons) (@findR_cons)))) (And.intro (And.intro (@apJ_some) (@apartK_mk)) (And.intro (@apU_nn) (And.intro (@apU_nc) (@apU_cn)))))) (And.intro (And.intro (And.intro (And.intro (@apU_cc) (@maskOf_nil)) (And.intro (@maskOf_some) (And.intro (@maskOf_none) (@hpL_nil)))) (And.intro (And.intro (@hpL_cons0) (@hpL_cons1)) (And.intro (@besL_nil) (And.intro (@besL_cons0) (@besL_cons1))))) (And.intro (And.intro (And.intro (@dPn_nil) (@dPn_cons)) (And.intro (@app_nil) (And.intro (@app_cons) (@Bool.true_and)))) (And.intro (And.intro (@Bool.and_true) (@tk_s)) (And.intro (@tk_0) (And.intro (@tk_t) (@pa_s))))))
theorem wk6 : type_of% (And.intro (And.intro (And.intro (And.intro (And.intro (@pa_t) (@pa_0)) (And.intro (@oc_one) (And.intro (@oc_agg) (@ce_agg)))) (And.intro (And.intro (@ce_int) (@ce_bool)) (And.intro (@ce_str) (And.intro (@ce_sl) (@ce_nils))))) (And.intro (And.intro (And.intro (@ce_nilp) (@ce_nilfn)) (And.intro (@ce_nilif) (And.intro (@ce_nilm) (@ce_ep)))) (And.intro (And.intro (@ce_fn) (@ce_ifc)) (And.intro (@ce_ptr) (And.intro (@ce_rp) (@ce_row)))))) (And.intro (And.intro (And.intro (And.intro (@ce_mp) (@varC_var)) (And.intro (@arrC_arr) (And.intro (@ldP_ptr) (@ldP_rp)))) (And.intro (And.intro (@ldP_ep) (@varT_var)) (And.intro (@arrT_arr) (And.intro (@stP_ptr) (@stP_rp))))) (And.intro (And.intro (And.intro (@faP_ptr) (@faP_rp)) (And.intro (@faP_ep0) (And.intro (@faP_eps) (@flP_agg)))) (And.intro (And.intro (@lnS_sl) (@lnS_row)) (And.intro (@lnS_nils) (And.intro (@lnT_str) (@iaP_sl))))))) := And.intro (And.intro (And.intro (And.intro (And.intro (@pa_t) (@pa_0)) (And.intro (@oc_one) (And.intro (@oc_agg) (@ce_agg)))) (And.intro (And.intro (@ce_int) (@ce_bool)) (And.intro (@ce_str) (And.intro (@ce_sl) (@ce_nils))))) (And.intro (And.intro (And.intro (@ce_nilp) (@ce_nilfn)) (And.intro (@ce_nilif) (And.intro (@ce_nilm) (@ce_ep)))) (And.intro (And.intro (@ce_fn) (@ce_ifc)) (And.intro (@ce_ptr) (And.intro (@ce_rp) (@ce_row)))))) (And.intro (And.intro (And.intro (And.intro (@ce_mp) (@varC_var)) (And.intro (@arrC_arr) (And.intro (@ldP_ptr) (@ldP_rp)))) (And.intro (And.intro (@ldP_ep) (@varT_var)) (And.intro (@arrT_arr) (And.intro (@stP_ptr) (@stP_rp))))) (And.intro (And.intro (And.intro (@faP_ptr) (@faP_rp)) (And.intro (@faP_ep0) (And.intro (@faP_eps) (@flP_agg)))) (And.intro (And.intro (@lnS_sl) (@lnS_row)) (And.intro (@lnS_nils) (And.intro (@lnT_str) (@iaP_sl))))))
theorem wk7 : type_of% (And.intro (And.intro (And.intro (And.intro (And.intro (@iaP_row) (@cvP_int)) (And.intro (@fill_nil) (And.intro (@fill_cons) (@bsP_go)))) (And.intro (And.intro (@setAll_nil) (@setAll_cons)) (And.intro (@apP_nils) (And.intro (@apP_row) (@eo_nils))))) (And.intro (And.intro (And.intro (@eo_sl) (@eo_row)) (And.intro (@bd_none) (And.intro (@bd_some) (@cVs_nil)))) (And.intro (And.intro (@cVs_cons) (@cVs_end)) (And.intro (@cV_nil) (And.intro (@cV_agg) (@cV_nils)))))) (And.intro (And.intro (And.intro (And.intro (@cV_sl) (@cV_row)) (And.intro (@cC_nil) (And.intro (@cC_end) (@cC_none)))) (And.intro (And.intro (@cC_nils) (@cC_sl)) (And.intro (@cC_row) (And.intro (@cR_one) (@cR_two))))) (And.intro (And.intro (And.intro (@cR_nil) (@norm_some)) (And.intro (@looks_nil) (And.intro (@looks_cons) (@nmK_some)))) (And.intro (And.intro (@zipK_cons) (@zipK_nil)) (And.intro (@leave0) (And.intro (@frzK_z) (@frzK_cons))))))) := And.intro (And.intro (And.intro (And.intro (And.intro (@iaP_row) (@cvP_int)) (And.intro (@fill_nil) (And.intro (@fill_cons) (@bsP_go)))) (And.intro (And.intro (@setAll_nil) (@setAll_cons)) (And.intro (@apP_nils) (And.intro (@apP_row) (@eo_nils))))) (And.intro (And.intro (And.intro (@eo_sl) (@eo_row)) (And.intro (@bd_none) (And.intro (@bd_some) (@cVs_nil)))) (And.intro (And.intro (@cVs_cons) (@cVs_end)) (And.intro (@cV_nil) (And.intro (@cV_agg) (@cV_nils)))))) (And.intro (And.intro (And.intro (And.intro (@cV_sl) (@cV_row)) (And.intro (@cC_nil) (And.intro (@cC_end) (@cC_none)))) (And.intro (And.intro (@cC_nils) (@cC_sl)) (And.intro (@cC_row) (And.intro (@cR_one) (@cR_two))))) (And.intro (And.intro (And.intro (@cR_nil) (@norm_some)) (And.intro (@looks_nil) (And.intro (@looks_cons) (@nmK_some)))) (And.intro (And.intro (@zipK_cons) (@zipK_nil)) (And.intro (@leave0) (And.intro (@frzK_z) (@frzK_cons))))))
theorem wk8 : type_of% (And.intro (And.intro (And.intro (And.intro (And.intro (@fzO_var) (@fzO_dead)) (And.intro (@fzO_arr) (And.intro (@mapF_nil) (@mapF_cons)))) (And.intro (And.intro (@sA_row) (@sA_ptr)) (And.intro (@sA_agg) (And.intro (@sA_tup) (@sA_fn))))) (And.intro (And.intro (And.intro (@sA_int) (@sA_bool)) (And.intro (@sA_str) (And.intro (@sA_sl) (@sA_nils)))) (And.intro (And.intro (@sA_nilp) (@sA_nilfn)) (And.intro (@sA_undef) (And.intro (@sL_nil) (@sL_cons)))))) (And.intro (And.intro (And.intro (And.intro (@sO_var) (@sO_dead)) (And.intro (@sO_arr) (And.intro (@sD_nil) (@kE_nil)))) (And.intro (And.intro (@kE_cons) (@kE_u8)) (And.intro (@take_all) (And.intro (@rcK_some) (@reach_z))))) (And.intro (And.intro (And.intro (@reach_s) (@kO_var)) (And.intro (@kO_arr) (And.intro (@kO_dead) (@idx_n)))) (And.intro (And.intro (@idx_c) (@rn_ptr)) (And.intro (@rn_rp) (And.intro (@rn_row) (@rn_mp))))))) := And.intro (And.intro (And.intro (And.intro (And.intro (@fzO_var) (@fzO_dead)) (And.intro (@fzO_arr) (And.intro (@mapF_nil) (@mapF_cons)))) (And.intro (And.intro (@sA_row) (@sA_ptr)) (And.intro (@sA_agg) (And.intro (@sA_tup) (@sA_fn))))) (And.intro (And.intro (And.intro (@sA_int) (@sA_bool)) (And.intro (@sA_str) (And.intro (@sA_sl) (@sA_nils)))) (And.intro (And.intro (@sA_nilp) (@sA_nilfn)) (And.intro (@sA_undef) (And.intro (@sL_nil) (@sL_cons)))))) (And.intro (And.intro (And.intro (And.intro (@sO_var) (@sO_dead)) (And.intro (@sO_arr) (And.intro (@sD_nil) (@kE_nil)))) (And.intro (And.intro (@kE_cons) (@kE_u8)) (And.intro (@take_all) (And.intro (@rcK_some) (@reach_z))))) (And.intro (And.intro (And.intro (@reach_s) (@kO_var)) (And.intro (@kO_arr) (And.intro (@kO_dead) (@idx_n)))) (And.intro (And.intro (@idx_c) (@rn_ptr)) (And.intro (@rn_rp) (And.intro (@rn_row) (@rn_mp))))))
theorem wk9 : type_of% (And.intro (And.intro (And.intro (And.intro (And.intro (@rn_fn) (@rn_agg)) (And.intro (@rn_tup) (And.intro (@rn_ifc) (@rn_int)))) (And.intro (And.intro (@rn_bool) (@rn_str)) (And.intro (@rn_sl) (And.intro (@rn_nils) (@rn_nilp))))) (And.intro (And.intro (And.intro (@rn_nilfn) (@rn_nilif)) (And.intro (@rn_ep) (And.intro (@rn_undef) (@rL_nil)))) (And.intro (And.intro (@rL_cons) (@rE_pure)) (And.intro (@rO_var) (And.intro (@rO_arr) (@rO_dead)))))) (And.intro (And.intro (And.intro (And.intro (@oO_nil) (@oO_cons)) (And.intro (@lvB_cons) (And.intro (@bk_eq) (@up_nil)))) (And.intro (And.intro (@up_cons) (@crK_ret)) (And.intro (@crK_pan) (And.intro (@cdB_cons) (@rng0))))) (And.intro (And.intro (And.intro (@rng1) (@rng2)) (And.intro (@rng3) (And.intro (@beq_nn) (@beq_cc)))) (And.intro (And.intro (@crs_ret) (@crs_pan)) (And.intro (@tk_z) (And.intro (@tk_c) (@map_set8))))))) := And.intro (And.intro (And.intro (And.intro (And.intro (@rn_fn) (@rn_agg)) (And.intro (@rn_tup) (And.intro (@rn_ifc) (@rn_int)))) (And.intro (And.intro (@rn_bool) (@rn_str)) (And.intro (@rn_sl) (And.intro (@rn_nils) (@rn_nilp))))) (And.intro (And.intro (And.intro (@rn_nilfn) (@rn_nilif)) (And.intro (@rn_ep) (And.intro (@rn_undef) (@rL_nil)))) (And.intro (And.intro (@rL_cons) (@rE_pure)) (And.intro (@rO_var) (And.intro (@rO_arr) (@rO_dead)))))) (And.intro (And.intro (And.intro (And.intro (@oO_nil) (@oO_cons)) (And.intro (@lvB_cons) (And.intro (@bk_eq) (@up_nil)))) (And.intro (And.intro (@up_cons) (@crK_ret)) (And.intro (@crK_pan) (And.intro (@cdB_cons) (@rng0))))) (And.intro (And.intro (And.intro (@rng1) (@rng2)) (And.intro (@rng3) (And.intro (@beq_nn) (@beq_cc)))) (And.intro (And.intro (@crs_ret) (@crs_pan)) (And.intro (@tk_z) (And.intro (@tk_c) (@map_set8))))))
theorem wk10 : type_of% (And.intro (And.intro (And.intro (And.intro (And.intro (@kA_bits) (@cC_bits)) (And.intro (@cV_bits) (And.intro (@lnS_bits) (@ce_bits)))) (And.intro (And.intro (@rn_bits) (@sA_bits)) (And.intro (@eo_bits) (And.intro (@rk_move) (@rk_assign))))) (And.intro (And.intro (And.intro (@rk_pick) (@rk_alloc)) (And.intro (@rk_box) (And.intro (@rk_load) (@rk_store)))) (And.intro (And.intro (@rk_nilCheck) (@rk_binOp)) (And.intro (@rk_unOp) (And.intro (@rk_convert) (@rk_makeInterface)))))) (And.intro (And.intro (And.intro (And.intro (@rk_fieldAddr) (@rk_field)) (And.intro (@rk_indexAddr) (And.intro (@rk_index) (@rk_extract)))) (And.intro (And.intro (@rk_makeSlice) (@rk_lookup)) (And.intro (@rk_panic) (And.intro (@rk_blt) (@rk_slice))))) (And.intro (And.intro (And.intro (@rk_build) (@rk_buildSlice)) (And.intro (@rk_makeFunc) (And.intro (@rk_call) (@rkC_some)))) (And.intro (And.intro (@rkL_nil) (@rkL_cons)) (And.intro (@kTo_some) (And.intro (@kTo_none) (@ops_build0))))))) := And.intro (And.intro (And.intro (And.intro (And.intro (@kA_bits) (@cC_bits)) (And.intro (@cV_bits) (And.intro (@lnS_bits) (@ce_bits)))) (And.intro (And.intro (@rn_bits) (@sA_bits)) (And.intro (@eo_bits) (And.intro (@rk_move) (@rk_assign))))) (And.intro (And.intro (And.intro (@rk_pick) (@rk_alloc)) (And.intro (@rk_box) (And.intro (@rk_load) (@rk_store)))) (And.intro (And.intro (@rk_nilCheck) (@rk_binOp)) (And.intro (@rk_unOp) (And.intro (@rk_convert) (@rk_makeInterface)))))) (And.intro (And.intro (And.intro (And.intro (@rk_fieldAddr) (@rk_field)) (And.intro (@rk_indexAddr) (And.intro (@rk_index) (@rk_extract)))) (And.intro (And.intro (@rk_makeSlice) (@rk_lookup)) (And.intro (@rk_panic) (And.intro (@rk_blt) (@rk_slice))))) (And.intro (And.intro (And.intro (@rk_build) (@rk_buildSlice)) (And.intro (@rk_makeFunc) (And.intro (@rk_call) (@rkC_some)))) (And.intro (And.intro (@rkL_nil) (@rkL_cons)) (And.intro (@kTo_some) (And.intro (@kTo_none) (@ops_build0))))))
theorem wk11 : type_of% (And.intro (And.intro (And.intro (And.intro (@ops_bs0) (And.intro (@ops_sl0) (@ops_sl1))) (And.intro (@ops_sl2) (And.intro (@ops_sl3) (@ops_mf)))) (And.intro (And.intro (@arr_nil_app) (And.intro (@map_snd_c) (@map_snd_n))) (And.intro (And.intro (@kt_ptr) (@kt_rp)) (And.intro (@kt_row) (@kt_mp))))) (And.intro (And.intro (And.intro (@kt_int) (And.intro (@kt_bool) (@kt_str))) (And.intro (And.intro (@kt_sl) (@kt_bits)) (And.intro (@kt_agg) (@kt_tup)))) (And.intro (And.intro (@kt_fn) (And.intro (@kt_ifc) (@kt_ep))) (And.intro (And.intro (@kt_nils) (@kt_nilp)) (And.intro (@kt_nilfn) (@kt_undef)))))) := And.intro (And.intro (And.intro (And.intro (@ops_bs0) (And.intro (@ops_sl0) (@ops_sl1))) (And.intro (@ops_sl2) (And.intro (@ops_sl3) (@ops_mf)))) (And.intro (And.intro (@arr_nil_app) (And.intro (@map_snd_c) (@map_snd_n))) (And.intro (And.intro (@kt_ptr) (@kt_rp)) (And.intro (@kt_row) (@kt_mp))))) (And.intro (And.intro (And.intro (@kt_int) (And.intro (@kt_bool) (@kt_str))) (And.intro (And.intro (@kt_sl) (@kt_bits)) (And.intro (@kt_agg) (@kt_tup)))) (And.intro (And.intro (@kt_fn) (And.intro (@kt_ifc) (@kt_ep))) (And.intro (And.intro (@kt_nils) (@kt_nilp)) (And.intro (@kt_nilfn) (@kt_undef)))))
theorem wt0 : type_of% (And.intro (And.intro (And.intro (And.intro (And.intro (@tyr3) (@tyz3)) (And.intro (@tyr4) (And.intro (@tyz4) (@tyr9)))) (And.intro (And.intro (@tyz9) (@tyr23)) (And.intro (@tyz23) (And.intro (@tyr30) (@tyz30))))) (And.intro (And.intro (And.intro (@tyr31) (@tyz31)) (And.intro (@tyr33) (And.intro (@tyz33) (@tyr35)))) (And.intro (And.intro (@tyz35) (@tyr36)) (And.intro (@tyz36) (And.intro (@tyr38) (@tyz38)))))) (And.intro (And.intro (And.intro (And.intro (@tyr43) (@tyz43)) (And.intro (@tyr66) (And.intro (@tyz66) (@tyr151)))) (And.intro (And.intro (@tyz151) (@tyr153)) (And.intro (@tyz153) (And.intro (@tyr155) (@tyz155))))) (And.intro (And.intro (And.intro (@tyr162) (@tyz162)) (And.intro (@tyr169) (And.intro (@tyz169) (@ld3)))) (And.intro (And.intro (@sto3) (@mki3)) (And.intro (@ld4) (And.intro (@sto4) (@bbe4))))))) := And.intro (And.intro (And.intro (And.intro (And.intro (@tyr3) (@tyz3)) (And.intro (@tyr4) (And.intro (@tyz4) (@tyr9)))) (And.intro (And.intro (@tyz9) (@tyr23)) (And.intro (@tyz23) (And.intro (@tyr30) (@tyz30))))) (And.intro (And.intro (And.intro (@tyr31) (@tyz31)) (And.intro (@tyr33) (And.intro (@tyz33) (@tyr35)))) (And.intro (And.intro (@tyz35) (@tyr36)) (And.intro (@tyz36) (And.intro (@tyr38) (@tyz38)))))) (And.intro (And.intro (And.intro (And.intro (@tyr43) (@tyz43)) (And.intro (@tyr66) (And.intro (@tyz66) (@tyr151)))) (And.intro (And.intro (@tyz151) (@tyr153)) (And.intro (@tyz153) (And.intro (@tyr155) (@tyz155))))) (And.intro (And.intro (And.intro (@tyr162) (@tyz162)) (And.intro (@tyr169) (And.intro (@tyz169) (@ld3)))) (And.intro (And.intro (@sto3) (@mki3)) (And.intro (@ld4) (And.intro (@sto4) (@bbe4))))))
theorem wt1 : type_of% (And.intro (And.intro (And.intro (And.intro (And.intro (@bbn4) (@ld9)) (And.intro (@sto9) (And.intro (@len9) (@sc9)))) (And.intro (And.intro (@ix9) (@ld23)) (And.intro (@sto23) (And.intro (@len23) (@nle23))))) (And.intro (And.intro (And.intro (@nln23) (@ia23)) (And.intro (@sc23) (And.intro (@bs23) (@mk23)))) (And.intro (And.intro (@ap23) (@ld30)) (And.intro (@sto30) (And.intro (@len30) (@nle30)))))) (And.intro (And.intro (And.intro (And.intro (@nln30) (@ia30)) (And.intro (@sc30) (And.intro (@bs30) (@mk30)))) (And.intro (And.intro (@ap30) (@ld31)) (And.intro (@sto31) (And.intro (@mki31) (@ld33))))) (And.intro (And.intro (And.intro (@sto33) (@fa33_0)) (And.intro (@fl33_0) (And.intro (@fa33_1) (@fl33_1)))) (And.intro (And.intro (@fa33_2) (@fl33_2)) (And.intro (@fa33_3) (And.intro (@fl33_3) (@bl33))))))) := And.intro (And.intro (And.intro (And.intro (And.intro (@bbn4) (@ld9)) (And.intro (@sto9) (And.intro (@len9) (@sc9)))) (And.intro (And.intro (@ix9) (@ld23)) (And.intro (@sto23) (And.intro (@len23) (@nle23))))) (And.intro (And.intro (And.intro (@nln23) (@ia23)) (And.intro (@sc23) (And.intro (@bs23) (@mk23)))) (And.intro (And.intro (@ap23) (@ld30)) (And.intro (@sto30) (And.intro (@len30) (@nle30)))))) (And.intro (And.intro (And.intro (And.intro (@nln30) (@ia30)) (And.intro (@sc30) (And.intro (@bs30) (@mk30)))) (And.intro (And.intro (@ap30) (@ld31)) (And.intro (@sto31) (And.intro (@mki31) (@ld33))))) (And.intro (And.intro (And.intro (@sto33) (@fa33_0)) (And.intro (@fl33_0) (And.intro (@fa33_1) (@fl33_1)))) (And.intro (And.intro (@fa33_2) (@fl33_2)) (And.intro (@fa33_3) (And.intro (@fl33_3) (@bl33))))))
theorem wt2 : type_of% (And.intro (And.intro (And.intro (And.intro (And.intro (@ld35) (@sto35)) (And.intro (@len35) (And.intro (@nle35) (@nln35)))) (And.intro (And.intro (@ia35) (@sc35)) (And.intro (@bs35) (And.intro (@mk35) (@ap35))))) (And.intro (And.intro (And.intro (@ld36) (@sto36)) (And.intro (@len36) (And.intro (@nle36) (@nln36)))) (And.intro (And.intro (@ia36) (@sc36)) (And.intro (@bs36) (And.intro (@mk36) (@ap36)))))) (And.intro (And.intro (And.intro (And.intro (@ld38) (@sto38)) (And.intro (@fa38_0) (And.intro (@fl38_0) (@fa38_1)))) (And.intro (And.intro (@fl38_1) (@fa38_2)) (And.intro (@fl38_2) (And.intro (@fa38_3) (@fl38_3))))) (And.intro (And.intro (And.intro (@fa38_4) (@fl38_4)) (And.intro (@bl38) (And.intro (@ld43) (@sto43)))) (And.intro (And.intro (@mki43) (@ld66)) (And.intro (@sto66) (And.intro (@ld151) (@sto151))))))) := And.intro (And.intro (And.intro (And.intro (And.intro (@ld35) (@sto35)) (And.intro (@len35) (And.intro (@nle35) (@nln35)))) (And.intro (And.intro (@ia35) (@sc35)) (And.intro (@bs35) (And.intro (@mk35) (@ap35))))) (And.intro (And.intro (And.intro (@ld36) (@sto36)) (And.intro (@len36) (And.intro (@nle36) (@nln36)))) (And.intro (And.intro (@ia36) (@sc36)) (And.intro (@bs36) (And.intro (@mk36) (@ap36)))))) (And.intro (And.intro (And.intro (And.intro (@ld38) (@sto38)) (And.intro (@fa38_0) (And.intro (@fl38_0) (@fa38_1)))) (And.intro (And.intro (@fl38_1) (@fa38_2)) (And.intro (@fl38_2) (And.intro (@fa38_3) (@fl38_3))))) (And.intro (And.intro (And.intro (@fa38_4) (@fl38_4)) (And.intro (@bl38) (And.intro (@ld43) (@sto43)))) (And.intro (And.intro (@mki43) (@ld66)) (And.intro (@sto66) (And.intro (@ld151) (@sto151))))))
theorem wt3 : type_of% (And.intro (And.intro (And.intro (And.intro (And.intro (@len151) (@nle151)) (And.intro (@nln151) (@ia151))) (And.intro (And.intro (@sc151) (@bs151)) (And.intro (@mk151) (@ap151)))) (And.intro (And.intro (And.intro (@ld153) (@sto153)) (And.intro (@fa153_0) (@fl153_0))) (And.intro (And.intro (@fa153_1) (@fl153_1)) (And.intro (@bl153) (@ld155))))) (And.intro (And.intro (And.intro (And.intro (@sto155) (@mki155)) (And.intro (@ld162) (@sto162))) (And.intro (And.intro (@mki162) (@ld169)) (And.intro (@sto169) (@cv3_155)))) (And.intro (And.intro (And.intro (@cv3_162) (@cv3_299)) (And.intro (@cv155_2) (@cv155_3))) (And.intro (And.intro (@cv155_162) (@cv155_326)) (And.intro (@cv162_3) (@cv162_155)))))) := And.intro (And.intro (And.intro (And.intro (And.intro (@len151) (@nle151)) (And.intro (@nln151) (@ia151))) (And.intro (And.intro (@sc151) (@bs151)) (And.intro (@mk151) (@ap151)))) (And.intro (And.intro (And.intro (@ld153) (@sto153)) (And.intro (@fa153_0) (@fl153_0))) (And.intro (And.intro (@fa153_1) (@fl153_1)) (And.intro (@bl153) (@ld155))))) (And.intro (And.intro (And.intro (And.intro (@sto155) (@mki155)) (And.intro (@ld162) (@sto162))) (And.intro (And.intro (@mki162) (@ld169)) (And.intro (@sto169) (@cv3_155)))) (And.intro (And.intro (And.intro (@cv3_162) (@cv3_299)) (And.intro (@cv155_2) (@cv155_3))) (And.intro (And.intro (@cv155_162) (@cv155_326)) (And.intro (@cv162_3) (@cv162_155)))))
theorem wu0 : type_of% (And.intro (And.intro (And.intro (And.intro (And.intro (@decide_true) (@decide_false)) (And.intro (@decide_eq_true_eq) (And.intro (@wr0) (@wr1)))) (And.intro (And.intro (@wr2) (@wr3)) (And.intro (@wr4) (And.intro (@wr5) (@wr6))))) (And.intro (And.intro (And.intro (@wr7) (@wr8)) (And.intro (@List.replicate_succ.{0}) (And.intro (@List.replicate_zero.{0}) (@Nat.zero_mul)))) (And.intro (And.intro (@List.length_nil.{0}) (@bs_nn)) (And.intro (@bs_nc) (And.intro (@bs_cn) (@bs_cc)))))) (And.intro (And.intro (And.intro (And.intro (@Bool.false_and) (@u8b)) (And.intro (@cast0) (And.intro (@cast1) (@cast2)))) (And.intro (And.intro (@cast3) (@cast4)) (And.intro (@cast5) (And.intro (@beq_self_eq_true.{0}) (@nat_le))))) (And.intro (And.intro (And.intro (@toNat_cast) (@map_some')) (And.intro (@map_none') (And.intro (@Option.map_some.{0, 0}) (@Option.map_none.{0, 0})))) (And.intro (And.intro (@List.length_map.{0, 0}) (@Int.toNat_zero)) (And.intro (@Int.toNat_one) (And.intro (@and_self) (@and_true))))))) := And.intro (And.intro (And.intro (And.intro (And.intro (@decide_true) (@decide_false)) (And.intro (@decide_eq_true_eq) (And.intro (@wr0) (@wr1)))) (And.intro (And.intro (@wr2) (@wr3)) (And.intro (@wr4) (And.intro (@wr5) (@wr6))))) (And.intro (And.intro (And.intro (@wr7) (@wr8)) (And.intro (@List.replicate_succ.{0}) (And.intro (@List.replicate_zero.{0}) (@Nat.zero_mul)))) (And.intro (And.intro (@List.length_nil.{0}) (@bs_nn)) (And.intro (@bs_nc) (And.intro (@bs_cn) (@bs_cc)))))) (And.intro (And.intro (And.intro (And.intro (@Bool.false_and) (@u8b)) (And.intro (@cast0) (And.intro (@cast1) (@cast2)))) (And.intro (And.intro (@cast3) (@cast4)) (And.intro (@cast5) (And.intro (@beq_self_eq_true.{0}) (@nat_le))))) (And.intro (And.intro (And.intro (@toNat_cast) (@map_some')) (And.intro (@map_none') (And.intro (@Option.map_some.{0, 0}) (@Option.map_none.{0, 0})))) (And.intro (And.intro (@List.length_map.{0, 0}) (@Int.toNat_zero)) (And.intro (@Int.toNat_one) (And.intro (@and_self) (@and_true))))))
theorem wu1 : type_of% (And.intro (And.intro (And.intro (@true_and) (And.intro (@Nat.sub_zero) (@Nat.zero_add))) (And.intro (@Nat.add_zero) (And.intro (@List.drop_zero.{0}) (@Nat.le_refl)))) (And.intro (And.intro (@Nat.zero_le) (And.intro (@Bool.true_or) (@Bool.false_or))) (And.intro (@Bool.or_true) (And.intro (@Bool.or_false) (@Bool.and_false))))) := And.intro (And.intro (And.intro (@true_and) (And.intro (@Nat.sub_zero) (@Nat.zero_add))) (And.intro (@Nat.add_zero) (And.intro (@List.drop_zero.{0}) (@Nat.le_refl)))) (And.intro (And.intro (@Nat.zero_le) (And.intro (@Bool.true_or) (@Bool.false_or))) (And.intro (@Bool.or_true) (And.intro (@Bool.or_false) (@Bool.and_false))))
end Go.Proofs.YtdhcgankmhpgeaaGreat.M
