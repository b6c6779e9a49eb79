/-
  Own work: an interpreter over named blocks, its soundness, and what the functions of this seat compute (part 3 of 11).
  Conditions: those of the statement alone.
-/
import Derived.Test.YthmoogcacpmjiaaGreatProg
import Derived.KernelRfl
import Derived.ProofKit
import Derived.Below
import Derived.Test.YthmoogcacpmjiaaGreatXb
set_option linter.all false
set_option linter.unusedSectionVars false
set_option linter.unusedVariables false
set_option linter.unusedSimpArgs false
namespace Go.Proofs.YthmoogcacpmjiaaGreat
noncomputable section
abbrev bi(op:BinOp)(t:TypeId)(x y:AV):Option AV:=mZ Tryz.prog op t x y
abbrev un(op:UnOp)(x:AV):Option AV:=unA Tryz.prog op x
abbrev cv(s d:TypeId)(x:AV):AM AV:=iP Tryz.prog s d x
def stk:AM AV:=λ_=> none
abbrev bd(t:TypeId)(ps:List (Nat × AV)):Option AV:=dS Tryz.prog t ps
abbrev bs(t:TypeId)(n:Nat)(ps:List (Nat × AV)):AM AV:=bG Tryz.prog t n ps
def Rn0(f:FuncId)(s:Callee->aj->OA):Prop:=∀C H {r:AV × aj},s C H=some r->wP Tryz.prog C f [] H=some r
def Rn1(f:FuncId)(s:Callee->AV->aj->OA):Prop:=∀C a0 H {r:AV × aj},s C a0 H=some r->wP Tryz.prog C f [a0] H=some r
def Rn2(f:FuncId)(s:Callee->AV->AV->aj->OA):Prop:=∀C a0 a1 H {r:AV × aj},s C a0 a1 H=some r->wP Tryz.prog C f [a0,a1] H=some r
def Rn3(f:FuncId)(s:Callee->AV->AV->AV->aj->OA):Prop:=∀C a0 a1 a2 H {r:AV × aj},s C a0 a1 a2 H=some r->wP Tryz.prog C f [a0,a1,a2] H=some r
def Rn4(f:FuncId)(s:Callee->AV->AV->AV->AV->aj->OA):Prop:=∀C a0 a1 a2 a3 H {r:AV × aj},s C a0 a1 a2 a3 H=some r->wP Tryz.prog C f [a0,a1,a2,a3] H=some r
def Rn5(f:FuncId)(s:Callee->AV->AV->AV->AV->AV->aj->OA):Prop:=∀C a0 a1 a2 a3 a4 H {r:AV × aj},s C a0 a1 a2 a3 a4 H=some r->wP Tryz.prog C f [a0,a1,a2,a3,a4] H=some r
theorem Dx {n:Nat}{ps:List (Nat × AV)}{H:aj}(h:n*1<=16777216):bG Tryz.prog 22 n ps H=bsl 3 1 [zI] n ps H:=oN (by kernel_rfl) (by kernel_rfl) (by kernel_rfl) rfl h
theorem am6 {n:Nat}{ps:List (Nat × AV)}{H:aj}(h:n*1<=16777216):bG Tryz.prog 28 n ps H=bsl 98 1 [zN] n ps H:=oN (by kernel_rfl) (by kernel_rfl) (by kernel_rfl) rfl h
theorem am7 {n:Nat}{ps:List (Nat × AV)}{H:aj}(h:n*1<=16777216):bG Tryz.prog 45 n ps H=bsl 54 1 [zP] n ps H:=oN (by kernel_rfl) (by kernel_rfl) (by kernel_rfl) rfl h
theorem aax {n:Nat}{ps:List (Nat × AV)}{H:aj}(h:n*4<=16777216):bG Tryz.prog 48 n ps H=bsl 51 4 [zI,zI,zB,zI] n ps H:=oN (by kernel_rfl) (by kernel_rfl) (by kernel_rfl) rfl h
theorem ahD {n:Nat}{ps:List (Nat × AV)}{H:aj}(h:n*3<=16777216):bG Tryz.prog 98 n ps H=bsl 86 3 [zI,zI,zI] n ps H:=oN (by kernel_rfl) (by kernel_rfl) (by kernel_rfl) rfl h
theorem ahE {n:Nat}{ps:List (Nat × AV)}{H:aj}(h:n*2<=16777216):bG Tryz.prog 110 n ps H=bsl 115 2 [zP,zP] n ps H:=oN (by kernel_rfl) (by kernel_rfl) (by kernel_rfl) rfl h
theorem ahF {n:Nat}{ps:List (Nat × AV)}{H:aj}(h:n*4<=16777216):bG Tryz.prog 122 n ps H=bsl 121 4 [zP,zP,zP,zP] n ps H:=oN (by kernel_rfl) (by kernel_rfl) (by kernel_rfl) rfl h
theorem acz {n:Nat}{ps:List (Nat × AV)}{H:aj}(h:n*6<=16777216):bG Tryz.prog 131 n ps H=bsl 93 6 [zI,zI,zI,zI,zB,zN] n ps H:=oN (by kernel_rfl) (by kernel_rfl) (by kernel_rfl) rfl h
theorem ahG {n:Nat}{ps:List (Nat × AV)}{H:aj}(h:n*1<=16777216):bG Tryz.prog 157 n ps H=bsl 160 1 [zP] n ps H:=oN (by kernel_rfl) (by kernel_rfl) (by kernel_rfl) rfl h
theorem acA {n:Nat}{ps:List (Nat × AV)}{H:aj}(h:n*9<=16777216):bG Tryz.prog 162 n ps H=bsl 70 9 [zI,zI,zI,zI,zI,zI,zI,zB,zN] n ps H:=oN (by kernel_rfl) (by kernel_rfl) (by kernel_rfl) rfl h
theorem QY {n:Nat}{ps:List (Nat × AV)}{H:aj}(h:n*1<=16777216):bG Tryz.prog 180 n ps H=bsl 5 1 [.s (.int .u8 0)] n ps H:=oN (by kernel_rfl) (by kernel_rfl) (by kernel_rfl) rfl h
theorem ahH {n:Nat}{ps:List (Nat × AV)}{H:aj}(h:n*3<=16777216):bG Tryz.prog 265 n ps H=bsl 272 3 [zI,zI,zN] n ps H:=oN (by kernel_rfl) (by kernel_rfl) (by kernel_rfl) rfl h
theorem acB {n:Nat}{ps:List (Nat × AV)}{H:aj}(h:n*2<=16777216):bG Tryz.prog 291 n ps H=bsl 293 2 [zI,zI] n ps H:=oN (by kernel_rfl) (by kernel_rfl) (by kernel_rfl) rfl h
theorem ahI {n:Nat}{ps:List (Nat × AV)}{H:aj}(h:n*1<=16777216):bG Tryz.prog 297 n ps H=bsl 180 1 [zN] n ps H:=oN (by kernel_rfl) (by kernel_rfl) (by kernel_rfl) rfl h
def Wj:Nat->Option (Nat × Nat)
 | 0=> some (0,1)
 | 1=> some (1,1)
 | 2=> some (2,1)
 | 3=> some (3,1)
 | _=> none
theorem aay {ps:List (Nat × AV)}:dS Tryz.prog 35 ps=gV Wj [zB,zI,zI,.s (.int .u16 0)] ps:=gJ (by kernel_rfl) Tryz.underlying35 (by kernel_rfl) (by funext i;rcases i with _ | _ | _ | _ | i <;> kernel_rfl)
def afg:Nat->Option (Nat × Nat)
 | 0=> some (0,1)
 | 1=> some (1,1)
 | 2=> some (2,1)
 | 3=> some (3,1)
 | 4=> some (4,1)
 | 5=> some (5,1)
 | 6=> some (6,1)
 | 7=> some (7,1)
 | _=> none
theorem afh {ps:List (Nat × AV)}:dS Tryz.prog 40 ps=gV afg [zI,zI,zI,zI,zI,zI,zI,zN] ps:=gJ (by kernel_rfl) Tryz.underlying40 (by kernel_rfl) (by funext i;rcases i with _ | _ | _ | _ | _ | _ | _ | _ | i <;> kernel_rfl)
def ahJ:Nat->Option (Nat × Nat)
 | 0=> some (0,1)
 | 1=> some (1,1)
 | 2=> some (2,8)
 | 3=> some (10,1)
 | _=> none
theorem am8 {ps:List (Nat × AV)}:dS Tryz.prog 47 ps=gV ahJ [zP,zP,zI,zI,zI,zI,zI,zI,zI,zN,zN] ps:=gJ (by kernel_rfl) Tryz.underlying47 (by kernel_rfl) (by funext i;rcases i with _ | _ | _ | _ | i <;> kernel_rfl)
def afi:Nat->Option (Nat × Nat)
 | 0=> some (0,1)
 | 1=> some (1,1)
 | 2=> some (2,1)
 | 3=> some (3,1)
 | _=> none
theorem ahK {ps:List (Nat × AV)}:dS Tryz.prog 51 ps=gV afi [zI,zI,zB,zI] ps:=gJ (by kernel_rfl) Tryz.underlying51 (by kernel_rfl) (by funext i;rcases i with _ | _ | _ | _ | i <;> kernel_rfl)
def ahL:Nat->Option (Nat × Nat)
 | 0=> some (0,1)
 | 1=> some (1,1)
 | 2=> some (2,1)
 | 3=> some (3,1)
 | 4=> some (4,1)
 | 5=> some (5,1)
 | 6=> some (6,1)
 | 7=> some (7,1)
 | 8=> some (8,1)
 | _=> none
theorem Ug {ps:List (Nat × AV)}:dS Tryz.prog 57 ps=gV ahL [zI,zI,zI,zI,zI,zI,zN,zI,zI] ps:=gJ (by kernel_rfl) Tryz.underlying57 (by kernel_rfl) (by funext i;rcases i with _ | _ | _ | _ | _ | _ | _ | _ | _ | i <;> kernel_rfl)
def ahM:Nat->Option (Nat × Nat)
 | 0=> some (0,1)
 | _=> none
theorem am9 {ps:List (Nat × AV)}:dS Tryz.prog 64 ps=gV ahM [zP] ps:=gJ (by kernel_rfl) Tryz.underlying64 (by kernel_rfl) (by funext i;rcases i with _ | i <;> kernel_rfl)
def ahN:Nat->Option (Nat × Nat)
 | 0=> some (0,1)
 | 1=> some (1,1)
 | 2=> some (2,8)
 | 3=> some (10,1)
 | 4=> some (11,1)
 | 5=> some (12,9)
 | 6=> some (21,1)
 | _=> none
theorem ana {ps:List (Nat × AV)}:dS Tryz.prog 66 ps=gV ahN [zP,zP,zI,zI,zI,zI,zI,zI,zI,zN,zI,zP,zI,zI,zI,zI,zI,zI,zN,zI,zI,zI] ps:=gJ (by kernel_rfl) Tryz.underlying66 (by kernel_rfl) (by funext i;rcases i with _ | _ | _ | _ | _ | _ | _ | i <;> kernel_rfl)
def O4:Nat->Option (Nat × Nat)
 | 0=> some (0,1)
 | 1=> some (1,1)
 | 2=> some (2,1)
 | 3=> some (3,1)
 | 4=> some (4,1)
 | 5=> some (5,1)
 | 6=> some (6,1)
 | 7=> some (7,1)
 | 8=> some (8,1)
 | _=> none
theorem wF {ps:List (Nat × AV)}:dS Tryz.prog 70 ps=gV O4 [zI,zI,zI,zI,zI,zI,zI,zB,zN] ps:=gJ (by kernel_rfl) Tryz.underlying70 (by kernel_rfl) (by funext i;rcases i with _ | _ | _ | _ | _ | _ | _ | _ | _ | i <;> kernel_rfl)
def aaz:Nat->Option (Nat × Nat)
 | 0=> some (0,1)
 | 1=> some (1,1)
 | 2=> some (2,1)
 | _=> none
theorem aaA {ps:List (Nat × AV)}:dS Tryz.prog 86 ps=gV aaz [zI,zI,zI] ps:=gJ (by kernel_rfl) Tryz.underlying86 (by kernel_rfl) (by funext i;rcases i with _ | _ | _ | i <;> kernel_rfl)
def ahO:Nat->Option (Nat × Nat)
 | 0=> some (0,1)
 | 1=> some (1,1)
 | _=> none
theorem anb {ps:List (Nat × AV)}:dS Tryz.prog 91 ps=gV ahO [zI,zI] ps:=gJ (by kernel_rfl) Tryz.underlying91 (by kernel_rfl) (by funext i;rcases i with _ | _ | i <;> kernel_rfl)
def ahP:Nat->Option (Nat × Nat)
 | 0=> some (0,2)
 | 1=> some (2,1)
 | 2=> some (3,1)
 | 3=> some (4,1)
 | 4=> some (5,1)
 | _=> none
theorem ahQ {ps:List (Nat × AV)}:dS Tryz.prog 93 ps=gV ahP [zI,zI,zI,zI,zB,zN] ps:=gJ (by kernel_rfl) Tryz.underlying93 (by kernel_rfl) (by funext i;rcases i with _ | _ | _ | _ | _ | i <;> kernel_rfl)
def acC:Nat->Option (Nat × Nat)
 | 0=> some (0,1)
 | 1=> some (1,1)
 | 2=> some (2,1)
 | _=> none
theorem ahR {ps:List (Nat × AV)}:dS Tryz.prog 100 ps=gV acC [zI,zI,zN] ps:=gJ (by kernel_rfl) Tryz.underlying100 (by kernel_rfl) (by funext i;rcases i with _ | _ | _ | i <;> kernel_rfl)
def acD:Nat->Option (Nat × Nat)
 | 0=> some (0,1)
 | 1=> some (1,1)
 | _=> none
theorem acE {ps:List (Nat × AV)}:dS Tryz.prog 115 ps=gV acD [zP,zP] ps:=gJ (by kernel_rfl) Tryz.underlying115 (by kernel_rfl) (by funext i;rcases i with _ | _ | i <;> kernel_rfl)
def acF:Nat->Option (Nat × Nat)
 | 0=> some (0,1)
 | _=> none
theorem ahS {ps:List (Nat × AV)}:dS Tryz.prog 118 ps=gV acF [zN] ps:=gJ (by kernel_rfl) Tryz.underlying118 (by kernel_rfl) (by funext i;rcases i with _ | i <;> kernel_rfl)
def acG:Nat->Option (Nat × Nat)
 | 0=> some (0,2)
 | 1=> some (2,2)
 | _=> none
theorem ahT {ps:List (Nat × AV)}:dS Tryz.prog 121 ps=gV acG [zP,zP,zP,zP] ps:=gJ (by kernel_rfl) Tryz.underlying121 (by kernel_rfl) (by funext i;rcases i with _ | _ | i <;> kernel_rfl)
def ahU:Nat->Option (Nat × Nat)
 | 0=> some (0,1)
 | _=> none
theorem ahV {ps:List (Nat × AV)}:dS Tryz.prog 124 ps=gV ahU [zN] ps:=gJ (by kernel_rfl) Tryz.underlying124 (by kernel_rfl) (by funext i;rcases i with _ | i <;> kernel_rfl)
def acH:Nat->Option (Nat × Nat)
 | 0=> some (0,1)
 | 1=> some (1,1)
 | 2=> some (2,1)
 | _=> none
theorem ahW {ps:List (Nat × AV)}:dS Tryz.prog 126 ps=gV acH [zN,zN,zB] ps:=gJ (by kernel_rfl) Tryz.underlying126 (by kernel_rfl) (by funext i;rcases i with _ | _ | _ | i <;> kernel_rfl)
def acI:Nat->Option (Nat × Nat)
 | 0=> some (0,1)
 | 1=> some (1,1)
 | 2=> some (2,1)
 | 3=> some (3,1)
 | _=> none
theorem ahX {ps:List (Nat × AV)}:dS Tryz.prog 133 ps=gV acI [zN,zI,zI,zI] ps:=gJ (by kernel_rfl) Tryz.underlying133 (by kernel_rfl) (by funext i;rcases i with _ | _ | _ | _ | i <;> kernel_rfl)
def acJ:Nat->Option (Nat × Nat)
 | 0=> some (0,1)
 | 1=> some (1,1)
 | 2=> some (2,8)
 | 3=> some (10,1)
 | _=> none
theorem ahY {ps:List (Nat × AV)}:dS Tryz.prog 150 ps=gV acJ [zP,zP,zI,zI,zI,zI,zI,zI,zI,zN,zI] ps:=gJ (by kernel_rfl) Tryz.underlying150 (by kernel_rfl) (by funext i;rcases i with _ | _ | _ | _ | i <;> kernel_rfl)
def acK:Nat->Option (Nat × Nat)
 | 0=> some (0,8)
 | 1=> some (8,1)
 | 2=> some (9,1)
 | 3=> some (10,1)
 | _=> none
theorem ahZ {ps:List (Nat × AV)}:dS Tryz.prog 159 ps=gV acK [zI,zI,zI,zI,zI,zI,zI,zN,zP,zN,zN] ps:=gJ (by kernel_rfl) Tryz.underlying159 (by kernel_rfl) (by funext i;rcases i with _ | _ | _ | _ | i <;> kernel_rfl)
def acL:Nat->Option (Nat × Nat)
 | 0=> some (0,1)
 | 1=> some (1,1)
 | _=> none
theorem ah0 {ps:List (Nat × AV)}:dS Tryz.prog 164 ps=gV acL [zN,zI] ps:=gJ (by kernel_rfl) Tryz.underlying164 (by kernel_rfl) (by funext i;rcases i with _ | _ | i <;> kernel_rfl)
def acM:Nat->Option (Nat × Nat)
 | 0=> some (0,1)
 | 1=> some (1,1)
 | _=> none
theorem ah1 {ps:List (Nat × AV)}:dS Tryz.prog 166 ps=gV acM [zN,zI] ps:=gJ (by kernel_rfl) Tryz.underlying166 (by kernel_rfl) (by funext i;rcases i with _ | _ | i <;> kernel_rfl)
def acN:Nat->Option (Nat × Nat)
 | 0=> some (0,8)
 | 1=> some (8,1)
 | _=> none
theorem ah2 {ps:List (Nat × AV)}:dS Tryz.prog 205 ps=gV acN [zI,zI,zI,zI,zI,zI,zI,zN,zM] ps:=gJ (by kernel_rfl) Tryz.underlying205 (by kernel_rfl) (by funext i;rcases i with _ | _ | i <;> kernel_rfl)
def acO:Nat->Option (Nat × Nat)
 | 0=> some (0,1)
 | 1=> some (1,1)
 | _=> none
theorem ah3 {ps:List (Nat × AV)}:dS Tryz.prog 209 ps=gV acO [zM,zM] ps:=gJ (by kernel_rfl) Tryz.underlying209 (by kernel_rfl) (by funext i;rcases i with _ | _ | i <;> kernel_rfl)
def acP:Nat->Option (Nat × Nat)
 | 0=> some (0,8)
 | 1=> some (8,1)
 | _=> none
theorem ah4 {ps:List (Nat × AV)}:dS Tryz.prog 212 ps=gV acP [zI,zI,zI,zI,zI,zI,zI,zN,zN] ps:=gJ (by kernel_rfl) Tryz.underlying212 (by kernel_rfl) (by funext i;rcases i with _ | _ | i <;> kernel_rfl)
def acQ:Nat->Option (Nat × Nat)
 | 0=> some (0,8)
 | 1=> some (8,1)
 | 2=> some (9,1)
 | 3=> some (10,1)
 | 4=> some (11,1)
 | 5=> some (12,1)
 | 6=> some (13,1)
 | 7=> some (14,1)
 | 8=> some (15,9)
 | 9=> some (24,1)
 | _=> none
theorem ah5 {ps:List (Nat × AV)}:dS Tryz.prog 219 ps=gV acQ [zI,zI,zI,zI,zI,zI,zI,zN,zI,zP,zP,zN,zB,zN,zB,zI,zI,zI,zI,zI,zI,zN,zI,zI,zI] ps:=gJ (by kernel_rfl) Tryz.underlying219 (by kernel_rfl) (by funext i;rcases i with _ | _ | _ | _ | _ | _ | _ | _ | _ | _ | i <;> kernel_rfl)
def acR:Nat->Option (Nat × Nat)
 | 0=> some (0,1)
 | 1=> some (1,1)
 | 2=> some (2,1)
 | 3=> some (3,1)
 | _=> none
theorem ah6 {ps:List (Nat × AV)}:dS Tryz.prog 264 ps=gV acR [zI,zI,zI,zN] ps:=gJ (by kernel_rfl) Tryz.underlying264 (by kernel_rfl) (by funext i;rcases i with _ | _ | _ | _ | i <;> kernel_rfl)
def acS:Nat->Option (Nat × Nat)
 | 0=> some (0,8)
 | 1=> some (8,1)
 | 2=> some (9,1)
 | 3=> some (10,2)
 | _=> none
theorem ah7 {ps:List (Nat × AV)}:dS Tryz.prog 271 ps=gV acS [zI,zI,zI,zI,zI,zI,zI,zN,zI,zN,zN,zN] ps:=gJ (by kernel_rfl) Tryz.underlying271 (by kernel_rfl) (by funext i;rcases i with _ | _ | _ | _ | i <;> kernel_rfl)
def acT:Nat->Option (Nat × Nat)
 | 0=> some (0,1)
 | 1=> some (1,1)
 | 2=> some (2,1)
 | _=> none
theorem ah8 {ps:List (Nat × AV)}:dS Tryz.prog 272 ps=gV acT [zI,zI,zN] ps:=gJ (by kernel_rfl) Tryz.underlying272 (by kernel_rfl) (by funext i;rcases i with _ | _ | _ | i <;> kernel_rfl)
def acU:Nat->Option (Nat × Nat)
 | 0=> some (0,1)
 | 1=> some (1,1)
 | _=> none
theorem ah9 {ps:List (Nat × AV)}:dS Tryz.prog 293 ps=gV acU [zI,zI] ps:=gJ (by kernel_rfl) Tryz.underlying293 (by kernel_rfl) (by funext i;rcases i with _ | _ | i <;> kernel_rfl)
theorem acV {k:IntKind}{n:Int}{H:aj}:iP Tryz.prog 3 5 (.s (.int k n)) H=some (.s (.int .u8 (IntKind.wrap .u8 n)),H):=xq (by kernel_rfl) Tryz.underlying3 Tryz.underlying5
theorem aaB {k:IntKind}{n:Int}{H:aj}:iP Tryz.prog 3 176 (.s (.int k n)) H=some (.s (.int .u64 (IntKind.wrap .u64 n)),H):=xq (by kernel_rfl) Tryz.underlying3 Tryz.underlying176
theorem aia {k:IntKind}{n:Int}{H:aj}:iP Tryz.prog 5 3 (.s (.int k n)) H=some (.s (.int .i64 (IntKind.wrap .i64 n)),H):=xq (by kernel_rfl) Tryz.underlying5 Tryz.underlying3
theorem afj {k:IntKind}{n:Int}{H:aj}:iP Tryz.prog 5 33 (.s (.int k n)) H=some (.s (.int .u16 (IntKind.wrap .u16 n)),H):=xq (by kernel_rfl) Tryz.underlying5 Tryz.underlying33
theorem aaC {k:IntKind}{n:Int}{H:aj}:iP Tryz.prog 5 232 (.s (.int k n)) H=some (.s (.int .u64 (IntKind.wrap .u64 n)),H):=xq (by kernel_rfl) Tryz.underlying5 Tryz.underlying232
theorem Wn {k:IntKind}{n:Int}{H:aj}:iP Tryz.prog 33 5 (.s (.int k n)) H=some (.s (.int .u8 (IntKind.wrap .u8 n)),H):=xq (by kernel_rfl) Tryz.underlying33 Tryz.underlying5
theorem Wp {k:IntKind}{n:Int}{H:aj}:iP Tryz.prog 33 230 (.s (.int k n)) H=some (.s (.int .u32 (IntKind.wrap .u32 n)),H):=xq (by kernel_rfl) Tryz.underlying33 Tryz.underlying230
theorem aaD {k:IntKind}{n:Int}{H:aj}:iP Tryz.prog 230 5 (.s (.int k n)) H=some (.s (.int .u8 (IntKind.wrap .u8 n)),H):=xq (by kernel_rfl) Tryz.underlying230 Tryz.underlying5
theorem aaE {k:IntKind}{n:Int}{H:aj}:iP Tryz.prog 232 3 (.s (.int k n)) H=some (.s (.int .i64 (IntKind.wrap .i64 n)),H):=xq (by kernel_rfl) Tryz.underlying232 Tryz.underlying3
inductive Cell where
 | av (x:AV)
 | seq (m:Nat) (cells:List AV)
 | map (k:IntKind) (es:List (Int × AV))
 | maps (k:IntKind) (m:Nat) (es:List (Int × List AV))
 | aib (w m:Nat) (ls:List (List AV))
abbrev Tag:=Nat × Nat × Nat × Int
section
variable (b:Nat)(H:aj)(τ:Nat->Option Tag)
def OS(T:Tag)(x:AV)(m:Nat)(cells:List AV):Prop:=
 (x=zN/\cells=[])∨∃r g off n cap ex ty all,x=.sl r g off m n cap ex/\τ r=some T/\b<=r/\r < H.next/\n<=cap/\H.get r=.blk g ty all/\off+cap*m<=all.length/\all.all AV.aH=true/\cells=(all.drop off).take (n*m)
def OM(T:Tag)(x:AV)(k:IntKind)(es:List (Int × AV)):Prop:=∃r,x=.mp r/\τ r=some T/\b<=r/\r < H.next/\H.get r=.map k es
def CR(q i:Nat):Cell->AV->Prop
 | .av x,y=> y=x
 | .seq m cells,y=> OS b H τ (q,i+1,0,0) y m cells
 | .map k es,y=> OM b H τ (q,i+1,0,0) y k es
 | .maps k m es,y=>∃aes:List (Int × AV),OM b H τ (q,i+1,0,0) y k aes/\aes.map (·.1)=es.map (·.1)/\∀(j:Nat) n cells x,es[j]?=some (n,cells)->aes[j]?=some (n,x)->OS b H τ (q,i+1,1,n) x m cells
 | .aib w m ls,y=>∃xs:List AV,OS b H τ (q,i+1,0,0) y w xs/\xs.length=ls.length/\∀(j:Nat) cells x,ls[j]?=some cells->xs[j]?=some x->OS b H τ (q,i+1,1,(j:Int)) x m cells
structure aha(q:Nat)(cs:List Cell):Prop where
 tag:τ q=some (q,0,0,0)
 lo:b<=q
 hi:q < H.next
 tyl:∀gg ty xs,H.get q=.blk gg ty xs->ty < eH
 blk:∃ty xs,H.get q=.blk 0 ty xs/\xs.length=cs.length/\xs.all AV.aH=true/\∀(i:Nat) c x,cs[i]?=some c->xs[i]?=some x->CR b H τ q i c x
end
abbrev Store:=Nat->Option (List Cell)
def Good(b:Nat)(H:aj)(g:Store):Prop:=b<=H.next/\∃τ,∀q cs,g q=some cs->aha b H τ q cs
def upd(g:Store)(q:Nat)(cs:List Cell):Store:=λx=> if x=q then some cs else g x
section
variable {b:Nat}{H H':aj}{g:Store}{q:Nat}{cs:List Cell}
theorem upd_same:upd g q cs q=some cs:=by simp [upd]
theorem upd_ne {x:Nat}(h:x≠q):upd g q cs x=g x:=by simp [upd,h]
theorem mG {ds:List Cell}:upd (upd g q cs) q ds=upd g q ds:=by funext x;simp only [upd];split <;> rfl
theorem dO(h:g q=some cs):upd g q cs=g:=by
 funext x
 simp only [upd];split
 ·rename_i e;rw [e,h]
 ·rfl
theorem OS.keep {τ τ':Nat->Option Tag}{T:Tag}{x:AV}{m:Nat}{cells:List AV}(h:OS b H τ T x m cells)(hn:H.next<=H'.next)(hg:∀r,r < H.next->τ r=some T->τ' r=some T/\H'.get r=H.get r):OS b H' τ' T x m cells:=by
 rcases h with h | ⟨r,g,off,n,cap,ex,ty,all,rfl,h1,h2,h3,h4,h5,h6,h7,h8⟩
 ·exact .inl h
 ·obtain⟨k1,k2⟩:=hg r h3 h1;exact .inr ⟨r,g,off,n,cap,ex,ty,all,rfl,k1,h2,by omega,h4,by rw [k2];exact h5,h6,h7,h8⟩
theorem OM.keep {τ τ':Nat->Option Tag}{T:Tag}{x:AV}{k:IntKind}{es:List (Int × AV)}(h:OM b H τ T x k es)(hn:H.next<=H'.next)(hg:∀r,r < H.next->τ r=some T->τ' r=some T/\H'.get r=H.get r):OM b H' τ' T x k es:=by
 obtain⟨r,rfl,h1,h2,h3,h4⟩:=h;obtain⟨k1,k2⟩:=hg r h3 h1;exact⟨r,rfl,k1,h2,by omega,by rw [k2];exact h4⟩
theorem CR.keep {τ τ':Nat->Option Tag}{i:Nat}:∀{c:Cell} {x:AV},CR b H τ q i c x->H.next<=H'.next->(∀r s t,r < H.next->τ r=some (q,i+1,s,t)->τ' r=some (q,i+1,s,t)/\H'.get r=H.get r)->CR b H' τ' q i c x
 | .av _,_,h,_,_=> h
 | .seq _ _,_,h,hn,hg=> OS.keep h hn λr h1 h2=> hg r 0 0 h1 h2
 | .map _ _,_,h,hn,hg=> OM.keep h hn λr h1 h2=> hg r 0 0 h1 h2
 | .maps _ _ _,_,⟨aes,h1,h2,h3⟩,hn,hg=> ⟨aes,h1.keep hn λr h1 h2=> hg r 0 0 h1 h2,h2,λj n cells x hj hx=> (h3 j n cells x hj hx).keep hn λr h1 h2=> hg r 1 n h1 h2⟩
 | .aib _ _ _,_,⟨xs,h1,h2,h3⟩,hn,hg=> ⟨xs,h1.keep hn λr h1 h2=> hg r 0 0 h1 h2,h2,λj cells x hj hx=> (h3 j cells x hj hx).keep hn λr h1 h2=> hg r 1 j h1 h2⟩
theorem sJ {ty:Nat}{xs:List AV}(h:H.get q=.blk 0 ty xs)(ht:ty < eH):∀gg ty' xs',H.get q=.blk gg ty' xs'->ty' < eH:=λ_ _ _ e=> by
 rw [h] at e;cases e;exact ht
theorem aha.keep {τ τ':Nat->Option Tag}(h:aha b H τ q cs)(hn:H.next<=H'.next)(hg:∀r i s t,r < H.next->τ r=some (q,i,s,t)->τ' r=some (q,i,s,t)/\H'.get r=H.get r):aha b H' τ' q cs:=by
 obtain⟨k1,k2⟩:=hg q 0 0 0 h.hi h.tag;obtain⟨ty,xs,h1,h2,h3,h4⟩:=h.blk;exact⟨k1,h.lo,by have:=h.hi;omega,sJ (by rw [k2];exact h1) (h.tyl _ _ _ h1),ty,xs,by rw [k2];exact h1,h2,h3,λi c x hc hx=> (h4 i c x hc hx).keep hn λr s t hr ht=> hg r (i+1) s t hr ht⟩
theorem Good.lt(G:Good b H g)(h:g q=some cs):q < H.next:=(G.2.choose_spec q cs h).hi
theorem Good.le(G:Good b H g)(h:g q=some cs):b<=q:=(G.2.choose_spec q cs h).lo
theorem Good.isNone(G:Good b H g)(h:H.next<=q):g q=none:=by
 cases hq:g q with
 | none=> rfl
 | some cs=> have:=G.lt hq;omega
theorem Good.ne(G:Good b H g)(h:g q=some cs):q≠H.next:=by have:=G.lt h;omega
theorem Good.ext(G:Good b H g)(hn:H.next<=H'.next)(hg:∀r,r < H.next->H'.get r=H.get r):Good b H' g:=by
 obtain⟨h0,τ,h⟩:=G;exact⟨by omega,τ,λq cs hq=> (h q cs hq).keep hn λr i s t hr ht=> ⟨ht,hg r hr⟩⟩
theorem Good.new(G:Good b H g)(o:dR):Good b (H.new o) g:=G.ext (za9 _) λr hr=> by rw [iD,if_neg (by omega)]
theorem Good.guard(G:Good b H g):Good b H.guard g:=G.ext (zac _) λ_ _=> rfl
theorem Good.sub(G:Good b H g){g':Store}(h:∀q cs,g' q=some cs->g q=some cs):Good b H g':=by
 obtain⟨h0,τ,h1⟩:=G;exact⟨h0,τ,λq cs hq=> h1 q cs (h q cs hq)⟩
theorem Good.empty(H:aj):Good H.next H λ_=> none:=⟨zac _,λ_=> none,λ_ _ h=> by cases h⟩
theorem Good.empty' {b:Nat}(h:b<=H.next):Good b H λ_=> none:=⟨h,λ_=> none,λ_ _ h=> by cases h⟩
theorem Good.weak(G:Good b H g){b':Nat}(h:b'<=b):Good b' H g:=by
 obtain⟨h0,τ,h1⟩:=G;have os:∀{T x m cells},OS b H τ T x m cells->OS b' H τ T x m cells:=by
  intro T x m cells ho;rcases ho with ho | ⟨r,g,off,n,cap,ex,ty,all,h2,h3,h4,h5⟩
  ·exact .inl ho
  ·exact .inr ⟨r,g,off,n,cap,ex,ty,all,h2,h3,by omega,h5⟩
 have om:∀{T x k es},OM b H τ T x k es->OM b' H τ T x k es:=by
  intro T x k es ⟨r,h2,h3,h4,h5⟩;exact⟨r,h2,h3,by omega,h5⟩
 refine⟨by omega,τ,λq cs hq=> ?_⟩;have R:=h1 q cs hq;obtain⟨ty,xs,k1,k2,k3,k4⟩:=R.blk;refine⟨R.tag,by have:=R.lo;omega,R.hi,R.tyl,ty,xs,k1,k2,k3,λi c x hc hx=> ?_⟩;have:=k4 i c x hc hx;cases c with
 | av _=> exact this
 | seq _ _=> exact os this
 | map _ _=> exact om this
 | maps _ _ _=>
  obtain⟨aes,a1,a2,a3⟩:=this;exact⟨aes,om a1,a2,λj n cells x hj hx=> os (a3 j n cells x hj hx)⟩
 | aib _ _ _=>
  obtain⟨ys,a1,a2,a3⟩:=this;exact⟨ys,os a1,a2,λj cells x hj hx=> os (a3 j cells x hj hx)⟩
structure Step(b:Nat)(H H':aj):Prop where
 base:H'.base=H.base
 next:H.next<=H'.next
 low:∀r,r < b->H'.get r=H.get r
theorem Step.refl(b:Nat)(H:aj):Step b H H:=⟨rfl,zac _,λ_ _=> rfl⟩
theorem Step.trans {b:Nat}{H H' H'':aj}(s:Step b H H')(t:Step b H' H''):Step b H H'':=⟨t.base.trans s.base,zaz s.next t.next,λr hr=> by rw [t.low r hr,s.low r hr]⟩
theorem Step.new {b:Nat}{H:aj}(o:dR)(h:b<=H.next):Step b H (H.new o):=⟨rfl,za9 _,λr hr=> by rw [iD,if_neg (by omega)]⟩
theorem Step.put {b:Nat}{H:aj}{r:Nat}(o:dR)(h:b<=r):Step b H (H.put r o):=⟨rfl,zac _,λx hx=> by rw [get_put,if_neg (by omega)]⟩
theorem Good.newObj(G:Good b H g){ty:TypeId}{xs:List AV}(hc:xs.all AV.aH=true)(ht:ty < eH:=by decide):Good b (H.new (.blk 0 ty xs)) (upd g H.next (xs.map .av)):=by
 obtain⟨h0,τ,h⟩:=G;refine⟨by rw [Bc];omega,λr=> if r=H.next then some (r,0,0,0) else τ r,λq cs hq=> ?_⟩;by_cases hqn:q=H.next
 ·subst hqn;rw [upd_same] at hq;cases hq;refine⟨by simp,h0,by rw [Bc];omega,sJ (xs:=xs) (by simp [iD]) ht,ty,xs,by simp [iD],by simp,hc,λi c x hci hx=> ?_⟩;rw [zaB,hx] at hci;simp only [zah,zaa] at hci;subst hci;exact rfl
 ·rw [upd_ne hqn] at hq;have R:=h q cs hq;exact R.keep (H':=H.new (.blk 0 ty xs)) (za9 _) λr i s t hr ht=> ⟨by rw [if_neg (by omega)];exact ht,by rw [iD,if_neg (by omega)]⟩
theorem dK {r off g:Nat}{ty:TypeId}{xs:List AV}(h:H.get r=.blk g ty xs):ld (.ref r g off) H=(xs[off]?).map λv=> (v,H):=by
 simp only [ld,jy,aT,zah,ldO,h,if_true]
theorem fQ {r off g n:Nat}{ty:TypeId}{xs:List AV}(h:H.get r=.blk g ty xs)(hl:off+n<=xs.length):lda n (.ref r g off) H=some (.agg ((xs.drop off).take n),H):=by
 simp only [lda,jy,aT,zah,amG,h,if_true,hl]
theorem aic {cells:List AV}:ld (.ip cells) H=(cells[0]?).map λv=> (v,H):=by simp only [ld,jy,ldO]
theorem aie {cells:List AV}{n:Nat}(h:n<=cells.length):lda n (.ip cells) H=some (.agg (cells.take n),H):=by
 simp only [lda,jy,amG,za7,h,if_true,zaP,zah]
theorem Good.load(G:Good b H g)(h:g q=some cs){i:Nat}{x:AV}(hi:cs[i]?=some (.av x)):ld (.ref q 0 i) H=some (x,H):=by
 obtain⟨_,τ,hR⟩:=G;obtain⟨ty,xs,h1,h2,h3,h4⟩:=(hR q cs h).blk;rw [dK h1];have hlt:i < xs.length:=by rw [h2];exact(zaf.1 hi).1
 have hx:xs[i]?=some (xs[i]'hlt):=zab hlt;have:=h4 i _ _ hi hx;simp only [CR] at this;rw [hx,this];rfl
theorem Good.loads(G:Good b H g)(h:g q=some cs){i n:Nat}{xs:List AV}(hi:(cs.drop i).take n=xs.map .av)(hn:xs.length=n)(hp:0 < n):lda n (.ref q 0 i) H=some (.agg xs,H):=by
 obtain⟨_,τ,hR⟩:=G;obtain⟨ty,ys,h1,h2,h3,h4⟩:=(hR q cs h).blk;have hl:=congrArg List.length hi;simp only [zao,zaK,zaE] at hl
 ·rw [fQ h1 (by omega)]
  congr 2
  congr 1
  apply za6
  intro j;rcases zaR j n with hj | hj
  ·have hx:xs[j]?=some (xs[j]'(by omega)):=zab _;have hc:cs[i+j]?=some (.av (xs[j]'(by omega))):=by
    have:=congrArg (λl=> l[j]?) hi;simp only [zaA,hj,if_true,zaF,zaB,hx,zah] at this;exact this
   have hlt:i+j < ys.length:=by omega
   have hy:ys[i+j]?=some (ys[i+j]'hlt):=zab hlt;have:=h4 _ _ _ hc hy;simp only [CR] at this;rw [zaA,if_pos hj,zaF,hy,this,hx]
  ·rw [zaA,if_neg (by omega),zaG (by omega)]
end
def aG(H:aj)(x:AV)(m n:Nat)(cells:List AV):Prop:=
 cells.length=n*m/\
 match x with
 | .sl r g off esz len cap _=> esz=m/\len=n/\(r < H.next/\len<=cap)/\∃ty all,H.get r=.blk g ty all/\off+n*m<=all.length/\cells=(all.drop off).take (n*m)
 | .vs k esz cs=> esz=m/\k=n/\cs=cells
 | .s (.slice none a b)=> a=0/\b=0/\n=0
 | _=> False
def cZ(x:AV)(i:Nat):AV:=
 match x with
 | .sl r g off esz _ _ _=> .ref r g (off+i*esz)
 | .vs _ esz cs=> .ip (cs.drop (i*esz))
 | _=> aO
section
variable {P:Program}{H:aj}{x:AV}{m n:Nat}{cells:List AV}
theorem aG.aH(h:aG H x m n cells):x.aH=true:=by
 obtain⟨_,h⟩:=h;cases x with
 | s v=> cases v <;> first | rfl | exact h.elim
 | _=> first | rfl | exact h.elim
theorem aG.len(h:aG H x m n cells){t e:TypeId}(ht:wQ P t=some e):ahi P t x H=some (.s (.int .i64 n),H):=by
 obtain⟨_,h⟩:=h;unfold wQ at ht;split at ht <;> first | (cases ht;done) | skip
 rename_i e' hu;unfold ahi jy amA;cases x with
 | sl r g off esz len cap ex=> simp only [hu];rw [h.2.1];rfl
 | vs k esz cs=> simp only [hu];rw [h.2.1];rfl
 | s v=>
  cases v with
  | slice a b c=>
   cases a with
   | none=> simp only [hu];rw [h.2.2,h.1];rfl
   | some a=> exact h.elim
  | _=> exact h.elim
 | _=> exact h.elim
theorem aG.sK(h:aG H x m n cells):sliceLen x=some n/\aX H x=some cells:=by
 obtain⟨hl,h⟩:=h;cases x with
 | sl r g off esz len cap ex=>
  obtain⟨rfl,rfl,_,ty,all,h1,h2,h3⟩:=h;refine⟨rfl,?_⟩;simp only [aX,h1];rw [if_pos ⟨trivial,h2⟩,h3]
 | vs k esz cs=> obtain⟨rfl,rfl,rfl⟩:=h;exact⟨rfl,rfl⟩
 | s v=>
  cases v with
  | slice a b c=>
   cases a with
   | none=>
    obtain⟨rfl,rfl,rfl⟩:=h;refine⟨rfl,?_⟩;have:cells=[]:=zan (by omega);rw [this];rfl
   | some a=> exact h.elim
  | _=> exact h.elim
 | _=> exact h.elim
theorem aG.index(h:aG H x m n cells){t e:TypeId}(ht:wQ P t=some e)(hm:szT P e=some m){k:IntKind}{i:Int}(h0:0<=i)(h1:i < n):
  pX P t x (.s (.int k i)) H=some (cZ x i.toNat,H):=by
 obtain⟨_,h⟩:=h;unfold wQ at ht;split at ht <;> first | (cases ht;done) | skip
 rename_i e' hu;simp only [zaa] at ht;subst ht;unfold pX jy yI;cases x with
 | sl r g off esz len cap ex=>
  obtain⟨rfl,rfl,_,ty,all,h2,h3,h4⟩:=h;simp only [hu,aT,zah,h2,ahh,dR.gen,hm,true_and];rw [if_pos ⟨h0,by omega⟩];rfl
 | vs k' esz cs=>
  obtain⟨rfl,rfl,rfl⟩:=h;simp only [hu,hm,true_and];rw [if_pos ⟨h0,by omega⟩];rfl
 | s v=>
  cases v with
  | slice a b c=>
   cases a with
   | none=> obtain⟨rfl,rfl,rfl⟩:=h;omega
   | some a=> exact h.elim
  | _=> exact h.elim
 | _=> exact h.elim
def nameOf:AV->Option Nat
 | .sl r _ _ _ _ _ _=> some r
 | _=> none
theorem aG.gK {H':aj}(h:aG H x m n cells)(hn:H.next<=H'.next)(hg:∀r,nameOf x=some r->r < H.next->H'.get r=H.get r):aG H' x m n cells:=by
 obtain⟨hl,h⟩:=h;refine⟨hl,?_⟩;cases x with
 | sl r g off esz len cap ex=>
  obtain⟨h0,h1,hr,ty,all,h2,h3,h4⟩:=h;exact⟨h0,h1,⟨zaw hr.1 hn,hr.2⟩,ty,all,by rw [hg r rfl hr.1];exact h2,h3,h4⟩
 | s v=>
  cases v with
  | slice a b c=> cases a <;> exact h
  | _=> exact h
 | _=> exact h
theorem aG.new(h:aG H x m n cells)(o:dR):aG (H.new o) x m n cells:=
 h.gK (za9 _) λr _ hr=> by rw [iD,if_neg (by omega)]
theorem aG.put(h:aG H x m n cells){r:Nat}(hr:nameOf x≠some r)(o:dR):aG (H.put r o) x m n cells:=
 h.gK (zac _) λr' hx _=> by rw [get_put,if_neg (λe=> hr (by rw [hx,e]))]
theorem aG.guard(h:aG H x m n cells):aG H.guard x m n cells:=h
theorem aG.nil {m:Nat}:aG H (.s (.slice none 0 0)) m 0 []:=⟨by simp,rfl,rfl,rfl⟩
theorem aG.vs {m n:Nat}{cs:List AV}(h:cs.length=n*m):aG H (.vs n m cs) m n cs:=⟨h,rfl,rfl,rfl⟩
end
theorem flat_length {α:Type}{enc:α->List AV}{m:Nat}(he:∀a,(enc a).length=m)(l:List α):(l.flatMap enc).length=l.length*m:=by
 induction l with
 | nil=> simp
 | cons a l ih=> simp only [zaH,zaq,he,ih,zak,zbF];omega
theorem flat_get {α:Type}{enc:α->List AV}{m:Nat}(he:∀a,(enc a).length=m):∀(l:List α) (i:Nat) (a:α),l[i]?=some a->((l.flatMap enc).drop (i*m)).take m=enc a
 | [],i,a,h=> by simp at h
 | b::l,0,a,h=> by
  simp only [za1,zaa] at h;subst h;rw [zba,zaP,zaH,zbO (by rw [he];omega),zas (by rw [he];omega)]
 | b::l,i+1,a,h=> by
  simp only [zbG] at h;have e1:(enc b).drop ((i+1)*m)=[]:=zaU (by rw [he,zbF];omega);have e2:(i+1)*m - (enc b).length=i*m:=by rw [he,zbF];omega
  rw [zaH,List.drop_append,e1,e2,zaX];exact flat_get he l i a h
section
variable {b:Nat}{H H':aj}{g:Store}{q:Nat}{cs:List Cell}
theorem uO {τ τ':Nat->Option Tag}{cs':List Cell}(h0:b<=H.next)(h:∀q cs,g q=some cs->aha b H τ q cs)(hn:H.next<=H'.next)
  (hk:∀r,r < H.next->(∀i s t,τ r≠some (q,i,s,t))->τ' r=τ r/\H'.get r=H.get r) (hR:aha b H' τ' q cs'):Good b H' (upd g q cs'):=by
 refine⟨by omega,τ',λq2 cs2 hq2=> ?_⟩;by_cases e:q2=q
 ·subst e;rw [upd_same] at hq2;cases hq2;exact hR
 ·rw [upd_ne e] at hq2;refine(h q2 cs2 hq2).keep hn λr i s t hr ht=> ?_;obtain⟨k1,k2⟩:=hk r hr λi' s' t' h'=> by rw [ht] at h';cases h';exact e rfl
  exact⟨by rw [k1];exact ht,k2⟩
theorem kR {α:Type}{l:List α}{i j:Nat}{a x:α}(h:(l.set i a)[j]?=some x):(j=i/\x=a)∨(j≠i/\l[j]?=some x):=by
 by_cases e:i=j
 ·subst e;have hl:i < l.length:=by
   have:=(zaf.1 h).1
   simpa using this
  rw [zbj hl] at h;cases h;exact .inl ⟨rfl,rfl⟩
 ·rw [zbx e] at h;exact .inr ⟨λe'=> e e'.symm,h⟩
theorem O5 {l:List AV}(h:l.all AV.aH=true){v:AV}(hv:v.aH=true)(i:Nat):(l.set i v).all AV.aH=true:=by
 rw [zaZ] at h ⊢;intro x hx;rcases zbM hx with hx | rfl
 ·exact h x hx
 ·exact hv
theorem Lj {l:List AV}{i:Nat}{v:AV}(hi:i < l.length):setAt l i [v]=l.set i v:=by
 rw [List.set_eq_take_append_cons_drop];simp only [setAt,hi,if_true,zak,zat];rfl
def One(v:AV):Prop:=v.cells=[v]/\v.aH=true
theorem bJ {k:IntKind}{n:Int}:One (.s (.int k n)):=⟨rfl,rfl⟩
theorem Bf {x:Bool}:One (.s (.bool x)):=⟨rfl,rfl⟩
theorem qj {r g off esz len cap:Nat}{ex:Bool}:One (.sl r g off esz len cap ex):=⟨rfl,rfl⟩
theorem acW {n esz:Nat}{cells:List AV}:One (.vs n esz cells):=⟨rfl,rfl⟩
theorem mJ:One zN:=⟨rfl,rfl⟩
theorem Ll {r gg off:Nat}{v:AV}{ty:TypeId}{xs:List AV}(hv:One v)(h:H.get r=.blk gg ty xs)(hb:H.base<=r)(hl:off < xs.length):st 1 (.ref r gg off) v H=some (aO,H.put r (.blk gg ty (xs.set off v))):=by
 show(match H.get r with
  | .blk g' ty cells=> if g'=gg/\H.base<=r/\some 1=some v.cells.length/\v.cells.all AV.aH=true/\off+v.cells.length<=cells.length then some (aO,H.put r (.blk gg ty (setAt cells off v.cells))) else none
  | .map ..=> none)=_
 rw [h];simp only;rw [if_pos ⟨trivial,hb,by rw [hv.1];rfl,by rw [hv.1];simp [hv.2],by rw [hv.1];exact hl⟩,hv.1,Lj hl]
theorem QZ {r gg off n:Nat}{vs:List AV}{ty:TypeId}{xs:List AV}(hv:vs.all AV.aH=true)(hn:vs.length=n)(h:H.get r=.blk gg ty xs)(hb:H.base<=r)(hl:off+n<=xs.length):st n (.ref r gg off) (.agg vs) H=some (aO,H.put r (.blk gg ty (setAt xs off vs))):=by
 show(match H.get r with
  | .blk g' ty cells=> if g'=gg/\H.base<=r/\some n=some (AV.agg vs).cells.length/\(AV.agg vs).cells.all AV.aH=true/\off+(AV.agg vs).cells.length<=cells.length then some (aO,H.put r (.blk gg ty (setAt cells off (AV.agg vs).cells))) else none
  | .map ..=> none)=_
 rw [h];simp only [dF];rw [if_pos ⟨trivial,hb,by rw [hn],hv,by omega⟩]
theorem Good.store(G:Good b H g)(hb:H.base<=b)(h:g q=some cs){i:Nat}(hi:i < cs.length){v:AV}(hv:One v):
  ∃H',st 1 (.ref q 0 i) v H=some (aO,H')/\Good b H' (upd g q (cs.set i (.av v)))/\Step b H H'/\H'.next=H.next:=by
 obtain⟨h0,τ,hR⟩:=G;have R:=hR q cs h;obtain⟨ty,xs,h1,h2,h3,h4⟩:=R.blk;have lo:=R.lo;refine⟨_,Ll hv h1 (by omega) (by omega),?_,Step.put _ lo,rfl⟩;refine uO (τ':=τ) h0 hR (zac _) (λr hr ht=> ⟨rfl,?_⟩) ⟨R.tag,R.lo,R.hi,sJ (xs:=xs.set i v) (by rw [get_put,if_pos rfl]) (R.tyl _ _ _ h1),ty,xs.set i v,by rw [get_put,if_pos rfl],by simp [h2],O5 h3 hv.2 i,λj c x hc hx=> ?_⟩
 ·rw [get_put,if_neg];intro e;subst e;exact ht 0 0 0 R.tag
 ·rcases kR hc with⟨rfl,rfl⟩ | ⟨hj,hc⟩
  ·rcases kR hx with⟨_,rfl⟩ | ⟨hj,_⟩
   ·exact rfl
   ·exact absurd rfl hj
  ·rcases kR hx with⟨rfl,_⟩ | ⟨_,hx⟩
   ·exact absurd rfl hj
   ·refine(h4 j c x hc hx).keep (zac _) λr s t hr ht=> ⟨ht,?_⟩
    rw [get_put,if_neg];intro e;subst e;rw [R.tag] at ht;cases ht
def mX(cs:List Cell)(i:Nat)(vs:List AV):List Cell:=cs.take i++(vs.map .av++cs.drop (i+vs.length))
theorem kS {l:List AV}{i:Nat}{vs:List AV}(h:i+vs.length<=l.length)(j:Nat):(setAt l i vs)[j]?=if i<=j/\j < i+vs.length then vs[j - i]? else l[j]?:=by
 unfold setAt;rcases zaR j i with hj | hj
 ·rw [zaJ (by rw [zao];omega),zaA,if_pos hj,if_neg (by omega)]
 ·have h1:(l.take i).length=i:=by rw [zao];omega
  rw [zaY (by omega),h1];rcases zaR j (i+vs.length) with hk | hk
  ·rw [if_pos ⟨hj,hk⟩,zaJ (by omega)]
  ·rw [if_neg (by omega),zaY (by omega),zaF]
   congr 1;omega
theorem Uh {i:Nat}{vs:List AV}(h:i+vs.length<=cs.length)(j:Nat):(mX cs i vs)[j]?=if i<=j/\j < i+vs.length then(vs[j - i]?).map .av else cs[j]?:=by
 unfold mX;rcases zaR j i with hj | hj
 ·rw [zaJ (by rw [zao];omega),zaA,if_pos hj,if_neg (by omega)]
 ·have h1:(cs.take i).length=i:=by rw [zao];omega
  rw [zaY (by omega),h1];rcases zaR j (i+vs.length) with hk | hk
  ·rw [if_pos ⟨hj,hk⟩,zaJ (by rw [zaE];omega),zaB]
  ·rw [if_neg (by omega),zaY (by rw [zaE];omega),zaE,zaF]
   congr 1;omega
theorem lg {l:List AV}{i:Nat}{vs:List AV}(h:i+vs.length<=l.length):(setAt l i vs).length=l.length:=by
 simp only [setAt,zaq,zao,zaK];omega
theorem Iy {i:Nat}{vs:List AV}(h:i+vs.length<=cs.length):(mX cs i vs).length=cs.length:=by
 simp only [mX,zaq,zao,zaK,zaE];omega
theorem tN {l vs:List AV}(h:l.all AV.aH=true)(hv:vs.all AV.aH=true)(i:Nat):(setAt l i vs).all AV.aH=true:=by
 rw [zaZ] at h hv ⊢;intro x hx;simp only [setAt,za2] at hx;rcases hx with hx | hx | hx
 ·exact h x (List.mem_of_mem_take hx)
 ·exact hv x hx
 ·exact h x (List.mem_of_mem_drop hx)
theorem Good.stores(G:Good b H g)(hb:H.base<=b)(h:g q=some cs){i n:Nat}{vs:List AV}(hi:i+n<=cs.length)(hn:vs.length=n)(hv:vs.all AV.aH=true):
  ∃H',st n (.ref q 0 i) (.agg vs) H=some (aO,H')/\Good b H' (upd g q (mX cs i vs))/\Step b H H'/\H'.next=H.next:=by
 obtain⟨h0,τ,hR⟩:=G;have R:=hR q cs h;obtain⟨ty,xs,h1,h2,h3,h4⟩:=R.blk;have lo:=R.lo;refine⟨_,QZ hv hn h1 (by omega) (by omega),?_,Step.put _ lo,rfl⟩;refine uO (τ':=τ) h0 hR (zac _) (λr hr ht=> ⟨rfl,?_⟩) ⟨R.tag,R.lo,R.hi,sJ (xs:=setAt xs i vs) (by rw [get_put,if_pos rfl]) (R.tyl _ _ _ h1),ty,setAt xs i vs,by rw [get_put,if_pos rfl],by rw [lg (by omega),Iy (by omega),h2],tN h3 hv i,λj c x hc hx=> ?_⟩
 ·rw [get_put,if_neg];intro e;subst e;exact ht 0 0 0 R.tag
 ·rw [Uh (by omega)] at hc;rw [kS (by omega)] at hx;split at hc
  ·rename_i hj;rw [if_pos hj] at hx;rw [hx] at hc;simp only [zah,zaa] at hc;subst hc;exact rfl
  ·rename_i hj;rw [if_neg hj] at hx;refine(h4 j c x hc hx).keep (zac _) λr s t hr ht=> ⟨ht,?_⟩
   rw [get_put,if_neg];intro e;subst e;rw [R.tag] at ht;cases ht
structure Cur(b:Nat)(H:aj)(q i:Nat)(x:AV)(m:Nat)(l:List AV):Prop where
 at_:∃ty xs,H.get q=.blk 0 ty xs/\xs[i]?=some x
 own:(x=zN/\l=[])∨∃r g off n cap ex ty all,x=.sl r g off m n cap ex/\r≠q/\b<=r/\r < H.next/\n<=cap/\H.get r=.blk g ty all/\off+cap*m<=all.length/\all.all AV.aH=true/\l=(all.drop off).take (n*m)
 lt:q < H.next
theorem Good.seq(G:Good b H g)(h:g q=some cs){i m:Nat}{l:List AV}(hi:cs[i]?=some (.seq m l)):∃x,ld (.ref q 0 i) H=some (x,H)/\Cur b H q i x m l:=by
 obtain⟨_,τ,hR⟩:=G;have R:=hR q cs h;obtain⟨ty,xs,h1,h2,h3,h4⟩:=R.blk;have hlt:i < xs.length:=by rw [h2];exact(zaf.1 hi).1
 have hx:xs[i]?=some (xs[i]'hlt):=zab hlt;refine⟨xs[i]'hlt,by rw [dK h1,hx];rfl,⟨ty,xs,h1,hx⟩,?_,R.hi⟩;have:=h4 i _ _ hi hx;simp only [CR] at this;rcases this with h5 | ⟨r,gg,off,n,cap,ex,ty,all,h5,h6,h7⟩
 ·exact .inl h5
 ·refine .inr ⟨r,gg,off,n,cap,ex,ty,all,h5,?_,h7⟩;intro e;subst e;rw [R.tag] at h6;cases h6
theorem Cur.load {i m:Nat}{x:AV}{l:List AV}(c:Cur b H q i x m l):ld (.ref q 0 i) H=some (x,H):=by
 obtain⟨ty,xs,h1,h2⟩:=c.at_;rw [dK h1,h2];rfl
theorem Cur.ext {i m:Nat}{x:AV}{l:List AV}(c:Cur b H q i x m l)(hn:H.next<=H'.next)(hg:∀r,r < H.next->H'.get r=H.get r):Cur b H' q i x m l:=by
 obtain⟨ty,xs,h1,h2⟩:=c.at_;refine⟨⟨ty,xs,by rw [hg q c.lt];exact h1,h2⟩,?_,by have:=c.lt;omega⟩;rcases c.own with h | ⟨r,g,off,n,cap,ex,ty,all,k0,k1,k2,k3,k4,k5,k6⟩
 ·exact .inl h
 ·exact .inr ⟨r,g,off,n,cap,ex,ty,all,k0,k1,k2,by omega,k4,by rw [hg r k3];exact k5,k6⟩
theorem Cur.new {i m:Nat}{x:AV}{l:List AV}(c:Cur b H q i x m l)(o:dR):Cur b (H.new o) q i x m l:=c.ext (za9 _) λr hr=> by rw [iD,if_neg (by omega)]
theorem Cur.one {i m:Nat}{x:AV}{l:List AV}(c:Cur b H q i x m l):One x:=by
 rcases c.own with⟨rfl,_⟩ | ⟨r,g,off,n,cap,ex,ty,all,rfl,_⟩
 ·exact mJ
 ·exact qj
theorem Cur.is {i m n:Nat}{x:AV}{l:List AV}(c:Cur b H q i x m l)(hm:0 < m)(hl:l.length=n*m):aG H x m n l:=by
 refine⟨hl,?_⟩;rcases c.own with⟨rfl,rfl⟩ | ⟨r,g,off,n',cap,ex,ty,all,rfl,k1,k2,k3,k4,k5,k6,k7,rfl⟩
 ·refine⟨rfl,rfl,?_⟩;simp only [zat] at hl;rcases Nat.mul_eq_zero.1 hl.symm with h | h <;> omega
 ·have h1:n'*m<=cap*m:=zaD _ k4;rw [zao,zaK,zbg (by omega)] at hl;have:n'=n:=zbI hm hl;subst this;exact⟨rfl,rfl,⟨k3,k4⟩,ty,all,k5,by omega,rfl⟩
theorem Cur.low {i m r:Nat}{x:AV}{l:List AV}(c:Cur b H q i x m l)(hr:r < b):nameOf x≠some r:=by
 rcases c.own with⟨rfl,_⟩ | ⟨r',g,off,n,cap,ex,ty,all,rfl,k1,k2,_⟩
 ·intro e;cases e
 ·intro e;simp only [nameOf,zaa] at e;omega
def Fit(H H1:aj)(x0 x:AV)(m:Nat)(l:List AV):Prop:=
 (x=zN/\l=[])∨∃r g off n cap ex ty all,x=.sl r g off m n cap ex/\(nameOf x0=some r∨H.next<=r)/\r < H1.next/\n<=cap/\H1.get r=.blk g ty all/\off+cap*m<=all.length/\all.all AV.aH=true/\l=(all.drop off).take (n*m)
theorem Good.seat(G:Good b H g)(h:g q=some cs){i m:Nat}{l0:List AV}(hi:cs[i]?=some (.seq m l0)){x0:AV}(c:Cur b H q i x0 m l0){H1:aj}(hn:H.next<=H1.next)(hb:H1.base<=b)
  (hk:∀r,r < H.next->nameOf x0≠some r->H1.get r=H.get r) {x:AV} {m':Nat} {l:List AV} (hx:Fit H H1 x0 x m' l):
  ∃H',st 1 (.ref q 0 i) x H1=some (aO,H')/\Good b H' (upd g q (cs.set i (.seq m' l)))/\Step b H1 H'/\H'.next=H1.next:=by
 obtain⟨h0,τ,hR⟩:=G;have R:=hR q cs h;obtain⟨ty,xs,h1,h2,h3,h4⟩:=R.blk;have lo:=R.lo;have hi':=R.hi;have il:i < cs.length:=(zaf.1 hi).1;have hx0:xs[i]?=some x0:=by
  obtain⟨ty',xs',e1,e2⟩:=c.at_;rw [h1] at e1;cases e1;exact e2
 have htag:∀r,nameOf x0=some r->τ r=some (q,i+1,0,0)/\b<=r:=by
  intro r hr;have:=h4 i _ _ hi hx0;simp only [CR] at this;rcases this with⟨rfl,_⟩ | ⟨r',gg,off,n,cap,ex,ty',all,rfl,k1,k2,_⟩
  ·cases hr
  ·simp only [nameOf,zaa] at hr;subst hr;exact⟨k1,k2⟩
 have hqx:nameOf x0≠some q:=λe=> by have:=(htag q e).1;rw [R.tag] at this;cases this
 have hq1:H1.get q=.blk 0 ty xs:=by rw [hk q hi' hqx];exact h1
 have hone:One x:=by
  rcases hx with⟨rfl,_⟩ | ⟨r,gg,off,n,cap,ex,ty',all,rfl,_⟩
  ·exact mJ
  ·exact qj
 refine⟨_,Ll hone hq1 (by omega) (by omega),?_,Step.put _ lo,rfl⟩;refine uO (τ':=λr=> if H.next<=r then some (q,i+1,0,0) else τ r) h0 hR (show H.next<=H1.next from hn) (λr hr ht=> ⟨by rw [if_neg (by omega)],?_⟩)
  ⟨by rw [if_neg (by omega)];exact R.tag,R.lo,show q < H1.next by omega,sJ (xs:=xs.set i x) (by rw [get_put,if_pos rfl]) (R.tyl _ _ _ h1),ty,xs.set i x,by rw [get_put,if_pos rfl],by simp [h2],O5 h3 hone.2 i,λj cc y hc hy=> ?_⟩
 ·rw [get_put,if_neg (by intro e;subst e;exact ht 0 0 0 R.tag)];exact hk r hr λe=> ht (i+1) 0 0 (htag r e).1
 ·rcases kR hc with⟨rfl,rfl⟩ | ⟨hj,hc⟩
  ·rcases kR hy with⟨_,rfl⟩ | ⟨hj,_⟩
   ·rcases hx with hx | ⟨r,gg,off,n,cap,ex,ty',all,rfl,k1,k2,k3,k4,k5⟩
    ·exact .inl hx
    ·have hrq:r≠q:=by
      rcases k1 with k1 | k1
      ·intro e;subst e;exact hqx k1
      ·omega
     refine .inr ⟨r,gg,off,n,cap,ex,ty',all,rfl,?_,?_,k2,k3,by rw [get_put,if_neg hrq];exact k4,k5⟩
     ·show(if H.next<=r then some (q,j+1,0,0) else τ r)=some (q,j+1,0,0);split
      ·rfl
      ·rcases k1 with k1 | k1
       ·exact(htag r k1).1
       ·omega
     ·rcases k1 with k1 | k1
      ·exact(htag r k1).2
      ·omega
   ·exact absurd rfl hj
  ·rcases kR hy with⟨rfl,_⟩ | ⟨_,hy⟩
   ·exact absurd rfl hj
   ·refine(h4 j cc y hc hy).keep (show H.next<=H1.next from hn) λr s t hr ht=> ⟨by rw [if_neg (by omega)];exact ht,?_⟩
    rw [get_put,if_neg (by intro e;subst e;rw [R.tag] at ht;cases ht)];refine hk r hr λe=> ?_;have:=(htag r e).1;rw [this] at ht;simp only [zaa,zad,zb2] at ht;exact hj ht.2.1.symm
end
section
variable {b:Nat}{H H':aj}{g:Store}{q:Nat}{cs:List Cell}
theorem aG.lnS {x:AV}{m n:Nat}{cells:List AV}(h:aG H x m n cells):lnS x H=some (I n,H):=by
 obtain⟨_,h⟩:=h;unfold Go.Proofs.YthmoogcacpmjiaaGreat.lnS jy am4;cases x with
 | sl r g off esz len cap ex=> simp only;rw [h.2.1];rfl
 | vs k esz cs=> simp only;rw [h.2.1];rfl
 | s v=>
  cases v with
  | slice a b c=>
   cases a with
   | none=> simp only;rw [h.2.2,h.1];rfl
   | some a=> exact h.elim
  | _=> exact h.elim
 | _=> exact h.elim
theorem aG.ix {x:AV}{m n:Nat}{cells:List AV}(h:aG H x m n cells){k:IntKind}{i:Int}(h0:0<=i)(h1:i < n):ix m x (.s (.int k i)) H=some (cZ x i.toNat,H):=by
 obtain⟨_,h⟩:=h;unfold Go.Proofs.YthmoogcacpmjiaaGreat.ix jy ixO;cases x with
 | sl r g off esz len cap ex=>
  obtain⟨rfl,rfl,_,ty,all,h2,h3,h4⟩:=h;simp only [aT,zah,h2,ahh,dR.gen,true_and];rw [if_pos ⟨h0,by omega⟩];rfl
 | vs k' esz cs=>
  obtain⟨rfl,rfl,rfl⟩:=h;simp only [true_and];rw [if_pos ⟨h0,by omega⟩];rfl
 | s v=>
  cases v with
  | slice a b c=>
   cases a with
   | none=> obtain⟨rfl,rfl,rfl⟩:=h;omega
   | some a=> exact h.elim
  | _=> exact h.elim
 | _=> exact h.elim
theorem aG.ld {x:AV}{n:Nat}{cells:List AV}(h:aG H x 1 n cells){i:Nat}(hi:i < n):ld (cZ x i) H=(cells[i]?).map λv=> (v,H):=by
 obtain⟨_,h⟩:=h;cases x with
 | sl r g off esz len cap ex=>
  obtain⟨rfl,rfl,_,ty,all,h2,h3,h4⟩:=h;simp only [cZ];rw [dK h2,h4,zaA,if_pos (by omega),zaF,zbt]
 | vs k' esz cs=>
  obtain⟨rfl,rfl,rfl⟩:=h;simp only [cZ];rw [aic,zaF,zbt,zbf]
 | s v=>
  cases v with
  | slice a b c=>
   cases a with
   | none=> obtain⟨rfl,rfl,rfl⟩:=h;omega
   | some a=> exact h.elim
  | _=> exact h.elim
 | _=> exact h.elim
theorem aG.aif {x:AV}{m n:Nat}{cells:List AV}(h:aG H x m n cells){i o:Nat}(hi:i < n)(ho:o < m):(ah (cZ x i) o).bind (λp=> Go.Proofs.YthmoogcacpmjiaaGreat.ld p H)=(cells[i*m+o]?).map λv=> (v,H):=by
 obtain⟨hl,h⟩:=h;have him:i*m+m<=n*m:=by
  have:(i+1)*m<=n*m:=zaD _ hi
  rwa [zbF] at this
 cases x with
 | sl r g off esz len cap ex=>
  obtain⟨rfl,rfl,_,ty,all,h2,h3,h4⟩:=h;simp only [cZ,oM,zaV];rw [dK h2,h4,zaA,if_pos (by omega),zaF,zb7]
 | vs k' esz cs=>
  obtain⟨rfl,rfl,rfl⟩:=h;simp only [cZ,wB,zaV];rw [aic,zbE,zaF,zbf]
 | s v=>
  cases v with
  | slice a b c=>
   cases a with
   | none=> obtain⟨rfl,rfl,rfl⟩:=h;omega
   | some a=> exact h.elim
  | _=> exact h.elim
 | _=> exact h.elim
theorem aG.lda {x:AV}{m n:Nat}{cells:List AV}(h:aG H x m n cells){i:Nat}(hi:i < n):lda m (cZ x i) H=some (.agg ((cells.drop (i*m)).take m),H):=by
 obtain⟨hl,h⟩:=h;have him:i*m+m<=n*m:=by
  have:(i+1)*m<=n*m:=zaD _ hi
  rwa [zbF] at this
 cases x with
 | sl r g off esz len cap ex=>
  obtain⟨rfl,rfl,_,ty,all,h2,h3,h4⟩:=h;simp only [cZ];rw [fQ h2 (by omega),h4,zce,zbU,zbE,zbg (by omega)]
 | vs k' esz cs=>
  obtain⟨rfl,rfl,rfl⟩:=h;simp only [cZ];rw [aie (by rw [zaK];omega)]
 | s v=>
  cases v with
  | slice a b c=>
   cases a with
   | none=> obtain⟨rfl,rfl,rfl⟩:=h;omega
   | some a=> exact h.elim
  | _=> exact h.elim
 | _=> exact h.elim
theorem Dy {all new:List AV}{off n:Nat}(h:off+n+new.length<=all.length):((setAt all (off+n) new).drop off).take (n+new.length)=(all.drop off).take n++new:=by
 have hl:(setAt all (off+n) new).length=all.length:=lg (by omega)
 apply za6
 intro j;rcases zaR j n with h1 | h1
 ·rw [zaA,if_pos (by omega),zaF,kS (by omega),if_neg (by omega),zaJ (by rw [zao,zaK];omega),zaA,if_pos h1,zaF]
 ·rcases zaR j (n+new.length) with h2 | h2
  ·rw [zaA,if_pos h2,zaF,kS (by omega),if_pos (by omega),zaY (by rw [zao,zaK];omega),zao,zaK]
   congr 1;omega
  ·rw [zaA,if_neg (by omega),zaY (by rw [zao,zaK];omega),zao,zaK,zaG (by omega)]
theorem all_append {l l':List AV}(h:l.all AV.aH=true)(h':l'.all AV.aH=true):(l++l').all AV.aH=true:=by rw [zbb,h,h'];rfl
theorem Bg {l:List AV}(h:l.all AV.aH=true)(n:Nat):(l.take n).all AV.aH=true:=by
 rw [zaZ] at h ⊢;exact λx hx=> h x (List.mem_of_mem_take hx)
theorem xu {l:List AV}(h:l.all AV.aH=true)(n:Nat):(l.drop n).all AV.aH=true:=by
 rw [zaZ] at h ⊢;exact λx hx=> h x (List.mem_of_mem_drop hx)
def Own(b:Nat)(H:aj)(x:AV)(m:Nat)(l:List AV):Prop:=
 (x=zN/\l=[])∨∃r g off n cap ex ty all,x=.sl r g off m n cap ex/\b<=r/\r < H.next/\n<=cap/\H.get r=.blk g ty all/\off+cap*m<=all.length/\all.all AV.aH=true/\l=(all.drop off).take (n*m)
theorem Own.app {m n k:Nat}{x y:AV}{l new:List AV}(c:Own b H x m l)(hb:H.base<=b)(hm:0 < m)(hl:l.length=n*m)(hy:aG H y m k new)(hc:new.all AV.aH=true){e:TypeId}{by_:Nat}(h1:n+k<=most)(h2:(n+k)*by_<=most):
  ∃x' H1,app e m by_ x y H=some (x',H1)/\Fit H H1 x x' m (l++new)/\H.next<=H1.next/\H1.base=H.base/\∀r,r < H.next->nameOf x≠some r->H1.get r=H.get r:=by
 obtain⟨c1,c2⟩:=hy.sK;have c3:=hy.1;have key:Go.Proofs.YthmoogcacpmjiaaGreat.app e m by_ x y H=bU e m by_ x k new H:=by simp only [Go.Proofs.YthmoogcacpmjiaaGreat.app,c1,c2]
 rw [key];unfold bU;rw [if_pos ⟨c3,hc⟩];rcases c with⟨rfl,rfl⟩ | ⟨r,gg,off,n',cap,ex,ty,all,rfl,k2,k3,k4,k5,k6,k7,rfl⟩
 ·simp only [zat] at hl;have hn:n=0:=by rcases Nat.mul_eq_zero.1 hl.symm with h | h <;> omega
  subst hn;rw [za7] at h1 h2;by_cases hk:k=0
  ·subst hk;rw [zba] at c3;have:new=[]:=zan c3;subst this;exact⟨zN,H,by simp only [if_true],.inl ⟨rfl,rfl⟩,zac _,rfl,λ_ _ _=> rfl⟩
  ·refine⟨.sl H.next 0 0 m k k false,H.new (.blk 0 (e+eH) new),by simp only [hk,h1,h2,and_self,if_true,if_false],.inr ⟨H.next,0,0,k,k,false,e+eH,new,rfl,.inr (zac _),by rw [Bc];omega,zac _,by simp [iD],by omega,hc,?_⟩,za9 _,rfl,λr hr _=> by rw [iD,if_neg (by omega)]⟩;rw [zaX,zaP,zas (by omega)]
 ·have hcm:n'*m<=cap*m:=zaD _ k4;rw [zao,zaK,zbg (by omega)] at hl;have hn:n'=n:=zbI hm hl;subst hn;simp only [k5];rw [if_pos ⟨trivial,trivial,by omega⟩];by_cases hk:k=0
  ·subst hk;rw [zba] at c3;have:new=[]:=zan c3;subst this;exact⟨_,H,by rw [if_pos rfl],.inr ⟨r,gg,off,n',cap,ex,ty,all,rfl,.inl rfl,k3,k4,k5,k6,k7,by rw [zbh]⟩,zac _,rfl,λ_ _ _=> rfl⟩
  ·rw [if_neg hk];by_cases hf:n'+k<=cap
   ·have hfm:(n'+k)*m<=cap*m:=zaD _ hf;rw [if_pos hf,if_pos ⟨by omega,by omega⟩];refine⟨_,_,rfl,.inr ⟨r,gg,off,n'+k,cap,ex,ty,setAt all (off+n'*m) new,rfl,.inl rfl,k3,hf,by rw [get_put,if_pos rfl],?_,tN k7 hc _,?_⟩,zac _,rfl,λr' hr hne=> ?_⟩
    ·rw [zbs] at hfm;rw [lg (by omega)];exact k6
    ·rw [zbs] at hfm ⊢;rw [<-c3,Dy (by omega)]
    ·rw [get_put,if_neg];intro e';subst e';exact hne rfl
   ·rw [if_neg hf,if_pos ⟨h1,h2⟩];have e1:((all.drop off).take (n'*m)).length=n'*m:=by rw [zao,zaK];omega
    have e2:((all.drop off).take (n'*m)++new).length=(n'+k)*m:=by rw [zaq,e1,c3,zbs]
    cases ex with
    | true=>
     simp only [if_true];refine⟨_,_,rfl,.inr ⟨H.next,0,0,n'+k,n'+k,false,e+eH,(all.drop off).take (n'*m)++new,rfl,.inr (zac _),by rw [Bc];omega,zac _,by simp only [iD,if_true],by rw [e2,za7];exact zac _,all_append (Bg (xu k7 _) _) hc,?_⟩,za9 _,rfl,λr' hr _=> by rw [iD,if_neg (by omega)]⟩;rw [zaP,zas (Nat.le_of_eq e2)]
    | false=>
     simp only [zai,if_false];rw [if_pos (by omega)];refine⟨_,_,rfl,.inr ⟨r,gg+1,0,n'+k,n'+k,false,grT e ty off,(all.drop off).take (n'*m)++new,rfl,.inl rfl,k3,zac _,by simp only [get_put,if_true],by rw [e2,za7];exact zac _,all_append (Bg (xu k7 _) _) hc,?_⟩,zac _,rfl,λr' hr hne=> ?_⟩
     ·rw [zaP,zas (Nat.le_of_eq e2)]
     ·rw [get_put,if_neg];intro e';subst e';exact hne rfl
theorem Cur.anc {i m:Nat}{x:AV}{l:List AV}(c:Cur b H q i x m l):Own b H x m l:=by
 rcases c.own with h | ⟨r,gg,off,n',cap,ex,ty,all,k0,k1,k2⟩
 ·exact .inl h
 ·exact .inr ⟨r,gg,off,n',cap,ex,ty,all,k0,k2⟩
theorem Cur.app {i m n k:Nat}{x y:AV}{l new:List AV}(c:Cur b H q i x m l)(hb:H.base<=b)(hm:0 < m)(hl:l.length=n*m)(hy:aG H y m k new)(hc:new.all AV.aH=true){e:TypeId}{by_:Nat}(h1:n+k<=most)(h2:(n+k)*by_<=most):
  ∃x' H1,app e m by_ x y H=some (x',H1)/\Fit H H1 x x' m (l++new)/\H.next<=H1.next/\H1.base=H.base/\∀r,r < H.next->nameOf x≠some r->H1.get r=H.get r:=
 c.anc.app hb hm hl hy hc h1 h2
theorem Own.step {m n k:Nat}{x y:AV}{l new:List AV}(c:Own b H x m l)(hbn:b<=H.next)(hb:H.base<=b)(hm:0 < m)(hl:l.length=n*m)(hy:aG H y m k new)(hc:new.all AV.aH=true){e:TypeId}{by_:Nat}(h1:n+k<=most)(h2:(n+k)*by_<=most):
  ∃x' H1,Go.Proofs.YthmoogcacpmjiaaGreat.app e m by_ x y H=some (x',H1)/\Own b H1 x' m (l++new)/\Step b H H1:=by
 obtain⟨x',H1,e1,f,n1,b1,k1⟩:=c.app hb hm hl hy hc (e:=e) (by_:=by_) h1 h2;have hx:∀r,nameOf x=some r->b<=r:=λr hr=> by
  rcases c with⟨rfl,_⟩ | ⟨r',g,off,n',cap,ex,ty,all,rfl,k2,_⟩
  ·cases hr
  ·simp only [nameOf,zaa] at hr;omega
 refine⟨x',H1,e1,?_,b1,n1,λr hr=> k1 r (by omega) λe=> by have:=hx r e;omega⟩;rcases f with f | ⟨r,g,off,n',cap,ex,ty,all,rfl,f1,f2⟩
 ·exact .inl f
 ·exact .inr ⟨r,g,off,n',cap,ex,ty,all,rfl,f1.elim (hx r) λf1=> by omega,f2⟩
theorem Own.is {m n:Nat}{x:AV}{l:List AV}(c:Own b H x m l)(hm:0 < m)(hl:l.length=n*m):aG H x m n l:=by
 refine⟨hl,?_⟩;rcases c with⟨rfl,rfl⟩ | ⟨r,g,off,n',cap,ex,ty,all,rfl,k2,k3,k4,k5,k6,k7,rfl⟩
 ·refine⟨rfl,rfl,?_⟩;simp only [zat] at hl;rcases Nat.mul_eq_zero.1 hl.symm with h | h <;> omega
 ·have hcm:n'*m<=cap*m:=zaD _ k4;rw [zao,zaK,zbg (by omega)] at hl;have hn:n'=n:=zbI hm hl;subst hn;exact⟨rfl,rfl,⟨k3,k4⟩,ty,all,k5,by omega,rfl⟩
theorem Own.ext {m:Nat}{x:AV}{l:List AV}(c:Own b H x m l)(hn:H.next<=H'.next)(hg:∀r,r < H.next->H'.get r=H.get r):Own b H' x m l:=by
 rcases c with h | ⟨r,g,off,n,cap,ex,ty,all,k0,k2,k3,k4,k5,k6⟩
 ·exact .inl h
 ·exact .inr ⟨r,g,off,n,cap,ex,ty,all,k0,k2,by omega,k4,by rw [hg r k3];exact k5,k6⟩
theorem Own.new {m:Nat}{x:AV}{l:List AV}(c:Own b H x m l)(o:dR):Own b (H.new o) x m l:=c.ext (za9 _) λr hr=> by rw [iD,if_neg (by omega)]
theorem Good.append(G:Good b H g)(hb:H.base<=b)(h:g q=some cs){i m n k:Nat}{l new:List AV}(hi:cs[i]?=some (.seq m l))(hm:0 < m)(hl:l.length=n*m){x y:AV}(c:Cur b H q i x m l)(hy:aG H y m k new)(hc:new.all AV.aH=true){e:TypeId}{by_:Nat}(h1:n+k<=most)(h2:(n+k)*by_<=most):
  ∃x' H1 H2,app e m by_ x y H=some (x',H1)/\st 1 (.ref q 0 i) x' H1=some (aO,H2)/\Good b H2 (upd g q (cs.set i (.seq m (l++new))))/\Step b H H2:=by
 obtain⟨x',H1,e1,f,n1,b1,k1⟩:=c.app hb hm hl hy hc (e:=e) (by_:=by_) h1 h2;obtain⟨H2,e2,G2,b2,n2⟩:=G.seat h hi c n1 (by omega) k1 f;have hb0:=G.1;exact⟨x',H1,H2,e1,e2,G2,Step.trans ⟨b1,n1,λr hr=> k1 r (by omega) (c.low hr)⟩ b2⟩
theorem Good.elem(G:Good b H g)(hb:H.base<=b)(h:g q=some cs){i m n:Nat}{l:List AV}(hi:cs[i]?=some (.seq m l))(hm:0 < m)(hl:l.length=n*m){x:AV}(c:Cur b H q i x m l){j:Nat}(hj:j < n):
  ∃r gg off,cZ x j=.ref r gg off/\∀(w o:Nat) (v:AV),v.cells.length=w->v.cells.all AV.aH=true->o+w<=m->
   ∃H',st w (.ref r gg (off+o)) v H=some (aO,H')/\Good b H' (upd g q (cs.set i (.seq m (setAt l (j*m+o) v.cells))))/\Step b H H'/\H'.next=H.next:=by
 have him:j*m+m<=n*m:=by
  have:(j+1)*m<=n*m:=zaD _ hj
  rwa [zbF] at this
 rcases c.own with⟨rfl,rfl⟩ | ⟨r,gg,off,n',cap,ex,ty,all,rfl,k1,k2,k3,k4,k5,k6,k7,rfl⟩
 ·simp only [zat] at hl;omega
 ·have hcm:n'*m<=cap*m:=zaD _ k4;rw [zao,zaK,zbg (by omega)] at hl;have hn:n'=n:=zbI hm hl;subst hn;refine⟨r,gg,off+j*m,rfl,λw o v hw hv ho=> ?_⟩;obtain⟨h0,τ,hR⟩:=G;have R:=hR q cs h;obtain⟨ty',xs,h1,h2,h3,h4⟩:=R.blk;have hx0:xs[i]?=some (.sl r gg off m n' cap ex):=by
   obtain⟨aqA,xs',e1,e2⟩:=c.at_;rw [h1] at e1;cases e1;exact e2
  have htag:τ r=some (q,i+1,0,0):=by
   have:=h4 i _ _ hi hx0;simp only [CR] at this;rcases this with⟨h,_⟩ | ⟨_,_,_,_,_,_,_,_,h,k,_⟩
   ·cases h
   ·cases h;exact k
  refine⟨H.put r (.blk gg ty (setAt all (off+j*m+o) v.cells)),?_,?_,Step.put _ k2,rfl⟩
  ·show(match H.get r with
    | .blk g' ty cells=> if g'=gg/\H.base<=r/\some w=some v.cells.length/\v.cells.all AV.aH=true/\off+j*m+o+v.cells.length<=cells.length then some (aO,H.put r (.blk gg ty (setAt cells (off+j*m+o) v.cells))) else none
    | .map ..=> none)=_
   rw [k5];simp only;rw [if_pos ⟨trivial,by omega,by rw [hw],hv,by omega⟩]
  ·refine uO (τ':=τ) h0 hR (zac _) (λr' hr ht=> ⟨rfl,?_⟩) ⟨R.tag,R.lo,R.hi,sJ (xs:=xs) (by rw [get_put,if_neg (λe=> k1 e.symm)];exact h1) (R.tyl _ _ _ h1),ty',xs,by rw [get_put,if_neg (λe=> k1 e.symm)];exact h1,by simp [h2],h3,λj' cc y hcc hy=> ?_⟩
   ·rw [get_put,if_neg];intro e;subst e;exact ht _ _ _ htag
   ·rcases kR hcc with⟨rfl,rfl⟩ | ⟨hj',hcc⟩
    ·rw [hx0] at hy;cases hy;refine .inr ⟨r,gg,off,n',cap,ex,ty,_,rfl,htag,k2,k3,k4,by rw [get_put,if_pos rfl],by rw [lg (by omega)];exact k6,tN k7 hv _,?_⟩
     apply za6
     intro p;have hlen:((all.drop off).take (n'*m)).length=n'*m:=by rw [zao,zaK];omega
     rw [kS (by omega)];rcases zaR p (n'*m) with hp | hp
     ·rw [zaA,if_pos hp,zaF,zaA,if_pos hp,zaF,kS (by omega)];by_cases hc1:j*m+o<=p/\p < j*m+o+v.cells.length
      ·rw [if_pos hc1,if_pos (by omega)];congr 1;omega
      ·rw [if_neg hc1,if_neg (by omega)]
     ·rw [zaA,if_neg (by omega),zaA,if_neg (by omega),if_neg (by omega)]
    ·refine(h4 j' cc y hcc hy).keep (zac _) λr' s t hr ht=> ⟨ht,?_⟩
     rw [get_put,if_neg];intro e;subst e;rw [htag] at ht;simp only [zaa,zad,zb2] at ht;exact hj' ht.2.1.symm
theorem Good.map(G:Good b H g)(h:g q=some cs){i:Nat}{k:IntKind}{es:List (Int × AV)}(hi:cs[i]?=some (.map k es)):
  ∃r,ld (.ref q 0 i) H=some (.mp r,H)/\(∀z n ok,lk k z (.mp r) (.s (.int k n)) ok H=some ((match nM es n with
   | some v=> if ok then .tup [v,.s (.bool true)] else v
   | none=> if ok then .tup [.s z,.s (.bool false)] else .s z),H))/\lnM (.mp r) H=some (I es.length,H)/\(H.base<=b->
   (∀n v,∃H',mup k (.mp r) (.s (.int k n)) v H=some (aO,H')/\Good b H' (upd g q (cs.set i (.map k (G9 es n v))))/\Step b H H'/\H'.next=H.next)/\
   (∀n,∃H',del k (.mp r) (.s (.int k n)) H=some (.tup [],H')/\Good b H' (upd g q (cs.set i (.map k (wS es n))))/\Step b H H'/\H'.next=H.next)):=by
 obtain⟨h0,τ,hR⟩:=G;have R:=hR q cs h;obtain⟨ty,xs,h1,h2,h3,h4⟩:=R.blk;have hlt:i < xs.length:=by rw [h2];exact(zaf.1 hi).1
 have hx:xs[i]?=some (xs[i]'hlt):=zab hlt;have:=h4 i _ _ hi hx;simp only [CR] at this;obtain⟨r,e,t1,t2,t3,t4⟩:=this;rw [e] at hx;have hrq:q≠r:=by intro e;subst e;rw [R.tag] at t1;cases t1
 have put:∀es',Good b (H.put r (.map k es')) (upd g q (cs.set i (.map k es'))):=by
  intro es';refine uO (τ':=τ) h0 hR (zac _) (λr' hr ht=> ⟨rfl,?_⟩) ⟨R.tag,R.lo,R.hi,sJ (xs:=xs) (by rw [get_put,if_neg hrq];exact h1) (R.tyl _ _ _ h1),ty,xs,by rw [get_put,if_neg hrq];exact h1,by simp [h2],h3,λj c y hc hy=> ?_⟩
  ·rw [get_put,if_neg];intro e;subst e;exact ht _ _ _ t1
  ·rcases kR hc with⟨rfl,rfl⟩ | ⟨hj,hc⟩
   ·rw [hx] at hy;cases hy;exact⟨r,rfl,t1,t2,t3,by rw [get_put,if_pos rfl]⟩
   ·refine(h4 j c y hc hy).keep (zac _) λr' s t hr ht=> ⟨ht,?_⟩
    rw [get_put,if_neg];intro e;subst e;rw [t1] at ht;simp only [zaa,zad,zb2] at ht;exact hj ht.2.1.symm
 refine⟨r,by rw [dK h1,hx];rfl,λz n ok=> ?_,?_,λhb=> ⟨λn v=> ⟨H.put r (.map k (G9 es n v)),?_,put _,Step.put _ t2,rfl⟩,λn=> ⟨H.put r (.map k (wS es n)),?_,put _,Step.put _ t2,rfl⟩⟩⟩
 ·simp only [lk,jy,aT,zah,lkO,t4,and_self,if_true];cases nM es n <;> rfl
 ·simp only [lnM,jy,aT,zah,am5,t4]
 ·simp only [mup,t4];rw [if_pos ⟨trivial,trivial,by omega⟩]
 ·simp only [del,t4];rw [if_pos ⟨trivial,trivial,by omega⟩]
end
abbrev w64(n:Int):Int:=IntKind.wrap .i64 n
structure Cfg where
 nodes:Int
 lines:Int
 words:Int
 sets:Int
 ways:Int
 out:Int
 inn:Int
 init:List Int
structure Pkt where
 kind:Int
 src:Int
 dst:Int
 id:Int
 line:Int
 ptr:Int
 state:Int
 flag:Bool
 data:List Int
 deriving DecidableEq
structure Opn where
 kind:Int
 addr:Int
 value:Int
 deriving DecidableEq
structure Evn where
 node:Int
 index:Int
 done:Bool
 value:Int
 deriving DecidableEq
structure Ent where
 fwd:Int
 back:Int
 line:Int
 used:Int
 dirty:Bool
 data:List Int
 deriving DecidableEq
structure Row where
 state:Int
 head:Int
 data:List Int
 deriving DecidableEq
structure bF where
 kind:Int
 line:Int
 id:Int
 step:Int
 state:Int
 head:Int
 data:List Int
 next:Int
 told:Int
 deriving DecidableEq
structure Pck where
 deliver:Bool
 at_:Int
 bit:Int
 mask:Int
def vsl {α:Type}(m:Nat)(enc:α->List AV)(l:List α):AV:=if l=[] then zN else .vs l.length m (l.flatMap enc)
def encI(n:Int):List AV:=[I n]
def dat(l:List Int):AV:=vsl 1 encI l
def Cfg.av(c:Cfg):List AV:=[I c.nodes,I c.lines,I c.words,I c.sets,I c.ways,I c.out,I c.inn,dat c.init]
def Pkt.av(p:Pkt):List AV:=[I p.kind,I p.src,I p.dst,I p.id,I p.line,I p.ptr,I p.state,B p.flag,dat p.data]
def Opn.av(o:Opn):List AV:=[I o.kind,I o.addr,I o.value]
def Evn.av(e:Evn):List AV:=[I e.node,I e.index,B e.done,I e.value]
def Ent.av(e:Ent):List AV:=[I e.fwd,I e.back,I e.line,I e.used,B e.dirty,dat e.data]
def Row.av(r:Row):List AV:=[I r.state,I r.head,dat r.data]
def bF.av(d:bF):List AV:=[I d.kind,I d.line,I d.id,I d.step,I d.state,I d.head,dat d.data,I d.next,I d.told]
def Pck.av(p:Pck):List AV:=[B p.deliver,I p.at_,I p.bit,.s (.int .u16 p.mask)]
def Pkt.zero:Pkt:=⟨0,0,0,0,0,0,0,false,[]⟩
def Opn.zero:Opn:=⟨0,0,0⟩
def Ent.zero:Ent:=⟨0,0,0,0,false,[]⟩
def Row.zero:Row:=⟨0,0,[]⟩
def bF.zero:bF:=⟨0,0,0,0,0,0,[],0,0⟩
theorem bf {α:Type}{enc:α->List AV}{m:Nat}(he:∀a,(enc a).length=m)(l:List α):(l.flatMap enc).length=l.length*m:=flat_length he l
theorem Dz {α:Type}{enc:α->List AV}{m:Nat}(he:∀a,(enc a).length=m)(H:aj)(l:List α):aG H (vsl m enc l) m l.length (l.flatMap enc):=by
 unfold vsl;split
 ·rename_i h;subst h;exact aG.nil
 ·exact aG.vs (bf he l)
theorem dQ {α:Type}{enc:α->List AV}{m:Nat}:vsl m enc ([]:List α)=zN:=by simp [vsl]
theorem Bh {α:Type}{enc:α->List AV}{m:Nat}{l:List α}(h:l≠[]):vsl m enc l=.vs l.length m (l.flatMap enc):=by simp [vsl,h]
theorem O6 {α:Type}{enc:α->List AV}{m:Nat}{l:List α}:One (vsl m enc l):=by
 unfold vsl;split
 ·exact mJ
 ·exact acW
theorem pK {l:List Int}:One (dat l):=O6
theorem aaF(n:Int):(encI n).length=1:=rfl
theorem xw(l:List Int):l.flatMap encI=l.map I:=by
 induction l with
 | nil=> rfl
 | cons a l ih=> rw [zaH,ih];rfl
theorem jr(H:aj)(l:List Int):aG H (dat l) 1 l.length (l.map I):=by
 have:=Dz aaF H l;rw [xw] at this;exact this
theorem aY(p:Pkt):p.av.length=9:=rfl
theorem dw(p:Opn):p.av.length=3:=rfl
theorem lq(p:Evn):p.av.length=4:=rfl
theorem bP(p:Ent):p.av.length=6:=rfl
theorem yR(p:Row):p.av.length=3:=rfl
theorem FU(p:Cfg):p.av.length=8:=rfl
theorem DC(p:bF):p.av.length=9:=rfl
theorem FV(p:Pck):p.av.length=4:=rfl
theorem acX(p:Cfg):p.av.take 8=p.av:=rfl
theorem Lm(p:Pkt):p.av.take 9=p.av:=rfl
theorem acY(p:Opn):p.av.take 3=p.av:=rfl
theorem acZ(p:Evn):p.av.take 4=p.av:=rfl
theorem ac0(p:Ent):p.av.take 6=p.av:=rfl
theorem ac3(p:Row):p.av.take 3=p.av:=rfl
theorem Wq(p:bF):p.av.take 9=p.av:=rfl
theorem ac4(p:Pck):p.av.take 4=p.av:=rfl
theorem DF {l:List Int}:(dat l).cells=[dat l]:=pK.1
theorem lu {l:List Int}:(dat l).aH=true:=pK.2
theorem DI {α:Type}{enc:α->List AV}{m:Nat}{l:List α}:(vsl m enc l).cells=[vsl m enc l]:=O6.1
theorem FW {α:Type}{enc:α->List AV}{m:Nat}{l:List α}:(vsl m enc l).aH=true:=O6.2
theorem dH(c:Cfg):c.av.all AV.aH=true:=by simp [Cfg.av,fP,lu]
theorem aJ(p:Pkt):p.av.all AV.aH=true:=by simp [Pkt.av,fP,jC,lu]
theorem lC(p:Opn):p.av.all AV.aH=true:=by simp [Opn.av,fP]
theorem yS(p:Evn):p.av.all AV.aH=true:=by simp [Evn.av,fP,jC]
theorem jK(p:Ent):p.av.all AV.aH=true:=by simp [Ent.av,fP,jC,lu]
theorem Iz(p:Row):p.av.all AV.aH=true:=by simp [Row.av,fP,lu]
theorem aP(p:bF):p.av.all AV.aH=true:=by simp [bF.av,fP,lu]
theorem yT(p:Pck):p.av.all AV.aH=true:=by simp [Pck.av,fP,jC]
theorem xB {α:Type}{enc:α->List AV}(h:∀a,(enc a).all AV.aH=true)(l:List α):(l.flatMap enc).all AV.aH=true:=by
 rw [zaZ];intro x hx;obtain⟨a,_,ha⟩:=za5.1 hx;exact zaZ.1 (h a) x ha
theorem dZ {H:aj}{n d:Nat}:∀(l:List AV),(∀x∈l,aV H n d x=some x)->l.mapM (aV H n d)=some l
 | [],_=> rfl
 | x::l,h=> by
  rw [zbp,dZ l λy hy=> h y (by simp [hy]),h x (by simp)];rfl
theorem fJ {H:aj}{n d:Nat}{v:Value}:aV H n (d+1) (.s v)=some (.s v):=by rw [aV]
theorem Ws {H:aj}{n d k m:Nat}{l:List AV}(h:∀x∈l,aV H n d x=some x):aV H n (d+1) (.vs k m l)=some (.vs k m l):=by
 rw [aV];simp only [dZ l h,zah]
theorem FX {H:aj}{n d:Nat}{l:List AV}(h:∀x∈l,aV H n d x=some x):aV H n (d+1) (.agg l)=some (.agg l):=by
 rw [aV];simp only [dZ l h,zah]
theorem FY {H:aj}{n d:Nat}{l:List AV}(h:∀x∈l,aV H n d x=some x):aV H n (d+1) (.tup l)=some (.tup l):=by
 rw [aV];simp only [dZ l h,zah]
theorem gZ {H:aj}{n d r g off esz len cap:Nat}{ex:Bool}{l:List AV}(hr:n<=r){cells:List AV}(hc:aX H (.sl r g off esz len cap ex)=some cells)(hl:cells.mapM (aV H n d)=some l):aV H n (d+1) (.sl r g off esz len cap ex)=some (.vs len esz l):=by
 rw [aV];simp only [if_neg (Nat.not_lt.2 hr),hc,hl,zah]
def Frz(d:Nat)(x:AV):Prop:=∀H n,aV H n d x=some x
theorem dW {v:Value}{d:Nat}:Frz (d+1) (.s v):=λ_ _=> fJ
theorem ac5 {d k m:Nat}{l:List AV}(h:∀x∈l,Frz d x):Frz (d+1) (.vs k m l):=λH n=> Ws λx hx=> h x hx H n
theorem kD {d:Nat}{l:List AV}(h:∀x∈l,Frz d x):Frz (d+1) (.agg l):=λH n=> FX λx hx=> h x hx H n
theorem rD {d:Nat}{l:List AV}(h:∀x∈l,Frz d x):Frz (d+1) (.tup l):=λH n=> FY λx hx=> h x hx H n
theorem afk {α:Type}{enc:α->List AV}{m d:Nat}{l:List α}(h:∀a,∀x∈enc a,Frz (d+1) x):Frz (d+2) (vsl m enc l):=by
 unfold vsl;split
 ·exact dW
 ·refine ac5 λx hx=> ?_;obtain⟨a,_,ha⟩:=za5.1 hx;exact h a x ha
theorem rE {l:List Int}{d:Nat}:Frz (d+2) (dat l):=afk λa x hx=> by
 simp only [encI,zaS] at hx;subst hx;exact dW
section
variable {β:Type}{x:Option (AV × aj)}{H:aj}{k:AV->aj->Option β}
theorem aii:gdA (some (.s (.bool true))) true x H k=bnd x k:=rfl
theorem aij:gdA (some (.s (.bool true))) false x H k=k aO H:=rfl
theorem aik:gdA (some (.s (.bool false))) true x H k=k aO H:=rfl
theorem ail:gdA (some (.s (.bool false))) false x H k=bnd x k:=rfl
theorem apk {a b:AV}:aU (.s (.bool true)) a b=some a:=rfl
theorem apl {a b:AV}:aU (.s (.bool false)) a b=some b:=rfl
end
theorem Wu {r g o:Nat}:au (.ref r g o)=some (.ref r g o):=rfl
theorem ac6 {l:List AV}:au (.ip l)=some (.ip l):=rfl
theorem ac7 {f:FuncId}{a c:List AV}:au (.fn (.func f) a c)=some (.fn (.func f) a c):=rfl
theorem ac8 {l:List AV}{i:Nat}:aF (.tup l) i=l[i]?:=rfl
theorem ac9 {l:List AV}{o:Nat}:fl (.agg l) o=l[o]?:=rfl
theorem ada {r g off:Nat}{H:aj}:ld (.ref r g off) H=match H.get r with
  | .blk g' _ cells=> if g'=g then(cells[off]?).map λv=> (v,H) else none
  | .map ..=> none:=by
 simp only [ld,jy,aT,zah,ldO];cases H.get r with
 | map k es=> rfl
 | blk g' ty cells=> simp only;split <;> rfl
theorem O7 {r g off n:Nat}{H:aj}:lda n (.ref r g off) H=match H.get r with
  | .blk g' _ cells=> if g'=g then(if off+n<=cells.length then some (.agg ((cells.drop off).take n),H) else none) else none
  | .map ..=> none:=by
 simp only [lda,jy,aT,zah,amG];cases H.get r with
 | map k es=> rfl
 | blk g' ty cells=>
  simp only;split
  ·split <;> rfl
  ·rfl
theorem aB {t:TypeId}{l:List AV}{H:aj}(h:l.all AV.aH=true)(ht:t < 1000000000):fA t (.agg l) H=some (.ref H.next 0 0,H.new (.blk 0 t l)):=VX h ht
theorem adb {t:TypeId}{z:List AV}{H:aj}:alc t z H=some (.ref H.next 0 0,H.new (.blk 0 t z)):=rfl
theorem ade {k:IntKind}{H:aj}:mkm k H=some (.mp H.next,H.new (.map k [])):=rfl
theorem leS {a b:Nat}(h:a<=b):a<=b+1:=by omega
theorem ltS {a b:Nat}(h:a < b):a < b+1:=by omega
theorem nNew {H:aj}{o:dR}:(H.new o).next=H.next+1:=Eq.trans rfl rfl
theorem apm {H:aj}{r:Nat}{o:dR}:(H.put r o).next=H.next:=Eq.trans rfl rfl
theorem bNew {H:aj}{o:dR}:(H.new o).base=H.base:=Eq.trans rfl rfl
theorem apn {H:aj}{r:Nat}{o:dR}:(H.put r o).base=H.base:=Eq.trans rfl rfl
theorem yU {H:aj}:H.guard.next=H.next:=Eq.trans rfl rfl
theorem aio {H:aj}:H.guard.base=H.next:=Eq.trans rfl rfl
theorem ane {H:aj}:H.guard.get=H.get:=Eq.trans rfl rfl
theorem nP {H:aj}{o:dR}:(H.new o).get H.next=o:=by rw [iD,if_pos rfl]
theorem aK {H:aj}{o:dR}{r:Nat}(h:r=H.next):(H.new o).get r=o:=by rw [iD,if_pos h]
theorem aQ {H:aj}{o:dR}{r:Nat}(h:r < H.next):(H.new o).get r=H.get r:=by rw [iD,if_neg (by omega)]
theorem DJ {H:aj}{o:dR}{r:Nat}:(H.put r o).get r=o:=by rw [get_put,if_pos rfl]
theorem IB {n r off:Nat}{v:AV}{H:aj}:st n (.ref r 0 off) v H=match H.get r with
  | .blk g' ty cells=> if g'=0/\H.base<=r/\n=v.cells.length/\v.cells.all AV.aH=true/\off+v.cells.length<=cells.length then some (aO,H.put r (.blk 0 ty (setAt cells off v.cells))) else none
  | .map ..=> none:=by
 unfold st;simp only [zaa];cases H.get r <;> rfl
theorem adf {H:aj}{r off:Nat}{ty:TypeId}{cells:List AV}(h:r=H.next):ld (.ref r 0 off) (H.new (.blk 0 ty cells))=(cells[off]?).map λv=> (v,H.new (.blk 0 ty cells)):=dK (aK h)
theorem Wv {H:aj}{r off n:Nat}{ty:TypeId}{cells:List AV}(h:r=H.next):lda n (.ref r 0 off) (H.new (.blk 0 ty cells))=if off+n<=cells.length then some (.agg ((cells.drop off).take n),H.new (.blk 0 ty cells)) else none:=by
 split
 ·rename_i hl;exact fQ (aK h) hl
 ·rename_i hl;rw [O7,aK h];simp only [if_true,hl,if_false]
theorem Ad {H:aj}{r off:Nat}{o:dR}(h:r < H.next):ld (.ref r 0 off) (H.new o)=(ld (.ref r 0 off) H).map λp=> (p.1,H.new o):=by
 rw [ada,ada,aQ h];cases H.get r with
 | map k es=> rfl
 | blk g ty cells=> simp only;split <;> first | rfl | (cases cells[off]? <;> rfl)
theorem Wx {H:aj}{r off n:Nat}{o:dR}(h:r < H.next):lda n (.ref r 0 off) (H.new o)=(lda n (.ref r 0 off) H).map λp=> (p.1,H.new o):=by
 rw [O7,O7,aQ h];cases H.get r with
 | map k es=> rfl
 | blk g ty cells=> simp only;split <;> first | rfl | (split <;> rfl)
theorem DK {H:aj}{a b:dR}:(H.new a).put H.next b=H.new b:=by
 unfold aj.put aj.new;simp only
 congr 1
 funext x
 split <;> rfl
theorem aip {H:aj}{r:Nat}{a b:dR}(h:r < H.next):(H.new a).put r b=(H.put r b).new a:=by
 unfold aj.put aj.new;simp only
 congr 1
 funext x
 split <;> split <;> first | rfl | (exfalso;omega)
theorem Lp {n:Nat}{H:aj}{r off:Nat}{v:AV}{ty:TypeId}{cells:List AV}(h:r=H.next):st n (.ref r 0 off) v (H.new (.blk 0 ty cells))=if H.base<=r/\n=v.cells.length/\v.cells.all AV.aH=true/\off+v.cells.length<=cells.length then some (aO,H.new (.blk 0 ty (setAt cells off v.cells))) else none:=by
 subst h;rw [IB,aK rfl];simp only [true_and,bNew,DK]
theorem Ls {n:Nat}{H:aj}{r off:Nat}{v:AV}{o:dR}(h:r < H.next):st n (.ref r 0 off) v (H.new o)=(st n (.ref r 0 off) v H).map λp=> (p.1,p.2.new o):=by
 rw [IB,IB,aQ h];cases H.get r with
 | map k es=> rfl
 | blk g ty cells=>
  simp only [bNew];split
  ·simp only [zah,aip h]
  ·rfl
theorem adg {r off n:Nat}{v:AV}{ty:TypeId}{xs:List AV}{H:aj}(h:H.get r=.blk 0 ty xs)(hb:H.base<=r)(hv:v.cells.all AV.aH=true)(hn:v.cells.length=n)(hl:off+n<=xs.length):st n (.ref r 0 off) v H=some (aO,H.put r (.blk 0 ty (setAt xs off v.cells))):=by
 show(match H.get r with
  | .blk g' ty cells=> if g'=0/\H.base<=r/\some n=some v.cells.length/\v.cells.all AV.aH=true/\off+v.cells.length<=cells.length then some (aO,H.put r (.blk 0 ty (setAt cells off v.cells))) else none
  | .map ..=> none)=_
 rw [h];simp only;rw [if_pos ⟨trivial,hb,by rw [hn],hv,by omega⟩]
theorem bZ {pl:Nat->Option (Nat × Nat)}{z:List AV}:dM pl z []=some z:=rfl
theorem DL {pl:Nat->Option (Nat × Nat)}{z:List AV}{i off:Nat}{v:AV}{ps:List (Nat × AV)}(hp:pl i=some (off,1))(hv:v.cells=[v])(hl:off < z.length):dM pl z ((i,v)::ps)=dM pl (z.set off v) ps:=by
 rw [dM];simp only [hp,hv,zak,zat];rw [if_pos ⟨trivial,by omega⟩,Lj hl]
theorem rG {e m:Nat}{z:List AV}{H:aj}:bsl e m z 0 [] H=some (.sl H.next 0 0 m 0 0 true,H.new (.blk 0 e [])):=rfl
theorem jm {e m:Nat}{z:List AV}{v:AV}{H:aj}(hz:z.length=m)(hv:v.cells.length=m)(hc:v.cells.all AV.aH=true):bsl e m z 1 [(0,v)] H=some (.sl H.next 0 0 m 1 1 true,H.new (.blk 0 e v.cells)):=by
 have h1:(bI z 1).length=m:=by simp [bI,hz]
 unfold bsl;rw [dM];simp only [zba,hv,h1,za7,zac,and_self,if_true,dM];have:setAt (bI z 1) 0 v.cells=v.cells:=by
  simp only [setAt,List.take_zero,zaX,za7];rw [zaU (by omega),zbh]
 rw [this,if_pos hc]
theorem jv {e m n:Nat}{l:List AV}{H:aj}{ex:Bool}(h:l.length=n*m):aG (H.new (.blk 0 e l)) (.sl H.next 0 0 m n n ex) m n l:=
 ⟨h,rfl,rfl,⟨by rw [nNew];omega,zac _⟩,e,l,by simp [iD],by omega,by rw [zaP,zas (by omega)]⟩
theorem nR {e m by_ r n ty:Nat}{y:AV}{cells:List AV}{H:aj}(hx:H.get r=.blk 0 ty [])(hy:aG H y m n cells)(hc:cells.all AV.aH=true)(hn:n≠0)(h1:n<=most)(h2:n*by_<=most):
  app e m by_ (.sl r 0 0 m 0 0 true) y H=some (.sl H.next 0 0 m n n false,H.new (.blk 0 (e+eH) cells)):=by
 obtain⟨c1,c2⟩:=hy.sK;simp only [app,c1,c2];unfold bU;rw [if_pos ⟨hy.1,hc⟩];simp only [hx];rw [if_pos ⟨trivial,trivial,by simp⟩,if_neg hn,if_neg (by omega),if_pos ⟨by omega,by rw [za7];exact h2⟩];simp
theorem IC {e m by_ n:Nat}{y:AV}{cells:List AV}{H:aj}(hy:aG H y m n cells)(hc:cells.all AV.aH=true)(hn:n≠0)(h1:n<=most)(h2:n*by_<=most):
  app e m by_ zN y H=some (.sl H.next 0 0 m n n false,H.new (.blk 0 (e+eH) cells)):=by
 obtain⟨c1,c2⟩:=hy.sK;simp only [app,c1,c2];unfold bU;rw [if_pos ⟨hy.1,hc⟩];simp only;rw [if_neg hn,if_pos ⟨h1,h2⟩]
theorem nJ {P:Program}{t e:TypeId}{n m:Nat}{l:List AV}(h:P.underlying t=some (.slice e)):mZ P .eql t (.vs n m l) (.s (.slice none 0 0))=some (B false):=by
 simp [mZ,AV.val?,J4,h]
theorem uP {P:Program}{t e:TypeId}{r g o m n c:Nat}{ex:Bool}(h:P.underlying t=some (.slice e)):mZ P .eql t (.sl r g o m n c ex) (.s (.slice none 0 0))=some (B false):=by
 simp [mZ,AV.val?,J4,h]
theorem xE {P:Program}{C:Callee}{f:FuncId}{a c args:List AV}{H:aj}(h:nN P f=true):qJ P C (.fn (.func f) a c) args H=C f (a++args++c) H:=aaq h
theorem wrap_i64 {a:Int}(h1:-9223372036854775808<=a)(h2:a<=9223372036854775807):IntKind.wrap .i64 a=a:=wrap64 h1 h2
theorem xq_:(type_of% @QJ)/\(type_of% @Wi)/\(type_of% @FT)/\(type_of% @Dw)/\(type_of% @KR)/\(type_of% @decide_true)/\
 (type_of% @decide_false)/\(type_of% @aii)/\(type_of% @aij)/\(type_of% @aik)/\(type_of% @ail)/\(type_of% @QN)/\
 (type_of% @KU)/\(type_of% @QL)/\(type_of% @Option.map_some.{0,0})/\(type_of% @Option.bind_some.{0,0})/\(type_of% @oM)/\(type_of% @wB)/\
 (type_of% @Wu)/\(type_of% @ac6)/\(type_of% @ac7)/\(type_of% @ac8)/\(type_of% @ac9)/\(type_of% @List.getElem?_cons_zero.{0})/\
 (type_of% @List.getElem?_cons_succ.{0})/\(type_of% @Nat.zero_add)/\(type_of% @Nat.add_zero)/\(type_of% @apk)/\(type_of% @apl)/\(type_of% @VR)/\
 (type_of% @VT)/\(type_of% @OV)/\(type_of% @Ip)/\(type_of% @VU)/\(type_of% @neq_int)/\(type_of% @QM)/\
 (type_of% @beq_self_eq_true.{0})/\(type_of% @if_true.{1})/\(type_of% @Bool.false_eq_true)/\(type_of% @if_false.{1})/\(type_of% @List.nil_append.{0})/\(type_of% @List.cons_append.{0})/\
 (type_of% @List.append_nil.{0})/\(type_of% @adb)/\(type_of% @ade)/\(type_of% @nNew)/\(type_of% @apm)/\(type_of% @bNew)/\
 (type_of% @apn)/\(type_of% @yU)/\(type_of% @aio):=
 ⟨@QJ,@Wi,@FT,@Dw,@KR,@decide_true,@decide_false,@aii,@aij,@aik,@ail,@QN,@KU,@QL,@Option.map_some.{0,0},@Option.bind_some.{0,0},@oM,@wB,@Wu,@ac6,@ac7,@ac8,@ac9,@List.getElem?_cons_zero.{0},@List.getElem?_cons_succ.{0},@Nat.zero_add,@Nat.add_zero,@apk,@apl,@VR,@VT,@OV,@Ip,@VU,@neq_int,@QM,@beq_self_eq_true.{0},@if_true.{1},@Bool.false_eq_true,@if_false.{1},@List.nil_append.{0},@List.cons_append.{0},@List.append_nil.{0},@adb,@ade,@nNew,@apm,@bNew,@apn,@yU,@aio⟩
theorem hq_:(type_of% @adf)/\(type_of% @Ad)/\(type_of% @Wv)/\(type_of% @Wx)/\(type_of% @Lp)/\(type_of% @Ls)/\
 (type_of% @Nat.lt_add_one)/\(type_of% @ne_eq.{1})/\(type_of% @nx1)/\(type_of% @nx2)/\(type_of% @nx3)/\(type_of% @ny1)/\
 (type_of% @ny2)/\(type_of% @ny3)/\(type_of% @not_false_eq_true)/\(type_of% @List.length_cons.{0})/\(type_of% @List.length_nil.{0})/\(type_of% @List.take_succ_cons.{0})/\
 (type_of% @List.take_zero.{0})/\(type_of% @List.drop_succ_cons.{0})/\(type_of% @List.drop_zero.{0})/\(type_of% @DF)/\(type_of% @KW)/\(type_of% @FH)/\
 (type_of% @dF)/\(type_of% @List.all_cons.{0})/\(type_of% @List.all_nil.{0})/\(type_of% @fP)/\(type_of% @jC)/\(type_of% @lu)/\
 (type_of% @FI)/\(type_of% @FK)/\(type_of% @FW)/\(type_of% @DI)/\(type_of% @FU)/\(type_of% @aY)/\
 (type_of% @dw)/\(type_of% @lq)/\(type_of% @bP)/\(type_of% @yR)/\(type_of% @DC)/\(type_of% @FV)/\
 (type_of% @acX)/\(type_of% @Lm)/\(type_of% @acY)/\(type_of% @acZ)/\(type_of% @ac0)/\(type_of% @ac3)/\
 (type_of% @Wq)/\(type_of% @ac4)/\(type_of% @dH)/\(type_of% @aJ)/\(type_of% @lC)/\(type_of% @yS)/\
 (type_of% @jK)/\(type_of% @Iz)/\(type_of% @aP)/\(type_of% @yT)/\(type_of% @List.drop_nil.{0})/\(type_of% @Bool.and_true)/\
 (type_of% @Bool.and_self)/\(type_of% @and_self)/\(type_of% @Nat.le_refl)/\(type_of% @true_and)/\(type_of% @and_true)/\(type_of% @Nat.le_add_right)/\
 (type_of% @leS)/\(type_of% @ltS):=
 ⟨@adf,@Ad,@Wv,@Wx,@Lp,@Ls,@Nat.lt_add_one,@ne_eq.{1},@nx1,@nx2,@nx3,@ny1,@ny2,@ny3,@not_false_eq_true,@List.length_cons.{0},@List.length_nil.{0},@List.take_succ_cons.{0},@List.take_zero.{0},@List.drop_succ_cons.{0},@List.drop_zero.{0},@DF,@KW,@FH,@dF,@List.all_cons.{0},@List.all_nil.{0},@fP,@jC,@lu,@FI,@FK,@FW,@DI,@FU,@aY,@dw,@lq,@bP,@yR,@DC,@FV,@acX,@Lm,@acY,@acZ,@ac0,@ac3,@Wq,@ac4,@dH,@aJ,@lC,@yS,@jK,@Iz,@aP,@yT,@List.drop_nil.{0},@Bool.and_true,@Bool.and_self,@and_self,@Nat.le_refl,@true_and,@and_true,@Nat.le_add_right,@leS,@ltS⟩
def pO(g g':Store):Prop:=∀q cs,g q=some cs->g' q=some cs
theorem pO.refl(g:Store):pO g g:=λ_ _ h=> h
theorem pO.more {g g':Store}(h:pO g g'){n:Nat}(hn:g n=none)(c:List Cell):pO g (upd g' n c):=λq cs hq=> by
 rw [upd_ne (λe=> by rw [e,hn] at hq;cases hq)];exact h q cs hq
theorem pO.both {g g':Store}(h:pO g g')(n:Nat)(c:List Cell):pO (upd g n c) (upd g' n c):=λq cs hq=> by
 by_cases e:q=n
 ·subst e;rw [upd_same] at hq ⊢;exact hq
 ·rw [upd_ne e] at hq ⊢;exact h q cs hq
theorem xF {g:Store}{q n:Nat}{c:List Cell}(h:g n=none)(hne:n≠q):upd g q c n=none:=by rw [upd_ne hne];exact h
section
variable {b:Nat}{H H':aj}{g:Store}{q:Nat}{cs:List Cell}
theorem Cur.length {i m n:Nat}{x:AV}{l:List AV}(c:Cur b H q i x m l)(hm:0 < m)(hl:l.length=n*m):(x=zN/\n=0)∨∃r g off cap ex ty all,x=.sl r g off m n cap ex/\r≠q/\b<=r/\r < H.next/\n<=cap/\H.get r=.blk g ty all/\off+cap*m<=all.length/\all.all AV.aH=true/\l=(all.drop off).take (n*m):=by
 rcases c.own with⟨rfl,rfl⟩ | ⟨r,g,off,n',cap,ex,ty,all,rfl,k1,k2,k3,k4,k5,k6,k7,rfl⟩
 ·left;simp only [zat] at hl;refine⟨rfl,?_⟩;rcases Nat.mul_eq_zero.1 hl.symm with h | h <;> omega
 ·right;have h1:n'*m<=cap*m:=zaD _ k4;rw [zao,zaK,zbg (by omega)] at hl;have:n'=n:=zbI hm hl;subst this;exact⟨r,g,off,cap,ex,ty,all,rfl,k1,k2,k3,k4,k5,k6,k7,rfl⟩
theorem aiq {r gg off m len cap:Nat}{ex:Bool}{k1 k2:IntKind}{lo hi:Int}(h0:0<=lo)(h1:lo<=hi)(h2:hi<=cap):slS m (.sl r gg off m len cap ex) (some (.s (.int k1 lo))) (some (.s (.int k2 hi))) none=some (.sl r gg (off+lo.toNat*m) m (hi.toNat - lo.toNat) (cap - lo.toNat) ex):=by
 have h3:0<=hi:=by omega
 simp only [slS,gW,h0,h3,if_true,isNone,zae,Bool.or_false];rw [if_pos ⟨trivial,by omega,by omega,by omega,by simp⟩]
theorem Q5 {r gg off m len cap:Nat}{ex:Bool}{k2:IntKind}{hi:Int}(h0:0<=hi)(h2:hi<=cap):slS m (.sl r gg off m len cap ex) none (some (.s (.int k2 hi))) none=some (.sl r gg off m hi.toNat cap ex):=by
 simp only [slS,gW,h0,if_true,isNone,zae,Bool.or_false];rw [if_pos ⟨trivial,by omega,by omega,by omega,by simp⟩];simp
theorem Bj {r gg off m len cap:Nat}{ex:Bool}{k1:IntKind}{lo:Int}(h0:0<=lo)(h1:lo<=len)(h2:len<=cap):slS m (.sl r gg off m len cap ex) (some (.s (.int k1 lo))) none none=some (.sl r gg (off+lo.toNat*m) m (len - lo.toNat) (cap - lo.toNat) ex):=by
 simp only [slS,gW,h0,if_true,isNone,zae,Bool.or_false];rw [if_pos ⟨trivial,by omega,by omega,by omega,by simp⟩]
theorem afl {r gg off m len cap:Nat}{ex:Bool}{k1 k2 k3:IntKind}{lo hi mx:Int}(h0:0<=lo)(h1:lo<=hi)(h2:hi<=mx)(h3:mx<=cap):slS m (.sl r gg off m len cap ex) (some (.s (.int k1 lo))) (some (.s (.int k2 hi))) (some (.s (.int k3 mx)))=some (.sl r gg (off+lo.toNat*m) m (hi.toNat - lo.toNat) (mx.toNat - lo.toNat) true):=by
 have h4:0<=hi:=by omega
 have h5:0<=mx:=by omega
 simp only [slS,gW,h0,h4,h5,if_true,isNone,zal,Bool.or_true];rw [if_pos ⟨trivial,by omega,by omega,by omega,by simp⟩]
theorem uQ {z:List AV}(h:z.all AV.aH=true):∀n,(bI z n).all AV.aH=true
 | 0=> rfl
 | n+1=> by rw [bI,zbb,h,uQ h n];rfl
theorem Q7 {i m n:Nat}{x:AV}{l z:List AV}(c:Cur b H q i x m l)(hb:H.base<=b)(hm:0 < m)(hl:l.length=n*m)(hn:n < 1000000000){j:Nat}(hj:j < n)(hz:z.length=m)(hzc:z.all AV.aH=true){e:TypeId}{by_:Nat}(hby:by_ < 1000):
  ∃y x1 x2 x3 H1 x4 H2,slS m x (some (I j)) (some (I (j+1))) (some (I n))=some y/\slS m x none (some (I j)) none=some x1/\slS m x (some (I (j+1))) none none=some x2/\app e m by_ x1 x2 H=some (x3,H1)/\
   lnS x3 H1=some (I ((n:Int) - 1),H1)/\slS m x3 (some (I ((n:Int) - 1))) (some (I n)) none=some x4/\clr m z x4 H1=some (.tup [],H2)/\
   Fit H H2 x x3 m (l.take (j*m)++l.drop ((j+1)*m))/\H2.next=H.next/\H2.base=H.base/\∀r,nameOf x≠some r->H2.get r=H.get r:=by
 rcases c.length hm hl with⟨_,h0⟩ | ⟨r,gg,off,cap,ex,ty,all,rfl,k1,k2,k3,k4,k5,k6,k7,rfl⟩
 ·omega
 have hjm:(j+1)*m<=n*m:=zaD _ hj;have hcm:n*m<=cap*m:=zaD _ k4;have hj1:(j+1)*m=j*m+m:=zbF j m;have hnj:(n - (j+1))*m=n*m - (j+1)*m:=Nat.sub_mul n (j+1) m;have hn1:(n - 1)*m=n*m - m:=by rw [Nat.sub_mul,zbd]
 let new:=(all.drop (off+(j+1)*m)).take ((n - (j+1))*m);have hnew:new.length=(n - (j+1))*m:=by simp only [new];rw [zao,zaK];omega
 let all1:=setAt all (off+j*m) new;have air:all1.length=all.length:=lg (by omega);let all2:=setAt all1 (off+(n - 1)*m) (bI z 1);have hz1:(bI z 1).length=m:=by simp [bI,hz]
 have apM:all2.length=all.length:=by rw [lg (by omega)];exact air
 have hc1:all1.all AV.aH=true:=tN k7 (Bg (xu k7 _) _) _;have hc2:all2.all AV.aH=true:=tN hc1 (uQ hzc 1) _;have happ:app e m by_ (.sl r gg off m j cap ex) (.sl r gg (off+(j+1)*m) m (n - (j+1)) (cap - (j+1)) ex) H=some (.sl r gg off m (n - 1) cap ex,H.put r (.blk gg ty all1)):=by
  have hs:aX H (.sl r gg (off+(j+1)*m) m (n - (j+1)) (cap - (j+1)) ex)=some new:=by
   simp only [aX,k5];rw [if_pos ⟨trivial,by omega⟩]
  simp only [app,sliceLen,hs];unfold bU;rw [if_pos ⟨hnew,Bg (xu k7 _) _⟩];simp only [k5];rw [if_pos ⟨trivial,trivial,by omega⟩];by_cases h0:n - (j+1)=0
  ·rw [if_pos h0];have hn0:new=[]:=zan (by rw [hnew,h0,zba]);have:all1=all:=by
    simp only [all1,hn0,setAt,zaX,zat,zbf,List.take_append_drop]
   rw [this,show j=n - 1 by omega]
   congr 2
   ·unfold aj.put;have:(λx=> if x=r then dR.blk gg ty all else H.get x)=H.get:=by
     funext x
     split
     ·rename_i e;rw [e,k5]
     ·rfl
    rw [this]
  ·rw [if_neg h0,if_pos (by omega),if_pos ⟨by omega,by
    have:(j+(n - (j+1)))*m<=cap*m:=zaD _ (by omega);omega⟩]
   rw [show j+(n - (j+1))=n - 1 by omega]
 refine⟨_,.sl r gg off m j cap ex,.sl r gg (off+(j+1)*m) m (n - (j+1)) (cap - (j+1)) ex,.sl r gg off m (n - 1) cap ex,H.put r (.blk gg ty all1),.sl r gg (off+(n - 1)*m) m 1 (cap - (n - 1)) ex,(H.put r (.blk gg ty all1)).put r (.blk gg ty all2),afl (by omega) (by omega) (by omega) (by omega),?_,?_,happ,?_,?_,?_,.inr ⟨r,gg,off,n - 1,cap,ex,ty,all2,rfl,.inl rfl,k3,by omega,by simp [get_put],by omega,hc2,?_⟩,rfl,rfl,?_⟩
 ·exact Q5 (by omega) (by omega)
 ·have:=Bj (r:=r) (gg:=gg) (off:=off) (m:=m) (len:=n) (cap:=cap) (ex:=ex) (k1:=.i64) (lo:=(j:Int)+1) (by omega) (by omega) k4;rw [show((j:Int)+1).toNat=j+1 by omega] at this;exact this
 ·simp only [lnS,jy,am4,zah]
  congr 5
  omega
 ·have:=aiq (r:=r) (gg:=gg) (off:=off) (m:=m) (len:=n - 1) (cap:=cap) (ex:=ex) (k1:=.i64) (k2:=.i64) (lo:=(n:Int) - 1) (hi:=n) (by omega) (by omega) (by omega);rw [show((n:Int) - 1).toNat=n - 1 by omega,show(n:Int).toNat=n by omega,show n - (n - 1)=1 by omega] at this;exact this
 ·simp only [clr,Nat.one_ne_zero,if_false,get_put,if_true];rw [if_pos ⟨trivial,trivial,by rw [aar];omega,hz,hzc,by rw [air];omega⟩]
 ·-- what is there then
  apply za6
  intro p;have hlt:((all.drop off).take (n*m)).length=n*m:=by rw [zao,zaK];omega
  rcases zaR p (j*m) with h1 | h1
  ·rw [zaJ (by rw [zao];omega),zaA,if_pos h1,zaA,if_pos (by omega),zaA,if_pos (by omega),zaF,zaF];rw [kS (by omega),if_neg (by omega),kS (by omega),if_neg (by omega)]
  ·rw [zaY (by rw [zao];omega),zao,hlt,zbg (by omega),zaF];rcases zaR p ((n - 1)*m) with h2 | h2
   ·rw [zaA,if_pos (by omega),zaF,zaA,if_pos h2,zaF];rw [kS (by omega),if_neg (by omega),kS (by omega),if_pos (by omega)];simp only [new];rw [zaA,if_pos (by omega),zaF]
    congr 1;omega
   ·rw [zaG (by rw [hlt];omega),zaG (by rw [zao,zaK];omega)]
 ·intro r' hr';have:r'≠r:=λe=> hr' (by rw [e];rfl);rw [get_put,if_neg this,get_put,if_neg this]
theorem Wy {e m by_:Nat}{z:List AV}{n:Int}{H:aj}(hz:z.length=m)(hc:z.all AV.aH=true)(h0:0<=n)(h1:n<=1000000)(hb:by_<=1000):mks e m by_ z (I n) (I n) H=some (.sl H.next 0 0 m n.toNat n.toNat true,H.new (.blk 0 e (bI z n.toNat))):=by
 have h3:(by_:Int)*n<=140737488355328:=by
  have:(by_:Int)*n<=1000*1000000:=zbV (by omega) h1 h0 (by omega);omega
 simp only [mks];rw [if_pos ⟨hz,hc,h0,zbK _,by omega,h3⟩]
theorem jH {v:AV}:∀n,bI [v] n=List.replicate n v
 | 0=> rfl
 | n+1=> by rw [bI,jH n];rfl
theorem aG.from_ {x:AV}{m n:Nat}{cells:List AV}(h:aG H x m n cells){k:IntKind}{lo:Int}(h0:0<=lo)(h1:lo<=n):∃y,slS m x (some (.s (.int k lo))) none none=some y/\aG H y m (n - lo.toNat) (cells.drop (lo.toNat*m)):=by
 obtain⟨hl,h⟩:=h;have hlm:lo.toNat*m<=n*m:=zaD _ (by omega);have hsub:(n - lo.toNat)*m=n*m - lo.toNat*m:=Nat.sub_mul n lo.toNat m;cases x with
 | sl r g off esz len cap ex=>
  obtain⟨rfl,rfl,⟨hr,hc⟩,ty,all,h2,h3,h4⟩:=h;refine⟨_,Bj h0 h1 hc,by rw [zaK,hl,hsub],rfl,rfl,⟨hr,by omega⟩,ty,all,h2,by rw [hsub];omega,?_⟩;rw [h4,zce,zbE,hsub]
 | vs k' esz cs=>
  obtain⟨rfl,rfl,rfl⟩:=h;refine⟨.vs (k' - lo.toNat) esz ((cs.drop (lo.toNat*esz)).take ((k' - lo.toNat)*esz)),?_,by rw [zaK,hl,hsub],rfl,rfl,?_⟩
  ·simp only [slS,gW,h0,if_true];rw [if_pos ⟨trivial,by omega,by omega⟩]
  ·rw [zas (by rw [zaK,hl,hsub];exact zac _)]
 | s v=>
  cases v with
  | slice a b c=>
   cases a with
   | none=>
    obtain⟨rfl,rfl,rfl⟩:=h;have h3:lo=0:=by omega
    subst h3;refine⟨zN,by simp [slS,gW],?_,rfl,rfl,rfl⟩
    simpa using hl
   | some a=> exact h.elim
  | _=> exact h.elim
 | _=> exact h.elim
theorem ais {r g off m len cap ty n:Nat}{ex:Bool}{cells new:List AV}{y:AV}(hx:H.get r=.blk g ty cells)(hb:H.base<=r)(hl:off+len*m<=cells.length)(hy:aG H y m n new)(hc:new.all AV.aH=true):
  ∃H',cpy m (.sl r g off m len cap ex) y H=some (I ((min n len:Nat):Int),H')/\H'.get r=.blk g ty (setAt cells off (new.take (min n len*m)))/\(∀r',r'≠r->H'.get r'=H.get r')/\H'.next=H.next/\H'.base=H.base:=by
 obtain⟨c1,c2⟩:=hy.sK;have c3:=hy.1;have s1:sliceLen (AV.sl r g off m len cap ex)=some len:=rfl;simp only [cpy,s1,c1,c2];rw [if_pos ⟨c3,hc⟩];by_cases hk:min n len=0
 ·refine⟨H,by rw [if_pos hk,hk];rfl,?_,λ_ _=> rfl,rfl,rfl⟩;rw [hx,hk,zba,List.take_zero];simp only [setAt,zaX,zat,zbf,List.take_append_drop]
 ·rw [if_neg hk];simp only [hx];rw [if_pos ⟨trivial,trivial,hb,hl⟩];exact⟨_,rfl,by rw [get_put,if_pos rfl],λr' hr=> by rw [get_put,if_neg hr],rfl,rfl⟩
end
def je {α:Type}:List (Int × α)->Int->Option α
 | [],_=> none
 | (k,v)::l,n=> if k=n then some v else je l n
def mM {α:Type}:List (Int × α)->Int->α->List (Int × α)
 | [],n,x=> [(n,x)]
 | (k,v)::l,n,x=> if k=n then(n,x)::l else(k,v)::mM l n x
def xG {α:Type}:List (Int × α)->Int->List (Int × α)
 | [],_=> []
 | (k,v)::l,n=> if k=n then l else(k,v)::xG l n
section
variable {α:Type}(f:α->AV)
def WA(l:List (Int × α)):List (Int × AV):=l.map λe=> (e.1,f e.2)
theorem uS:∀(l:List (Int × α)) (n:Int),nM (WA f l) n=(je l n).map f
 | [],_=> rfl
 | (k,v)::l,n=> by
  simp only [WA,zaC,nM,je];by_cases h:k=n
  ·simp [h]
  ·simp only [h,if_false];exact uS l n
theorem DN:∀(l:List (Int × α)) (n:Int) (x:α),G9 (WA f l) n (f x)=WA f (mM l n x)
 | [],_,_=> rfl
 | (k,v)::l,n,x=> by
  simp only [WA,zaC,G9,mM];by_cases h:k=n
  ·simp [h]
  ·simp only [h,if_false,zaC,zbW,true_and];exact DN l n x
theorem Q8:∀(l:List (Int × α)) (n:Int),wS (WA f l) n=WA f (xG l n)
 | [],_=> rfl
 | (k,v)::l,n=> by
  simp only [WA,zaC,wS,xG];by_cases h:k=n
  ·simp [h]
  ·simp only [h,if_false,zaC,zbW,true_and];exact Q8 l n
end
abbrev within(n most:Int):Bool:=decide (1<=n) && decide (n<=most)
def Cfg.ok(c:Cfg):Bool:=
 within c.nodes 6 && within c.lines 8 && within c.words 4 && within c.sets 4 && within c.ways 3 && within c.out 8 && within c.inn 8 && decide ((c.init.length:Int)<=c.lines*c.words)
def Ae(line by_:Int):Int:=if line < 0 then -1 else line % by_
def Cfg.ig(c:Cfg)(line:Int):Int:=Ae line c.nodes
def Cfg.jA(c:Cfg):Int:=c.lines*c.words
def Cfg.dh(c:Cfg)(a:Int):Int:=if a < 0∨c.jA<=a then -1 else a / c.words
def Cfg.iJ(c:Cfg)(a:Int):Int:=if a < 0∨c.jA<=a then 0 else a % c.words
def Cfg.first(c:Cfg)(line:Int):List Int:=
 if line < 0∨c.lines<=line then [] else(List.range c.words.toNat).map λi=> c.init.getD ((line*c.words).toNat+i) 0
def Cfg.right(c:Cfg)(o:Opn):Bool:=decide (1<=o.kind) && decide (o.kind<=4) && decide (c.dh o.addr≠-1) && (decide (o.value=0) || decide (o.kind=2) || decide (o.kind=3))
def Cfg.pR(c:Cfg)(ps:List (List Opn)):Bool:=(ps.all λl=> decide (l.length<=24) && l.all c.right) && decide ((ps.length:Int)=c.nodes)
def DR(k:Int):Bool:=decide (1<=k) && decide (k<=6)
def IE(k:Int):Int:=if k=1 then 7 else if k=2∨k=4∨k=5 then 8 else if k=3∨k=6 then 9 else 0
def Pkt.ok(p:Pkt):Bool:=
 decide (0<=p.src) && decide (p.src < 6) && decide (0<=p.dst) && decide (p.dst < 6) && decide (0<=p.id) && decide (p.id < 4096) && decide (1<=p.kind) && decide (p.kind < 10) && decide (0<=p.line) && decide (p.line < 8) &&
 decide (-1<=p.ptr) && decide (p.ptr < 6) && decide (0<=p.state) && decide (p.state < 3) && decide (p.data.length<=4)
structure Cache where
 l:List Ent
 sets:Int
 ways:Int
 clock:Int
def Cache.at_(c:Cache)(line:Int):Option Nat:=c.l.findIdx? λe=> decide (e.line=line)
def Cache.mD(c:Cache)(line:Int):List Ent:=c.l.filter λe=> decide (0<=line) && decide (e.line.tmod c.sets=line.tmod c.sets)
def Cache.find(c:Cache)(line:Int):Option Ent:=c.l.find? λe=> decide (e.line=line)
def Cache.full(c:Cache)(line:Int):Bool:=(c.find line).isNone && decide (c.ways<=(c.mD line).length)
def Cache.put(c:Cache)(e:Ent):Cache × Int:=
 if e.line < 0 then(c,1) else
 match c.at_ e.line with
 | some i=> ({ c with l:=c.l.set i { e with used:=(c.l.getD i .zero).used } },0)
 | none=> if c.full e.line then(c,5) else({ c with l:=c.l++[{ e with used:=c.clock+1 }],clock:=c.clock+1 },0)
def Cache.drop(c:Cache)(line:Int):Cache:=
 match c.at_ line with
 | some i=> { c with l:=c.l.eraseIdx i }
 | none=> c
def Cache.touch(c:Cache)(line:Int):Cache:=
 match c.at_ line with
 | some i=> { c with l:=c.l.set i { c.l.getD i .zero with used:=c.clock+1 },clock:=c.clock+1 }
 | none=> c
def lD:List Ent->Option Ent
 | []=> none
 | e::l=> some (l.foldl (λm x=> if x.used < m.used then x else m) e)
def Cache.lW(c:Cache)(line:Int):Option Int:=(lD (c.mD line)).map (·.line)
structure Turns where
 iq:List (Int × Int)
 wait:List (Int × List (Int × Int))
def Turns.owner(t:Turns)(line:Int):Int:=(je t.iq line).getD (-1)
def Turns.owned(t:Turns)(line:Int):Bool:=(je t.iq line).isSome
def Turns.ws(t:Turns)(line:Int):List (Int × Int):=(je t.wait line).getD []
def Turns.ask(t:Turns)(line who id:Int):Turns × Bool:=
 if who < 0 then(t,false) else
 if t.owned line || !(t.ws line).isEmpty then({ t with wait:=mM t.wait line (t.ws line++[(who,id)]) },false)
 else({ t with iq:=mM t.iq line who },true)
def Turns.release(t:Turns)(line who:Int):Turns × Int:=
 if je t.iq line=some who then({ t with iq:=xG t.iq line },0) else(t,6)
def Turns.next(t:Turns)(line:Int):Turns × Option (Int × Int):=
 if t.owned line then(t,none) else
 match t.ws line with
 | []=> (t,none)
 | w::ws=> ({ iq:=mM t.iq line w.1,wait:=mM t.wait line ws },some w)
def Turns.ready(t:Turns)(keys:List Int):List Int:=keys.filter λline=> !t.owned line && !(t.ws line).isEmpty
abbrev Rows:=List (Int × Row)
def setRow(c:Cfg)(rows:Rows)(line state head:Int)(data:List Int):Rows × Int:=
 match je rows line with
 | none=> (rows,3)
 | some r=>
  if state < 0∨2 < state∨head < -1∨c.nodes<=head then(rows,1)
  else if(decide (head=-1) !=decide (state=0)) || (decide (data≠[]) && decide ((data.length:Int)≠c.words)) then(rows,1)
  else(mM rows line ⟨state,head,if data=[] then r.data else data⟩,0)
structure Home where
 rows:Rows
 turns:Turns
def rowOf(rows:Rows)(line:Int):Row:=(je rows line).getD .zero
def granted(rows:Rows)(node line who id:Int):Pkt:=⟨7,node,who,id,line,(rowOf rows line).head,(rowOf rows line).state,false,(rowOf rows line).data⟩
def Home.unlock(c:Cfg)(h:Home)(p:Pkt):Home × Int:=
 if h.turns.owner p.line≠p.src then(h,6) else
 let r:=setRow c h.rows p.line p.state p.ptr (if p.flag then p.data else [])
 if r.2=0 then(⟨r.1,(h.turns.release p.line p.src).1⟩,(h.turns.release p.line p.src).2) else(h,r.2)
def Home.handle(c:Cfg)(node:Int)(h:Home)(p:Pkt):Home × Pkt × Bool × Int:=
 if !(p.ok && decide (p.dst=node) && decide (p.src < c.nodes)) || (decide (p.kind≠1) && decide (p.kind≠2)) then(h,.zero,false,1)
 else if c.ig p.line≠node∨c.lines<=p.line then(h,.zero,false,3)
 else if p.kind=1 then
  let a:=h.turns.ask p.line p.src p.id
  if a.2=true then({ h with turns:=a.1 },granted h.rows node p.line p.src p.id,true,0) else({ h with turns:=a.1 },.zero,false,0)
 else
  let u:=h.unlock c p
  if u.2=0 then(u.1,⟨8,node,p.src,p.id,p.line,0,0,false,[]⟩,true,0) else(u.1,.zero,false,u.2)
def dV(c:Cache)(p:Pkt):Cache × Pkt × Int:=
 if !p.ok || decide (p.kind < 3) || decide (6 < p.kind) then(c,.zero,1) else
 match c.find p.line with
 | none=> (c,.zero,2+1)
 | some e=>
  let out:Pkt:=⟨IE p.kind,p.dst,p.src,p.id,p.line,0,0,false,[]⟩
  if p.kind=3 then let r:=c.put { e with dirty:=false,back:=p.ptr };(r.1,{ out with data:=e.data,flag:=e.dirty },r.2)
  else if p.kind=4 then let r:=c.put { e with fwd:=p.ptr };(r.1,out,r.2)
  else if p.kind=5 then let r:=c.put { e with back:=p.ptr };(r.1,out,r.2)
  else(c.drop p.line,{ out with data:=e.data,flag:=e.dirty,ptr:=e.fwd },0)
def bF.begin(kind line id:Int):bF:=⟨kind,line,id,1,0,-1,[],-1,-1⟩
def Oh(step:Int):Int:=if step=1 then 1 else if step=2 then 3 else if step=3 then 6 else if step=4 then 4 else if step=5 then 5 else if step=6 then 2 else 0
def bF.ask(d:bF)(node home:Int):Pkt:=
 if d.step=1 then⟨1,node,home,d.id,d.line,0,0,false,[]⟩
 else if d.step=2 then⟨3,node,d.head,d.id,d.line,node,0,false,[]⟩
 else if d.step=3 then⟨6,node,d.next,d.id,d.line,0,0,false,[]⟩
 else if d.step=4 then⟨4,node,d.head,d.id,d.line,d.next,0,false,[]⟩
 else if d.step=5 then⟨5,node,d.next,d.id,d.line,d.head,0,false,[]⟩
 else if d.step=6 then⟨2,node,home,d.id,d.line,d.head,d.state,decide (d.data≠[]),d.data⟩
 else .zero
def bF.fits(d:bF)(p:Pkt):Bool:=
 decide (IE (Oh d.step)≠0) && decide (p.kind=IE (Oh d.step)) && decide (p.id=d.id) && decide (p.line=d.line)
abbrev Nxt:=Cache × bF × Bool
def oD(c:Cache):Nxt:=(c,.zero,false)
def bV(d:bF)(node:Int)(c:Cache)(p:Pkt):Nxt:=
 if d.kind≠1∨d.fits p=false then oD c
 else if d.step=1 then
  if p.state≠0 then(c,{ d with state:=p.state,head:=p.ptr,told:=p.ptr,data:=p.data,step:=2 },true)
  else((c.put ⟨-1,-1,d.line,0,false,p.data⟩).1,{ d with told:=p.ptr,step:=6,state:=1,head:=node,data:=[] },true)
 else if d.step=2 then
  ((c.put ⟨d.head,-1,d.line,0,false,p.data⟩).1,{ d with step:=6,state:=1,head:=node,data:=if p.flag then p.data else [] },true)
 else if d.step=6 then(c,{ d with step:=0 },true)
 else oD c
def bD(d:bF)(node:Int)(c:Cache):Cache × bF:=
 let d:bF:=match c.find d.line with
  | some own=> if d.next=node then { d with next:=own.fwd } else d
  | none=> d
 if d.next≠-1 then(c,{ d with step:=3 })
 else((c.put ⟨-1,-1,d.line,0,true,d.data⟩).1,{ d with step:=6,state:=2,head:=node,data:=[] })
def bW(d:bF)(node:Int)(c:Cache)(p:Pkt):Nxt:=
 if d.kind≠2∨d.fits p=false then oD c
 else if d.step=1 then
  let r:=bD { d with state:=p.state,head:=p.ptr,told:=p.ptr,data:=(match c.find d.line with | some own=> own.data | none=> p.data),next:=p.ptr } node c
  (r.1,r.2,true)
 else if d.step=3 then
  let r:=bD { d with data:=(match c.find d.line with | some _=> d.data | none=> p.data),next:=p.ptr } node c
  (r.1,r.2,true)
 else if d.step=6 then(c,{ d with step:=0 },true)
 else oD c
def fU(d:bF)(c:Cache)(head:Int):Nxt:=(c.drop d.line,{ d with step:=6,state:=1,head:=head,data:=[] },true)
def dn(d:bF)(c:Cache)(p:Pkt):Nxt:=
 if d.kind≠3∨d.fits p=false then oD c
 else if d.step=1 then
  let d:bF:={ d with state:=p.state,head:=p.ptr,told:=p.ptr,data:=[],step:=6 }
  match c.find d.line with
  | none=> (c,d,true)
  | some e=>
   if e.back=-1/\e.fwd=-1 then(c.drop d.line,{ d with state:=0,head:=-1,data:=if e.dirty then e.data else [] },true)
   else if e.back=-1 then(c,{ d with head:=-1,next:=e.fwd,step:=5 },true)
   else(c,{ d with head:=e.back,next:=e.fwd,step:=4 },true)
 else if d.step=4 then
  if d.next=-1 then fU d c d.told else(c,{ d with step:=5 },true)
 else if d.step=5 then
  if d.head=-1 then fU d c d.next else fU d c d.told
 else if d.step=6 then(c,{ d with step:=0 },true)
 else oD c
structure Proc where
 ops:List Opn
 values:List Int
 begun:Bool
def Proc.cur(p:Proc):Option Opn:=p.ops[p.values.length]?
def Proc.left(p:Proc):Int:=(p.ops.length:Int) - p.values.length
structure Port where
 rq:List Pkt
 rin:List Pkt
 an:List Pkt
 ain:List Pkt
def Port.sort(p:Port)(req:Bool):List Pkt:=if req then p.rq else p.an
def Port.rH(p:Port)(req:Bool):List Pkt:=if req then p.rin else p.ain
def Port.lX(p:Port)(req:Bool)(l:List Pkt):Port:=if req then { p with rq:=l } else { p with an:=l }
def Port.mO(p:Port)(req:Bool)(l:List Pkt):Port:=if req then { p with rin:=l } else { p with ain:=l }
def Port.zero:Port:=⟨[],[],[],[]⟩
structure Fab where
 out:Int
 inn:Int
 l:List Port
def Fab.is(f:Fab)(node:Int):Bool:=decide (0<=node) && decide (node < f.l.length)
def Fab.port(f:Fab)(node:Int):Port:=f.l.getD node.toNat .zero
def Fab.room(f:Fab)(req:Bool):Int:=if req then f.inn else 1
def Fab.put(f:Fab)(node:Int)(p:Port):Fab:={ f with l:=f.l.set node.toNat p }
def Fab.send(f:Fab)(p:Pkt):Fab × Int:=
 if !p.ok || !f.is p.src || !f.is p.dst then(f,1) else
 if(f.out:Int)<=((f.port p.src).sort (DR p.kind)).length then(f,5)
 else(f.put p.src ((f.port p.src).lX (DR p.kind) ((f.port p.src).sort (DR p.kind)++[p])),0)
def Fab.iw(f:Fab):List (List Pkt):=f.l.flatMap λp=> [p.rq,p.an]
def Fab.all(f:Fab):List Pkt:=f.l.flatMap λp=> p.rq++p.an
def Fab.under(f:Fab):Nat:=f.all.length
def findAt:List Port->Nat->Nat->Option (Nat × Bool × Nat)
 | [],_,_=> none
 | p::l,i,k=> if k < p.rq.length then some (i,true,k) else if k < p.rq.length+p.an.length then some (i,false,k - p.rq.length) else findAt l (i+1) (k - (p.rq.length+p.an.length))
def Fab.take(f:Fab)(node:Int)(req:Bool):Fab × Option Pkt:=
 if f.is node then
  match(f.port node).rH req with
  | []=> (f,none)
  | p::l=> (f.put node ((f.port node).mO req l),some p)
 else(f,none)
def Fab.waiting(f:Fab)(node:Int)(req:Bool):Nat:=if f.is node then((f.port node).rH req).length else 0
def Fab.roomOf(f:Fab)(node:Int)(req:Bool):Int:=if f.is node then f.out - ((f.port node).sort req).length else 0
open Go.ChangeShapes Go.WideShapes Go.ChangeAt Go.RowKit
abbrev ρ0:Ren:=λ_=> none
abbrev G0:Nat->Nat:=λ_=> 0
theorem WB {w:World}(hg:ZI ρ0 w):Rel ρ0 aj.empty w:=⟨λr _=> ⟨rfl,rfl⟩,λr b sh h=> (by cases h),λr r' b sh sh' h=> (by cases h),hg⟩
theorem WC {P:Program}{L:Pol}(hL:Uc P L)(hm:P.follows .mixedOrders=true){k:FuncId}{xs:List AV}{b:Bool}{H':aj}(h:callω P L k xs aj.empty=some (.s (.bool b),H')){W:World}{args:Array Value}(hg:ZI ρ0 W)(ha:RVs ρ0 G0 W xs args.toList):
  Calls P k args W λe W'=> e=.returned (.bool b)/\Below W.heap.size W W':=by
 refine((callω_ok hL hm).1 k xs _ _ H' h ρ0 W args (WB hg) ha).mono λe w' he=> ?_;obtain⟨cv,ρ',rfl,_,r2,r3⟩:=he;simp only [RV] at r2;subst r2;exact⟨rfl,r3.os,r3.tape,r3.output,r3.size,λk hk=> r3.frame k hk λr sh h=> (by cases h)⟩
section
variable {H:Type}{enc:TypeId × Value->H}{P:Program}
theorem xH(hl:laidOutB P=true){W W':World}(hb:Below W.heap.size W W'):∀{ts:List TypeId} {vs:List Value} {ds:List (DataW H)} {ps:List MemPlace},ts.all (λt=> P.readableRec t && decide (t < P.types.size))=true->
  DataW.TrodAll enc P W 0 (λ_=> true) true ts vs ds ps->(∀x∈ps,x.block < W.heap.size)->DataW.TrodAll enc P W' 0 (λb=> decide (b < W.heap.size)) true ts vs ds ps
 | [],vs,ds,ps,_,h,_=> by
  obtain⟨rfl,rfl,rfl⟩:=trodAll_nil h;exact trodAll_mk0
 | t::ts,vs,ds,ps,ht,h,hlt=> by
  simp only [List.all_cons,zaj,decide_eq_true_eq] at ht;obtain⟨v,vs',d,ds',p,q,rfl,rfl,rfl,h1,h2⟩:=trodAll_cons h;exact⟨p,q,Below.trod hl ht.1.1 ht.1.2 h1 hb λx hx=> hlt x (by simp [hx]),xH hl hb (by simpa using ht.2) h2 λx hx=> hlt x (by simp [hx]),rfl⟩
theorem WE {f:Func}{s:ChangeSpec}{W W':World}{args:Array Value}{ds gs:List (DataW H)}{before:List MemPlace}{tb:TypeId}(hl:laidOutB P=true)
  (hp:f.params.toList.all (λt=> P.readableRec t && decide (t < P.types.size))=true) (hr:f.resultTypes=#[tb]) (hb:P.underlying tb=some .bool)
  (hW:DataW.Whole enc P f.params.toList s.vars false W args.toList ds gs before) (hv:s.vars=[])
  (h1:(s.fn H ds).results=[.lit (.bool true)]) (h2:(s.fn H ds).args=ds) (h3:(s.fn H ds).vars=[]) (B:Below W.heap.size W W'):
  s.post enc P f false true false false W args (.bool true) W':=by
 have hlt:∀x∈before,x.block < W.heap.size:=λx hx=> hW.lt x hx;have hW':=hW;obtain⟨p,q,hA,hV,rfl,_,_⟩:=hW;rw [hv] at hV;obtain⟨rfl,rfl⟩:=trodVars_none hV;rw [zbh] at hlt;refine⟨ds,[],p++[],[],p,[],hW',?_,?_,?_,B.frame _,λh=> by cases h⟩
 ·rw [zbh,h1,hr];exact trodAll_mk1 (shut_bool hb true)
 ·rw [zbh,h2];exact xH hl B hp hA hlt
 ·rw [zbh,h3,hv];exact rfl
theorem Af {W:World}{k:IntKind}{n:Int}:RV ρ0 G0 W (.s (.int k n)) (.int k n):=by simp [RV]
theorem xI {W:World}{x:AV}{v:Value}{xs:List AV}{vs:List Value}(h:RV ρ0 G0 W x v)(h':RVs ρ0 G0 W xs vs):RVs ρ0 G0 W (x::xs) (v::vs):=by
 simp only [RVs];exact⟨v,vs,rfl,h,h'⟩
theorem apo {W:World}:RVs ρ0 G0 W [] []:=by simp only [RVs]
def ints(ks:List IntKind)(zs:List Int):List AV:=List.zipWith (λk z=> .s (.int k z)) ks zs
def O8(ks:List IntKind)(zs:List Int):List Value:=List.zipWith (λk z=> .int k z) ks zs
def WG(P:Program)(e:TypeId)(ks:List IntKind):Prop:=
 ∀{H:Type} {enc:TypeId × Value->H} {W:World} {base:Nat} {sp:Nat->Bool} {held:Bool} {n:Nat} {cs:List Value} {y:DataW H × List MemPlace},DataW.trod enc P W base sp held n e cs=some y->
  ∃zs:List Int,zs.length=ks.length/\cs=O8 ks zs/\∀(i:Nat) (k:IntKind) (z:Int),ks[i]?=some k->zs[i]?=some z->(Lit.int k z).wf=true
theorem aaG {e:TypeId}{k:IntKind}(he:P.underlying e=some (.int k)):WG P e [k]:=by
 intro H enc W base sp held n cs y h;obtain⟨z,rfl,rfl,hw⟩:=DataW.trod_int he h;refine⟨[z],rfl,rfl,λi k' z' h1 h2=> ?_⟩;cases i with
 | zero=> simp at h1 h2;subst h1;subst h2;exact hw
 | succ i=> simp at h1
theorem wG {ks:List IntKind}{zs:List Int}(h:zs.length=ks.length):(ints ks zs).length=ks.length:=by
 simp [ints,h]
theorem Q9 {W:World}:∀(ks:List IntKind) (zs:List Int),RVs ρ0 G0 W (ints ks zs) (O8 ks zs)
 | [],zs=> by simp [ints,O8,RVs]
 | k::ks,[]=> by simp [ints,O8,RVs]
 | k::ks,z::zs=> by
  simp only [ints,O8,List.zipWith_cons_cons,RVs];exact⟨_,_,rfl,Af,Q9 ks zs⟩
def anf:Value->Int
 | .int _ n=> n
 | _=> 0
theorem O9 {e:TypeId}{fs:Array Field}{ks:List IntKind}(he:P.underlying e=some (.struct fs))(hc:P.cellsOf e=ks.length)(hn:fs.size=ks.length)
  (hf:∀(i:Nat) (f:Field) (k:IntKind),fs[i]?=some f->ks[i]?=some k->P.underlying f.type=some (.int k)/\f.offset=i/\P.cellsOf f.type=1):WG P e ks:=by
 intro H enc W base sp held n cs y h;obtain⟨xs,m,rfl,rfl,hl,hx,hr⟩:=DataW.trod_struct he h;have each:∀(i:Nat) (k:IntKind),ks[i]?=some k->∃z,cs[i]?=some (.int k z)/\(Lit.int k z).wf=true:=by
  intro i k hk;have hi:i < ks.length:=(zaf.1 hk).1;have hfi:fs[i]?=some (fs[i]'(by omega)):=zbz _;obtain⟨h1,h2,h3⟩:=hf i _ k hfi hk;have hri:=hr i _ hfi;have hxi:xs[i]?=some (xs[i]'(by omega)):=zab _;rw [hxi,h2,h3] at hri;obtain⟨z,hz,_,hw⟩:=DataW.trod_int h1 hri;refine⟨z,?_,hw⟩;have:((cs.drop i).take 1)[0]?=some (.int k z):=by rw [hz];rfl
  rw [zaA,if_pos (by omega),zaF,zbf] at this;exact this
 refine⟨cs.map anf,by rw [zaE,hl,hc],?_,λi k z hk hz=> ?_⟩
 ·apply za6
  intro i;rcases zaR i ks.length with hi | hi
  ·obtain⟨z,hz,_⟩:=each i _ (zab hi);simp [O8,List.getElem?_zipWith,hz,zab hi,anf]
  ·have h1:cs[i]?=none:=zaG (by omega);have h2:ks[i]?=none:=zaG hi;simp [O8,List.getElem?_zipWith,h1,h2]
 ·obtain⟨z',hz',hw⟩:=each i k hk;rw [zaB,hz'] at hz;simp [anf] at hz;rw [<-hz];exact hw
structure WH(ks:List IntKind)(av:AV)(l:List (List Int)):Prop where
 is:aG aj.empty av ks.length l.length (l.flatMap (ints ks))
 len:∀zs∈l,zs.length=ks.length
 wf:∀zs∈l,∀(i:Nat) (k:IntKind) (z:Int),ks[i]?=some k->zs[i]?=some z->(Lit.int k z).wf=true
theorem wH {ks:List IntKind}:∀{l:List (List Int)},(∀zs∈l,zs.length=ks.length)->(l.flatMap (ints ks)).length=l.length*ks.length
 | [],_=> by simp
 | zs::l,h=> by
  rw [zaH,zaq,wG (h zs (by simp)),wH λz hz=> h z (by simp [hz]),zak,zbF];omega
theorem Lu {t e:TypeId}{ks:List IntKind}(ht:P.underlying t=some (.slice e))(hc:P.cellsOf e=ks.length)(hF:WG P e ks){W:World}{r:Reach}{b0 base:Nat}{sp:Nat->Bool}{held:Bool}{v:Value}{fuel:Nat}{y:DataW H × List MemPlace}
  (hval:Cell.okWide P W r b0 t v) (h:DataW.trod enc P W base sp held fuel t [v]=some y):∃(av:AV) (l:List (List Int)),RV ρ0 G0 W av v/\WH ks av l/\av.aH=true:=by
 rcases DataW.trod_slice ht h with⟨h0,_⟩ | ⟨a,len,cap,elems,rest,n,_,hv,_,hb,hl,hm,hlen,hel,_,_⟩
 ·have h0:v=.slice none 0 0:=by simpa using h0
  subst h0;exact⟨.s (.slice none 0 0),[],by simp [RV],⟨⟨by simp,rfl,rfl,rfl⟩,by simp,by simp⟩,rfl⟩
 ·have hv:v=.slice (some a) len cap:=by simpa using hv
  subst hv;simp only [Cell.okWide,ht,Cell.ok] at hval;obtain⟨_,_,_,hspot,row,cells,hsh,_⟩:=hval;obtain⟨b,o,spot⟩:=a;simp only at hspot;subst hspot;have hrow:∀i,∃zs:List Int,i < len->zs.length=ks.length/\(∀(j:Nat) (k:IntKind) (z:Int),ks[j]?=some k->zs[j]?=some z->(Lit.int k z).wf=true)/\RVc ρ0 G0 W (ints ks zs) b (o+i*ks.length):=by
   intro i;by_cases hi:i < len
   ·have:=hel i hi;rw [zab (by omega)] at this;obtain⟨cs,hcs,htr⟩:=Option.bind_eq_some_iff.1 this;obtain⟨zs,z1,z2,z3⟩:=hF htr;refine⟨zs,λ_=> ⟨z1,z3,nI λj x hx=> ?_⟩⟩;obtain⟨_,c1,c2⟩:=World.cells?_some hcs;have hj:j < ks.length:=by
     have:=(zaf.1 hx).1
     rwa [wG z1] at this
    have hc2:=c2 j (by rw [hc];exact hj);obtain⟨u,hu,hrv⟩:=iQ (Q9 (W:=W) ks zs) hx;refine⟨u,?_,hrv⟩;rw [z2,hu] at hc2;rw [<-hc2,hc]
    congr 1
    unfold Addr.add;by_cases h1:i*ks.length=0
    ·rw [if_pos h1,h1];by_cases h2:j=0
     ·rw [if_pos h2,h2];rfl
     ·rw [if_neg h2];rfl
    ·rw [if_neg h1];by_cases h2:j=0
     ·rw [if_pos h2,h2];rfl
     ·rw [if_neg h2]
   ·exact⟨[],λh=> absurd h hi⟩
  obtain⟨f,hf⟩:=Classical.axiomOfChoice hrow;have hl1:∀zs∈(List.range len).map f,zs.length=ks.length:=by
   intro zs hz;obtain⟨i,hi,rfl⟩:=zaN.1 hz;exact(hf i (zaW.1 hi)).1
  have hcells:∀m s,s+m<=len->RVc ρ0 G0 W (((List.range' s m).map f).flatMap (ints ks)) b (o+s*ks.length):=by
   intro m
   induction m with
   | zero=> intro s _;simp [RVc]
   | succ m ih=>
    intro s hs;rw [List.range'_succ,zaC,zaH];refine TI (hf s (by omega)).2.2 ?_;rw [wG (hf s (by omega)).1];have:=ih (s+1) (by omega)
    rwa [zbF,<-zb7] at this
  refine⟨.vs len ks.length (((List.range len).map f).flatMap (ints ks)),(List.range len).map f,?_,⟨?_,hl1,λzs hz=> ?_⟩,rfl⟩
  ·simp only [RV];refine⟨b,o,cap,rfl,hl,?_,CQ hsh,λr sh h=> (by cases h),?_⟩
   ·rw [wH hl1];simp
   ·have:=hcells len 0 (by omega);rw [List.range_eq_range']
    simpa using this
  ·have:=aG.vs (H:=aj.empty) (m:=ks.length) (n:=len) (cs:=((List.range len).map f).flatMap (ints ks)) (by rw [wH hl1];simp)
   simpa using this
  ·obtain⟨i,hi,rfl⟩:=zaN.1 hz;exact(hf i (zaW.1 hi)).2.1
theorem Pg {t:TypeId}{fs:Array Field}{ts:List TypeId}(ht:P.underlying t=some (.struct fs))(hts:P.cellTypes P.depth t=some ts)(hfs:fs.toList.map (λ(f:Field)=> (f.type,f.offset))=ts.zipIdx)
  (hc:∀u∈ts,P.cellsOf u=1) (hct:P.cellsOf t=ts.length) {W:World} {r:Reach} {b0 base:Nat} {sp:Nat->Bool} {held:Bool} {v:Value} {d:DataW H} {ps:List MemPlace}
  (hval:Value.okWide P W r b0 t v) (h:DataW.Trod enc P W base sp held t v d ps):
  ∃cs:Array Value,v=.agg cs/\cs.size=ts.length/\∀(i:Nat) (u:TypeId),ts[i]?=some u->∃(c:Value) (n:Nat) (y:DataW H × List MemPlace),cs[i]?=some c/\Cell.okWide P W r b0 u c/\DataW.trod enc P W base sp held n u [c]=some y:=by
 unfold Value.okWide at hval;rw [ht] at hval;obtain⟨cs,rfl,hsz,ts',apq,_,hrow⟩:=hval;rw [hts] at apq;cases apq;obtain⟨fuel,hf⟩:=h;obtain⟨xs,n,_,_,hl,hx,hr⟩:=DataW.trod_struct ht hf;have hfl:fs.size=ts.length:=by
  have:=congrArg List.length hfs
  simpa using this
 have hget:∀(i:Nat) (u:TypeId),ts[i]?=some u->∃f:Field,fs[i]?=some f/\f.type=u/\f.offset=i:=by
  intro i u hu;have hi:i < ts.length:=(zaf.1 hu).1;have hfi:fs[i]?=some (fs[i]'(by omega)):=zbz _;have h1:(fs.toList.map (λ(f:Field)=> (f.type,f.offset)))[i]?=some ((fs[i]'(by omega)).type,(fs[i]'(by omega)).offset):=by
   rw [zaB];simp [hfi]
  rw [hfs,List.getElem?_zipIdx,hu] at h1;simp at h1;exact⟨_,hfi,h1.1.symm,h1.2.symm⟩
 have each:∀(i:Nat) (u:TypeId),ts[i]?=some u->∃c y,cs[i]?=some c/\DataW.trod enc P W base sp held n u [c]=some y:=by
  intro i u hu;obtain⟨f,h1,h2,h3⟩:=hget i u hu;have hi:i < ts.length:=(zaf.1 hu).1;have:=hr i f h1;rw [h2,h3,hc u (zau hu),zab (show i < xs.length by omega)] at this;have hlt0:i < cs.size:=by rw [hsz,hct];exact hi
  cases hci:cs[i]? with
  | none=> rw [zbz hlt0] at hci;cases hci
  | some c=>
   have hlt:i < cs.size:=by
    rcases zaR i cs.size with h5 | h5
    ·exact h5
    ·rw [Array.getElem?_eq_none h5] at hci;cases hci
   have h5:(((Value.agg cs).cells.toList.drop i).take 1)=[c]:=by
    have hcl:cs.toList[i]?=some c:=by simpa using hci
    show(cs.toList.drop i).take 1=[c]
    rw [zbn (by simpa using hlt)];rw [zab (by simpa using hlt)] at hcl;simp at hcl;simp [hcl]
   rw [h5] at this;exact⟨c,_,rfl,this⟩
 refine⟨cs,rfl,?_,λi u hu=> ?_⟩
 ·rw [hsz,hct]
 ·obtain⟨c,y,h1,h2⟩:=each i u hu;obtain⟨u',h3,h4⟩:=hrow i c h1;have hi:i < ts.length:=(zaf.1 hu).1;rw [zcd hi,hu] at h3;cases h3;exact⟨c,n,y,h1,h4,h2⟩
structure DT(k:IntKind)(av:AV)(zs:List Int):Prop where
 is:aG aj.empty av 1 zs.length (zs.map λz=> .s (.int k z))
 wf:∀z∈zs,(Lit.int k z).wf=true
 cell:av.aH=true
theorem LC {k:IntKind}:∀(l:List (List Int)),(∀zs∈l,zs.length=1)->l.flatMap (ints [k])=(l.map (λzs=> zs.headD 0)).map λz=> .s (.int k z)
 | [],_=> rfl
 | zs::l,h=> by
  have h1:=h zs (by simp);rw [zaH,LC l λz hz=> h z (by simp [hz])];cases zs with
  | nil=> simp at h1
  | cons z zs=>
   cases zs with
   | nil=> rfl
   | cons _ _=> simp at h1
theorem WH.ints {k:IntKind}{av:AV}{l:List (List Int)}(h:WH [k] av l)(hc:av.aH=true):DT k av (l.map λzs=> zs.headD 0):=by
 refine⟨?_,λz hz=> ?_,hc⟩
 ·have:=h.is;rw [LC l h.len] at this
  simpa using this
 ·obtain⟨zs,hzs,rfl⟩:=zaN.1 hz;have h1:=h.len zs hzs;cases zs with
  | nil=> simp at h1
  | cons z zs=> exact h.wf _ hzs 0 k z rfl rfl
structure jD where
 nodes:Int
 lines:Int
 words:Int
 sets:Int
 ways:Int
 out:Int
 inn:Int
 init:AV
 who:AV
 kinds:AV
 jA:AV
 values:AV
def jD.cells(s:jD):List AV:=
 [.s (.int .i64 s.nodes),.s (.int .i64 s.lines),.s (.int .i64 s.words),.s (.int .i64 s.sets),.s (.int .i64 s.ways),.s (.int .i64 s.out),.s (.int .i64 s.inn),s.init,s.who,s.kinds,s.jA,s.values]
abbrev In64(z:Int):Prop:=-9223372036854775808<=z/\z<=9223372036854775807
theorem ahb {z:Int}(h:(Lit.int .i64 z).wf=true):In64 z:=by
 simp [Lit.wf,IntKind.min,IntKind.max,IntKind.signed,IntKind.bits] at h;exact⟨by omega,by omega⟩
structure jD.Ok(s:jD)(zi zw zk za zv:List Int):Prop where
 nodes:In64 s.nodes
 lines:In64 s.lines
 words:In64 s.words
 sets:In64 s.sets
 ways:In64 s.ways
 out:In64 s.out
 inn:In64 s.inn
 init:DT .i64 s.init zi
 who:DT .i64 s.who zw
 kinds:DT .i64 s.kinds zk
 jA:DT .i64 s.jA za
 values:DT .i64 s.values zv
theorem Ui {t ti sl e:TypeId}{fs:Array Field}(ht:P.underlying t=some (.struct fs))(hts:P.cellTypes P.depth t=some [ti,ti,ti,ti,ti,ti,ti,sl,sl,sl,sl,sl])
  (hfs:fs.toList.map (λ(f:Field)=> (f.type,f.offset))=[ti,ti,ti,ti,ti,ti,ti,sl,sl,sl,sl,sl].zipIdx) (hct:P.cellsOf t=12) (hti:P.underlying ti=some (.int .i64)) (hci:P.cellsOf ti=1)
  (hsl:P.underlying sl=some (.slice e)) (hcs:P.cellsOf sl=1) (hee:P.underlying e=some (.int .i64)) (hce:P.cellsOf e=1)
  {W:World} {r:Reach} {b0 base:Nat} {sp:Nat->Bool} {held:Bool} {v:Value} {d:DataW H} {ps:List MemPlace} (hval:Value.okWide P W r b0 t v) (h:DataW.Trod enc P W base sp held t v d ps):
  ∃(s:jD) (zi zw zk za zv:List Int),RV ρ0 G0 W (.agg s.cells) v/\s.Ok zi zw zk za zv:=by
 obtain⟨cs,rfl,hsz,each⟩:=Pg ht hts hfs (λu hu=> by
  simp only [zam,zaI,or_false] at hu;rcases hu with rfl | rfl | rfl | rfl | rfl | rfl | rfl | rfl | rfl | rfl | rfl | rfl <;> assumption) hct hval h
 have num:∀i:Nat,[ti,ti,ti,ti,ti,ti,ti,sl,sl,sl,sl,sl][i]?=some ti->∃z,cs[i]?=some (.int .i64 z)/\In64 z:=by
  intro i hi;obtain⟨c,n,y,h1,_,h3⟩:=each i ti hi;obtain⟨z,hz,_,hw⟩:=DataW.trod_int hti h3;simp at hz;subst hz;exact⟨z,h1,ahb hw⟩
 have row:∀i:Nat,[ti,ti,ti,ti,ti,ti,ti,sl,sl,sl,sl,sl][i]?=some sl->∃c av zs,cs[i]?=some c/\RV ρ0 G0 W av c/\DT .i64 av zs:=by
  intro i hi;obtain⟨c,n,y,h1,h2,h3⟩:=each i sl hi;obtain⟨av,l,r1,r2,r3⟩:=Lu hsl (ks:=[.i64]) hce (aaG hee) h2 h3;exact⟨c,av,_,h1,r1,r2.ints r3⟩
 obtain⟨z0,a0,w0⟩:=num 0 rfl;obtain⟨z1,a1,w1⟩:=num 1 rfl;obtain⟨z2,a2,w2⟩:=num 2 rfl;obtain⟨z3,a3,w3⟩:=num 3 rfl;obtain⟨z4,a4,w4⟩:=num 4 rfl;obtain⟨z5,a5,w5⟩:=num 5 rfl;obtain⟨z6,a6,w6⟩:=num 6 rfl;obtain⟨c7,v7,l7,a7,r7,o7⟩:=row 7 rfl;obtain⟨c8,v8,l8,a8,r8,o8⟩:=row 8 rfl;obtain⟨c9,v9,l9,a9,r9,o9⟩:=row 9 rfl;obtain⟨c10,v10,l10,a10,r10,o10⟩:=row 10 rfl;obtain⟨c11,v11,l11,a11,r11,o11⟩:=row 11 rfl;have hcs:cs.toList=[.int .i64 z0,.int .i64 z1,.int .i64 z2,.int .i64 z3,.int .i64 z4,.int .i64 z5,.int .i64 z6,c7,c8,c9,c10,c11]:=by
  apply za6
  intro i;rcases zaR i 12 with hi | hi
  ·have:i=0∨i=1∨i=2∨i=3∨i=4∨i=5∨i=6∨i=7∨i=8∨i=9∨i=10∨i=11:=by omega
   rcases this with rfl | rfl | rfl | rfl | rfl | rfl | rfl | rfl | rfl | rfl | rfl | rfl <;> simp [a0,a1,a2,a3,a4,a5,a6,a7,a8,a9,a10,a11]
  ·have h1:cs.toList.length=12:=by simpa using hsz
   rw [zaG (by omega),zaG (by simpa using hi)]
 refine⟨⟨z0,z1,z2,z3,z4,z5,z6,v7,v8,v9,v10,v11⟩,l7,l8,l9,l10,l11,?_,⟨w0,w1,w2,w3,w4,w5,w6,o7,o8,o9,o10,o11⟩⟩;simp only [RV,jD.cells];refine⟨cs,rfl,?_⟩;rw [hcs];exact xI Af (xI Af (xI Af (xI Af (xI Af (xI Af (xI Af (xI r7 (xI r8 (xI r9 (xI r10 (xI r11 apo)))))))))))
end
open Go.RowKit
variable {P:Program}{ρ:Ren}{H:aj}{w w':World}
theorem FZ {f:FuncId}{p:List AV->aj->Option (AV × aj)}
  (h:∀args H v H',p args H=some (v,H')->∀(ρ:Ren) (w:World) (jJ:Array Value),Rel ρ H w->RVs ρ H.gen w args jJ.toList->
   Calls P f jJ w λe w'=>∃cv ρ',e=.returned cv/\Rel ρ' H' w'/\RV ρ' H'.gen w' v cv/\Ext ρ H w ρ' H' w'):Sound P (λg args H=> if g=f then p args H else none):=by
 intro g args H v H' he ρ w jJ R ha;simp only at he;split at he
 ·rename_i e;subst e;exact h args H v H' he ρ w jJ R ha
 ·cases he
theorem DU(R:Rel ρ H w)(B:Below w.heap.size w w'):Rel ρ H w'/\Ext ρ H w ρ H w':=by
 have E:Ext ρ H w ρ H w':=⟨zac _,λ_=> zac _,λ_ _ h _=> h,λ_ _ h=> h,λ_ _ sh h=> .inr ⟨sh,h⟩,B.size,λb hb _=> B.block b hb,λb hb=> by rw [dI,dI,B.block b hb],B.os,B.tape,B.output⟩
 exact⟨⟨R.out,λr b sh h=> vX.mono E.toMono (B.block b (R.block h)) (R.obj r b sh h),R.inj,R.gl.ext E⟩,E⟩
theorem LD(R:Rel ρ H w){b:Nat}(hb:w.heap.size<=b):Imm ρ b:=λr sh h=> by
 have:=R.block h;omega
theorem Ph {G:Nat->Nat}{x:AV}{jJ:Array Value}(h:RVs ρ G w [x] jJ.toList):∃c,jJ=#[c]/\RV ρ G w x c:=by
 obtain⟨cx,l,e,h1,h2⟩:=(by simpa only [RVs] using h)
 subst h2;exact⟨cx,zcc.1 (by simpa using e),h1⟩
def ait:AV:=.s (.slice none 0 0)
def sortL(ks:List Int):AV:=if ks=[] then ait else .vs ks.length 1 ((ks.mergeSort λx y=> decide (x<=y)).map λn=> .s (.int .i64 n))
def yV(kf vf:List Nat)(args:List AV)(H:aj):Option (AV × aj):=
 match args with
 | [.fn (.func f) [] [.ref r g 0]]=>
  match H.get r with
  | .blk g' ty [.mp m]=> match H.get m with
   | .map .i64 es=> if g'=g/\ty < eH/\f≠0/\f∈kf/\(es.map (·.1)).Nodup/\(es.all λe=> (Lit.int .i64 e.1).wf)=true/\es.length<=1000000 then some (sortL (es.map (·.1)),H) else none
   | _=> none
  | .blk g' ty [.s (.slice none 0 0)]=> if g'=g/\ty < eH/\f≠0/\f∈vf then some (ait,H) else none
  | _=> none
 | _=> none
structure Node where
 cache:Cache
 proc:Proc
 home:Home
 deal:bF
 num:Int
structure fK where
 c:Cfg
 nodes:List Node
 fab:Fab
 trace:List Evn
def Cfg.iM(c:Cfg)(me:Int):Nat->Rows
 | 0=> []
 | n+1=> if c.ig n=me then mM (c.iM me n) n ⟨0,-1,c.first n⟩ else c.iM me n
def Home.new(c:Cfg)(me:Int):Home:=⟨c.iM me c.lines.toNat,⟨[],[]⟩⟩
def Node.new(c:Cfg)(me:Int)(l:List Opn):Node:=⟨⟨[],c.sets,c.ways,0⟩,⟨l,[],false⟩,.new c me,.zero,0⟩
def Fab.new(c:Cfg):Fab:=⟨c.out,c.inn,List.replicate c.nodes.toNat .zero⟩
def fK.new(c:Cfg)(ps:List (List Opn)):fK:=⟨c,ps.mapIdx λi l=> .new c i l,.new c,[]⟩
structure fG where
 owner:List (Int × Int)
 wait:List (Int × Int × Int)
structure eF where
 rows:List Row
 turns:fG
structure dD where
 cache:Cache
 homes:eF
 ops:List Opn
 begun:Bool
 values:List Int
 has:Bool
 deal:bF
 num:Int
structure eX where
 c:Cfg
 fab:List Port
 nodes:List dD
 ev:List Evn
def eF.new(c:Cfg):eF:=⟨(List.range c.lines.toNat).map λ(i:Nat)=> (⟨0,-1,c.first (i:Int)⟩:Row),⟨[],[]⟩⟩
def dD.new(c:Cfg)(l:List Opn):dD:=⟨⟨[],c.sets,c.ways,0⟩,.new c,l,false,[],false,.zero,0⟩
def eX.new(c:Cfg)(ps:List (List Opn)):eX:=⟨c,List.replicate c.nodes.toNat .zero,ps.map (.new c),[]⟩
inductive wI {α:Type} (R:α->List AV->Prop):List α->List AV->Prop
 | nil:wI R [] []
 | cons {a:α} {l:List α} {cs cells:List AV}:R a cs->wI R l cells->wI R (a::l) (cs++cells)
section
variable {α:Type}{R:α->List AV->Prop}{l:List α}{cells:List AV}
theorem wI.length {m:Nat}(hm:∀a cs,R a cs->cs.length=m)(h:wI R l cells):cells.length=l.length*m:=by
 induction h with
 | nil=> simp
 | cons h1 _ ih=> rw [zaq,hm _ _ h1,ih,zak,zbF,Nat.add_comm]
theorem wI.all(hm:∀a cs,R a cs->cs.all AV.aH=true)(h:wI R l cells):cells.all AV.aH=true:=by
 induction h with
 | nil=> rfl
 | cons h1 _ ih=> rw [zbb,hm _ _ h1,ih];rfl
theorem wI.append {l':List α}{cells':List AV}(h:wI R l cells)(h':wI R l' cells'):wI R (l++l') (cells++cells'):=by
 induction h with
 | nil=> exact h'
 | cons h1 _ ih=> rw [zbP,List.append_assoc];exact .cons h1 ih
theorem wI.one {a:α}{cs:List AV}(h:R a cs):wI R [a] cs:=by
 have:=wI.cons h (wI.nil (R:=R))
 rwa [zbh] at this
theorem wI.mono {R':α->List AV->Prop}(hr:∀a cs,a∈l->R a cs->R' a cs)(h:wI R l cells):wI R' l cells:=by
 induction h with
 | nil=> exact .nil
 | cons h1 _ ih=> exact .cons (hr _ _ (by simp) h1) (ih λa cs ha=> hr a cs (by simp [ha]))
theorem wI.get {m:Nat}(hm:∀a cs,R a cs->cs.length=m)(h:wI R l cells):∀{i:Nat} {a:α},l[i]?=some a->R a ((cells.drop (i*m)).take m):=by
 induction h with
 | nil=> intro i a hi;simp at hi
 | cons h1 _ ih=>
  intro i a hi;have hl:=hm _ _ h1;cases i with
  | zero=>
   simp only [za1,zaa] at hi;subst hi;rw [zba,zaP,zbO (by omega),zas (by omega)];exact h1
  | succ i=>
   rw [zbF,List.drop_append,zaU (by omega),zaX,hl,Nat.add_sub_cancel];exact ih (by simpa using hi)
theorem wI.plain {enc:α->List AV}:∀l:List α,wI (λa cs=> cs=enc a) l (l.flatMap enc)
 | []=> .nil
 | a::l=> .cons rfl (wI.plain l)
theorem wI.of {enc:α->List AV}(hr:∀a,a∈l->R a (enc a)):wI R l (l.flatMap enc):=
 (wI.plain (enc:=enc) l).mono λa cs ha (h:cs=enc a)=> by rw [h];exact hr a ha
end
def Pkt.avx(p:Pkt)(x:AV):List AV:=[I p.kind,I p.src,I p.dst,I p.id,I p.line,I p.ptr,I p.state,B p.flag,x]
def Ent.avx(e:Ent)(x:AV):List AV:=[I e.fwd,I e.back,I e.line,I e.used,B e.dirty,x]
def Row.avx(r:Row)(x:AV):List AV:=[I r.state,I r.head,x]
def bF.avx(d:bF)(x:AV):List AV:=[I d.kind,I d.line,I d.id,I d.step,I d.state,I d.head,x,I d.next,I d.told]
def ql(g:Store)(x:AV)(l:List Int):Prop:=x=dat l∨∃q ex,l≠[]/\x=.sl q 0 0 1 l.length l.length ex/\g q=some (l.map λn=> .av (I n))
def Uj(cs:List Cell):Prop:=∃c∈cs,∀n,c≠.av (I n)
section
variable {b:Nat}{H:aj}{g g':Store}{x:AV}{l:List Int}
theorem ql.dat:ql g (dat l) l:=.inl rfl
theorem ql.one(h:ql g x l):One x:=by
 rcases h with rfl | ⟨q,ex,_,rfl,_⟩
 ·exact pK
 ·exact qj
theorem ql.sub(h:ql g x l)(hg:∀q cs,g q=some cs->¬Uj cs->g' q=some cs):ql g' x l:=by
 rcases h with rfl | ⟨q,ex,h0,rfl,h⟩
 ·exact .inl rfl
 ·refine .inr ⟨q,ex,h0,rfl,hg _ _ h λ⟨c,hc,hn⟩=> ?_⟩;obtain⟨n,_,rfl⟩:=zaN.1 hc;exact hn n rfl
theorem ql.upd {q:Nat}{cs cs':List Cell}(h:ql g x l)(hq:g q=some cs)(hn:Uj cs):ql (upd g q cs') x l:=
 h.sub λq' ds h1 h2=> by
  rw [upd_ne];exact h1;intro e;subst e;rw [hq] at h1;cases h1;exact h2 hn
theorem ql.nil(h:ql g x l)(h0:l=[]):x=zN:=by
 rcases h with rfl | ⟨q,ex,h1,_⟩
 ·rw [h0,Proofs.YthmoogcacpmjiaaGreat.dat,dQ]
 ·exact absurd h0 h1
theorem ql.is(G:Good b H g)(h:ql g x l):aG H x 1 l.length (l.map I):=by
 rcases h with rfl | ⟨q,ex,_,rfl,h⟩
 ·exact jr H l
 ·obtain⟨_,τ,hR⟩:=G;have R:=hR q _ h;obtain⟨ty,xs,h1,h2,h3,h4⟩:=R.blk;have:xs=l.map I:=by
   apply za6
   intro i;rcases zaR i l.length with hi | hi
   ·have hx:xs[i]?=some (xs[i]'(by simp at h2;omega)):=zab _;have:=h4 i (.av (I l[i])) _ (by simp [hi]) hx;simp only [CR] at this;rw [hx,this];simp [hi]
   ·rw [zaG (by simp at h2;omega),zaG (by simp;omega)]
  subst this;exact⟨by simp,rfl,rfl,⟨R.hi,zac _⟩,ty,_,h1,by simp,by simp [zas]⟩
end
def apN(g:Store)(p:Pkt)(cs:List AV):Prop:=∃x,ql g x p.data/\cs=p.avx x
def apO(g:Store)(e:Ent)(cs:List AV):Prop:=∃x,ql g x e.data/\cs=e.avx x
def ang(g:Store)(r:Row)(cs:List AV):Prop:=∃x,ql g x r.data/\cs=r.avx x
def anh(g:Store)(d:bF)(cs:List AV):Prop:=∃x,ql g x d.data/\cs=d.avx x
theorem afm {g:Store}(p:Row):ang g p p.av:=⟨_,.dat,rfl⟩
def yX(c:Cache)(cells:List AV):List Cell:=[.av (I c.sets),.av (I c.ways),.av (I c.clock),.seq 6 cells]
def mP(c:Cfg)(me:Int)(rows:List AV)(t:fG):List Cell:=c.av.map .av++[.av (I me),.seq 3 rows,.seq 2 (t.owner.flatMap λe=> [I e.1,I e.2]),.seq 3 (t.wait.flatMap λe=> [I e.1,I e.2.1,I e.2.2])]
def Ah(a:Nat->Nat)(c:Cfg)(me:Int)(n:dD)(d:List AV):List Cell:=
 c.av.map .av++[.av (I me),.av (.ref (a 1) 0 0),.av (.ref (a 2) 0 0),.seq 3 (n.ops.flatMap Opn.av),.av (B n.begun),.seq 1 (n.values.map I),.av (B n.has)]++d.map .av++[.av (I n.num)]
def Uk(c:Cfg)(ls:List (List AV)):List Cell:=c.av.map .av++[.aib 4 9 ls]
def nS(f:Nat)(N:Nat->Nat->Nat)(c:Cfg)(n:Nat)(ev:List Evn):List Cell:=c.av.map .av++[.av (.ref f 0 0),.seq 1 ((List.range n).map λi=> .ref (N i 0) 0 0),.seq 4 (ev.flatMap Evn.av)]
structure lF(g:Store)(a:Nat->Nat)(c:Cfg)(me:Int)(n:dD):Prop where
 node:∃d,anh g n.deal d/\g (a 0)=some (Ah a c me n d)
 cache:∃cells,wI (apO g) n.cache.l cells/\g (a 1)=some (yX n.cache cells)
 homes:∃rows,wI (ang g) n.homes.rows rows/\g (a 2)=some (mP c me rows n.homes.turns)
def ani(N:Nat->Nat->Nat)(n:Nat):Prop:=∀i j s t,i < n->j < n->s < 3->t < 3->N i s=N j t->i=j/\s=t
def adh(p:Port):List (List Pkt):=[p.rq,p.an,p.rin,p.ain]
structure DV(g:Store)(q f:Nat)(N:Nat->Nat->Nat)(m:eX):Prop where
 jO:g q=some (nS f N m.c m.nodes.length m.ev)
 fab:∃ls:List (List AV),g f=some (Uk m.c ls)/\ls.length=4*m.fab.length/\∀(i:Nat) l cells,(m.fab.flatMap adh)[i]?=some l->ls[i]?=some cells->wI (apN g) l cells
 node:∀(i:Nat) n,m.nodes[i]?=some n->lF g (N i) m.c i n
 inj:ani N m.nodes.length
def nT(x:Int):List Int->List Int
 | []=> [x]
 | y::rp=> if x < y then y::nT x rp else x::y::rp
def srt:List Int->List Int->List Int
 | rp,[]=> rp.reverse
 | rp,x::l=> srt (nT x rp) l
def Ent.word(e:Ent)(w:Int):Int:=if 0<=w/\w < e.data.length then e.data.getD w.toNat 0 else 0
def Ent.write(e:Ent)(w v:Int):Ent:=if e.dirty=true/\0<=w/\w < e.data.length then { e with data:=e.data.set w.toNat v } else e
def Home.ready(h:Home):List Int:=h.turns.ready (srt [] (h.turns.wait.map (·.1)))
def Home.grant(node:Int)(h:Home):Home × Pkt × Bool:=
 match h.ready with
 | []=> (h,.zero,false)
 | line::_=> match h.turns.next line with
  | (t,some w)=> ({ h with turns:=t },granted h.rows node line w.1 w.2,true)
  | (_,none)=> (h,.zero,false)
def Proc.idx(p:Proc):Int:=match p.cur with
 | some _=> p.values.length
 | none=> 0
def Proc.op(p:Proc):Opn:=p.cur.getD .zero
def Proc.ZL(p:Proc)(v:Int):Proc:=if p.begun then⟨p.ops,p.values++[v],false⟩ else p
def Proc.xJ(p:Proc):Proc:=if p.begun=true∨p.cur=none then p else { p with begun:=true }
abbrev NT:=Node × List Evn
def Node.done(me:Int)(n:Node)(t:List Evn)(v:Int):NT:=({ n with proc:=n.proc.ZL v },t++[⟨me,n.proc.idx,true,v⟩])
def iE(e:Ent)(o:Opn)(w:Int):Ent:=if o.kind=2 then e.write w o.value else if o.kind=3 then e.write w (w64 (e.word w+o.value)) else e
def Node.effect(c:Cfg)(me:Int)(n:Node)(t:List Evn):NT:=
 let o:=n.proc.op;let e:=(n.cache.find (c.dh o.addr)).getD .zero;let n':={ n with cache:=(n.cache.put (iE e o (c.iJ o.addr))).1 }
 n'.done me t (if o.kind=2 then 0 else e.word (c.iJ o.addr))
def Node.Pj(c:Cfg)(me:Int)(n:Node)(f:Fab):Fab:=(f.send (n.deal.ask me (c.ig n.deal.line))).1
def Node.after(me:Int)(n:Node)(p:Pkt):Nxt:=
 if n.deal.kind=1 then bV n.deal me n.cache p else if n.deal.kind=2 then bW n.deal me n.cache p else if n.deal.kind=3 then dn n.deal n.cache p else oD n.cache
abbrev NFT:=Node × Fab × List Evn
def Node.answered(c:Cfg)(me:Int)(n:Node)(f:Fab)(t:List Evn)(p:Pkt):NFT:=
 match n.after me p with
 | (ca,d,ok)=>
  if ok=false then({ n with cache:=ca },f,t) else
  let n:={ n with cache:=ca,deal:=d }
  if d.step=0 then(if d.kind=3/\n.proc.op.kind=4 then((n.done me t 0).1,f,(n.done me t 0).2) else(n,f,t))
  else
   let nt:=if d.step=6/\d.kind≠3 then n.effect c me t else(n,t)
   (nt.1,nt.1.Pj c me f,nt.2)
def Node.begin_(c:Cfg)(me:Int)(n:Node)(f:Fab)(kind line:Int):Node × Fab:=
 let n:={ n with deal:=.begin kind line n.num,num:=(n.num+1).tmod 4096 }
 (n,n.Pj c me f)
def Node.asked(c:Cfg)(me:Int)(n:Node)(f:Fab)(p:Pkt):Node × Fab:=
 if p.kind=1∨p.kind=2 then
  match n.home.handle c me p with
  | (h,out,ok,e)=> ({ n with home:=h },if ok=true/\e=0 then(f.send out).1 else f)
 else
  match dV n.cache p with
  | (ca,out,e)=> ({ n with cache:=ca },if e=0 then(f.send out).1 else f)
def Node.work(c:Cfg)(me:Int)(n:Node)(f:Fab)(t:List Evn)(o:Opn):NFT:=
 let t:=if n.proc.begun then t else t++[⟨me,n.proc.values.length,false,0⟩]
 let n:={ n with proc:={ n.proc with begun:=true } }
 let line:=c.dh o.addr;let e:=n.cache.find line
 if o.kind=4/\e=none then((n.done me t 0).1,f,(n.done me t 0).2)
 else if o.kind=4 then((n.begin_ c me f 3 line).1,(n.begin_ c me f 3 line).2,t)
 else if e.isSome=true/\(o.kind=1∨(e.getD .zero).dirty=true) then
  let n:={ n with cache:=n.cache.touch line }
  ((n.effect c me t).1,f,(n.effect c me t).2)
 else if n.cache.full line=true then((n.begin_ c me f 3 ((n.cache.lW line).getD 0)).1,(n.begin_ c me f 3 ((n.cache.lW line).getD 0)).2,t)
 else if o.kind=1 then((n.begin_ c me f 1 line).1,(n.begin_ c me f 1 line).2,t)
 else((n.begin_ c me f 2 line).1,(n.begin_ c me f 2 line).2,t)
def Node.step(c:Cfg)(me:Int)(n:Node)(f:Fab)(t:List Evn):NFT × Int:=
 match f.take me false with
 | (f',some p)=> (n.answered c me f' t p,1)
 | (_,none)=>
  if n.home.ready≠[]/\f.roomOf me false≠0 then
   (({ n with home:=(n.home.grant me).1 },(f.send (n.home.grant me).2.1).1,t),2)
  else
   match(if f.roomOf me false=0 then(f,none) else f.take me true) with
   | (f',some p)=> (((n.asked c me f' p).1,(n.asked c me f' p).2,t),3)
   | (_,none)=>
    match n.proc.cur with
    | some o=> if n.deal.step=0 then(n.work c me f t o,4) else((n,f,t),0)
    | none=> ((n,f,t),0)
def fK.node(m:fK)(i:Int):Option Node:=if 0<=i then m.nodes[i.toNat]? else none
def fK.step(m:fK)(i:Int):fK × Int:=
 match m.node i with
 | none=> (m,0)
 | some n=> match n.step m.c i m.fab m.trace with
  | ((n',f,t),k)=> ({ m with nodes:=m.nodes.set i.toNat n',fab:=f,trace:=t },k)
def turns(bytes:Nat)(bit mask:Int):Bool:=(List.range 16).any λi=> decide ((mask.toNat >>> (15 - i)) % 2=1) && decide (0<=bit+i) && decide (bit+i < 8*bytes)
def Pkt.bytes(p:Pkt):Nat:=12+8*p.data.length
def Port.drop(p:Port)(req:Bool)(k:Nat):Port:=p.lX req ((p.sort req).eraseIdx k)
def Fab.remove(f:Fab)(at_:Nat):Fab:=match findAt f.l 0 at_ with
 | some (i,req,k)=> f.put i ((f.port i).drop req k)
 | none=> f
def Fab.deliver(f:Fab)(at_ bit mask:Int):Fab × Int:=
 if at_ < 0 then(f,3) else
 match f.all[at_.toNat]? with
 | none=> (f,3)
 | some p=>
  if turns p.bytes bit mask=true then(f,2) else
  if f.room (DR p.kind)<=((f.port p.dst).rH (DR p.kind)).length then(f,5) else
  ((f.put p.dst ((f.port p.dst).mO (DR p.kind) ((f.port p.dst).rH (DR p.kind)++[p]))).remove at_.toNat,0)
def fK.deliver(m:fK)(at_ bit mask:Int):fK × Int:=({ m with fab:=(m.fab.deliver at_ bit mask).1 },(m.fab.deliver at_ bit mask).2)
def fK.do_(m:fK)(p:Pck):fK × Bool:=
 if p.deliver then((m.deliver p.at_ p.bit p.mask).1,decide ((m.deliver p.at_ p.bit p.mask).2=0))
 else((m.step p.at_).1,decide ((m.step p.at_).2≠0))
def wJ(e:Ent):List Ent->List Ent
 | []=> [e]
 | x::l=> if e.line < x.line then e::x::l else x::wJ e l
def Cache.Rf(c:Cache)(e:Ent):Cache × Int:=
 if e.line < 0 then(c,1) else
 match c.at_ e.line with
 | some i=> ({ c with l:=c.l.set i { e with used:=(c.l.getD i .zero).used } },0)
 | none=> if c.ways<=(c.mD e.line).length then(c,5) else({ c with l:=wJ { e with used:=c.clock+1 } c.l,clock:=c.clock+1 },0)
def Cache.IG(c:Cache)(line:Int):Int:=((lD (c.mD line)).map (·.line)).getD (-1)
def fG.gU(t:fG)(line:Int):Int:=((t.owner.find? λo=> decide (o.1=line)).map (·.2)).getD (-1)
def fG.waits(t:fG)(line:Int):List (Int × Int):=(t.wait.filter λw=> decide (w.1=line)).map (·.2)
def fG.ask(t:fG)(line who id:Int):fG × Bool:=
 if who < 0 then(t,false) else
 if t.gU line=-1/\t.waits line=[] then({ t with owner:=t.owner++[(line,who)] },true)
 else({ t with wait:=t.wait++[(line,who,id)] },false)
def eraseKey {α:Type}(p:α->Bool):List α->List α
 | []=> []
 | x::l=> if p x then l else x::eraseKey p l
def fG.release(t:fG)(line who:Int):fG × Bool:=
 if(t.owner.any λo=> decide (o.1=line) && decide (o.2=who))=true then({ t with owner:=eraseKey (λo=> decide (o.1=line) && decide (o.2=who)) t.owner },true) else(t,false)
def fG.next(t:fG)(line:Int):fG × Option (Int × Int):=
 if t.gU line≠-1 then(t,none) else
 match t.wait.find? λw=> decide (w.1=line) with
 | some w=> (⟨t.owner++[(line,w.2.1)],eraseKey (λw=> decide (w.1=line)) t.wait⟩,some w.2)
 | none=> (t,none)
def jX(x:Int):List Int->List Int
 | []=> [x]
 | y::l=> if y < x then y::jX x l else if y=x then y::l else x::y::l
def fG.ready(t:fG):List Int:=t.wait.foldl (λout w=> if t.gU w.1≠-1 then out else jX w.1 out) []
def lG(c:Cfg)(me line:Int):Bool:=decide (0<=line) && decide (line < c.lines) && decide (line % c.nodes=me)
def eF.row(h:eF)(line:Int):Row:=h.rows.getD line.toNat .zero
def eF.mD(c:Cfg)(me:Int)(h:eF)(line state head:Int)(data:List Int):eF × Int:=
 if lG c me line=false then(h,3) else
 if state < 0∨2 < state∨head < -1∨c.nodes<=head∨¬(state=0↔head=-1)∨(data≠[]/\(data.length:Int)≠c.words) then(h,1) else
 ({ h with rows:=h.rows.set line.toNat ⟨state,head,if data=[] then(h.row line).data else data⟩ },0)
def eF.granted(me:Int)(h:eF)(line who id:Int):Pkt:=⟨7,me,who,id,line,(h.row line).head,(h.row line).state,false,(h.row line).data⟩
def eF.handle(c:Cfg)(me:Int)(h:eF)(p:Pkt):eF × Pkt × Bool × Int:=
 if p.ok=false∨p.dst≠me∨c.nodes<=p.src∨(p.kind≠1/\p.kind≠2) then(h,.zero,false,1)
 else if lG c me p.line=false then(h,.zero,false,3)
 else if p.kind=1 then
  let a:=h.turns.ask p.line p.src p.id
  if a.2=true then({ h with turns:=a.1 },h.granted me p.line p.src p.id,true,0) else({ h with turns:=a.1 },.zero,false,0)
 else if h.turns.gU p.line≠p.src then(h,.zero,false,6)
 else
  let r:=h.mD c me p.line p.state p.ptr (if p.flag then p.data else [])
  if r.2=0 then({ r.1 with turns:=(r.1.turns.release p.line p.src).1 },⟨8,me,p.src,p.id,p.line,0,0,false,[]⟩,true,0) else(h,.zero,false,r.2)
def eF.grant(me:Int)(h:eF):eF × Pkt × Bool:=
 match h.turns.ready with
 | []=> (h,.zero,false)
 | line::_=> match h.turns.next line with
  | (t,w)=> ({ h with turns:=t },h.granted me line (w.getD (0,0)).1 (w.getD (0,0)).2,true)
def DW(c:Cache)(p:Pkt):Cache × Pkt × Int:=
 if p.ok=false∨p.kind < 3∨6 < p.kind then(c,.zero,1) else
 match c.find p.line with
 | none=> (c,.zero,3)
 | some e=>
  let out:Pkt:=⟨IE p.kind,p.dst,p.src,p.id,p.line,0,0,false,[]⟩
  if p.kind=3 then((c.Rf { e with dirty:=false,back:=p.ptr }).1,{ out with data:=e.data,flag:=e.dirty },0)
  else if p.kind=4 then((c.Rf { e with fwd:=p.ptr }).1,out,0)
  else if p.kind=5 then((c.Rf { e with back:=p.ptr }).1,out,0)
  else(c.drop p.line,{ out with data:=e.data,flag:=e.dirty,ptr:=e.fwd },0)
def afn(d:bF)(node:Int)(c:Cache)(p:Pkt):Nxt:=
 if d.step=1/\d.state=0 then((c.Rf ⟨-1,-1,d.line,0,false,d.data⟩).1,{ d with step:=6,state:=1,head:=node,data:=[] },true)
 else if d.step=1 then(c,{ d with step:=2 },true)
 else if d.step=2 then((c.Rf ⟨d.head,-1,d.line,0,false,p.data⟩).1,{ d with step:=6,state:=1,head:=node,data:=if p.flag then p.data else [] },true)
 else oD c
def WI(d:bF)(node:Int)(c:Cache):Nxt:=
 let d:bF:=match c.find d.line with
  | some own=> if d.next=node then { d with next:=own.fwd } else d
  | none=> d
 if d.next≠-1 then(c,{ d with step:=3 },true)
 else((c.Rf ⟨-1,-1,d.line,0,true,d.data⟩).1,{ d with step:=6,state:=2,head:=node,data:=[] },true)
def WJ(d:bF)(node:Int)(c:Cache)(p:Pkt):Nxt:=
 if d.step=1 then WI { d with data:=(match c.find d.line with | some own=> own.data | none=> d.data),next:=d.head } node c
 else if d.step=3 then WI { d with data:=(match c.find d.line with | some _=> d.data | none=> p.data),next:=p.ptr } node c
 else oD c
def II(d:bF)(c:Cache)(head:Int):Nxt:=(c.drop d.line,{ d with step:=6,state:=1,head:=head,data:=[] },true)
def afo(d:bF)(c:Cache):Nxt:=
 if d.step=1 then
  match c.find d.line with
  | none=> (c,{ d with step:=6,data:=[] },true)
  | some e=>
   if e.back=-1/\e.fwd=-1 then(c.drop d.line,{ d with step:=6,state:=0,head:=-1,data:=if e.dirty then e.data else [] },true)
   else if e.back=-1 then(c,{ d with data:=[],head:=-1,next:=e.fwd,step:=5 },true)
   else(c,{ d with data:=[],head:=e.back,next:=e.fwd,step:=4 },true)
 else if d.step=4 then
  if d.next≠-1 then(c,{ d with step:=5 },true) else II d c d.told
 else if d.step=5 then
  if d.head=-1 then II d c d.next else II d c d.told
 else oD c
def WL(d:bF)(node:Int)(c:Cache)(p:Pkt):Nxt:=
 if d.fits p=false∨d.kind < 1∨3 < d.kind then oD c else
 if d.step=6 then(c,{ d with step:=0 },true) else
 let d:=if d.step=1 then { d with state:=p.state,head:=p.ptr,told:=p.ptr,data:=p.data } else d
 if d.kind=1 then afn d node c p else if d.kind=2 then WJ d node c p else afo d c
abbrev RNT:=dD × List Evn
def dD.done(me:Int)(n:dD)(t:List Evn)(v:Int):RNT:=({ n with values:=n.values++[v],begun:=false },t++[⟨me,n.values.length,true,v⟩])
def IJ(e:Ent)(o:Opn)(w:Nat):Ent:=
 if o.kind=2 then { e with data:=e.data.set w o.value } else if o.kind=3 then { e with data:=e.data.set w (w64 (e.data.getD w 0+o.value)) } else e
def dD.effect(c:Cfg)(n:dD)(o:Opn):dD × Int:=
 let i:=(n.cache.at_ (o.addr.tdiv c.words)).getD 0;let e:=n.cache.l.getD i .zero;let w:=(o.addr.tmod c.words).toNat
 ({ n with cache:={ n.cache with l:=n.cache.l.set i (IJ e o w) } },if o.kind=2 then 0 else e.data.getD w 0)
def dD.Pj(c:Cfg)(me:Int)(n:dD)(f:Fab):Fab:=(f.send (n.deal.ask me (n.deal.line.tmod c.nodes))).1
def dD.begin_(c:Cfg)(me:Int)(n:dD)(f:Fab)(kind line:Int):dD × Fab:=
 let n:={ n with has:=true,deal:=.begin kind line n.num,num:=(n.num+1).tmod 4096 }
 (n,n.Pj c me f)
abbrev aiu:=dD × Fab × List Evn
def dD.answered(c:Cfg)(me:Int)(n:dD)(f:Fab)(t:List Evn)(p:Pkt):aiu:=
 if n.has=false then(n,f,t) else
 match WL n.deal me n.cache p with
 | (ca,d,ok)=>
  if ok=false then({ n with cache:=ca },f,t) else
  let n:={ n with cache:=ca,deal:=d }
  if d.step=0 then
   let n:={ n with has:=false,deal:=.zero }
   match n.ops[n.values.length]? with
   | some o=> if n.begun=true/\o.kind=4 then((n.done me t 0).1,f,(n.done me t 0).2) else(n,f,t)
   | none=> (n,f,t)
  else
   let nt:=if d.step=6/\d.kind≠3 then let ev:=n.effect c (n.ops.getD n.values.length .zero);ev.1.done me t ev.2 else(n,t)
   (nt.1,nt.1.Pj c me f,nt.2)
def dD.work(c:Cfg)(me:Int)(n:dD)(f:Fab)(t:List Evn)(o:Opn):aiu:=
 let t:=if n.begun then t else t++[⟨me,n.values.length,false,0⟩]
 let n:={ n with begun:=true }
 let line:=o.addr.tdiv c.words;let e:=n.cache.find line
 if o.kind=4/\e=none then((n.done me t 0).1,f,(n.done me t 0).2)
 else if o.kind=4 then((n.begin_ c me f 3 line).1,(n.begin_ c me f 3 line).2,t)
 else if e.isSome=true/\(o.kind=1∨(e.getD .zero).dirty=true) then
  let n:={ n with cache:=n.cache.touch line }
  let ev:=n.effect c o
  ((ev.1.done me t ev.2).1,f,(ev.1.done me t ev.2).2)
 else if e=none/\0<=line/\n.cache.ways<=(n.cache.mD line).length then((n.begin_ c me f 3 (n.cache.IG line)).1,(n.begin_ c me f 3 (n.cache.IG line)).2,t)
 else if o.kind=1 then((n.begin_ c me f 1 line).1,(n.begin_ c me f 1 line).2,t)
 else((n.begin_ c me f 2 line).1,(n.begin_ c me f 2 line).2,t)
def dD.asked(c:Cfg)(me:Int)(n:dD)(f:Fab)(p:Pkt):dD × Fab:=
 if p.kind=1∨p.kind=2 then
  match n.homes.handle c me p with
  | (h,out,ok,e)=> ({ n with homes:=h },if ok=true/\e=0 then(f.send out).1 else f)
 else
  match DW n.cache p with
  | (ca,out,e)=> ({ n with cache:=ca },if e=0 then(f.send out).1 else f)
def dD.step(c:Cfg)(me:Int)(n:dD)(f:Fab)(t:List Evn):aiu × Int:=
 match f.take me false with
 | (f',some p)=> (n.answered c me f' t p,1)
 | (_,none)=>
  if 0 < f.roomOf me false/\n.homes.turns.ready≠[] then
   (({ n with homes:=(n.homes.grant me).1 },(f.send (n.homes.grant me).2.1).1,t),2)
  else if 0 < f.roomOf me false/\0 < f.waiting me true then
   match f.take me true with
   | (f',p)=> (((n.asked c me f' (p.getD .zero)).1,(n.asked c me f' (p.getD .zero)).2,t),3)
  else
   match n.ops[n.values.length]? with
   | some o=> if n.has=false then(n.work c me f t o,4) else((n,f,t),0)
   | none=> ((n,f,t),0)
def eX.adi(m:eX):Fab:=⟨m.c.out,m.c.inn,m.fab⟩
def eX.all(m:eX):List Pkt:=m.fab.flatMap λp=> p.rq++p.an
def eX.left(m:eX):Int:=(m.nodes.map λn=> (n.ops.length:Int) - n.values.length).sum
def eX.busy(m:eX)(i:Nat):Bool:=match m.nodes[i]?,m.fab[i]? with
 | some n,some p=> n.begun || n.has || decide (0 < p.rin.length) || decide (0 < p.ain.length)
 | _,_=> false
def eX.quiet(m:eX):Bool:=decide (m.all.length=0) && (List.range m.nodes.length).all λi=> !m.busy i
def eX.step(m:eX)(i:Int):eX × Int:=
 match(if 0<=i then m.nodes[i.toNat]? else none) with
 | none=> (m,0)
 | some n=> match n.step m.c i m.adi m.ev with
  | ((n',f,t),k)=> ({ m with nodes:=m.nodes.set i.toNat n',fab:=f.l,ev:=t },k)
def eX.deliver(m:eX)(at_ bit mask:Int):eX × Int:=({ m with fab:=(m.adi.deliver at_ bit mask).1.l },(m.adi.deliver at_ bit mask).2)
def eX.do_(m:eX)(p:Pck):eX × Bool:=
 if p.deliver then((m.deliver p.at_ p.bit p.mask).1,decide ((m.deliver p.at_ p.bit p.mask).2=0))
 else((m.step p.at_).1,decide ((m.step p.at_).2≠0))
structure aiv(c:Cfg)(me:Int)(n:Node)(r:dD):Prop where
 ops:r.ops=n.proc.ops
 values:r.values=n.proc.values
 begun:r.begun=n.proc.begun
 has:r.has=!decide (n.deal.step=0)
 deal:r.deal=if n.deal.step=0 then .zero else n.deal
 num:r.num=n.num
 sets:r.cache.sets=n.cache.sets
 ways:r.cache.ways=n.cache.ways
 clock:r.cache.clock=n.cache.clock
 sorted:r.cache.l.Pairwise λa b=> a.line < b.line
 perm:n.cache.l.Perm r.cache.l
 rows:∀line,lG c me line=true->∃row,je n.home.rows line=some row/\r.homes.rows[line.toNat]?=some row
 none:∀line,lG c me line=false->je n.home.rows line=none
 owner:∀line,n.home.turns.owner line=r.homes.turns.gU line
 waits:∀line,n.home.turns.ws line=r.homes.turns.waits line
structure Sim(m:fK)(r:eX):Prop where
 c:r.c=m.c
 len:r.nodes.length=m.nodes.length
 fab:r.fab=m.fab.l
 ev:r.ev=m.trace
 node:∀(i:Nat) n rn,m.nodes[i]?=some n->r.nodes[i]?=some rn->aiv m.c i n rn
structure tV(c r:Cache):Prop where
 sets:r.sets=c.sets
 ways:r.ways=c.ways
 clock:r.clock=c.clock
 sorted:r.l.Pairwise λa b=> a.line < b.line
 perm:c.l.Perm r.l
def Lines(l:List Ent):Prop:=l.Pairwise λa b=> a.line≠b.line
theorem tX {l:List Ent}(h:l.Pairwise λa b=> a.line < b.line):Lines l:=h.imp λh=> by omega
theorem Lines.perm {l l':List Ent}(h:Lines l)(p:l.Perm l'):Lines l':=(p.pairwise_iff (λh=> Ne.symm h)).1 h
theorem tV.lines {c r:Cache}(S:tV c r):Lines c.l:=(tX S.sorted).perm S.perm.symm
theorem tV.LG {c r:Cache}(S:tV c r):Lines r.l:=tX S.sorted
theorem Lines.inj:∀{l:List Ent},Lines l->∀{a b:Ent},a∈l->b∈l->a.line=b.line->a=b
 | [],_,a,_,ha,_,_=> by cases ha
 | x::l,h,a,b,ha,hb,e=> by
  have h1:=za8.1 h;rcases zam.1 ha with ha' | ha'
  ·rcases zam.1 hb with hb' | hb'
   ·rw [ha',hb']
   ·rw [ha'] at e;exact absurd e (h1.1 b hb')
  ·rcases zam.1 hb with hb' | hb'
   ·rw [hb'] at e;exact absurd e.symm (h1.1 a ha')
   ·exact Lines.inj h1.2 ha' hb' e
theorem gG {l:List Ent}(h:Lines l){line:Int}{e:Ent}:(l.find? λx=> decide (x.line=line))=some e↔e∈l/\e.line=line:=by
 constructor
 ·intro hf;exact⟨za4 hf,by simpa using List.find?_some hf⟩
 ·rintro⟨he,hl⟩;cases hf:l.find? λx=> decide (x.line=line) with
  | none=>
   have:=zbR.1 hf e he;simp [hl] at this
  | some x=>
   have h1:=za4 hf;have h2:x.line=line:=by simpa using List.find?_some hf
   rw [h.inj h1 he (by rw [h2,hl])]
theorem qm {l:List Ent}{line:Int}:(l.find? λx=> decide (x.line=line))=none↔∀e∈l,e.line≠line:=by
 rw [zbR];simp
theorem tV.find {c r:Cache}(S:tV c r)(line:Int):r.find line=c.find line:=by
 unfold Cache.find;cases hf:c.l.find? λx=> decide (x.line=line) with
 | none=>
  rw [qm] at hf ⊢;exact λe he=> hf e (S.perm.mem_iff.2 he)
 | some e=>
  rw [gG S.lines] at hf;rw [gG S.LG];exact⟨S.perm.mem_iff.1 hf.1,hf.2⟩
theorem tV.count {c r:Cache}(S:tV c r)(line:Int):(r.mD line).length=(c.mD line).length:=by
 unfold Cache.mD;rw [S.sets];exact(S.perm.filter _).length_eq.symm
theorem tV.full {c r:Cache}(S:tV c r)(line:Int):r.full line=c.full line:=by
 unfold Cache.full;rw [S.find,S.count,S.ways]
theorem yY {c:Cache}{line:Int}:c.at_ line=none↔c.find line=none:=by
 unfold Cache.at_ Cache.find;rw [List.findIdx?_eq_none_iff,zbR];simp
theorem yZ {c:Cache}{line:Int}{i:Nat}(h:c.at_ line=some i):∃e,c.l[i]?=some e/\c.find line=some e/\e.line=line:=by
 unfold Cache.at_ at h;have hi:=List.findIdx?_eq_some_iff_getElem.1 h;obtain⟨hl,h1,h2⟩:=hi;refine⟨c.l[i],zab hl,?_,by simpa using h1⟩;unfold Cache.find;rw [List.find?_eq_some_iff_getElem];exact⟨h1,i,hl,rfl,λj hj=> by simpa using h2 j hj⟩
theorem qo {c:Cache}{line:Int}{e:Ent}(h:c.find line=some e):∃i,c.at_ line=some i/\c.l[i]?=some e:=by
 cases ha:c.at_ line with
 | none=> rw [yY.1 ha] at h;cases h
 | some i=>
  obtain⟨e',h1,h2,_⟩:=yZ ha;rw [h] at h2;cases h2;exact⟨i,rfl,h1⟩
theorem DY:∀{l:List Ent},Lines l->∀{i:Nat} {e v:Ent},l[i]?=some e->l.set i v=l.map λx=> if x.line=e.line then v else x
 | [],_,i,e,v,h=> by simp at h
 | x::l,hl,i,e,v,h=> by
  have h1:=za8.1 hl;cases i with
  | zero=>
   simp only [za1,zaa] at h;subst h;simp only [List.set_cons_zero,zaC,if_true]
   congr 1
   have:∀y∈l,(if y.line=x.line then v else y)=y:=λy hy=> if_neg (Ne.symm (h1.1 y hy));rw [zbA this];simp
  | succ i=>
   simp only [zbG] at h;have hx:x.line≠e.line:=h1.1 e (zau h);simp only [List.set_cons_succ,zaC,if_neg hx];rw [DY h1.2 h]
theorem erase_filter:∀{l:List Ent},Lines l->∀{i:Nat} {e:Ent},l[i]?=some e->l.eraseIdx i=l.filter λx=> decide (x.line≠e.line)
 | [],_,i,e,h=> by simp at h
 | x::l,hl,i,e,h=> by
  have h1:=za8.1 hl;cases i with
  | zero=>
   simp only [za1,zaa] at h;subst h;simp only [List.eraseIdx_cons_zero,zbQ,ne_eq,not_true,decide_false,zai,if_false];rw [List.filter_eq_self.2];intro y hy;have:=h1.1 y hy;simp only [decide_eq_true_eq];exact λe=> this e.symm
  | succ i=>
   simp only [zbG] at h;have hx:x.line≠e.line:=h1.1 e (zau h);simp only [List.eraseIdx_cons_succ,zbQ,hx,ne_eq,not_false_eq_true,decide_true,if_true];rw [erase_filter h1.2 h]
theorem tY(e:Ent):∀l,(wJ e l).Perm (e::l)
 | []=> .refl _
 | x::l=> by
  rw [wJ];split
  ·exact .refl _
  ·exact((tY e l).cons x).trans (.swap e x l)
theorem vP(e:Ent):∀l:List Ent,(l.Pairwise λa b=> a.line < b.line)->(∀x∈l,x.line≠e.line)->(wJ e l).Pairwise λa b=> a.line < b.line
 | [],_,_=> by simp [wJ]
 | x::l,h,hn=> by
  have h1:=za8.1 h;rw [wJ];split
  ·rename_i hlt;refine za8.2 ⟨λy hy=> ?_,h⟩;rcases zam.1 hy with rfl | hy
   ·exact hlt
   ·have:=h1.1 y hy;omega
  ·rename_i hlt;refine za8.2 ⟨λy hy=> ?_,vP e l h1.2 λy hy=> hn y (by simp [hy])⟩;rcases zam.1 ((tY e l).mem_iff.1 hy) with rfl | hy
   ·have:=hn x (by simp);omega
   ·exact h1.1 y hy
theorem aaH {l:List Ent}{f:Ent->Ent}(hf:∀x∈l,(f x).line=x.line)(h:l.Pairwise λa b=> a.line < b.line):(l.map f).Pairwise λa b=> a.line < b.line:=by
 rw [zb5];exact h.imp_of_mem λha hb hab=> by rw [hf _ ha,hf _ hb];exact hab
theorem tV.mapped {c r:Cache}(S:tV c r){f:Ent->Ent}(hf:∀x∈c.l,(f x).line=x.line)(k:Int):tV { c with l:=c.l.map f,clock:=k } { r with l:=r.l.map f,clock:=k }:=
 ⟨S.sets,S.ways,rfl,aaH (λx hx=> hf x (S.perm.mem_iff.2 hx)) S.sorted,S.perm.map f⟩
theorem kT {c:Cache}(hl:Lines c.l){e x:Ent}(h0:0<=e.line)(h:c.find e.line=some x):c.put e=({ c with l:=c.l.map λy=> if y.line=e.line then { e with used:=x.used } else y },0):=by
 obtain⟨i,h1,h2⟩:=qo h;have hx:x.line=e.line:=by
  obtain⟨y,k1,_,k3⟩:=yZ h1;rw [h2] at k1;cases k1;exact k3
 unfold Cache.put;rw [if_neg (by omega),h1];simp only;rw [zax,h2,zay,DY hl h2,hx]
theorem Ul {c:Cache}(hl:Lines c.l){e x:Ent}(h0:0<=e.line)(h:c.find e.line=some x):c.Rf e=({ c with l:=c.l.map λy=> if y.line=e.line then { e with used:=x.used } else y },0):=by
 obtain⟨i,h1,h2⟩:=qo h;have hx:x.line=e.line:=by
  obtain⟨y,k1,_,k3⟩:=yZ h1;rw [h2] at k1;cases k1;exact k3
 unfold Cache.Rf;rw [if_neg (by omega),h1];simp only;rw [zax,h2,zay,DY hl h2,hx]
theorem tV.put {c r:Cache}(S:tV c r)(e:Ent):tV (c.put e).1 (r.Rf e).1/\(r.Rf e).2=(c.put e).2:=by
 by_cases h0:e.line < 0
 ·unfold Cache.put Cache.Rf;rw [if_pos h0,if_pos h0];exact⟨S,rfl⟩
 cases hf:c.find e.line with
 | some x=>
  rw [kT S.lines (by omega) hf,Ul S.LG (by omega) (by rw [S.find,hf])];refine⟨?_,rfl⟩;have:=S.mapped (f:=λy=> if y.line=e.line then { e with used:=x.used } else y) (λy _=> by
   try simp only
   split
   ·rename_i h;exact h.symm
   ·rfl) c.clock
  rw [<-S.clock] at this;have e2:({ c with l:=c.l.map λy=> if y.line=e.line then { e with used:=x.used } else y }:Cache)={ c with l:=c.l.map λy=> if y.line=e.line then { e with used:=x.used } else y,clock:=r.clock }:=by rw [S.clock]
  rw [e2];exact this
 | none=>
  have h1:=yY.2 hf;have h2:r.at_ e.line=none:=yY.2 (by rw [S.find,hf]);unfold Cache.put Cache.Rf;rw [if_neg h0,if_neg h0,h1,h2];have hc:(r.ways<=((r.mD e.line).length:Int))=(c.full e.line=true):=by
   simp only [Cache.full,hf,Option.isNone_none,zaO,S.count,S.ways,decide_eq_true_eq]
  simp only [hc];split
  ·exact⟨S,rfl⟩
  ·refine⟨⟨S.sets,S.ways,by simp only [S.clock],?_,?_⟩,rfl⟩
   ·simp only [S.clock];refine vP _ _ S.sorted λx hx=> ?_;have:=qm.1 (show(c.l.find? λx=> decide (x.line=e.line))=none from hf);exact this x (S.perm.mem_iff.2 hx)
   ·simp only [S.clock];refine(List.perm_append_comm.trans ?_).trans (tY _ _).symm;exact S.perm.cons _
theorem drop_eq {c:Cache}(hl:Lines c.l)(line:Int):c.drop line={ c with l:=c.l.filter λx=> decide (x.line≠line) }:=by
 unfold Cache.drop;cases ha:c.at_ line with
 | none=>
  have:=qm.1 (show(c.l.find? λx=> decide (x.line=line))=none from yY.1 ha);simp only;rw [List.filter_eq_self.2 λx hx=> by simpa using this x hx]
 | some i=>
  obtain⟨e,h1,_,h3⟩:=yZ ha;simp only;rw [erase_filter hl h1,h3]
theorem tV.drop {c r:Cache}(S:tV c r)(line:Int):tV (c.drop line) (r.drop line):=by
 rw [drop_eq S.lines,drop_eq S.LG];exact⟨S.sets,S.ways,S.clock,S.sorted.filter _,S.perm.filter _⟩
theorem xK {c:Cache}(hl:Lines c.l){line:Int}{e:Ent}(h:c.find line=some e):c.touch line={ c with l:=c.l.map λx=> if x.line=line then { e with used:=c.clock+1 } else x,clock:=c.clock+1 }:=by
 obtain⟨i,h1,h2⟩:=qo h;obtain⟨y,k1,_,k3⟩:=yZ h1;rw [h2] at k1;cases k1;unfold Cache.touch;rw [h1];simp only;rw [zax,h2,zay,DY hl h2,k3]
theorem tV.touch {c r:Cache}(S:tV c r){line:Int}{e:Ent}(h:c.find line=some e):tV (c.touch line) (r.touch line):=by
 have he:e.line=line:=by
  obtain⟨i,h1,h2⟩:=qo h;obtain⟨y,k1,_,k3⟩:=yZ h1;rw [h2] at k1;cases k1;exact k3
 rw [xK S.lines h,xK S.LG (by rw [S.find,h]),S.clock];exact S.mapped (λx _=> by
  try simp only
  split
  ·rename_i hx;rw [hx];exact he
  ·rfl) _
theorem DZ:∀(l:List Ent) (m:Ent),(l.foldl (λm x=> if x.used < m.used then x else m) m)∈m::l/\∀x∈m::l,(l.foldl (λm x=> if x.used < m.used then x else m) m).used<=x.used
 | [],m=> by simp
 | x::l,m=> by
  rw [zbL];obtain⟨h1,h2⟩:=DZ l (if x.used < m.used then x else m);refine⟨?_,λy hy=> ?_⟩
  ·rcases zam.1 h1 with h | h
   ·rw [h];split <;> simp
   ·simp [h]
  ·have hle:(if x.used < m.used then x else m).used<=x.used/\(if x.used < m.used then x else m).used<=m.used:=by
    split
    ·omega
    ·omega
   have h3:=h2 _ (List.mem_cons_self ..);rcases zam.1 hy with hy | hy
   ·rw [hy];exact Int.le_trans h3 hle.2
   ·rcases zam.1 hy with hy | hy
    ·rw [hy];exact Int.le_trans h3 hle.1
    ·exact h2 y (by simp [hy])
theorem tZ {l:List Ent}{e:Ent}(h:lD l=some e):e∈l/\∀x∈l,e.used<=x.used:=by
 cases l with
 | nil=> cases h
 | cons m l=>
  simp only [lD,zaa] at h;subst h;exact DZ l m
def D7(l:List Ent):Prop:=l.Pairwise λa b=> a.used≠b.used
theorem D7.inj:∀{l:List Ent},D7 l->∀{a b:Ent},a∈l->b∈l->a.used=b.used->a=b
 | [],_,a,_,ha,_,_=> by cases ha
 | x::l,h,a,b,ha,hb,e=> by
  have h1:=za8.1 h;rcases zam.1 ha with ha' | ha'
  ·rcases zam.1 hb with hb' | hb'
   ·rw [ha',hb']
   ·rw [ha'] at e;exact absurd e (h1.1 b hb')
  ·rcases zam.1 hb with hb' | hb'
   ·rw [hb'] at e;exact absurd e.symm (h1.1 a ha')
   ·exact D7.inj h1.2 ha' hb' e
theorem LH {l l':List Ent}(p:l.Perm l')(h:D7 l):lD l'=lD l:=by
 cases hl:lD l with
 | none=>
  cases l with
  | nil=> rw [List.nil_perm.1 p];rfl
  | cons m l=> cases hl
 | some e=>
  obtain⟨h1,h2⟩:=tZ hl;cases hl':lD l' with
  | none=>
   cases l' with
   | nil=> rw [List.perm_nil.1 p] at h1;cases h1
   | cons m l=> cases hl'
  | some e'=>
   obtain⟨h3,h4⟩:=tZ hl';have h5:=h2 e' (p.mem_iff.2 h3);have h6:=h4 e (p.mem_iff.1 h1);rw [h.inj h1 (p.mem_iff.2 h3) (by omega)]
theorem tV.lW {c r:Cache}(S:tV c r)(h:D7 c.l)(line:Int):r.IG line=(c.lW line).getD (-1):=by
 unfold Cache.IG Cache.lW;have:lD (r.mD line)=lD (c.mD line):=by
  unfold Cache.mD;rw [S.sets];exact LH (S.perm.filter _) (h.filter _)
 rw [this]
theorem rJ(x:Int):∀l,(nT x l).Perm (x::l)
 | []=> List.Perm.refl _
 | y::l=> by
  simp only [nT];split
  ·exact((rJ x l).cons y).trans (List.Perm.swap x y l)
  ·exact List.Perm.refl _
theorem F5(x:Int)(l:List Int):(nT x l).length=l.length+1:=by
 have:=(rJ x l).length_eq
 simpa using this
theorem xM(x:Int):∀l,l.Pairwise (· ≥ ·)->(nT x l).Pairwise (· ≥ ·)
 | [],_=> by simp [nT]
 | y::l,h=> by
  simp only [nT];rw [za8] at h;split
  ·rename_i hxy;refine za8.2 ⟨λz hz=> ?_,xM x l h.2⟩;rcases zam.1 ((rJ x l).mem_iff.1 hz) with rfl | hz
   ·omega
   ·exact h.1 z hz
  ·rename_i hxy;refine za8.2 ⟨λz hz=> ?_,za8.2 h⟩;rcases zam.1 hz with rfl | hz
   ·omega
   ·have:=h.1 z hz;omega
theorem oO:∀(l rp:List Int),rp.Pairwise (· ≥ ·)->(srt rp l).Perm (rp++l)/\(srt rp l).Pairwise (· <= ·)
 | [],rp,h=> by
  simp only [srt,zbh];exact⟨List.reverse_perm rp,List.pairwise_reverse.2 (h.imp λh=> h)⟩
 | x::l,rp,h=> by
  have:=oO l (nT x rp) (xM x rp h);simp only [srt];refine⟨this.1.trans ?_,this.2⟩;refine((rJ x rp).append_right l).trans ?_;rw [zbP];exact(List.perm_middle (a:=x) (l₁:=rp) (l₂:=l)).symm
theorem aiw {l l':List Int}(hp:l.Perm l')(hs:l'.Pairwise (· <= ·)):srt [] l=l':=by
 obtain⟨h1,h2⟩:=oO l [] List.Pairwise.nil;exact(h1.trans hp).eq_of_pairwise (λa b _ _ h1 h2=> Int.le_antisymm h1 h2) h2 hs
theorem jS {α:Type}:∀(l:List (Int × α)) (n m:Int) (x:α),je (mM l n x) m=if n=m then some x else je l m
 | [],n,m,x=> by simp [mM,je]
 | (k,v)::l,n,m,x=> by
  simp only [mM];by_cases h:k=n
  ·subst h;simp only [if_true,je];by_cases h2:k=m <;> simp [h2]
  ·simp only [h,if_false,je];rw [jS l n m x];by_cases h2:k=m
   ·subst h2;simp only [if_true];rw [if_neg (λe=> h e.symm)]
   ·simp [h2]
theorem F6 {α:Type}:∀(l:List (Int × α)) (n:Int),(xG l n).map (·.1)=(l.map (·.1)).erase n
 | [],n=> rfl
 | (k,v)::l,n=> by
  simp only [xG,zaC,List.erase_cons];by_cases h:k=n
  ·simp [h]
  ·simp [h,F6 l n]
theorem LJ {α:Type}:∀(l:List (Int × α)) (n:Int) (x:α),(mM l n x).map (·.1)=if n∈l.map (·.1) then l.map (·.1) else l.map (·.1)++[n]
 | [],n,x=> by simp [mM]
 | (k,v)::l,n,x=> by
  simp only [mM,zaC,zam];by_cases h:k=n
  ·simp [h]
  ·have h':¬n=k:=λe=> h e.symm;simp only [h,if_false,zaC,h',false_or,LJ l n x];split <;> simp
theorem uT {α:Type}{l:List (Int × α)}(h:(l.map (·.1)).Nodup)(n:Int)(x:α):((mM l n x).map (·.1)).Nodup:=by
 rw [LJ];split
 ·exact h
 ·rename_i hn;rw [List.nodup_append];refine⟨h,by simp,λa ha b hb=> ?_⟩;simp only [zaS] at hb;subst hb;intro e;subst e;exact hn ha
theorem F9 {α:Type}:∀{l:List (Int × α)},(l.map (·.1)).Nodup->∀(n m:Int),je (xG l n) m=if n=m then none else je l m
 | [],_,n,m=> by simp [xG,je]
 | (k,v)::l,h,n,m=> by
  rw [zaC,List.nodup_cons] at h;simp only [xG];by_cases hk:k=n
  ·subst hk;simp only [if_true,je];by_cases h2:k=m
   ·subst h2;simp only [if_true];exact Gf.2 h.1
   ·simp [h2]
  ·simp only [hk,if_false,je];rw [F9 h.2 n m];by_cases h2:k=m
   ·subst h2;simp only [if_true];rw [if_neg λe=> hk e.symm]
   ·simp [h2]
where
 Gf {α:Type}:∀{es:List (Int × α)} {n:Int},je es n=none↔n∉es.map (·.1)
 | [],n=> by simp [je]
 | (k,v)::l,n=> by
  simp only [je,zaC,zam,not_or];by_cases h:k=n
  ·simp [h]
  ·simp only [h,if_false];rw [Gf (es:=l)];exact⟨λh'=> ⟨λe=> h e.symm,h'⟩,λh'=> h'.2⟩
theorem oP {α:Type}:∀{l:List (Int × α)} {n:Int} {x:α},je l n=some x->(n,x)∈l
 | [],n,x,h=> by cases h
 | (k,v)::l,n,x,h=> by
  simp only [je] at h;split at h
  ·rename_i e;cases h;subst e;simp
  ·simp [oP h]
theorem oQ {α:Type}:∀{l:List (Int × α)} {n:Int} {x:α} {e:Int × α},e∈mM l n x->e=(n,x)∨e∈l
 | [],n,x,e,h=> by simp [mM] at h;exact .inl h
 | (k,v)::l,n,x,e,h=> by
  simp only [mM] at h;split at h
  ·rcases zam.1 h with h | h
   ·exact .inl h
   ·exact .inr (by simp [h])
  ·rcases zam.1 h with h | h
   ·exact .inr (by simp [h])
   ·rcases oQ h with h | h
    ·exact .inl h
    ·exact .inr (by simp [h])
theorem LK {α:Type}:∀{l:List (Int × α)} {n:Int} {e:Int × α},e∈xG l n->e∈l
 | [],n,e,h=> by cases h
 | (k,v)::l,n,e,h=> by
  simp only [xG] at h;split at h
  ·simp [h]
  ·rcases zam.1 h with h | h
   ·simp [h]
   ·simp [LK h]
structure ZM(t:Turns):Prop where
 ok:(t.iq.map (·.1)).Nodup
 oge:∀e∈t.iq,0<=e.2
 wk:(t.wait.map (·.1)).Nodup
 wge:∀e∈t.wait,∀w∈e.2,0<=w.1
structure Pm(t:Turns)(r:fG):Prop where
 owner:∀line,t.owner line=r.gU line
 waits:∀line,t.ws line=r.waits line
 rok:(r.owner.map (·.1)).Nodup
 rge:∀o∈r.owner,0<=o.2
theorem ZM.owned {t:Turns}(h:ZM t)(line:Int):t.owned line=true↔t.owner line≠-1:=by
 unfold Turns.owned Turns.owner;cases ha:je t.iq line with
 | none=> simp
 | some v=>
  have:=h.oge _ (oP ha);simp only [zaM,zay,true_iff];simp only at this;omega
theorem vS {l:List (Int × Int)}{line who m:Int}(hn:∀o∈l,o.1≠line):(((l++[(line,who)]).find? λo=> decide (o.1=m)).map (·.2)).getD (-1)=if m=line then who else((l.find? λo=> decide (o.1=m)).map (·.2)).getD (-1):=by
 rw [List.find?_append];by_cases h:m=line
 ·subst h;have:(l.find? λo=> decide (o.1=m))=none:=by
   rw [zbR];intro o ho;simpa using hn o ho
  rw [this];simp
 ·rw [if_neg h];cases hf:l.find? λo=> decide (o.1=m) with
  | some o=> simp
  | none=>
   have h':¬line=m:=λe=> h e.symm;simp [h']
theorem Pm.free {t:Turns}{r:fG}(S:Pm t r){line:Int}(h:r.gU line=-1):∀o∈r.owner,o.1≠line:=by
 intro o ho e;unfold fG.gU at h;cases hf:r.owner.find? λo=> decide (o.1=line) with
 | none=>
  have:=zbR.1 hf o ho;simp [e] at this
 | some o'=>
  rw [hf] at h;have:=S.rge o' (za4 hf);simp only [zah,zay] at h;omega
theorem Gg {l:List (Int × Int)}(h:(l.map (·.1)).Nodup){line who:Int}(hn:∀o∈l,o.1≠line):((l++[(line,who)]).map (·.1)).Nodup:=by
 rw [zbk,List.nodup_append];refine⟨h,by simp,λa ha b hb=> ?_⟩;obtain⟨o,ho,rfl⟩:=zaN.1 ha;simp only [zaC,zbY,zaS] at hb;subst hb;exact hn o ho
theorem Pm.ask {t:Turns}{r:fG}(S:Pm t r)(h:ZM t)(line who id:Int):Pm (t.ask line who id).1 (r.ask line who id).1/\(r.ask line who id).2=(t.ask line who id).2/\ZM (t.ask line who id).1:=by
 unfold Turns.ask fG.ask;by_cases h0:who < 0
 ·rw [if_pos h0,if_pos h0];exact⟨S,rfl,h⟩
 rw [if_neg h0,if_neg h0];have ho:=h.owned line;by_cases hc:(t.owned line || !(t.ws line).isEmpty)=true
 ·have hr:¬(r.gU line=-1/\r.waits line=[]):=by
   rintro⟨h1,h2⟩;simp only [zbl,zbi] at hc;rcases hc with hc | hc
   ·exact ho.1 hc (by rw [S.owner,h1])
   ·rw [S.waits,h2] at hc;cases hc
  rw [if_pos hc,if_neg hr];refine⟨⟨S.owner,λm=> ?_,S.rok,S.rge⟩,rfl,⟨h.ok,h.oge,uT h.wk _ _,λe he w hw=> ?_⟩⟩
  ·show(je (mM t.wait line (t.ws line++[(who,id)])) m).getD []=((r.wait++[(line,who,id)]).filter λw=> decide (w.1=m)).map (·.2);have hm:=S.waits m;unfold Turns.ws fG.waits at hm;rw [jS,zcg,zbk,<-hm];by_cases hl:line=m
   ·subst hl;simp [Turns.ws]
   ·simp [hl]
  ·rcases oQ he with rfl | he
   ·rcases za2.1 hw with hw | hw
    ·unfold Turns.ws at hw;cases ha:je t.wait line with
     | none=> rw [ha] at hw;cases hw
     | some ws=> rw [ha] at hw;exact h.wge _ (oP ha) w hw
    ·simp only [zaS] at hw;subst hw;simp only;omega
   ·exact h.wge e he w hw
 ·have hc':t.owned line=false/\t.ws line=[]:=by
   simp only [zbl,zbi,not_or,Bool.not_eq_true,Bool.not_eq_false,List.isEmpty_iff] at hc;exact hc
  have hr:r.gU line=-1/\r.waits line=[]:=by
   refine⟨?_,by rw [<-S.waits];exact hc'.2⟩;rw [<-S.owner];rcases Classical.em (t.owner line=-1) with e | e
   ·exact e
   ·rw [ho.2 e] at hc';cases hc'.1
  rw [if_neg hc,if_pos hr];refine⟨⟨λm=> ?_,S.waits,Gg S.rok (S.free hr.1),λo ho=> ?_⟩,rfl,⟨uT h.ok _ _,λe he=> ?_,h.wk,h.wge⟩⟩
  ·show(je (mM t.iq line who) m).getD (-1)=(((r.owner++[(line,who)]).find? λo=> decide (o.1=m)).map (·.2)).getD (-1);rw [vS (S.free hr.1),jS];by_cases hl:line=m
   ·subst hl;simp
   ·rw [if_neg hl,if_neg λe=> hl e.symm];exact S.owner m
  ·rcases za2.1 ho with ho | ho
   ·exact S.rge o ho
   ·simp only [zaS] at ho;subst ho;simp only;omega
  ·rcases oQ he with rfl | he
   ·simp only;omega
   ·exact h.oge e he
theorem xO:∀{l:List (Int × Int)},(l.map (·.1)).Nodup->∀{line who:Int},(line,who)∈l->∀m,(((eraseKey (λo=> decide (o.1=line) && decide (o.2=who)) l).find? λo=> decide (o.1=m)).map (·.2)).getD (-1)=if m=line then -1 else((l.find? λo=> decide (o.1=m)).map (·.2)).getD (-1)
 | [],_,line,who,h,m=> by cases h
 | (k,v)::l,hn,line,who,h,m=> by
  rw [zaC,List.nodup_cons] at hn;simp only [eraseKey];by_cases hk:k=line
  ·subst hk;have hv:v=who:=by
    rcases zam.1 h with e | e
    ·cases e;rfl
    ·exact absurd (zaN.2 ⟨_,e,rfl⟩) hn.1
   subst hv;simp only [decide_true,zb8,if_true,List.find?_cons];by_cases hm:m=k
   ·subst hm;have:(l.find? λo=> decide (o.1=m))=none:=by
     rw [zbR];intro o ho;simp only [decide_eq_true_eq];intro e;exact hn.1 (zaN.2 ⟨o,ho,e⟩)
    rw [this];simp
   ·have:¬k=m:=λe=> hm e.symm;simp [hm,this]
  ·have h':(line,who)∈l:=by
    rcases zam.1 h with e | e
    ·cases e;exact absurd rfl hk
    ·exact e
   simp only [hk,decide_false,zaQ,zai,if_false,List.find?_cons];by_cases hm:k=m
   ·subst hm;simp [hk]
   ·simp only [hm,decide_false];exact xO hn.2 h' m
theorem uf {α:Type}(p:α->Bool):∀l:List α,(eraseKey p l).Sublist l
 | []=> .slnil
 | x::l=> by
  simp only [eraseKey];split
  ·exact List.sublist_cons_self x l
  ·exact(uf p l).cons_cons x
theorem Pm.release {t:Turns}{r:fG}(S:Pm t r)(h:ZM t){line who:Int}(hw:t.owner line=who)(h0:0<=who):Pm (t.release line who).1 (r.release line who).1/\(t.release line who).2=0/\ZM (t.release line who).1:=by
 have ha:je t.iq line=some who:=by
  unfold Turns.owner at hw;cases e:je t.iq line with
  | none=> rw [e] at hw;simp at hw;omega
  | some v=> rw [e] at hw;simp at hw;rw [hw]
 have hm:(line,who)∈r.owner:=by
  have:=S.owner line;rw [hw] at this;unfold fG.gU at this;cases e:r.owner.find? λo=> decide (o.1=line) with
  | none=> rw [e] at this;simp at this;omega
  | some o=>
   rw [e] at this;have h1:=za4 e;have h2:o.1=line:=by simpa using List.find?_some e
   simp at this;have:o=(line,who):=by rw [Prod.ext_iff];exact⟨h2,this.symm⟩
   rw [<-this];exact h1
 have hany:(r.owner.any λo=> decide (o.1=line) && decide (o.2=who))=true:=List.any_eq_true.2 ⟨_,hm,by simp⟩;unfold Turns.release fG.release;rw [if_pos ha,if_pos hany];refine⟨⟨λm=> ?_,S.waits,(S.rok.sublist ((uf _ _).map _)),λo ho=> S.rge o ((uf _ _).subset ho)⟩,rfl,⟨?_,λe he=> h.oge e (LK he),h.wk,h.wge⟩⟩
 ·show(je (xG t.iq line) m).getD (-1)=_;rw [F9 h.ok];show _=(((eraseKey (λo=> decide (o.1=line) && decide (o.2=who)) r.owner).find? λo=> decide (o.1=m)).map (·.2)).getD (-1);rw [xO S.rok hm];by_cases hl:line=m
  ·subst hl;simp
  ·rw [if_neg hl,if_neg λe=> hl e.symm];exact S.owner m
 ·show((xG t.iq line).map (·.1)).Nodup;rw [F6];exact h.ok.erase _
theorem wK:∀(l:List (Int × Int × Int)) (line m:Int),((eraseKey (λw=> decide (w.1=line)) l).filter λw=> decide (w.1=m))=if m=line then(l.filter λw=> decide (w.1=m)).tail else l.filter λw=> decide (w.1=m)
 | [],line,m=> by simp [eraseKey]
 | w::l,line,m=> by
  simp only [eraseKey];by_cases hw:w.1=line
  ·simp only [hw,decide_true,if_true,zbQ];by_cases hm:m=line
   ·subst hm;simp
   ·have:¬line=m:=λe=> hm e.symm;simp [hm,this]
  ·simp only [hw,decide_false,zai,if_false,zbQ];by_cases hm:w.1=m
   ·have hml:¬m=line:=λe=> hw (by rw [hm,e]);simp only [hm,decide_true,if_true,hml,if_false];rw [wK l line m,if_neg hml]
   ·simp only [hm,decide_false,zai,if_false];exact wK l line m
theorem Pm.next {t:Turns}{r:fG}(S:Pm t r)(h:ZM t)(line:Int):Pm (t.next line).1 (r.next line).1/\(r.next line).2=(t.next line).2/\ZM (t.next line).1:=by
 unfold Turns.next fG.next
 by_cases ho:t.owned line=true
 ·rw [if_pos ho,if_pos (by rw [<-S.owner];exact(h.owned line).1 ho)];exact⟨S,rfl,h⟩
 ·have hr:r.gU line=-1:=by
   rw [<-S.owner];rcases Classical.em (t.owner line=-1) with e | e
   ·exact e
   ·exact absurd ((h.owned line).2 e) ho
  rw [if_neg ho,if_neg (by rw [hr];simp)];have hw:=S.waits line;unfold fG.waits at hw;cases hf:r.wait.find? λw=> decide (w.1=line) with
  | none=>
   have:(r.wait.filter λw=> decide (w.1=line))=[]:=by
    rw [List.filter_eq_nil_iff];exact λw hw=> zbR.1 hf w hw
   rw [this] at hw;rw [hw];exact⟨S,rfl,h⟩
  | some w=>
   have hfil:(r.wait.filter λw=> decide (w.1=line))=w::(r.wait.filter λw=> decide (w.1=line)).tail:=by
    have h1:(r.wait.filter λw=> decide (w.1=line)).head?=some w:=by rw [List.head?_filter];exact hf
    cases hl:r.wait.filter λw=> decide (w.1=line) with
    | nil=> rw [hl] at h1;cases h1
    | cons a b=> rw [hl] at h1;cases h1;rfl
   rw [hfil,zaC] at hw;rw [hw];have hwl:w.1=line:=by simpa using List.find?_some hf
   have hmem:∃ws,je t.wait line=some ws/\ws=w.2::(r.wait.filter λw=> decide (w.1=line)).tail.map (·.2):=by
    unfold Turns.ws at hw;cases e:je t.wait line with
    | none=> rw [e] at hw;cases hw
    | some ws=> rw [e] at hw;exact⟨ws,rfl,hw⟩
   obtain⟨ws,hws,hws2⟩:=hmem;have hge:∀x∈ws,0<=x.1:=h.wge _ (oP hws);have hw0:0<=w.2.1:=hge w.2 (by rw [hws2];simp);refine⟨⟨λm=> ?_,λm=> ?_,Gg S.rok (S.free hr),λo ho=> ?_⟩,rfl,⟨uT h.ok _ _,λe he=> ?_,uT h.wk _ _,λe he x hx=> ?_⟩⟩
   ·show(je (mM t.iq line w.2.1) m).getD (-1)=(((r.owner++[(line,w.2.1)]).find? λo=> decide (o.1=m)).map (·.2)).getD (-1);rw [vS (S.free hr),jS];by_cases hl:line=m
    ·subst hl;simp
    ·rw [if_neg hl,if_neg λe=> hl e.symm];exact S.owner m
   ·show(je (mM t.wait line _) m).getD []=((eraseKey (λw=> decide (w.1=line)) r.wait).filter λw=> decide (w.1=m)).map (·.2);rw [jS,wK];by_cases hl:line=m
    ·subst hl;simp
    ·rw [if_neg hl,if_neg λe=> hl e.symm];exact S.waits m
   ·rcases za2.1 ho with ho | ho
    ·exact S.rge o ho
    ·simp only [zaS] at ho;subst ho;exact hw0
   ·rcases oQ he with rfl | he
    ·exact hw0
    ·exact h.oge e he
   ·rcases oQ he with rfl | he
    ·exact hge x (by rw [hws2];exact zbT _ hx)
    ·exact h.wge e he x hx
theorem ug {x y:Int}:∀{l:List Int},y∈jX x l↔y=x∨y∈l
 | []=> by simp [jX]
 | z::l=> by
  simp only [jX];split
  ·rw [zam,ug (l:=l),zam];constructor
   ·rintro(h | h | h) <;> simp [h]
   ·rintro(h | h | h) <;> simp [h]
  ·split
   ·rename_i h;subst h;simp
   ·simp
theorem uh {x:Int}:∀{l:List Int},l.Pairwise (· < ·)->(jX x l).Pairwise (· < ·)
 | [],_=> by simp [jX]
 | z::l,h=> by
  have h1:=za8.1 h;simp only [jX];split
  ·rename_i hlt;refine za8.2 ⟨λy hy=> ?_,uh h1.2⟩;rcases ug.1 hy with rfl | hy
   ·exact hlt
   ·exact h1.1 y hy
  ·split
   ·exact h
   ·refine za8.2 ⟨λy hy=> ?_,h⟩;rcases zam.1 hy with rfl | hy
    ·omega
    ·have:=h1.1 y hy;omega
theorem y7(t:fG):∀(l:List (Int × Int × Int)) (out:List Int),out.Pairwise (· < ·)->
  (l.foldl (λout w=> if t.gU w.1≠-1 then out else jX w.1 out) out).Pairwise (· < ·)/\
  ∀x,x∈l.foldl (λout w=> if t.gU w.1≠-1 then out else jX w.1 out) out↔x∈out∨(t.gU x=-1/\∃w∈l,w.1=x)
 | [],out,h=> ⟨h,λx=> by simp⟩
 | w::l,out,h=> by
  rw [zbL];by_cases hw:t.gU w.1≠-1
  ·rw [if_pos hw];obtain⟨h1,h2⟩:=y7 t l out h;refine⟨h1,λx=> ?_⟩;rw [h2 x];constructor
   ·rintro(h | ⟨h,w',h',e⟩)
    ·exact .inl h
    ·exact .inr ⟨h,w',by simp [h'],e⟩
   ·rintro(h | ⟨h,w',h',e⟩)
    ·exact .inl h
    ·rcases zam.1 h' with e' | h'
     ·rw [<-e,e'] at h;exact absurd h hw
     ·exact .inr ⟨h,w',h',e⟩
  ·rw [if_neg hw];obtain⟨h1,h2⟩:=y7 t l (jX w.1 out) (uh h);refine⟨h1,λx=> ?_⟩;rw [h2 x,ug];have hw:t.gU w.1=-1:=by
    rcases Classical.em (t.gU w.1=-1) with e | e
    ·exact e
    ·exact absurd e hw
   constructor
   ·rintro((h | h) | ⟨h,w',h',e⟩)
    ·exact .inr ⟨by rw [h];exact hw,w,by simp,h.symm⟩
    ·exact .inl h
    ·exact .inr ⟨h,w',by simp [h'],e⟩
   ·rintro(h | ⟨h,w',h',e⟩)
    ·exact .inl (.inr h)
    ·rcases zam.1 h' with e' | h'
     ·exact .inl (.inl (by rw [<-e,e']))
     ·exact .inr ⟨h,w',h',e⟩
theorem Um {l l':List Int}(h:l.Pairwise (· < ·))(h':l'.Pairwise (· < ·))(hm:∀x,x∈l↔x∈l'):l=l':=by
 have n1:l.Nodup:=h.imp λh=> by omega
 have n2:l'.Nodup:=h'.imp λh=> by omega
 exact((List.perm_ext_iff_of_nodup n1 n2).2 hm).eq_of_pairwise (λa b _ _ h1 h2=> by omega) h h'
theorem aix {l:List Int}(h:l.Nodup):(srt [] l).Pairwise (· < ·)/\∀x,x∈srt [] l↔x∈l:=by
 obtain⟨h1,h2⟩:=oO l [] List.Pairwise.nil;rw [zaX] at h1;have n:(srt [] l).Nodup:=h1.nodup_iff.2 h;exact⟨h2.imp₂ (λa b h1 h2=> by omega) n,λx=> h1.mem_iff⟩
theorem Pm.ready {t:Turns}{r:fG}(S:Pm t r)(h:ZM t):r.ready=t.ready (srt [] (t.wait.map (·.1))):=by
 obtain⟨r1,r2⟩:=y7 r r.wait [] List.Pairwise.nil;obtain⟨k1,k2⟩:=aix h.wk;refine Um r1 (k1.filter _) λx=> ?_;show x∈r.wait.foldl (λout w=> if r.gU w.1≠-1 then out else jX w.1 out) []↔x∈(srt [] (t.wait.map (·.1))).filter λline=> !t.owned line && !(t.ws line).isEmpty;rw [r2 x,zbq,k2];have ho:t.owned x=false↔r.gU x=-1:=by
  rw [<-S.owner];have:=h.owned x;cases hx:t.owned x
  ·simp only [hx,zai,false_iff,ne_eq,Decidable.not_not] at this;simp [this]
  ·simp only [hx,true_iff] at this;simp [this]
 have hw:(t.ws x).isEmpty=false↔∃w∈r.wait,w.1=x:=by
  rw [S.waits];unfold fG.waits;constructor
  ·intro hh;cases hf:r.wait.filter λw=> decide (w.1=x) with
   | nil=> rw [hf] at hh;cases hh
   | cons a l=>
    have:a∈r.wait.filter λw=> decide (w.1=x):=by rw [hf];simp
    rw [zbq] at this;exact⟨a,this.1,by simpa using this.2⟩
  ·rintro⟨w,h1,h2⟩;have:w∈r.wait.filter λw=> decide (w.1=x):=zbq.2 ⟨h1,by simp [h2]⟩;cases hf:r.wait.filter λw=> decide (w.1=x) with
   | nil=> rw [hf] at this;cases this
   | cons a l=> rfl
 simp only [zaI,false_or,zaj,zbi];constructor
 ·rintro⟨h1,h2⟩;refine⟨?_,ho.2 h1,hw.2 h2⟩;have:=hw.2 h2;unfold Turns.ws at this;cases ha:je t.wait x with
  | none=> rw [ha] at this;cases this
  | some v=> exact zaN.2 ⟨_,oP ha,rfl⟩
 ·rintro⟨_,h1,h2⟩;exact⟨ho.1 h1,hw.1 h2⟩
structure EP(c:Cfg)(me:Int)(h:Home)(r:eF):Prop where
 rows:∀line,lG c me line=true->∃row,je h.rows line=some row/\r.rows[line.toNat]?=some row
 none:∀line,lG c me line=false->je h.rows line=none
 turns:Pm h.turns r.turns
structure ahc(c:Cfg)(me:Int)(h:Home):Prop where
 turns:ZM h.turns
 here:∀e∈h.turns.wait,lG c me e.1=true
theorem EP.row {c:Cfg}{me:Int}{h:Home}{r:eF}(S:EP c me h r){line:Int}(hl:lG c me line=true):r.row line=rowOf h.rows line:=by
 obtain⟨row,h1,h2⟩:=S.rows line hl;unfold eF.row rowOf;rw [h1,zax,h2];first | done | rfl
theorem EP.granted {c:Cfg}{me:Int}{h:Home}{r:eF}(S:EP c me h r){line:Int}(hl:lG c me line=true)(who id:Int):r.granted me line who id=Proofs.YthmoogcacpmjiaaGreat.granted h.rows me line who id:=by
 unfold eF.granted Proofs.YthmoogcacpmjiaaGreat.granted;rw [S.row hl]
theorem EP.D8 {c:Cfg}{me:Int}{h:Home}{r:eF}(S:EP c me h r){t:Turns}{rt:fG}(T:Pm t rt):EP c me { h with turns:=t } { r with turns:=rt }:=⟨S.rows,S.none,T⟩
theorem aaI {t:Turns}{line who id:Int}{e:Int × List (Int × Int)}(h:e∈(t.ask line who id).1.wait):e.1=line∨e∈t.wait:=by
 unfold Turns.ask at h;split at h
 ·exact .inr h
 ·split at h
  ·rcases oQ h with rfl | h
   ·exact .inl rfl
   ·exact .inr h
  ·exact .inr h
theorem LM {t:Turns}{line who:Int}:(t.release line who).1.wait=t.wait:=by
 unfold Turns.release;split <;> rfl
theorem WM {t:Turns}{line:Int}{e:Int × List (Int × Int)}(h:e∈(t.next line).1.wait):e∈t.wait∨(e.1=line/\t.ws line≠[]):=by
 unfold Turns.next at h
 split at h
 ·exact .inl h
 ·split at h
  ·exact .inl h
  ·rename_i w ws hw;rcases oQ h with rfl | h
   ·exact .inr ⟨rfl,by rw [hw];simp⟩
   ·exact .inl h
theorem D9 {c:Cfg}(hc:c.ok=true){me line:Int}(h0:0<=line):(c.ig line≠me∨c.lines<=line)↔lG c me line=false:=by
 have he:c.ig line=line % c.nodes:=by unfold Cfg.ig Ae;rw [if_neg (by omega)]
 unfold lG;rw [he];constructor
 ·rintro(h | h)
  ·simp [h]
  ·have:¬line < c.lines:=by omega
   simp [this]
 ·intro h;simp only [Bool.and_eq_false_iff,decide_eq_false_iff_not] at h;rcases h with(h | h) | h
  ·omega
  ·right;omega
  ·exact .inl h
theorem EP.set {c:Cfg}{me:Int}{h:Home}{r:eF}(S:EP c me h r)(line state head:Int)(data:List Int):
  (r.mD c me line state head data).2=(setRow c h.rows line state head data).2/\EP c me { h with rows:=(setRow c h.rows line state head data).1 } (r.mD c me line state head data).1/\(r.mD c me line state head data).1.turns=r.turns:=by
 unfold eF.mD setRow;by_cases hh:lG c me line=true
 ·obtain⟨row,h1,h2⟩:=S.rows line hh;rw [if_neg (by rw [hh];simp),h1];simp only;by_cases hA:state < 0∨2 < state∨head < -1∨c.nodes<=head
  ·rw [if_pos (by rcases hA with h | h | h | h <;> simp [h]),if_pos hA];exact⟨rfl,S,rfl⟩
  ·rw [if_neg hA];have hB:(state < 0∨2 < state∨head < -1∨c.nodes<=head∨¬(state=0↔head=-1)∨(data≠[]/\(data.length:Int)≠c.words))↔((decide (head=-1) !=decide (state=0)) || (decide (data≠[]) && decide ((data.length:Int)≠c.words)))=true:=by
    simp only [not_or] at hA;simp only [hA.1,hA.2.1,hA.2.2.1,hA.2.2.2,false_or,zbl,zaj,decide_eq_true_eq,bne_iff_ne,ne_eq,decide_eq_decide];constructor
    ·rintro(h | h)
     ·exact .inl λe=> h e.symm
     ·exact .inr h
    ·rintro(h | h)
     ·exact .inl λe=> h e.symm
     ·exact .inr h
   by_cases hC:((decide (head=-1) !=decide (state=0)) || (decide (data≠[]) && decide ((data.length:Int)≠c.words)))=true
   ·rw [if_pos (hB.2 hC),if_pos hC];exact⟨rfl,S,rfl⟩
   ·rw [if_neg λe=> hC (hB.1 e),if_neg hC];refine⟨rfl,⟨λm hm=> ?_,λm hm=> ?_,S.turns⟩,rfl⟩
    ·obtain⟨row',k1,k2⟩:=S.rows m hm;have h0:0<=line:=by simp only [lG,zaj,decide_eq_true_eq] at hh;exact hh.1.1
     have hm0:0<=m:=by simp only [lG,zaj,decide_eq_true_eq] at hm;exact hm.1.1
     simp only;rw [jS];by_cases hl:line=m
     ·subst hl;rw [if_pos rfl];refine⟨_,rfl,?_⟩;have hlt:=(zaf.1 h2).1;rw [zbj hlt];have:r.row line=row:=by unfold eF.row;rw [zax,h2];rfl
      rw [this]
     ·rw [if_neg hl,zbx (by omega)];exact⟨row',k1,k2⟩
    ·simp only;rw [jS,if_neg λe=> by subst e;rw [hh] at hm;cases hm];exact S.none m hm
 ·have hh:lG c me line=false:=by simpa using hh
  rw [if_pos hh,S.none line hh];exact⟨rfl,S,rfl⟩
theorem EP.handle {c:Cfg}(hc:c.ok=true){me:Int}{h:Home}{r:eF}(S:EP c me h r)(I:ahc c me h)(p:Pkt):
  EP c me (h.handle c me p).1 (r.handle c me p).1/\(r.handle c me p).2=(h.handle c me p).2/\ahc c me (h.handle c me p).1:=by
 unfold Home.handle eF.handle;by_cases h1:p.ok=false∨p.dst≠me∨c.nodes<=p.src∨(p.kind≠1/\p.kind≠2)
 ·rw [if_pos h1,if_pos (by
   rcases h1 with h | h | h | h
   ·simp [h]
   ·simp [h]
   ·have:¬p.src < c.nodes:=by omega
    simp [this]
   ·simp [h])]
  exact⟨S,rfl,I⟩
 rw [if_neg h1,if_neg (by
  simp only [not_or] at h1;obtain⟨a1,a2,a3,a4⟩:=h1;have a5:p.src < c.nodes:=by omega
  have a1:p.ok=true:=by simpa using a1
  simp only [ne_eq,Decidable.not_not] at a2;simp only [a1,a2,a5,decide_true,zb8,zae,zbH,zaj,decide_eq_true_eq];exact a4)]
 simp only [not_or] at h1;have hok:p.ok=true:=by simpa using h1.1
 have hl0:0<=p.line:=by
  simp only [Pkt.ok,zaj,decide_eq_true_eq] at hok;omega
 have hs0:0<=p.src:=by
  simp only [Pkt.ok,zaj,decide_eq_true_eq] at hok;omega
 by_cases hh:lG c me p.line=false
 ·rw [if_pos hh,if_pos ((D9 hc hl0).2 hh)];exact⟨S,rfl,I⟩
 rw [if_neg hh,if_neg λe=> hh ((D9 hc hl0).1 e)];have hh:lG c me p.line=true:=by simpa using hh
 by_cases hk:p.kind=1
 ·rw [if_pos hk,if_pos hk];obtain⟨t1,t2,t3⟩:=S.turns.ask I.turns p.line p.src p.id;have Un:∀e∈(h.turns.ask p.line p.src p.id).1.wait,lG c me e.1=true:=λe he=> by
   rcases aaI he with h | h
   ·rw [h];exact hh
   ·exact I.here e h
  simp only [t2];split
  ·exact⟨S.D8 t1,by simp only;rw [S.granted hh],⟨t3,Un⟩⟩
  ·exact⟨S.D8 t1,rfl,⟨t3,Un⟩⟩
 rw [if_neg hk,if_neg hk];unfold Home.unlock;generalize (if p.flag=true then p.data else [])=dat;by_cases ho:h.turns.owner p.line≠p.src
 ·simp only [if_pos ho,if_pos (show r.turns.gU p.line≠p.src by rw [<-S.turns.owner];exact ho)];exact⟨S,rfl,I⟩
 ·simp only [if_neg ho,if_neg (show¬r.turns.gU p.line≠p.src by rw [<-S.turns.owner];exact ho)];have ho:h.turns.owner p.line=p.src:=by simpa using ho
  obtain⟨s1,s2,s3⟩:=S.set p.line p.state p.ptr dat;obtain⟨r1,r2,r3⟩:=S.turns.release I.turns ho hs0;have rw_:(h.turns.release p.line p.src).1.wait=h.turns.wait:=LM;rw [s1];by_cases he:(setRow c h.rows p.line p.state p.ptr dat).2=0
  ·simp only [if_pos he,r2,if_true];refine⟨⟨s2.rows,s2.none,?_⟩,by first | trivial | rfl,⟨r3,by rw [rw_];exact I.here⟩⟩;simp only;rw [s3];exact r1
  ·simp only [if_neg he];exact⟨S,by first | trivial | rfl,I⟩
theorem EP.ready {c:Cfg}{me:Int}{h:Home}{r:eF}(S:EP c me h r)(I:ahc c me h):r.turns.ready=h.ready:=S.turns.ready I.turns
theorem Ea {h:Home}{line:Int}{l:List Int}(hr:h.ready=line::l):h.turns.owned line=false/\h.turns.ws line≠[]/\line∈h.turns.wait.map (·.1):=by
 have:line∈h.ready:=by rw [hr];simp
 unfold Home.ready Turns.ready at this;rw [zbq] at this;obtain⟨h1,h2⟩:=this;simp only [zaj,zbi] at h2;refine⟨h2.1,λe=> by rw [e] at h2;exact absurd h2.2 (by simp),?_⟩;have:=(oO (h.turns.wait.map (·.1)) [] List.Pairwise.nil).1;rw [zaX] at this;exact this.mem_iff.1 h1
theorem EP.grant {c:Cfg}{me:Int}{h:Home}{r:eF}(S:EP c me h r)(I:ahc c me h):
  EP c me (h.grant me).1 (r.grant me).1/\(r.grant me).2.1=(h.grant me).2.1/\ahc c me (h.grant me).1:=by
 unfold Home.grant eF.grant;rw [S.ready I];cases hr:h.ready with
 | nil=> exact⟨S,rfl,I⟩
 | cons line l=>
  obtain⟨m1,m2,m3⟩:=Ea hr;obtain⟨t1,t2,t3⟩:=S.turns.next I.turns line
  have hh:lG c me line=true:=by
   obtain⟨e,he,rfl⟩:=zaN.1 m3;exact I.here e he
  have Un:∀e∈(h.turns.next line).1.wait,lG c me e.1=true:=λe he=> by
   rcases WM he with h | h
   ·exact I.here e h
   ·rw [h.1];exact hh
  obtain⟨w,hw⟩:∃w,(h.turns.next line).2=some w:=by
   unfold Turns.next
   rw [if_neg (by rw [m1];simp)];cases hws:h.turns.ws line with
   | nil=> exact absurd hws m2
   | cons w ws=> exact⟨w,rfl⟩
  simp only;cases ha:h.turns.next line with
  | mk t o=>
   cases hb:r.turns.next line with
   | mk rt ro=>
    rw [ha,hb] at t1 t2;rw [ha] at t3 Un hw;simp only at t1 t2 t3 Un hw;subst t2;subst hw;simp only [zay];exact⟨S.D8 t1,S.granted hh _ _,⟨t3,Un⟩⟩
def vT(d:bF)(node:Int)(c:Cache)(p:Pkt):Nxt:=
 if d.kind=1 then bV d node c p else if d.kind=2 then bW d node c p else if d.kind=3 then dn d c p else oD c
theorem Bl {c r:Cache}(S:tV c r)(d:bF)(node:Int):tV (bD d node c).1 (WI d node r).1/\(WI d node r).2=((bD d node c).2,true):=by
 unfold bD WI;rw [S.find];have key:∀d':bF,d'.line=d.line->tV (if d'.next≠-1 then(c,{ d' with step:=3 }) else((c.put ⟨-1,-1,d'.line,0,true,d'.data⟩).1,{ d' with step:=6,state:=2,head:=node,data:=[] })).1 (if d'.next≠-1 then(r,{ d' with step:=3 },true) else((r.Rf ⟨-1,-1,d'.line,0,true,d'.data⟩).1,{ d' with step:=6,state:=2,head:=node,data:=[] },true):Nxt).1/\
   (if d'.next≠-1 then(r,{ d' with step:=3 },true) else((r.Rf ⟨-1,-1,d'.line,0,true,d'.data⟩).1,{ d' with step:=6,state:=2,head:=node,data:=[] },true):Nxt).2=((if d'.next≠-1 then(c,{ d' with step:=3 }) else((c.put ⟨-1,-1,d'.line,0,true,d'.data⟩).1,{ d' with step:=6,state:=2,head:=node,data:=[] })).2,true):=by
  intro d' _;by_cases h:d'.next≠-1
  ·rw [if_pos h,if_pos h];exact⟨S,rfl⟩
  ·rw [if_neg h,if_neg h];exact⟨(S.put _).1,rfl⟩
 cases c.find d.line with
 | none=> exact key d rfl
 | some own=>
  by_cases h:d.next=node
  ·simp only [if_pos h];exact key { d with next:=own.fwd } rfl
  ·simp only [if_neg h];exact key d rfl
theorem aaJ {c r:Cache}(S:tV c r)(d:bF)(node:Int)(p:Pkt):tV (vT d node c p).1 (WL d node r p).1/\(WL d node r p).2=(vT d node c p).2:=by
 unfold vT WL;by_cases hf:d.fits p=false
 ·have h1:bV d node c p=oD c:=by unfold bV;rw [if_pos (.inr hf)]
  have h2:bW d node c p=oD c:=by unfold bW;rw [if_pos (.inr hf)]
  have h3:dn d c p=oD c:=by unfold dn;rw [if_pos (.inr hf)]
  rw [if_pos (show d.fits p=false∨d.kind < 1∨3 < d.kind from .inl hf),h1,h2,h3];have:(if d.kind=1 then oD c else if d.kind=2 then oD c else if d.kind=3 then oD c else oD c)=oD c:=by
   split
   ·rfl
   ·split
    ·rfl
    ·split <;> rfl
  rw [this];exact⟨S,rfl⟩
 by_cases h1:d.kind=1
 ·rw [if_pos h1,if_neg (show¬(d.fits p=false∨d.kind < 1∨3 < d.kind) by rintro(h | h | h) <;> first | exact hf h | omega)];unfold bV;rw [if_neg (show¬(d.kind≠1∨d.fits p=false) by rintro(h | h) <;> first | exact hf h | omega)];by_cases s6:d.step=6
  ·simp only [s6,if_true];exact⟨S,by first | trivial | rfl⟩
  by_cases s1:d.step=1
  ·rw [if_neg s6];simp only [s1,if_true,h1];unfold afn;by_cases h0:p.state=0
   ·simp only [h0,and_self,if_true,ne_eq,not_true,if_false];exact⟨(S.put _).1,by first | trivial | rfl⟩
   ·simp only [h0,and_false,if_false,if_true,ne_eq,not_false_eq_true];exact⟨S,by first | trivial | rfl⟩
  rw [if_neg s6];simp only [s1,if_false,h1,if_true];unfold afn;by_cases s2:d.step=2
  ·simp only [s2,h1,if_true,Int.reduceEq,false_and,if_false];exact⟨(S.put _).1,by first | trivial | rfl⟩
  ·simp only [s1,s2,s6,false_and,if_false];exact⟨S,by first | trivial | rfl⟩
 by_cases h2:d.kind=2
 ·rw [if_neg h1,if_pos h2,if_neg (show¬(d.fits p=false∨d.kind < 1∨3 < d.kind) by rintro(h | h | h) <;> first | exact hf h | omega)];unfold bW;rw [if_neg (show¬(d.kind≠2∨d.fits p=false) by rintro(h | h) <;> first | exact hf h | omega)];by_cases s6:d.step=6
  ·simp only [s6,if_true];exact⟨S,by first | trivial | rfl⟩
  by_cases s1:d.step=1
  ·rw [if_neg s6];simp only [s1,if_true,h2];unfold WJ;simp only [if_true,S.find];cases c.find d.line with
   | none=>
    have w:=Bl S { d with state:=p.state,head:=p.ptr,told:=p.ptr,data:=p.data,next:=p.ptr } node;simp only [s1,h2] at w ⊢;exact⟨w.1,w.2⟩
   | some own=>
    have w:=Bl S { d with state:=p.state,head:=p.ptr,told:=p.ptr,data:=own.data,next:=p.ptr } node;simp only [s1,h2] at w ⊢;exact⟨w.1,w.2⟩
  rw [if_neg s6];simp only [s1,if_false,h2,if_true];unfold WJ;by_cases s3:d.step=3
  ·simp only [s3,if_false,if_true,S.find,Int.reduceEq];cases c.find d.line with
   | none=>
    have w:=Bl S { d with data:=p.data,next:=p.ptr } node;simp only [s3,h2] at w ⊢;exact⟨w.1,w.2⟩
   | some own=>
    have w:=Bl S { d with next:=p.ptr } node;simp only [s3,h2] at w ⊢;exact⟨w.1,w.2⟩
  ·simp only [s1,s3,s6,if_false];exact⟨S,by first | trivial | rfl⟩
 by_cases h3:d.kind=3
 ·rw [if_neg h1,if_neg h2,if_pos h3,if_neg (show¬(d.fits p=false∨d.kind < 1∨3 < d.kind) by rintro(h | h | h) <;> first | exact hf h | omega)];unfold dn;rw [if_neg (show¬(d.kind≠3∨d.fits p=false) by rintro(h | h) <;> first | exact hf h | omega)];by_cases s6:d.step=6
  ·simp only [s6,if_true];exact⟨S,by first | trivial | rfl⟩
  by_cases s1:d.step=1
  ·rw [if_neg s6];simp only [s1,if_true,h1,h2,if_false];unfold afo;simp only [if_true,S.find];cases c.find d.line with
   | none=> exact⟨S,by first | trivial | rfl⟩
   | some e=>
    simp only;by_cases b1:e.back=-1/\e.fwd=-1
    ·simp only [if_pos b1];exact⟨S.drop _,by first | trivial | rfl⟩
    ·simp only [if_neg b1];by_cases b2:e.back=-1
     ·simp only [if_pos b2];exact⟨S,by first | trivial | rfl⟩
     ·simp only [if_neg b2];exact⟨S,by first | trivial | rfl⟩
  rw [if_neg s6];simp only [s1,if_false,h1,h2];unfold afo;by_cases s4:d.step=4
  ·simp only [s4,if_true,Int.reduceEq,if_false];by_cases n:d.next=-1
   ·simp only [n,ne_eq,not_true,if_true,if_false];exact⟨S.drop _,by first | trivial | rfl⟩
   ·simp only [n,ne_eq,not_false_eq_true,if_true,if_false];exact⟨S,by first | trivial | rfl⟩
  by_cases s5:d.step=5
  ·simp only [s5,if_true,if_false,Int.reduceEq];by_cases n:d.head=-1
   ·simp only [n,if_true];exact⟨S.drop _,by first | trivial | rfl⟩
   ·simp only [n,if_false];exact⟨S.drop _,by first | trivial | rfl⟩
  ·simp only [s1,s4,s5,s6,if_false];exact⟨S,by first | trivial | rfl⟩
 ·rw [if_neg h1,if_neg h2,if_neg h3,if_pos (show d.fits p=false∨d.kind < 1∨3 < d.kind by right;omega)];exact⟨S,rfl⟩
theorem WO {c r:Cache}(S:tV c r)(p:Pkt):tV (dV c p).1 (DW r p).1/\(DW r p).2=(dV c p).2:=by
 unfold dV DW;by_cases h:p.ok=false∨p.kind < 3∨6 < p.kind
 ·rw [if_pos h,if_pos (by rcases h with h | h | h <;> simp [h])];exact⟨S,rfl⟩
 rw [if_neg h,if_neg (by
  simp only [not_or] at h;have h1:p.ok=true:=by simpa using h.1
  simp only [h1,h.2.1,h.2.2,zae,decide_false,Bool.or_self,zai,not_false_eq_true]),S.find]
 simp only [not_or] at h;have hok:p.ok=true:=by simpa using h.1
 have hl0:0<=p.line:=by
  simp only [Pkt.ok,zaj,decide_eq_true_eq] at hok;omega
 cases hf:c.find p.line with
 | none=> exact⟨S,rfl⟩
 | some e=>
  have he:e.line=p.line:=((gG S.lines).1 hf).2;have code:∀e':Ent,e'.line=e.line->(c.put e').2=0:=λe' h'=> by
   have hf':c.find e'.line=some e:=by rw [h',he];exact hf
   rw [kT S.lines (by rw [h',he];exact hl0) hf']
  simp only;by_cases k3:p.kind=3
  ·simp only [k3,if_true];exact⟨(S.put _).1,by rw [code];rfl⟩
  by_cases k4:p.kind=4
  ·simp only [k4,if_true];rw [if_neg (by omega),if_neg (by omega)];exact⟨(S.put _).1,by rw [code];rfl⟩
  by_cases k5:p.kind=5
  ·simp only [k5,if_true];rw [if_neg (by omega),if_neg (by omega),if_neg (by omega),if_neg (by omega)];exact⟨(S.put _).1,by rw [code];rfl⟩
  ·simp only [k3,k4,k5,if_false];exact⟨S.drop _,by first | trivial | rfl⟩
def I64(z:Int):Prop:=-9223372036854775808<=z/\z<=9223372036854775807
theorem aiy(z:Int):I64 (w64 z):=by
 show -9223372036854775808<=IntKind.wrap .i64 z/\IntKind.wrap .i64 z<=9223372036854775807;simp only [IntKind.wrap,IntKind.bits,IntKind.signed];simp;split <;> constructor <;> omega
def lY(c:Cfg)(d:List Int):Prop:=(d.length:Int)=c.words/\∀v∈d,I64 v
structure vI(c:Cfg)(p:Pkt):Prop where
 ok:p.ok=true
 dat:p.kind=7∨p.kind=9->lY c p.data
 num:∀v∈p.data,I64 v
structure Gh(c:Cfg)(p:Port):Prop where
 rq:(p.rq.length:Int)<=c.out
 an:(p.an.length:Int)<=c.out
 rin:(p.rin.length:Int)<=c.inn
 ain:(p.ain.length:Int)<=1
 pkt:∀q,q∈p.rq∨q∈p.an∨q∈p.rin∨q∈p.ain->vI c q
structure sQ(c:Cfg)(f:Fab):Prop where
 out:f.out=c.out
 inn:f.inn=c.inn
 len:(f.l.length:Int)=c.nodes
 port:∀p∈f.l,Gh c p
theorem Gl {c:Cfg}(h:c.ok=true):(1<=c.nodes/\c.nodes<=6)/\(1<=c.lines/\c.lines<=8)/\(1<=c.words/\c.words<=4)/\(1<=c.sets/\c.sets<=4)/\(1<=c.ways/\c.ways<=3)/\(1<=c.out/\c.out<=8)/\(1<=c.inn/\c.inn<=8):=by
 unfold Cfg.ok at h;simp only [zaj,decide_eq_true_eq] at h;omega
theorem sQ.get {c:Cfg}{f:Fab}(F:sQ c f){i:Int}(h:f.is i=true):Gh c (f.port i):=by
 unfold Fab.is at h;simp only [zaj,decide_eq_true_eq] at h;have hi:i.toNat < f.l.length:=by omega
 unfold Fab.port;rw [zax,zab hi,zay];exact F.port _ (List.getElem_mem hi)
theorem sQ.put {c:Cfg}{f:Fab}(F:sQ c f)(i:Int){p:Port}(h:Gh c p):sQ c (f.put i p):=by
 refine⟨F.out,F.inn,by simp only [Fab.put,zbN];exact F.len,λq hq=> ?_⟩;simp only [Fab.put] at hq;rcases zbM hq with hq | hq
 ·exact F.port q hq
 ·rw [hq];exact h
theorem sQ.send {c:Cfg}{f:Fab}(F:sQ c f){p:Pkt}(hp:p.ok=true->vI c p):sQ c (f.send p).1:=by
 unfold Fab.send;split
 ·exact F
 ·rename_i h;simp only [zbl,zbi,not_or,Bool.not_eq_false] at h;obtain⟨⟨h1,h2⟩,h3⟩:=h;have P:=F.get h2;have Q:=hp h1;split
  ·exact F
  ·rename_i hr;refine F.put _ ?_;rw [F.out] at hr;cases hk:DR p.kind with
   | true=>
    rw [hk] at hr;simp only [Port.sort,if_true] at hr;refine⟨?_,P.an,P.rin,P.ain,λq hq=> ?_⟩
    ·simp only [Port.lX,Port.sort,if_true,zaq,zak,zat];omega
    ·simp only [Port.lX,Port.sort,if_true,za2,zaS] at hq;rcases hq with(hq | hq) | hq
     ·exact P.pkt q (.inl hq)
     ·rw [hq];exact Q
     ·exact P.pkt q (.inr hq)
   | false=>
    rw [hk] at hr;simp only [Port.sort,zai,if_false] at hr;refine⟨P.rq,?_,P.rin,P.ain,λq hq=> ?_⟩
    ·simp only [Port.lX,Port.sort,zai,if_false,zaq,zak,zat];omega
    ·simp only [Port.lX,Port.sort,zai,if_false,za2,zaS] at hq;rcases hq with hq | (hq | hq) | hq
     ·exact P.pkt q (.inl hq)
     ·exact P.pkt q (.inr (.inl hq))
     ·rw [hq];exact Q
     ·exact P.pkt q (.inr (.inr hq))
theorem sQ.take {c:Cfg}{f:Fab}(F:sQ c f)(i:Int)(req:Bool):sQ c (f.take i req).1/\∀p,(f.take i req).2=some p->vI c p:=by
 unfold Fab.take;split
 ·rename_i h;have P:=F.get h;cases hl:(f.port i).rH req with
  | nil=> exact⟨F,λp hp=> by cases hp⟩
  | cons p l=>
   simp only;cases req with
   | true=>
    simp only [Port.rH,if_true] at hl;have h1:=P.rin;rw [hl] at h1;simp only [zak] at h1;refine⟨F.put _ ⟨P.rq,P.an,?_,P.ain,λq hq=> ?_⟩,λp' hp=> ?_⟩
    ·simp only [Port.mO,if_true];omega
    ·simp only [Port.mO,if_true] at hq;rcases hq with hq | hq | hq | hq
     ·exact P.pkt q (.inl hq)
     ·exact P.pkt q (.inr (.inl hq))
     ·exact P.pkt q (.inr (.inr (.inl (by rw [hl];simp [hq]))))
     ·exact P.pkt q (.inr (.inr (.inr hq)))
    ·cases hp;exact P.pkt _ (.inr (.inr (.inl (by rw [hl];simp))))
   | false=>
    simp only [Port.rH,zai,if_false] at hl;have h1:=P.ain;rw [hl] at h1;simp only [zak] at h1;refine⟨F.put _ ⟨P.rq,P.an,P.rin,?_,λq hq=> ?_⟩,λp' hp=> ?_⟩
    ·simp only [Port.mO,zai,if_false];omega
    ·simp only [Port.mO,zai,if_false] at hq;rcases hq with hq | hq | hq | hq
     ·exact P.pkt q (.inl hq)
     ·exact P.pkt q (.inr (.inl hq))
     ·exact P.pkt q (.inr (.inr (.inl hq)))
     ·exact P.pkt q (.inr (.inr (.inr (by rw [hl];simp [hq]))))
    ·cases hp;exact P.pkt _ (.inr (.inr (.inr (by rw [hl];simp))))
 ·exact⟨F,λp hp=> by cases hp⟩
theorem sQ.room {c:Cfg}{f:Fab}(F:sQ c f)(i:Int)(req:Bool):0<=f.roomOf i req:=by
 unfold Fab.roomOf;split
 ·rename_i h;have P:=F.get h;have h1:=P.rq;have h2:=P.an;rw [F.out];cases req <;> simp only [Port.sort,if_true,zai,if_false] <;> omega
 ·exact zbK _
theorem xP {α:Type}{l:List α}{i:Nat}{a:α}(h:a∈l.eraseIdx i):a∈l:=(List.eraseIdx_sublist l i).subset h
theorem Gh.drop {c:Cfg}{p:Port}(P:Gh c p)(req:Bool)(k:Nat):Gh c (p.drop req k):=by
 have hl:∀(l:List Pkt),((l.eraseIdx k).length:Int)<=l.length:=λl=> by
  have:=(List.eraseIdx_sublist l k).length_le;omega
 cases req with
 | true=>
  refine⟨?_,P.an,P.rin,P.ain,λq hq=> ?_⟩
  ·have:=hl p.rq;have:=P.rq;simp only [Port.drop,Port.lX,Port.sort,if_true];omega
  ·simp only [Port.drop,Port.lX,Port.sort,if_true] at hq;rcases hq with hq | hq
   ·exact P.pkt q (.inl (xP hq))
   ·exact P.pkt q (.inr hq)
 | false=>
  refine⟨P.rq,?_,P.rin,P.ain,λq hq=> ?_⟩
  ·have:=hl p.an;have:=P.an;simp only [Port.drop,Port.lX,Port.sort,zai,if_false];omega
  ·simp only [Port.drop,Port.lX,Port.sort,zai,if_false] at hq;rcases hq with hq | hq | hq
   ·exact P.pkt q (.inl hq)
   ·exact P.pkt q (.inr (.inl (xP hq)))
   ·exact P.pkt q (.inr (.inr hq))
theorem LP:∀(l:List Port) (i k:Nat) {j:Nat} {req:Bool} {k':Nat},findAt l i k=some (j,req,k')->i<=j/\j < i+l.length
 | [],i,k,j,req,k',h=> by cases h
 | p::l,i,k,j,req,k',h=> by
  simp only [findAt] at h;split at h
  ·cases h;simp
  ·split at h
   ·cases h;simp
   ·have:=LP l (i+1) _ h;simp only [zak];omega
theorem sQ.remove {c:Cfg}{f:Fab}(F:sQ c f)(k:Nat):sQ c (f.remove k):=by
 unfold Fab.remove;split
 ·rename_i i req k' h;have hi:=LP _ _ _ h;refine F.put _ ((F.get ?_).drop _ _);unfold Fab.is;simp only [zaj,decide_eq_true_eq];omega
 ·exact F
theorem sQ.pkt {c:Cfg}{f:Fab}(F:sQ c f){p:Pkt}(h:p∈f.all):vI c p:=by
 unfold Fab.all at h;obtain⟨q,hq,hp⟩:=za5.1 h;rcases za2.1 hp with hp | hp
 ·exact(F.port q hq).pkt p (.inl hp)
 ·exact(F.port q hq).pkt p (.inr (.inl hp))
theorem sQ.deliver {c:Cfg}{f:Fab}(F:sQ c f)(at_ bit mask:Int):sQ c (f.deliver at_ bit mask).1:=by
 unfold Fab.deliver;split
 ·exact F
 split
 ·exact F
 ·rename_i p hp;have Q:=F.pkt (zau hp);split
  ·exact F
  split
  ·exact F
  ·rename_i hr;refine sQ.remove ?_ _;by_cases h:f.is p.dst=true
   ·have P:=F.get h;refine F.put _ ?_;cases hk:DR p.kind with
    | true=>
     rw [hk] at hr;simp only [Fab.room,Port.rH,if_true,F.inn] at hr;refine⟨P.rq,P.an,?_,P.ain,λq hq=> ?_⟩
     ·simp only [Port.mO,Port.rH,if_true,zaq,zak,zat];omega
     ·simp only [Port.mO,Port.rH,if_true,za2,zaS] at hq;rcases hq with hq | hq | (hq | hq) | hq
      ·exact P.pkt q (.inl hq)
      ·exact P.pkt q (.inr (.inl hq))
      ·exact P.pkt q (.inr (.inr (.inl hq)))
      ·rw [hq];exact Q
      ·exact P.pkt q (.inr (.inr (.inr hq)))
    | false=>
     rw [hk] at hr;simp only [Fab.room,Port.rH,zai,if_false] at hr;refine⟨P.rq,P.an,P.rin,?_,λq hq=> ?_⟩
     ·simp only [Port.mO,Port.rH,zai,if_false,zaq,zak,zat];omega
     ·simp only [Port.mO,Port.rH,zai,if_false,za2,zaS] at hq;rcases hq with hq | hq | hq | (hq | hq)
      ·exact P.pkt q (.inl hq)
      ·exact P.pkt q (.inr (.inl hq))
      ·exact P.pkt q (.inr (.inr (.inl hq)))
      ·exact P.pkt q (.inr (.inr (.inr hq)))
      ·rw [hq];exact Q
   ·-- no such node:nothing is put
    have hn:f.l.length<=p.dst.toNat:=by
     have hok:=Q.ok;simp only [Pkt.ok,zaj,decide_eq_true_eq] at hok;simp only [Fab.is,zaj,decide_eq_true_eq] at h;omega
    unfold Fab.put;rw [List.set_eq_of_length_le hn];exact⟨F.out,F.inn,F.len,F.port⟩
structure anj(c:Cfg)(k:Int)(e:Ent):Prop where
 lo:0<=e.line
 hi:e.line < c.lines
 used:e.used<=k
 u0:0<=e.used
 dat:lY c e.data
structure Bo(c:Cfg)(ca:Cache):Prop where
 sets:ca.sets=c.sets
 ways:ca.ways=c.ways
 lines:Lines ca.l
 WQ:D7 ca.l
 ent:∀e∈ca.l,anj c ca.clock e
 room:∀line,((ca.mD line).length:Int)<=ca.ways
 afp:0<=ca.clock
structure aiz(c:Cfg)(n:Node):Prop where
 begun:n.proc.begun=true
 op:∃o,n.proc.cur=some o/\c.dh o.addr=n.deal.line/\(n.deal.kind=1->o.kind=1)/\(n.deal.kind=2->o.kind=2∨o.kind=3)
 full:n.cache.full n.deal.line=false
structure adk(c:Cfg)(n:Node):Prop where
 lo:0<=n.deal.line
 hi:n.deal.line < c.lines
 kind:1<=n.deal.kind/\n.deal.kind<=3
 dat:n.deal.data=[]∨lY c n.deal.data
 afq:n.deal.kind=2->n.deal.step=3->lY c n.deal.data
 roll:n.deal.kind=3->n.proc.begun=true
 work:n.deal.kind≠3->n.deal.step≠6->aiz c n
 rest:n.deal.kind≠3->n.deal.step=6->n.proc.begun=false
structure apr(c:Cfg)(p:Proc):Prop where
 most:p.ops.length<=24
 right:∀o∈p.ops,c.right o=true/\I64 o.value
 vals:p.values.length<=p.ops.length
 begun:p.begun=true->p.values.length < p.ops.length
structure Rh(c:Cfg)(me:Int)(n:Node):Prop where
 proc:apr c n.proc
 cache:Bo c n.cache
 rows:∀e∈n.home.rows,lY c e.2.data
 home:ahc c me n.home
 deal:n.deal.step≠0->adk c n
 clk:n.cache.clock<=n.proc.values.length
theorem WR {l:List Ent}{f:Ent->Ent}(h:D7 l)(hf:∀x∈l,(f x).used=x.used):D7 (l.map f):=by
 unfold D7;rw [zb5];exact h.imp_of_mem λha hb hab=> by rw [hf _ ha,hf _ hb];exact hab
theorem xQ {l:List Ent}{f:Ent->Ent}(h:Lines l)(hf:∀x∈l,(f x).line=x.line):Lines (l.map f):=by
 unfold Lines;rw [zb5];exact h.imp_of_mem λha hb hab=> by rw [hf _ ha,hf _ hb];exact hab
theorem xR(ca:Cache)(line:Int){q:Ent->Bool}:(({ ca with l:=ca.l.filter q }:Cache).mD line).length<=(ca.mD line).length:=by
 unfold Cache.mD;rw [List.filter_filter];have:(ca.l.filter λe=> (decide (0<=line) && decide (e.line.tmod ca.sets=line.tmod ca.sets)) && q e)=((ca.l.filter λe=> decide (0<=line) && decide (e.line.tmod ca.sets=line.tmod ca.sets))).filter q:=by
  rw [List.filter_filter]
  apply List.filter_congr
  intro x _;rw [Bool.and_comm]
 rw [this];exact List.length_filter_le _ _
theorem Eb(ca:Cache)(line k:Int){f:Ent->Ent}(hf:∀x∈ca.l,(f x).line=x.line):(({ ca with l:=ca.l.map f,clock:=k }:Cache).mD line).length=(ca.mD line).length:=by
 unfold Cache.mD;rw [List.filter_map,zaE]
 congr 1
 apply List.filter_congr
 intro y hy;simp only [Function.comp,hf y hy]
theorem Bo.put {c:Cfg}{ca:Cache}(I:Bo c ca){e:Ent}(h0:0<=e.line)(h1:e.line < c.lines)(hd:lY c e.data):Bo c (ca.put e).1:=by
 cases hf:ca.find e.line with
 | some x=>
  obtain⟨hx,hxl⟩:=(gG I.lines).1 hf;rw [kT I.lines h0 hf];refine⟨I.sets,I.ways,xQ I.lines λy _=> ?_,WR I.WQ λy hy=> ?_,λy hy=> ?_,λline=> ?_,I.afp⟩
  ·split
   ·rename_i h;exact h.symm
   ·rfl
  ·split
   ·rename_i h;rw [I.lines.inj hy hx (by rw [h,hxl])]
   ·rfl
  ·obtain⟨z,hz,rfl⟩:=zaN.1 hy;split
   ·exact⟨h0,h1,(I.ent x hx).used,(I.ent x hx).u0,hd⟩
   ·exact I.ent z hz
  ·have:=Eb ca line ca.clock (f:=λy=> if y.line=e.line then { e with used:=x.used } else y) (λy _=> by
    split
    ·rename_i h;exact h.symm
    ·rfl)
   have h2:=I.room line;rw [<-this] at h2;exact h2
 | none=>
  unfold Cache.put;rw [if_neg (by omega),yY.2 hf];simp only;split
  ·exact I
  ·rename_i hfull;have hn:=qm.1 (show(ca.l.find? λx=> decide (x.line=e.line))=none from hf);refine⟨I.sets,I.ways,?_,?_,λy hy=> ?_,λline=> ?_,by have:=I.afp;simp only;omega⟩
   ·unfold Lines;rw [List.pairwise_append];exact⟨I.lines,by simp,λa ha b hb=> by rw [zaS.1 hb];exact hn a ha⟩
   ·unfold D7;rw [List.pairwise_append];refine⟨I.WQ,by simp,λa ha b hb=> ?_⟩;rw [zaS.1 hb];have:=(I.ent a ha).used;simp only;omega
   ·rcases za2.1 hy with hy | hy
    ·have:=I.ent y hy;exact⟨this.lo,this.hi,by have:=this.used;simp only;omega,this.u0,this.dat⟩
    ·rw [zaS.1 hy];exact⟨h0,h1,by simp only;omega,by have:=I.afp;simp only;omega,hd⟩
   ·simp only [Cache.full,hf,Option.isNone_none,zaO,decide_eq_true_eq] at hfull;have hr:=I.room line;unfold Cache.mD at hfull hr ⊢;simp only [zcg,zaq];by_cases hs:(decide (0<=line) && decide (e.line.tmod ca.sets=line.tmod ca.sets))=true
    ·simp only [zaj,decide_eq_true_eq] at hs;have:(ca.l.filter λx=> decide (0<=line) && decide (x.line.tmod ca.sets=line.tmod ca.sets))=ca.l.filter λx=> decide (0<=e.line) && decide (x.line.tmod ca.sets=e.line.tmod ca.sets):=by
      apply List.filter_congr
      intro x _;rw [hs.2];simp [hs.1,h0]
     rw [this];have h1:(([({ e with used:=ca.clock+1 }:Ent)].filter λx=> decide (0<=line) && decide (x.line.tmod ca.sets=line.tmod ca.sets)).length)<=1:=List.length_filter_le _ _;omega
    ·have:([({ e with used:=ca.clock+1 }:Ent)].filter λx=> decide (0<=line) && decide (x.line.tmod ca.sets=line.tmod ca.sets))=[]:=by
      simp only [zbQ,List.filter_nil];rw [if_neg hs]
     rw [this];simp only [zat,zbf];exact hr
theorem Bo.drop {c:Cfg}{ca:Cache}(I:Bo c ca)(line':Int):Bo c (ca.drop line'):=by
 rw [drop_eq I.lines];refine⟨I.sets,I.ways,I.lines.filter _,I.WQ.filter _,λe he=> I.ent e (zbq.1 he).1,λline=> ?_,I.afp⟩;have:=I.room line;have h2:(({ ca with l:=ca.l.filter λx=> decide (x.line≠line') }:Cache).mD line).length<=(ca.mD line).length:=xR _ _;simp only at h2 ⊢;omega
theorem Bo.touch {c:Cfg}{ca:Cache}(I:Bo c ca){line:Int}{e:Ent}(h:ca.find line=some e):Bo c (ca.touch line):=by
 obtain⟨he,hl⟩:=(gG I.lines).1 h;rw [xK I.lines h];refine⟨I.sets,I.ways,xQ I.lines λy _=> ?_,?_,λy hy=> ?_,λline'=> ?_,by have:=I.afp;simp only;omega⟩
 ·split
  ·rename_i h;rw [h];exact hl
  ·rfl
 ·unfold D7;rw [zb5];refine(I.lines.and I.WQ).imp_of_mem λ{a b} ha hb hab=> ?_;have ua:=(I.ent a ha).used;have ub:=(I.ent b hb).used;split <;> split
  ·rename_i h1 h2;exact absurd (by rw [h1,h2]) hab.1
  ·simp only;omega
  ·simp only;omega
  ·exact hab.2
 ·obtain⟨z,hz,rfl⟩:=zaN.1 hy;split
  ·have:=I.ent e he;exact⟨this.lo,this.hi,by simp only;omega,by have:=I.afp;simp only;omega,this.dat⟩
  ·have:=I.ent z hz;exact⟨this.lo,this.hi,by have:=this.used;simp only;omega,this.u0,this.dat⟩
 ·have:=Eb ca line' (ca.clock+1) (f:=λx=> if x.line=line then { e with used:=ca.clock+1 } else x) (λy _=> by
   split
   ·rename_i h;rw [h];exact hl
   ·rfl)
  have h2:=I.room line';rw [<-this] at h2;exact h2
theorem aaK {ca:Cache}(hl:Lines ca.l){e x:Ent}(h0:0<=e.line)(hf:ca.find e.line=some x)(line:Int):(ca.put e).1.full line=ca.full line:=by
 obtain⟨hx,hxl⟩:=(gG hl).1 hf;rw [kT hl h0 hf];have hm:∀y∈ca.l,(if y.line=e.line then { e with used:=x.used } else y).line=y.line:=λy _=> by
  split
  ·rename_i h;exact h.symm
  ·rfl
 have h1:({ ca with l:=ca.l.map λy=> if y.line=e.line then { e with used:=x.used } else y }:Cache).find line=none↔ca.find line=none:=by
  unfold Cache.find;rw [qm,qm];constructor
  ·intro h y hy;have:=h _ (zaN.2 ⟨y,hy,rfl⟩)
   rwa [hm y hy] at this
  ·intro h y hy;obtain⟨z,hz,rfl⟩:=zaN.1 hy;rw [hm z hz];exact h z hz
 have h2:(({ ca with l:=ca.l.map λy=> if y.line=e.line then { e with used:=x.used } else y }:Cache).mD line).length=(ca.mD line).length:=by
  unfold Cache.mD;rw [List.filter_map,zaE]
  congr 1
  apply List.filter_congr
  intro y hy;simp only [Function.comp,hm y hy]
 unfold Cache.full;rw [h2]
 congr 1
 cases ha:ca.find line with
 | none=> rw [h1.2 ha]
 | some u=>
  cases hb:({ ca with l:=ca.l.map λy=> if y.line=e.line then { e with used:=x.used } else y }:Cache).find line with
  | none=> rw [h1.1 hb] at ha;cases ha
  | some v=> rfl
theorem xU {α:Type}{p q:α->Bool}:∀{l:List α},(∀x∈l,q x=true->p x=true)->∀{a:α},a∈l->p a=true->q a=false->(l.filter q).length < (l.filter p).length
 | [],_,a,h,_,_=> by cases h
 | x::l,hs,a,h,hp,hq=> by
  have hle:∀{l:List α},(∀x∈l,q x=true->p x=true)->(l.filter q).length<=(l.filter p).length:=by
   intro l hs
   induction l with
   | nil=> simp
   | cons y l ih=>
    have:=ih λz hz=> hs z (by simp [hz]);simp only [zbQ];cases h1:q y
    ·simp only [zai,if_false];split
     ·simp only [zak];omega
     ·exact this
    ·rw [hs y (by simp) h1];simp only [if_true,zak];omega
  simp only [zbQ];rcases zam.1 h with e | h
  ·subst e;rw [hp,hq];simp only [if_true,zai,if_false,zak];have:=hle λz hz=> hs z (zbT _ hz);omega
  ·have ih:=xU (λz hz=> hs z (zbT _ hz)) h hp hq;cases h1:q x
   ·simp only [zai,if_false];split
    ·simp only [zak];omega
    ·exact ih
   ·rw [hs x (by simp) h1];simp only [if_true,zak];omega
theorem WS {c:Cfg}(hc:c.ok=true){ca:Cache}(I:Bo c ca){l' line:Int}(h:ca.full line=false):(ca.drop l').full line=false:=by
 rw [drop_eq I.lines];unfold Cache.full at h ⊢;have hle:(({ ca with l:=ca.l.filter λx=> decide (x.line≠l') }:Cache).mD line).length<=(ca.mD line).length:=xR _ _;cases hn:ca.find line with
 | none=>
  rw [hn] at h;simp only [Option.isNone_none,zaO,decide_eq_false_iff_not] at h;simp only [Bool.and_eq_false_iff,decide_eq_false_iff_not];right;omega
 | some e=>
  obtain⟨he,hl⟩:=(gG I.lines).1 hn;by_cases hll:line=l'
  ·subst hll;simp only [Bool.and_eq_false_iff,decide_eq_false_iff_not];right;have hr:=I.room line;have h0:=(I.ent e he).lo;have hlt:(({ ca with l:=ca.l.filter λx=> decide (x.line≠line) }:Cache).mD line).length < (ca.mD line).length:=by
    unfold Cache.mD;rw [List.filter_filter];refine xU (λx _ h=> ?_) he ?_ ?_
    ·simp only [zaj] at h ⊢;exact h.1
    ·rw [hl];simp;omega
    ·simp [hl]
   omega
  ·have:({ ca with l:=ca.l.filter λx=> decide (x.line≠l') }:Cache).find line=some e:=by
    unfold Cache.find;rw [gG (I.lines.filter _)];refine⟨zbq.2 ⟨he,?_⟩,hl⟩;simp only [decide_eq_true_eq];omega
   rw [this];rfl
abbrev By:=BitVec 8
abbrev S16:=BitVec 16
def shS(s:S16):S16:=(s <<< 1) ^^^ (if s.msb then 0x1021#16 else 0#16)
def shN:Nat->S16->S16
 | 0,s=> s
 | n+1,s=> shN n (shS s)
def Vf(s:S16)(c:By):S16:=shN 8 (s ^^^ (c.setWidth 16 <<< 8))
def rM(s:S16)(l:List By):S16:=l.foldl Vf s
def Vg(s:S16):By:=(s >>> 8).setWidth 8
def Vh(s:S16):By:=s.setWidth 8
def iV(l:List By):List By:=l++[Vg (rM 0xffff#16 l),Vh (rM 0xffff#16 l)]
theorem aaL:shS 0#16=0#16:=by decide
theorem WT(s t:S16):shS (s ^^^ t)=shS s ^^^ shS t:=by
 unfold shS;rw [BitVec.msb_xor,BitVec.shiftLeft_xor_distrib];cases s.msb <;> cases t.msb <;> simp
 ·rw [zbr]
 ·rw [zbr,zbr,BitVec.xor_comm (t <<< 1)]
 ·rw [zbr,<-zbr 4129#16,BitVec.xor_comm 4129#16,zbr,BitVec.xor_self,BitVec.xor_zero]
theorem aaM {s:S16}(h:shS s=0#16):s=0#16:=by
 unfold shS at h;cases hm:s.msb with
 | true=>
  rw [hm] at h;have:=congrArg (λv:S16=> v.getLsbD 0) h;simp at this
 | false=>
  rw [hm] at h;simp only [zai,if_false,BitVec.xor_zero] at h
  apply zb9
  intro i hi;by_cases h15:i=15
  ·subst h15;have:s.getLsbD 15=s.msb:=by simp [BitVec.msb_eq_getLsbD_last]
   rw [this,hm];simp
  ·have:=congrArg (λv:S16=> v.getLsbD (i+1)) h;simp only [zb3,BitVec.getLsbD_zero] at this;have h1:i+1 < 16:=by omega
   simp [h1] at this
   simpa using this
theorem IK:∀n,shN n 0#16=0#16
 | 0=> rfl
 | n+1=> by rw [shN,aaL,IK n]
theorem WU:∀n (s t:S16),shN n (s ^^^ t)=shN n s ^^^ shN n t
 | 0,_,_=> rfl
 | n+1,s,t=> by rw [shN,WT,WU n];rfl
theorem IL:∀n {s:S16},shN n s=0#16->s=0#16
 | 0,_,h=> h
 | n+1,s,h=> aaM (IL n h)
def ahd(b:Bool):S16:=if b then 0x8000#16 else 0#16
def Ai(s:S16)(b:Bool):S16:=shS (s ^^^ ahd b)
def Pn:List Bool->S16
 | []=> 0#16
 | b::l=> ahd b ^^^ (Pn l >>> 1)
theorem afr:∀i:Fin 16,(0x8000#16).getLsbD i.val=decide (i.val=15):=by decide
theorem aaN(b:Bool){i:Nat}(h:i < 16):(ahd b).getLsbD i=(b && decide (i=15)):=by
 unfold ahd;cases b
 ·simp
 ·simp only [if_true,zaO];exact afr ⟨i,h⟩
theorem xW:∀(l:List Bool) (i:Nat),l.length<=16->i < 16->(Pn l).getLsbD i=(l[15 - i]?).getD false
 | [],i,_,_=> by simp [Pn]
 | b::l,i,h,hi=> by
  simp only [zak] at h;rw [Pn,BitVec.getLsbD_xor,BitVec.getLsbD_ushiftRight,aaN b hi];by_cases h15:i=15
  ·subst h15;have:(Pn l).getLsbD (1+15)=false:=BitVec.getLsbD_of_ge _ _ (by omega);rw [this];simp
  ·rw [xW l (1+i) (by omega) (by omega)];have e:15 - i=(15 - (1+i))+1:=by omega
   rw [e,zbG];simp [h15]
theorem uU:∀(l:List Bool) (s:S16),l.length<=16->l.foldl Ai s=shN l.length (s ^^^ Pn l)
 | [],s,_=> by simp [Pn,shN]
 | b::l,s,h=> by
  simp only [zak] at h;rw [zbL,uU l _ (by omega)];show shN l.length (Ai s b ^^^ Pn l)=shN l.length (shS (s ^^^ Pn (b::l)))
  congr 1
  rw [Pn,<-zbr,WT];unfold Ai
  congr 1
  unfold shS;have hm:(Pn l >>> 1).msb=false:=by simp [BitVec.msb_ushiftRight]
  rw [hm];simp only [zai,if_false,BitVec.xor_zero];have h0:(Pn l).getLsbD 0=false:=by
   rw [xW l 0 (by omega) (by omega),zaG (by omega)];rfl
  apply zb9
  intro i hi;rw [zb3,BitVec.getLsbD_ushiftRight];cases i with
  | zero=> rw [h0];simp
  | succ i=>
   have e:1+(i+1 - 1)=i+1:=by omega
   have e2:¬(i+1 < 1):=by omega
   rw [e];simp [hi,e2]
theorem WV {l:List Bool}(h:l.length<=16)(h0:Pn l=0#16):∀b∈l,b=false:=by
 intro b hb;obtain⟨k,hk,rfl⟩:=List.mem_iff_getElem.1 hb;have:=xW l (15 - k) h (by omega);rw [h0,show 15 - (15 - k)=k by omega,zab hk] at this
 simpa using this.symm
def uj(c:By):List Bool:=[c.getLsbD 7,c.getLsbD 6,c.getLsbD 5,c.getLsbD 4,c.getLsbD 3,c.getLsbD 2,c.getLsbD 1,c.getLsbD 0]
def vJ(l:List By):List Bool:=l.flatMap uj
theorem WW(c:By):Pn (uj c)=c.setWidth 16 <<< 8:=by
 apply zb9
 intro i hi;rw [xW _ _ (by simp [uj]) hi,zb3,BitVec.getLsbD_setWidth];rcases(show i=0∨i=1∨i=2∨i=3∨i=4∨i=5∨i=6∨i=7∨i=8∨i=9∨i=10∨i=11∨i=12∨i=13∨i=14∨i=15 by omega) with h | h | h | h | h | h | h | h | h | h | h | h | h | h | h | h <;> subst h <;> simp [uj]
theorem WX(s:S16)(c:By):Vf s c=(uj c).foldl Ai s:=by
 rw [uU _ _ (by simp [uj]),WW];rfl
theorem y8:∀(l:List By) (s:S16),rM s l=(vJ l).foldl Ai s
 | [],s=> rfl
 | c::l,s=> by
  show rM (Vf s c) l=_;rw [y8 l,WX];show _=(uj c++vJ l).foldl Ai s;rw [List.foldl_append]
theorem oU(l:List By):(vJ l).length=8*l.length:=by
 unfold vJ
 induction l with
 | nil=> rfl
 | cons c l ih=> rw [zaH,zaq,ih];simp [uj];omega
theorem LQ(l:List By):rM 0xffff#16 (iV l)=0#16:=by
 unfold iV;obtain⟨s,hs⟩:∃s,s=rM 0xffff#16 l:=⟨_,rfl⟩
 rw [<-hs];unfold rM at hs ⊢;rw [List.foldl_append,<-hs];show rM s [Vg s,Vh s]=0#16;rw [y8,uU _ _ (by rw [oU];simp)];have:Pn (vJ [Vg s,Vh s])=s:=by
  apply zb9
  intro i hi;rw [xW _ _ (by rw [oU];simp) hi];have e:vJ [Vg s,Vh s]=[s.getLsbD 15,s.getLsbD 14,s.getLsbD 13,s.getLsbD 12,s.getLsbD 11,s.getLsbD 10,s.getLsbD 9,s.getLsbD 8,s.getLsbD 7,s.getLsbD 6,s.getLsbD 5,s.getLsbD 4,s.getLsbD 3,s.getLsbD 2,s.getLsbD 1,s.getLsbD 0]:=by
   simp [vJ,uj,Vg,Vh,zaH]
  rw [e];rcases(show i=0∨i=1∨i=2∨i=3∨i=4∨i=5∨i=6∨i=7∨i=8∨i=9∨i=10∨i=11∨i=12∨i=13∨i=14∨i=15 by omega) with h | h | h | h | h | h | h | h | h | h | h | h | h | h | h | h <;> subst h <;> rfl
 rw [this,BitVec.xor_self,IK]
def Uo(l m:List By):List By:=List.zipWith (· ^^^ ·) l m
theorem aaO(s t:S16)(c d:By):Vf (s ^^^ t) (c ^^^ d)=Vf s c ^^^ Vf t d:=by
 unfold Vf;rw [<-WU]
 congr 1
 rw [BitVec.setWidth_xor,BitVec.shiftLeft_xor_distrib];rw [zbr,zbr]
 congr 1
 rw [<-zbr,<-zbr,BitVec.xor_comm t]
theorem LU:∀(l m:List By) (s t:S16),l.length=m.length->rM (s ^^^ t) (Uo l m)=rM s l ^^^ rM t m
 | [],[],s,t,_=> rfl
 | c::l,d::m,s,t,h=> by
  show rM (Vf (s ^^^ t) (c ^^^ d)) (Uo l m)=rM (Vf s c) l ^^^ rM (Vf t d) m;rw [aaO,LU l m _ _ (by simpa using h)]
 | [],_::_,_,_,h=> by simp at h
 | _::_,[],_,_,h=> by simp at h
theorem y9:∀(l:List Bool) (s:S16),(∀b∈l,b=false)->l.foldl Ai s=shN l.length s
 | [],s,_=> rfl
 | b::l,s,h=> by
  have hb:=h b (by simp);subst hb;rw [zbL,y9 l _ λb hb=> h b (by simp [hb])];show shN l.length (shS (s ^^^ ahd false))=shN l.length (shS s);simp [ahd]
theorem Ur {B:List Bool}{a:Int}(h:∀(k:Nat),B[k]?=some true->a<=k/\(k:Int) < a+16)(h0:B.foldl Ai 0#16=0#16):∀b∈B,b=false:=by
 obtain⟨p,hp⟩:∃p,p=a.toNat:=⟨_,rfl⟩
 have hB:B=B.take p++((B.drop p).take 16++(B.drop p).drop 16):=by rw [List.take_append_drop,List.take_append_drop]
 have f1:∀b∈B.take p,b=false:=by
  intro b hb;obtain⟨k,hk,rfl⟩:=List.mem_iff_getElem.1 hb;cases hbk:(B.take p)[k] with
  | false=> rfl
  | true=>
   have hk':k < p:=by rw [zao] at hk;omega
   have:B[k]?=some true:=by
    rw [<-hbk,<-zab hk,zaA,if_pos hk']
   have:=h k this;omega
 have f3:∀b∈(B.drop p).drop 16,b=false:=by
  intro b hb;obtain⟨k,hk,rfl⟩:=List.mem_iff_getElem.1 hb;cases hbk:((B.drop p).drop 16)[k] with
  | false=> rfl
  | true=>
   have:B[p+(16+k)]?=some true:=by
    rw [<-hbk,<-zab hk,zaF,zaF]
   have:=h _ this;omega
 rw [hB,List.foldl_append,List.foldl_append,y9 _ _ f1,IK,y9 _ _ f3,uU _ _ (by rw [zao];omega),BitVec.zero_xor] at h0;have f2:=WV (by rw [zao];omega) (IL _ (IL _ h0));intro b hb;rw [hB] at hb;rcases za2.1 hb with hb | hb
 ·exact f1 b hb
 ·rcases za2.1 hb with hb | hb
  ·exact f2 b hb
  ·exact f3 b hb
theorem aaP {c d:By}(h:∀b∈uj (c ^^^ d),b=false):c=d:=by
 apply zb9
 intro i hi;have key:(c ^^^ d).getLsbD i=false:=by
  apply h
  rcases(show i=0∨i=1∨i=2∨i=3∨i=4∨i=5∨i=6∨i=7 by omega) with h | h | h | h | h | h | h | h <;> subst h <;> simp [uj]
 rw [BitVec.getLsbD_xor] at key;cases h1:c.getLsbD i <;> cases h2:d.getLsbD i <;> simp [h1,h2] at key ⊢
theorem Ec:∀{l m:List By},l.length=m.length->(∀b∈vJ (Uo l m),b=false)->l=m
 | [],[],_,_=> rfl
 | c::l,d::m,h,hb=> by
  have hx:vJ (Uo (c::l) (d::m))=uj (c ^^^ d)++vJ (Uo l m):=rfl;rw [hx] at hb;rw [aaP λb h=> hb b (List.mem_append_left _ h),Ec (by simpa using h) λb h=> hb b (List.mem_append_right _ h)]
 | [],_::_,h,_=> by simp at h
 | _::_,[],h,_=> by simp at h
theorem Po {x y:List By}{a:Int}(hl:(iV x).length=(iV y).length)(h:∀(k:Nat),(vJ (Uo (iV x) (iV y)))[k]?=some true->a<=k/\(k:Int) < a+16):iV x=iV y:=by
 refine Ec hl (Ur h ?_);rw [<-y8];have:=LU (iV x) (iV y) 0xffff#16 0xffff#16 hl;rw [BitVec.xor_self,LQ,LQ,BitVec.xor_self] at this;exact this
def flip(bit mask:Int)(k:Nat):Bool:=decide (0<=(k:Int) - bit) && decide ((k:Int) - bit < 16) && mask.toNat.testBit (15 - ((k:Int) - bit).toNat)
def rO(bit mask:Int)(at_:Nat):By:=
 if 8*(at_:Int) - bit<=-8∨16<=8*(at_:Int) - bit then 0#8 else(((BitVec.ofNat 32 mask.toNat) <<< 8 <<< (8*(at_:Int) - bit+8).toNat) >>> 24).setWidth 8
def nU(bit mask:Int)(l:List By):List By:=l.mapIdx λi c=> c ^^^ rO bit mask i
theorem Pq {m k:Nat}(hm:m<=65535)(hk:16<=k):m.testBit k=false:=by
 apply Nat.testBit_lt_two_pow
 calc m < 2 ^ 16:=by omega
  _<=2 ^ k:=Nat.pow_le_pow_right (by decide) hk
theorem WY {bit mask:Int}(h0:0<=mask)(h1:mask<=65535)(at_ j:Nat)(hj:j < 8):(rO bit mask at_).getLsbD j=flip bit mask (8*at_+(7 - j)):=by
 unfold rO flip;obtain⟨y,hy⟩:∃y:Int,y=8*(at_:Int) - bit:=⟨_,rfl⟩
 have hk:((8*at_+(7 - j):Nat):Int) - bit=y+(7 - (j:Int)):=by omega
 rw [<-hy,hk];by_cases h:y<=-8∨16<=y
 ·rw [if_pos h];simp only [BitVec.getLsbD_zero];rcases h with h | h
  ·have:¬(0<=y+(7 - (j:Int))):=by omega
   simp [this]
  ·have:¬(y+(7 - (j:Int)) < 16):=by omega
   simp [this]
 ·rw [if_neg h];simp only [not_or] at h;obtain⟨n,hn⟩:∃n:Nat,n=(y+8).toNat:=⟨_,rfl⟩
  rw [<-hn];rw [BitVec.getLsbD_setWidth,BitVec.getLsbD_ushiftRight,zb3,zb3,BitVec.getLsbD_ofNat];have a1:24+j < 32:=by omega
  have a2:¬(24+j < n):=by omega
  have a3:24+j - n < 32:=by omega
  by_cases hlo:24+j - n < 8
  ·have:¬(y+(7 - (j:Int)) < 16):=by omega
   simp [hlo,this]
  ·have a4:24+j - n - 8 < 32:=by omega
   have b1:y+(7 - (j:Int)) < 16:=by omega
   by_cases b0:0<=y+(7 - (j:Int))
   ·have e:24+j - n - 8=15 - (y+(7 - (j:Int))).toNat:=by omega
    simp only [hj,a1,a2,a3,a4,hlo,b0,b1,decide_true,decide_false,zal,zaO,zb8];rw [e]
   ·have:mask.toNat.testBit (24+j - n - 8)=false:=Pq (by omega) (by omega);simp [this,b0]
theorem iy(bit mask:Int)(l:List By):(nU bit mask l).length=l.length:=by simp [nU]
theorem WZ(c:By)(j:Nat)(hj:j < 8):(uj c)[j]?=some (c.getLsbD (7 - j)):=by
 rcases(show j=0∨j=1∨j=2∨j=3∨j=4∨j=5∨j=6∨j=7 by omega) with h | h | h | h | h | h | h | h <;> subst h <;> rfl
theorem Ed:∀(l:List By) (k:Nat),(vJ l)[k]?=(l[k / 8]?).map λc=> c.getLsbD (7 - k % 8)
 | [],k=> by simp [vJ]
 | c::l,k=> by
  have hx:vJ (c::l)=uj c++vJ l:=rfl;rw [hx];by_cases h:k < 8
  ·rw [zaJ (by simp [uj];exact h),WZ c k h,show k / 8=0 by omega,show k % 8=k by omega];rfl
  ·rw [zaY (by simp [uj];omega)];have:(uj c).length=8:=rfl;rw [this,Ed l (k - 8),show k / 8=(k - 8) / 8+1 by omega,show k % 8=(k - 8) % 8 by omega];rfl
theorem zf {bit mask:Int}(h0:0<=mask)(h1:mask<=65535)(l:List By)(k:Nat)(hk:k < 8*l.length):(vJ (Uo l (nU bit mask l)))[k]?=some (flip bit mask k):=by
 rw [Ed];have hi:k / 8 < l.length:=by omega
 have:(Uo l (nU bit mask l))[k / 8]?=some (rO bit mask (k / 8)):=by
  unfold Uo nU;rw [List.getElem?_zipWith,zbc,zab hi];simp only [zah]
  congr 1
  rw [<-zbr,BitVec.xor_self,BitVec.zero_xor]
 rw [this,zah,WY h0 h1 _ _ (by omega)]
 congr 2
 omega
theorem LV {n:Nat}{bit mask:Int}:turns n bit mask=true↔∃k:Nat,k < 8*n/\flip bit mask k=true:=by
 unfold turns;rw [List.any_eq_true];constructor
 ·rintro⟨i,hi,h⟩;rw [zaW] at hi;simp only [zaj,decide_eq_true_eq] at h;obtain⟨⟨a,b⟩,c⟩:=h;refine⟨(bit+i).toNat,by omega,?_⟩;unfold flip;have e:(((bit+i).toNat:Nat):Int) - bit=i:=by omega
  rw [e];simp only [zaj,decide_eq_true_eq];refine⟨⟨by omega,by omega⟩,?_⟩;rw [zar,Nat.testBit_eq_decide_div_mod_eq];rw [Nat.shiftRight_eq_div_pow] at a
  simpa using a
 ·rintro⟨k,hk,h⟩;unfold flip at h;simp only [zaj,decide_eq_true_eq] at h;obtain⟨⟨a,b⟩,c⟩:=h;refine⟨((k:Int) - bit).toNat,zaW.2 (by omega),?_⟩;simp only [zaj,decide_eq_true_eq];refine⟨⟨?_,by omega⟩,by omega⟩;rw [Nat.testBit_eq_decide_div_mod_eq] at c;rw [Nat.shiftRight_eq_div_pow]
  simpa using c
theorem Us {bit mask:Int}(h0:0<=mask)(h1:mask<=65535){l:List By}(h:turns l.length bit mask=false):nU bit mask l=l:=by
 have hl:l.length=(nU bit mask l).length:=(iy _ _ _).symm;refine(Ec hl λb hb=> ?_).symm;obtain⟨k,hk,rfl⟩:=List.mem_iff_getElem.1 hb;have hk8:k < 8*l.length:=by
  rw [oU] at hk;unfold Uo at hk;rw [List.length_zipWith] at hk;omega
 have:=zf (bit:=bit) h0 h1 l k hk8;rw [zab hk,zaa] at this;rw [this];cases hf:flip bit mask k with
 | false=> rfl
 | true=>
  have:=LV.2 ⟨k,hk8,hf⟩;rw [h] at this;cases this
theorem Pv {bit mask:Int}(h0:0<=mask)(h1:mask<=65535){x y:List By}(h:turns (iV x).length bit mask=true):nU bit mask (iV x)≠iV y:=by
 intro e;have hl:(iV x).length=(iV y).length:=by rw [<-e,iy]
 have hs:=Po (a:=bit) hl λk hk=> by
  rw [<-e] at hk;have hk8:k < 8*(iV x).length:=by
   have hlt:=(zaf.1 hk).1;rw [oU] at hlt;unfold Uo at hlt;rw [List.length_zipWith] at hlt;omega
  rw [zf h0 h1 _ k hk8] at hk;simp only [zaa] at hk;unfold flip at hk;simp only [zaj,decide_eq_true_eq] at hk;omega
 obtain⟨k,hk,hf⟩:=LV.1 h;have:=zf (bit:=bit) h0 h1 (iV x) k hk;rw [e,<-hs,hf,Ed] at this;have hx:∀l:List By,Uo l l=l.map λ_=> 0#8:=by
  intro l
  induction l with
  | nil=> rfl
  | cons c l ih=>
   show(c ^^^ c)::Uo l l=_;rw [ih,BitVec.xor_self];rfl
 rw [hx,zaB] at this;cases hh:(iV x)[k / 8]? with
 | none=> rw [hh] at this;cases this
 | some c=> rw [hh] at this;simp at this
def by8(n:Int):By:=BitVec.ofInt 8 n
def oG(n:Int):List By:=[by8 (n.fdiv (2 ^ 56)),by8 (n.fdiv (2 ^ 48)),by8 (n.fdiv (2 ^ 40)),by8 (n.fdiv (2 ^ 32)),by8 (n.fdiv (2 ^ 24)),by8 (n.fdiv (2 ^ 16)),by8 (n.fdiv (2 ^ 8)),by8 (n.fdiv (2 ^ 0))]
def dL(p:Pkt):List By:=[by8 p.kind,by8 p.src,by8 p.dst,by8 (p.id.fdiv 256),by8 p.id,by8 p.line,by8 (p.ptr+1),by8 p.state,by8 (if p.flag then 1 else 0),by8 p.data.length]++p.data.flatMap oG
def pU(p:Pkt):List By:=iV (dL p)
theorem iO(n:Int):(oG n).length=8:=rfl
theorem oV(p:Pkt):(pU p).length=p.bytes:=by
 unfold pU iV dL Pkt.bytes;rw [zaq,zaq,bf IQ];simp;omega
where
 IQ:∀n,(oG n).length=8:=λ_=> rfl
 bf {α β:Type} {f:α->List β} {m:Nat} (h:∀a,(f a).length=m):∀{l:List α},(l.flatMap f).length=l.length*m:=by
  intro l
  induction l with
  | nil=> simp
  | cons a l ih=> rw [zaH,zaq,h,ih,zak,zbF];omega
section
variable {P:Program}{t:TypeId}{k k':IntKind}{a b n:Int}
theorem Xa(h:0<=n):mZ P .shl t (.s (.int k a)) (.s (.int k' n))=some (.s (.int k (k.wrap (a*2 ^ (min n.toNat k.bits))))):=by
 have:¬n < 0:=by omega
 simp [mZ,AV.val?,eqGuard,binOp,Op.shift,bg,this]
theorem Px(h:0<=n):mZ P .shr t (.s (.int k a)) (.s (.int k' n))=some (.s (.int k (a.fdiv (2 ^ (min n.toNat k.bits))))):=by
 have:¬n < 0:=by omega
 simp [mZ,AV.val?,eqGuard,binOp,Op.shift,bg,this]
theorem afs:mZ P .xor t (.s (.int k a)) (.s (.int k b))=some (.s (.int k (k.wrap (BitVec.ofInt k.bits a ^^^ BitVec.ofInt k.bits b).toNat))):=by
 simp [mZ,AV.val?,eqGuard,binOp,Op.intBits,bg]
theorem adl:mZ P .or t (.s (.int k a)) (.s (.int k b))=some (.s (.int k (k.wrap (BitVec.ofInt k.bits a ||| BitVec.ofInt k.bits b).toNat))):=by
 simp [mZ,AV.val?,eqGuard,binOp,Op.intBits,bg]
end
def U(k:IntKind)(v:BitVec k.bits):AV:=.s (.int k (v.toNat:Int))
abbrev Y(c:By):AV:=U .u8 c
abbrev U16(s:S16):AV:=U .u16 s
abbrev U32(s:BitVec 32):AV:=U .u32 s
abbrev U64(s:BitVec 64):AV:=U .u64 s
theorem adn {k:IntKind}(hk:k.signed=false)(z:Int):k.wrap z=z % (2 ^ k.bits:Int):=by simp [IntKind.wrap,hk]
theorem xX {k:IntKind}(hk:k.signed=false)(m:Nat):k.wrap (m:Int)=((BitVec.ofNat k.bits m).toNat:Int):=by
 rw [adn hk,zch]
 norm_cast
theorem nV {w:Nat}(v:BitVec w):BitVec.ofInt w (v.toNat:Int)=v:=by
 rw [BitVec.ofInt_natCast,BitVec.ofNat_toNat,BitVec.setWidth_eq]
theorem Ri {k:IntKind}(hk:k.signed=false)(v:BitVec k.bits):k.wrap (v.toNat:Int)=(v.toNat:Int):=by
 rw [xX hk,BitVec.ofNat_toNat,BitVec.setWidth_eq]
section
variable {P:Program}{t:TypeId}{k k':IntKind}
theorem afu(hk:k.signed=false)(x y:BitVec k.bits):mZ P .xor t (U k x) (U k y)=some (U k (x ^^^ y)):=by
 unfold U;rw [afs,nV,nV,Ri hk]
theorem apP(hk:k.signed=false)(x y:BitVec k.bits):mZ P .or t (U k x) (U k y)=some (U k (x ||| y)):=by
 unfold U;rw [adl,nV,nV,Ri hk]
theorem Xb(hk:k.signed=false)(x:BitVec k.bits)(n:Int)(h0:0<=n)(h:n<=k.bits):mZ P .shl t (U k x) (.s (.int k' n))=some (U k (x <<< n.toNat)):=by
 unfold U;rw [Xa h0,show min n.toNat k.bits=n.toNat by omega];have:((x.toNat:Int)*2 ^ n.toNat)=((x.toNat*2 ^ n.toNat:Nat):Int):=by norm_cast
 rw [this,xX hk,zch,BitVec.toNat_shiftLeft,Nat.shiftLeft_eq]
theorem afv(x:BitVec k.bits)(n:Int)(h0:0<=n)(h:n<=k.bits):mZ P .shr t (U k x) (.s (.int k' n))=some (U k (x >>> n.toNat)):=by
 unfold U;rw [Px h0,show min n.toNat k.bits=n.toNat by omega,BitVec.toNat_ushiftRight,Nat.shiftRight_eq_div_pow];have:(2:Int) ^ n.toNat=((2 ^ n.toNat:Nat):Int):=by norm_cast
 rw [this,zbZ _ (Int.natCast_nonneg _)]
 norm_cast
theorem ank(hk:k.signed=false)(x y:BitVec k.bits):mZ P .mul t (U k x) (U k y)=some (U k (x*y)):=by
 unfold U;rw [gQ];have:((x.toNat:Int)*y.toNat)=((x.toNat*y.toNat:Nat):Int):=by norm_cast
 rw [this,xX hk,zch,BitVec.toNat_mul]
theorem aiA(hk:k'.signed=false)(x:BitVec k.bits):(AV.s (.int k' (k'.wrap (x.toNat:Int))))=U k' (x.setWidth k'.bits):=by
 unfold U;rw [xX hk,BitVec.ofNat_toNat]
end
theorem aaQ(l:List By):(l.map Y).all AV.aH=true:=by
 rw [zaZ];intro x hx;obtain⟨c,_,rfl⟩:=zaN.1 hx;rfl
def yOf:AV->Option By
 | .s (.int .u8 n)=> if 0<=n/\n < 256 then some (BitVec.ofInt 8 n) else none
 | _=> none
def bytesOf(x:AV)(H:aj):Option (List By):=
 match x with
 | .sl r g off esz n _ _=> match H.get r with
  | .blk g' _ cells=> if esz=1/\g'=g/\off+n<=cells.length/\0 < n/\n<=800 then((cells.drop off).take n).mapM yOf else none
  | _=> none
 | _=> none
structure Pkt.fit(p:Pkt):Prop where
 ok:p.ok=true
 num:∀v∈p.data,I64 v
open Classical in
def zh(args:List AV)(H:aj):Option (AV × aj):=
 match args with
 | [x]=> match bytesOf x H with
  | some l=> if h:∃p:Pkt,p.fit/\pU p=l then some (.tup [.agg (Classical.choose h).av,I 0],H)
   else if(∀y,l≠iV y) then some (.tup [.agg Pkt.zero.av,I 2],H) else none
  | none=> none
 | _=> none
def afw:List Nat:=[
 46,
 82,
 98,
 53,
 203,
 91,
 49,
 54,
 55,
 85,
 87,
 88,
 114,
 166,
 139,
 140,
 18,
 47,
 14,
 10,
 121,
 42,
 43,
 122,
 78,
 123,
 79,
 171,
 24,
 27,
 26,
 229,
 236,
 72,
 38,
 71,
 168,
 37,
 117,
 118,
 28,
 74,
 40,
 29,
 15,
 52,
 22,
 204,
 162,
 158,
 167,
 184,
 141,
 64,
 197,
 62,
 159,
 106,
 21,
 120,
 170,
 75,
 193,
 194,
 41,
 17,
 31,
 39,
 13,
 12,
 0]
def Aj:List Nat:=[
 208,
 0]
def Gm:List Nat:=[
 0]
def anl:Pol:=⟨λ_=> false,λ_=> none⟩
def cl0:Callee:=callω Tryz.prog anl
def afx:List (Nat × (List AV->aj->Option (AV × aj))):=[
 (191,yV Aj Gm),
 (156,cl0 156),
 (95,zh),
 (94,cl0 94),
 (96,cl0 96),
 (0,λ_ _=> none)]
def pol:Pol:=⟨λf=> afw.contains f,λf=> afx.lookup f⟩
def cl:Callee:=callω Tryz.prog pol
def Rj(f:FuncId)(p:List AV->aj->Option (AV × aj)):Prop:=
 Sound Tryz.prog (λg args H=> if g=f then p args H else none)/\∀args H v H',p args H=some (v,H')->Keeps H H'
theorem afy(f:FuncId):Rj f (cl0 f):=by
 have hc:=callω_ok (P:=Tryz.prog) (L:=anl) (λf p h=> by cases h) (by kernel_rfl);refine⟨λg args H v H' h=> ?_,λargs H v H' h=> hc.2 f args H v H' h⟩;simp only at h;split at h
 ·rename_i e;subst e;exact hc.1 _ args H v H' h
 ·cases h
theorem fV {f:FuncId}{args:List AV}{H:aj}{r:AV × aj}(h:wP Tryz.prog cl0 f args H=some r):cl0 f args H=some r:=acs rfl rfl h
theorem aN {f:FuncId}{args:List AV}{H:aj}{r:AV × aj}(h1:pol.ZK f=none)(h2:pol.pure f=false)(h:wP Tryz.prog cl f args H=some r):cl f args H=some r:=acs h1 h2 h
theorem eu {f:FuncId}{args:List AV}{H H1:aj}{v v':AV}(h1:pol.ZK f=none)(h2:pol.pure f=true)(h:wP Tryz.prog cl f args H.guard=some (v,H1))(hz:aV H1 H.next 9 v=some v'):cl f args H=some (v',H):=ae9 h1 h2 h hz
theorem jw {f:FuncId}{args:List AV}{H:aj}{v:AV}{Q:aj->Prop}{sh:Option (AV × aj)}(h1:pol.ZK f=none)(h2:pol.pure f=false)(rn:∀{r},sh=some r->wP Tryz.prog cl f args H=some r)(h:∃H',sh=some (v,H')/\Q H'):∃H',cl f args H=some (v,H')/\Q H':=by
 obtain⟨H',e,q⟩:=h;exact⟨H',aN h1 h2 (rn e),q⟩
theorem aW {f:FuncId}{args:List AV}{H:aj}{v:AV}{sh:Option (AV × aj)}(h1:pol.ZK f=none)(h2:pol.pure f=true)(rn:∀{r},sh=some r->wP Tryz.prog cl f args H.guard=some r)(h:sh.map Prod.fst=some v)(hz:Frz 9 v):cl f args H=some (v,H):=by
 cases hs:sh with
 | none=> rw [hs] at h;cases h
 | some r=>
  rw [hs] at h;simp only [zah,zaa] at h;subst h;exact eu h1 h2 (rn hs) (hz _ _)
open Go.RowKit
structure Cho where
 do_:Int
 at_:Int
 bit:Int
 mask:Int
def Cho.av(c:Cho):List AV:=[I c.do_,I c.at_,I c.bit,.s (.int .u16 c.mask)]
theorem afz(c:Cho):c.av.all AV.aH=true:=by simp [Cho.av,fP]
structure Cho.In(c:Cho):Prop where
 do_:In64 c.do_
 at_:In64 c.at_
 bit:In64 c.bit
 mask0:0<=c.mask
 mask:c.mask<=65535
structure ado(av:AV)(cs:List Cho):Prop where
 is:aG aj.empty av 4 cs.length (cs.flatMap Cho.av)
 wf:∀c∈cs,c.In
 cell:av.aH=true
def afA(zs:List Int):Cho:=⟨zs.getD 0 0,zs.getD 1 0,zs.getD 2 0,zs.getD 3 0⟩
abbrev aiB:List IntKind:=[.i64,.i64,.i64,.u16]
theorem aaR {zs:List Int}(h:zs.length=4):ints aiB zs=(afA zs).av:=by
 match zs,h with
 | [a,b,c,d],_=> rfl
theorem aiC {z:Int}(h:(Lit.int .u16 z).wf=true):0<=z/\z<=65535:=by
 simp [Lit.wf,IntKind.min,IntKind.max,IntKind.signed,IntKind.bits] at h;exact⟨by omega,by omega⟩
section
variable {P:Program}{H:Type}{enc:TypeId × Value->H}
theorem LW {t e:TypeId}(ht:P.underlying t=some (.slice e))(hce:P.cellsOf e=4)(hF:WG P e aiB){W:World}{r:Reach}{b0 base:Nat}{sp:Nat->Bool}{held:Bool}{v:Value}{d:DataW H}{ps:List MemPlace}
  (hval:Value.okWide P W r b0 t v) (h:DataW.Trod enc P W base sp held t v d ps):∃(x:AV) (cs:List Cho),RV ρ0 G0 W x v/\ado x cs:=by
 unfold Value.okWide at hval;rw [ht] at hval;obtain⟨fuel,hf⟩:=h;have hv:v.cells.toList=[v]:=by
  cases v <;> first | rfl | (simp [Cell.okWide,ht,Cell.ok] at hval)
 rw [hv] at hf;obtain⟨av,l,r1,r2,r3⟩:=Lu ht (ks:=aiB) hce hF hval hf;have key:∀l:List (List Int),(∀zs∈l,zs.length=4)->l.flatMap (ints aiB)=(l.map afA).flatMap Cho.av:=by
  intro l
  induction l with
  | nil=> intro _;rfl
  | cons zs l ih=>
   intro h;rw [zaH,zaC,zaH,ih λz hz=> h z (by simp [hz]),aaR (h zs (by simp))]
 refine⟨av,l.map afA,r1,⟨?_,λc hc=> ?_,r3⟩⟩
 ·have:=r2.is;rw [key l r2.len] at this
  simpa using this
 ·obtain⟨zs,hzs,rfl⟩:=zaN.1 hc;have hl:=r2.len zs hzs;have hw:=r2.wf zs hzs
  match zs,hl with
  | [a,b,c,d],_=>
   have h4:=aiC (hw 3 .u16 d rfl rfl);exact⟨ahb (hw 0 .i64 a rfl rfl),ahb (hw 1 .i64 b rfl rfl),ahb (hw 2 .i64 c rfl rfl),h4.1,h4.2⟩
end
end
end Go.Proofs.YthmoogcacpmjiaaGreat
