/- The equations of the functions that a law reaches, part 2. No condition. -/
import Derived.Test.YtkgjmgaccfmhpaaGreatWa
namespace Go.Proofs.YtkgjmgaccfmhpaaGreat.World
open Go Go.V Go.Proofs
open Go.IntKind (i64 u64)
variable {R:Type}
set_option linter.unusedVariables false
set_option linter.unusedSimpArgs false
set_option maxRecDepth 100000
set_option maxHeartbeats 4000000
noncomputable def wh3 (k:Nat) (a0:List ze) (a1:List ze):Option (Bool):=den E k 190 [.c (.l 198 we a0),.c (.l 198 we a1)]
abbrev y62:=(List ze)×(List ze)
abbrev xy:=Int
def vx4 (c0:y62) (v0:xy):St:=⟨27,0,[(0,.c (.l 198 we c0.1)),(1,.c (.l 198 we c0.2)),(5,cI v0)],[]⟩
noncomputable def yw5 {R:Type} (k:Nat) (X0:xy→ze→ze→Bool→Option R) (X1:xy→Option R) (c0:y62) (rec:xy→Option R) (v0:xy):Option R:=if (decide (v0<(c0.1.length:Int)))=true then if 0≤v0 then ix c0.1 v0.toNat fun x1=>if 0≤v0 then ix c0.2 v0.toNat fun x2=>(xc5 k x1 x2).bind fun p3=>if (!p3)=true then X0 v0 x1 x2 p3 else rec (i64.wrap (v0+1)) else none else none else X1 v0
noncomputable def j83 {R:Type} (k:Nat) (X0:xy→ze→ze→Bool→Option R) (X1:xy→Option R) (c:y62):Nat→xy→Option R
 | 0,_=>none
 | n+1,v=>yw5 k X0 X1 c (j83 k X0 X1 c n) v
def wm4 (K:Ex→St→Option R) (c0:y62) (v0:xy) (x1:ze) (x2:ze) (p3:Bool):Option R:=K .ret ⟨27,0,[(0,.c (.l 198 we c0.1)),(1,.c (.l 198 we c0.2)),(4,cB false),(5,cI v0),(11,cI v0),(12,.c (.l 198 we c0.1)),(13,cI (c0.1.length:Int)),(14,cB (decide (v0<(c0.1.length:Int)))),(17,.c (.l 198 we c0.1)),(18,cI v0),(19,.c (.at_ (avs we x1))),(20,.agg (avs we x1)),(21,.c (.l 198 we c0.2)),(22,cI v0),(23,.c (.at_ (avs we x2))),(24,.agg (avs we x2)),(25,cB p3),(26,cB (!p3))],[]⟩
def xj4 (K:Ex→St→Option R) (c0:y62) (v0:xy):Option R:=K (.exit 0) ⟨27,0,[(0,.c (.l 198 we c0.1)),(1,.c (.l 198 we c0.2)),(5,cI v0),(11,cI v0),(12,.c (.l 198 we c0.1)),(13,cI (c0.1.length:Int)),(14,cB (decide (v0<(c0.1.length:Int))))],[]⟩
theorem wt7 (k:Nat) (K:Ex→St→Option R) (c0:y62):∀(n:Nat) (v:xy),z2 [0,0,1,5] (run E (den E k) (lv 190) k (j1 Tryz.f190 0)) n (vx4 c0 v) K=j83 k (wm4 K c0) (xj4 K c0) c0 n v:=j6 (B:=yw5 k (wm4 K c0) (xj4 K c0) c0) fun n v=>by kernel_rfl
theorem wo7 (k:Nat) (a0:List ze) (a1:List ze):wh3 (k+1) a0 a1=if ((a0.length:Int) !=(a1.length:Int))=true then some false else z2 (R:=Bool) [0,0,1,5] (run E (den E k) (lv 190) k (j1 Tryz.f190 0)) k (vx4 (a0,a1) 0) (z8 E (den E k) (lv 190) k (yc Tryz.f190) 0 [] (xa E (rs 190) Tryz.f190:Ex→St→Option (Bool))):=by kernel_rfl
theorem wa9 (k:Nat) (a0:List ze) (a1:List ze):wh3 (k+1) a0 a1=if ((a0.length:Int) !=(a1.length:Int))=true then some false else j83 k (fun (v0:Int) (x1:ze) (x2:ze) (p3:Bool)=>some false) (fun (v0:Int)=>some true) (a0,a1) k 0:=by
 rw [wo7]
 simp only [wt7]
 kernel_rfl
noncomputable def vo3 (k:Nat) (a0:j2) (a1:j2):Option (Bool):=den E k 82 [.agg (avs j4 a0),.agg (avs j4 a1)]
theorem ji8 (k:Nat) (a0:j2) (a1:j2):vo3 (k+1) a0 a1=if (a0.1 !=a1.1)=true then some false else if (a0.2.1 !=a1.2.1)=true then some false else if (a0.2.2.1 !=a1.2.2.1)=true then some false else (wh3 k a0.2.2.2 a1.2.2.2).bind fun p1=>if (!p1)=true then some false else some true:=by kernel_rfl
noncomputable def w75 (k:Nat) (a0:List I6) (a1:List I6):Option (Bool):=den E k 192 [.agg [.l 66 sI6 a0],.agg [.l 66 sI6 a1]]
theorem jq9 (k:Nat) (a0:List I6) (a1:List I6):w75 (k+1) a0 a1=(j22 k a0 a1).bind fun p1=>if (!p1)=true then some false else some true:=by kernel_rfl
noncomputable def yi3 (k:Nat) (a0:List (List I6)) (a1:List (List I6)):Option (Bool):=den E k 86 [.c (.l 140 vg a0),.c (.l 140 vg a1)]
abbrev j42:=(List (List I6))×(List (List I6))
abbrev vy:=Int
def z05 (c0:j42) (v0:vy):St:=⟨27,0,[(0,.c (.l 140 vg c0.1)),(1,.c (.l 140 vg c0.2)),(5,cI v0)],[]⟩
noncomputable def xm5 {R:Type} (k:Nat) (X0:vy→(List I6)→(List I6)→Bool→Option R) (X1:vy→Option R) (c0:j42) (rec:vy→Option R) (v0:vy):Option R:=if (decide (v0<(c0.1.length:Int)))=true then if 0≤v0 then ix c0.1 v0.toNat fun x1=>if 0≤v0 then ix c0.2 v0.toNat fun x2=>(w75 k x1 x2).bind fun p3=>if (!p3)=true then X0 v0 x1 x2 p3 else rec (i64.wrap (v0+1)) else none else none else X1 v0
noncomputable def w83 {R:Type} (k:Nat) (X0:vy→(List I6)→(List I6)→Bool→Option R) (X1:vy→Option R) (c:j42):Nat→vy→Option R
 | 0,_=>none
 | n+1,v=>xm5 k X0 X1 c (w83 k X0 X1 c n) v
def wf4 (K:Ex→St→Option R) (c0:j42) (v0:vy) (x1:List I6) (x2:List I6) (p3:Bool):Option R:=K .ret ⟨27,0,[(0,.c (.l 140 vg c0.1)),(1,.c (.l 140 vg c0.2)),(4,cB false),(5,cI v0),(11,cI v0),(12,.c (.l 140 vg c0.1)),(13,cI (c0.1.length:Int)),(14,cB (decide (v0<(c0.1.length:Int)))),(17,.c (.l 140 vg c0.1)),(18,cI v0),(19,.c (.at_ [.l 66 sI6 x1])),(20,.agg [.l 66 sI6 x1]),(21,.c (.l 140 vg c0.2)),(22,cI v0),(23,.c (.at_ [.l 66 sI6 x2])),(24,.agg [.l 66 sI6 x2]),(25,cB p3),(26,cB (!p3))],[]⟩
def wn4 (K:Ex→St→Option R) (c0:j42) (v0:vy):Option R:=K (.exit 0) ⟨27,0,[(0,.c (.l 140 vg c0.1)),(1,.c (.l 140 vg c0.2)),(5,cI v0),(11,cI v0),(12,.c (.l 140 vg c0.1)),(13,cI (c0.1.length:Int)),(14,cB (decide (v0<(c0.1.length:Int))))],[]⟩
theorem j38 (k:Nat) (K:Ex→St→Option R) (c0:j42):∀(n:Nat) (v:vy),z2 [0,0,1,5] (run E (den E k) (lv 86) k (j1 Tryz.f86 0)) n (z05 c0 v) K=w83 k (wf4 K c0) (wn4 K c0) c0 n v:=j6 (B:=xm5 k (wf4 K c0) (wn4 K c0) c0) fun n v=>by kernel_rfl
theorem vr7 (k:Nat) (a0:List (List I6)) (a1:List (List I6)):yi3 (k+1) a0 a1=if ((a0.length:Int) !=(a1.length:Int))=true then some false else z2 (R:=Bool) [0,0,1,5] (run E (den E k) (lv 86) k (j1 Tryz.f86 0)) k (z05 (a0,a1) 0) (z8 E (den E k) (lv 86) k (yc Tryz.f86) 0 [] (xa E (rs 86) Tryz.f86:Ex→St→Option (Bool))):=by kernel_rfl
theorem ji9 (k:Nat) (a0:List (List I6)) (a1:List (List I6)):yi3 (k+1) a0 a1=if ((a0.length:Int) !=(a1.length:Int))=true then some false else w83 k (fun (v0:Int) (x1:List I6) (x2:List I6) (p3:Bool)=>some false) (fun (v0:Int)=>some true) (a0,a1) k 0:=by
 rw [vr7]
 simp only [j38]
 kernel_rfl
noncomputable def ye7 (k:Nat) (a0:I4) (a1:I4):Option (Bool):=den E k 262 [.agg (avs sI4 a0),.agg (avs sI4 a1)]
theorem jcb (k:Nat) (a0:I4) (a1:I4):ye7 (k+1) a0 a1=if (a0.1 !=a1.1)=true then some false else if (a0.2.1 !=a1.2.1)=true then some false else if (a0.2.2.1 !=a1.2.2.1)=true then some false else if (a0.2.2.2 !=a1.2.2.2)=true then some false else some true:=by kernel_rfl
noncomputable def xu4 (k:Nat) (a0:List I4) (a1:List I4):Option (Bool):=den E k 187 [.c (.l 186 sI4 a0),.c (.l 186 sI4 a1)]
abbrev wv2:=(List I4)×(List I4)
abbrev vf1:=Int
def vm6 (c0:wv2) (v0:vf1):St:=⟨27,0,[(0,.c (.l 186 sI4 c0.1)),(1,.c (.l 186 sI4 c0.2)),(5,cI v0)],[]⟩
noncomputable def x57 {R:Type} (k:Nat) (X0:vf1→I4→I4→Bool→Option R) (X1:vf1→Option R) (c0:wv2) (rec:vf1→Option R) (v0:vf1):Option R:=if (decide (v0<(c0.1.length:Int)))=true then if 0≤v0 then ix c0.1 v0.toNat fun x1=>if 0≤v0 then ix c0.2 v0.toNat fun x2=>(ye7 k x1 x2).bind fun p3=>if (!p3)=true then X0 v0 x1 x2 p3 else rec (i64.wrap (v0+1)) else none else none else X1 v0
noncomputable def vb4 {R:Type} (k:Nat) (X0:vf1→I4→I4→Bool→Option R) (X1:vf1→Option R) (c:wv2):Nat→vf1→Option R
 | 0,_=>none
 | n+1,v=>x57 k X0 X1 c (vb4 k X0 X1 c n) v
def vu5 (K:Ex→St→Option R) (c0:wv2) (v0:vf1) (x1:I4) (x2:I4) (p3:Bool):Option R:=K .ret ⟨27,0,[(0,.c (.l 186 sI4 c0.1)),(1,.c (.l 186 sI4 c0.2)),(4,cB false),(5,cI v0),(11,cI v0),(12,.c (.l 186 sI4 c0.1)),(13,cI (c0.1.length:Int)),(14,cB (decide (v0<(c0.1.length:Int)))),(17,.c (.l 186 sI4 c0.1)),(18,cI v0),(19,.c (.at_ (avs sI4 x1))),(20,.agg (avs sI4 x1)),(21,.c (.l 186 sI4 c0.2)),(22,cI v0),(23,.c (.at_ (avs sI4 x2))),(24,.agg (avs sI4 x2)),(25,cB p3),(26,cB (!p3))],[]⟩
def vm5 (K:Ex→St→Option R) (c0:wv2) (v0:vf1):Option R:=K (.exit 0) ⟨27,0,[(0,.c (.l 186 sI4 c0.1)),(1,.c (.l 186 sI4 c0.2)),(5,cI v0),(11,cI v0),(12,.c (.l 186 sI4 c0.1)),(13,cI (c0.1.length:Int)),(14,cB (decide (v0<(c0.1.length:Int))))],[]⟩
theorem y39 (k:Nat) (K:Ex→St→Option R) (c0:wv2):∀(n:Nat) (v:vf1),z2 [0,0,1,5] (run E (den E k) (lv 187) k (j1 Tryz.f187 0)) n (vm6 c0 v) K=vb4 k (vu5 K c0) (vm5 K c0) c0 n v:=j6 (B:=x57 k (vu5 K c0) (vm5 K c0) c0) fun n v=>by kernel_rfl
theorem jj9 (k:Nat) (a0:List I4) (a1:List I4):xu4 (k+1) a0 a1=if ((a0.length:Int) !=(a1.length:Int))=true then some false else z2 (R:=Bool) [0,0,1,5] (run E (den E k) (lv 187) k (j1 Tryz.f187 0)) k (vm6 (a0,a1) 0) (z8 E (den E k) (lv 187) k (yc Tryz.f187) 0 [] (xa E (rs 187) Tryz.f187:Ex→St→Option (Bool))):=by kernel_rfl
theorem j1b (k:Nat) (a0:List I4) (a1:List I4):xu4 (k+1) a0 a1=if ((a0.length:Int) !=(a1.length:Int))=true then some false else vb4 k (fun (v0:Int) (x1:I4) (x2:I4) (p3:Bool)=>some false) (fun (v0:Int)=>some true) (a0,a1) k 0:=by
 rw [jj9]
 simp only [y39]
 kernel_rfl
noncomputable def j06 (k:Nat) (a0:I3) (a1:I3):Option (Bool):=den E k 263 [.agg (avs sI3 a0),.agg (avs sI3 a1)]
theorem xya (k:Nat) (a0:I3) (a1:I3):j06 (k+1) a0 a1=if (a0.1 !=a1.1)=true then some false else if (a0.2.1 !=a1.2.1)=true then some false else if (a0.2.2 !=a1.2.2)=true then some false else some true:=by kernel_rfl
noncomputable def x64 (k:Nat) (a0:List I3) (a1:List I3):Option (Bool):=den E k 188 [.c (.l 188 sI3 a0),.c (.l 188 sI3 a1)]
abbrev xf2:=(List I3)×(List I3)
abbrev w71:=Int
def xn5 (c0:xf2) (v0:w71):St:=⟨27,0,[(0,.c (.l 188 sI3 c0.1)),(1,.c (.l 188 sI3 c0.2)),(5,cI v0)],[]⟩
noncomputable def xb6 {R:Type} (k:Nat) (X0:w71→I3→I3→Bool→Option R) (X1:w71→Option R) (c0:xf2) (rec:w71→Option R) (v0:w71):Option R:=if (decide (v0<(c0.1.length:Int)))=true then if 0≤v0 then ix c0.1 v0.toNat fun x1=>if 0≤v0 then ix c0.2 v0.toNat fun x2=>(j06 k x1 x2).bind fun p3=>if (!p3)=true then X0 v0 x1 x2 p3 else rec (i64.wrap (v0+1)) else none else none else X1 v0
noncomputable def yn3 {R:Type} (k:Nat) (X0:w71→I3→I3→Bool→Option R) (X1:w71→Option R) (c:xf2):Nat→w71→Option R
 | 0,_=>none
 | n+1,v=>xb6 k X0 X1 c (yn3 k X0 X1 c n) v
def z15 (K:Ex→St→Option R) (c0:xf2) (v0:w71) (x1:I3) (x2:I3) (p3:Bool):Option R:=K .ret ⟨27,0,[(0,.c (.l 188 sI3 c0.1)),(1,.c (.l 188 sI3 c0.2)),(4,cB false),(5,cI v0),(11,cI v0),(12,.c (.l 188 sI3 c0.1)),(13,cI (c0.1.length:Int)),(14,cB (decide (v0<(c0.1.length:Int)))),(17,.c (.l 188 sI3 c0.1)),(18,cI v0),(19,.c (.at_ (avs sI3 x1))),(20,.agg (avs sI3 x1)),(21,.c (.l 188 sI3 c0.2)),(22,cI v0),(23,.c (.at_ (avs sI3 x2))),(24,.agg (avs sI3 x2)),(25,cB p3),(26,cB (!p3))],[]⟩
def j45 (K:Ex→St→Option R) (c0:xf2) (v0:w71):Option R:=K (.exit 0) ⟨27,0,[(0,.c (.l 188 sI3 c0.1)),(1,.c (.l 188 sI3 c0.2)),(5,cI v0),(11,cI v0),(12,.c (.l 188 sI3 c0.1)),(13,cI (c0.1.length:Int)),(14,cB (decide (v0<(c0.1.length:Int))))],[]⟩
theorem vm8 (k:Nat) (K:Ex→St→Option R) (c0:xf2):∀(n:Nat) (v:w71),z2 [0,0,1,5] (run E (den E k) (lv 188) k (j1 Tryz.f188 0)) n (xn5 c0 v) K=yn3 k (z15 K c0) (j45 K c0) c0 n v:=j6 (B:=xb6 k (z15 K c0) (j45 K c0) c0) fun n v=>by kernel_rfl
theorem zc8 (k:Nat) (a0:List I3) (a1:List I3):x64 (k+1) a0 a1=if ((a0.length:Int) !=(a1.length:Int))=true then some false else z2 (R:=Bool) [0,0,1,5] (run E (den E k) (lv 188) k (j1 Tryz.f188 0)) k (xn5 (a0,a1) 0) (z8 E (den E k) (lv 188) k (yc Tryz.f188) 0 [] (xa E (rs 188) Tryz.f188:Ex→St→Option (Bool))):=by kernel_rfl
theorem jn9 (k:Nat) (a0:List I3) (a1:List I3):x64 (k+1) a0 a1=if ((a0.length:Int) !=(a1.length:Int))=true then some false else yn3 k (fun (v0:Int) (x1:I3) (x2:I3) (p3:Bool)=>some false) (fun (v0:Int)=>some true) (a0,a1) k 0:=by
 rw [zc8]
 simp only [vm8]
 kernel_rfl
noncomputable def xh7 (k:Nat) (a0:I2) (a1:I2):Option (Bool):=den E k 332 [.agg [vI a0.1,vI a0.2],.agg [vI a1.1,vI a1.2]]
theorem jfb (k:Nat) (a0:I2) (a1:I2):xh7 (k+1) a0 a1=if (a0.1 !=a1.1)=true then some false else if (a0.2 !=a1.2)=true then some false else some true:=by kernel_rfl
noncomputable def j16 (k:Nat) (a0:I3) (a1:I3):Option (Bool):=den E k 264 [.agg (avs sI3 a0),.agg (avs sI3 a1)]
theorem jka (k:Nat) (a0:I3) (a1:I3):j16 (k+1) a0 a1=if (a0.1 !=a1.1)=true then some false else (xh7 k a0.2 a1.2).bind fun p1=>if (!p1)=true then some false else some true:=by kernel_rfl
noncomputable def vv3 (k:Nat) (a0:List I3) (a1:List I3):Option (Bool):=den E k 189 [.c (.l 193 yk a0),.c (.l 193 yk a1)]
abbrev xi2:=(List I3)×(List I3)
abbrev j71:=Int
def zr5 (c0:xi2) (v0:j71):St:=⟨27,0,[(0,.c (.l 193 yk c0.1)),(1,.c (.l 193 yk c0.2)),(5,cI v0)],[]⟩
noncomputable def jh6 {R:Type} (k:Nat) (X0:j71→I3→I3→Bool→Option R) (X1:j71→Option R) (c0:xi2) (rec:j71→Option R) (v0:j71):Option R:=if (decide (v0<(c0.1.length:Int)))=true then if 0≤v0 then ix c0.1 v0.toNat fun x1=>if 0≤v0 then ix c0.2 v0.toNat fun x2=>(j16 k x1 x2).bind fun p3=>if (!p3)=true then X0 v0 x1 x2 p3 else rec (i64.wrap (v0+1)) else none else none else X1 v0
noncomputable def yk3 {R:Type} (k:Nat) (X0:j71→I3→I3→Bool→Option R) (X1:j71→Option R) (c:xi2):Nat→j71→Option R
 | 0,_=>none
 | n+1,v=>jh6 k X0 X1 c (yk3 k X0 X1 c n) v
def ja5 (K:Ex→St→Option R) (c0:xi2) (v0:j71) (x1:I3) (x2:I3) (p3:Bool):Option R:=K .ret ⟨27,0,[(0,.c (.l 193 yk c0.1)),(1,.c (.l 193 yk c0.2)),(4,cB false),(5,cI v0),(11,cI v0),(12,.c (.l 193 yk c0.1)),(13,cI (c0.1.length:Int)),(14,cB (decide (v0<(c0.1.length:Int)))),(17,.c (.l 193 yk c0.1)),(18,cI v0),(19,.c (.at_ (avs sI3 x1))),(20,.agg (avs sI3 x1)),(21,.c (.l 193 yk c0.2)),(22,cI v0),(23,.c (.at_ (avs sI3 x2))),(24,.agg (avs sI3 x2)),(25,cB p3),(26,cB (!p3))],[]⟩
def x05 (K:Ex→St→Option R) (c0:xi2) (v0:j71):Option R:=K (.exit 0) ⟨27,0,[(0,.c (.l 193 yk c0.1)),(1,.c (.l 193 yk c0.2)),(5,cI v0),(11,cI v0),(12,.c (.l 193 yk c0.1)),(13,cI (c0.1.length:Int)),(14,cB (decide (v0<(c0.1.length:Int))))],[]⟩
theorem yf8 (k:Nat) (K:Ex→St→Option R) (c0:xi2):∀(n:Nat) (v:j71),z2 [0,0,1,5] (run E (den E k) (lv 189) k (j1 Tryz.f189 0)) n (zr5 c0 v) K=yk3 k (ja5 K c0) (x05 K c0) c0 n v:=j6 (B:=jh6 k (ja5 K c0) (x05 K c0) c0) fun n v=>by kernel_rfl
theorem j88 (k:Nat) (a0:List I3) (a1:List I3):vv3 (k+1) a0 a1=if ((a0.length:Int) !=(a1.length:Int))=true then some false else z2 (R:=Bool) [0,0,1,5] (run E (den E k) (lv 189) k (j1 Tryz.f189 0)) k (zr5 (a0,a1) 0) (z8 E (den E k) (lv 189) k (yc Tryz.f189) 0 [] (xa E (rs 189) Tryz.f189:Ex→St→Option (Bool))):=by kernel_rfl
theorem xaa (k:Nat) (a0:List I3) (a1:List I3):vv3 (k+1) a0 a1=if ((a0.length:Int) !=(a1.length:Int))=true then some false else yk3 k (fun (v0:Int) (x1:I3) (x2:I3) (p3:Bool)=>some false) (fun (v0:Int)=>some true) (a0,a1) k 0:=by
 rw [j88]
 simp only [yf8]
 kernel_rfl
noncomputable def zd7 (k:Nat) (a0:jd2) (a1:jd2):Option (Bool):=den E k 81 [.agg (avs xd2 a0),.agg (avs xd2 a1)]
theorem jjb (k:Nat) (a0:jd2) (a1:jd2):zd7 (k+1) a0 a1=if (a0.1 !=a1.1)=true then some false else (xu4 k a0.2.1 a1.2.1).bind fun p1=>if (!p1)=true then some false else (x64 k a0.2.2.1 a1.2.2.1).bind fun p2=>if (!p2)=true then some false else if (a0.2.2.2.1 !=a1.2.2.2.1)=true then some false else if (a0.2.2.2.2.1 !=a1.2.2.2.2.1)=true then some false else if (a0.2.2.2.2.2.1 !=a1.2.2.2.2.2.1)=true then some false else if (a0.2.2.2.2.2.2.1 !=a1.2.2.2.2.2.2.1)=true then some false else if (a0.2.2.2.2.2.2.2.1 !=a1.2.2.2.2.2.2.2.1)=true then some false else (vv3 k a0.2.2.2.2.2.2.2.2.1 a1.2.2.2.2.2.2.2.2.1).bind fun p3=>if (!p3)=true then some false else if (a0.2.2.2.2.2.2.2.2.2 !=a1.2.2.2.2.2.2.2.2.2)=true then some false else some true:=by kernel_rfl
noncomputable def za4 (k:Nat) (a0:Int×Int×List Int) (a1:Int×Int×List Int):Option (Bool):=den E k 194 [.agg (avs z6 a0),.agg (avs z6 a1)]
theorem z79 (k:Nat) (a0:Int×Int×List Int) (a1:Int×Int×List Int):za4 (k+1) a0 a1=if (a0.1 !=a1.1)=true then some false else if (a0.2.1 !=a1.2.1)=true then some false else (yl1 k a0.2.2 a1.2.2).bind fun p1=>if (!p1)=true then some false else some true:=by kernel_rfl
noncomputable def z03 (k:Nat) (a0:List (Int×Int×List Int)) (a1:List (Int×Int×List Int)):Option (Bool):=den E k 88 [.c (.l 205 z6 a0),.c (.l 205 z6 a1)]
abbrev jt1:=(List (Int×Int×List Int))×(List (Int×Int×List Int))
abbrev vu:=Int
def jl4 (c0:jt1) (v0:vu):St:=⟨27,0,[(0,.c (.l 205 z6 c0.1)),(1,.c (.l 205 z6 c0.2)),(5,cI v0)],[]⟩
noncomputable def ya5 {R:Type} (k:Nat) (X0:vu→(Int×Int×List Int)→(Int×Int×List Int)→Bool→Option R) (X1:vu→Option R) (c0:jt1) (rec:vu→Option R) (v0:vu):Option R:=if (decide (v0<(c0.1.length:Int)))=true then if 0≤v0 then ix c0.1 v0.toNat fun x1=>if 0≤v0 then ix c0.2 v0.toNat fun x2=>(za4 k x1 x2).bind fun p3=>if (!p3)=true then X0 v0 x1 x2 p3 else rec (i64.wrap (v0+1)) else none else none else X1 v0
noncomputable def yr2 {R:Type} (k:Nat) (X0:vu→(Int×Int×List Int)→(Int×Int×List Int)→Bool→Option R) (X1:vu→Option R) (c:jt1):Nat→vu→Option R
 | 0,_=>none
 | n+1,v=>ya5 k X0 X1 c (yr2 k X0 X1 c n) v
def wx3 (K:Ex→St→Option R) (c0:jt1) (v0:vu) (x1:Int×Int×List Int) (x2:Int×Int×List Int) (p3:Bool):Option R:=K .ret ⟨27,0,[(0,.c (.l 205 z6 c0.1)),(1,.c (.l 205 z6 c0.2)),(4,cB false),(5,cI v0),(11,cI v0),(12,.c (.l 205 z6 c0.1)),(13,cI (c0.1.length:Int)),(14,cB (decide (v0<(c0.1.length:Int)))),(17,.c (.l 205 z6 c0.1)),(18,cI v0),(19,.c (.at_ (avs z6 x1))),(20,.agg (avs z6 x1)),(21,.c (.l 205 z6 c0.2)),(22,cI v0),(23,.c (.at_ (avs z6 x2))),(24,.agg (avs z6 x2)),(25,cB p3),(26,cB (!p3))],[]⟩
def v54 (K:Ex→St→Option R) (c0:jt1) (v0:vu):Option R:=K (.exit 0) ⟨27,0,[(0,.c (.l 205 z6 c0.1)),(1,.c (.l 205 z6 c0.2)),(5,cI v0),(11,cI v0),(12,.c (.l 205 z6 c0.1)),(13,cI (c0.1.length:Int)),(14,cB (decide (v0<(c0.1.length:Int))))],[]⟩
theorem zj7 (k:Nat) (K:Ex→St→Option R) (c0:jt1):∀(n:Nat) (v:vu),z2 [0,0,1,5] (run E (den E k) (lv 88) k (j1 Tryz.f88 0)) n (jl4 c0 v) K=yr2 k (wx3 K c0) (v54 K c0) c0 n v:=j6 (B:=ya5 k (wx3 K c0) (v54 K c0) c0) fun n v=>by kernel_rfl
theorem zn7 (k:Nat) (a0:List (Int×Int×List Int)) (a1:List (Int×Int×List Int)):z03 (k+1) a0 a1=if ((a0.length:Int) !=(a1.length:Int))=true then some false else z2 (R:=Bool) [0,0,1,5] (run E (den E k) (lv 88) k (j1 Tryz.f88 0)) k (jl4 (a0,a1) 0) (z8 E (den E k) (lv 88) k (yc Tryz.f88) 0 [] (xa E (rs 88) Tryz.f88:Ex→St→Option (Bool))):=by kernel_rfl
theorem yq8 (k:Nat) (a0:List (Int×Int×List Int)) (a1:List (Int×Int×List Int)):z03 (k+1) a0 a1=if ((a0.length:Int) !=(a1.length:Int))=true then some false else yr2 k (fun (v0:Int) (x1:Int×Int×List Int) (x2:Int×Int×List Int) (p3:Bool)=>some false) (fun (v0:Int)=>some true) (a0,a1) k 0:=by
 rw [zn7]
 simp only [zj7]
 kernel_rfl
noncomputable def wh6 (k:Nat) (a0:xm) (a1:xm):Option (Bool):=den E k 14 [.agg (avs xi a0),.agg (avs xi a1)]
theorem zz9 (k:Nat) (a0:xm) (a1:xm):wh6 (k+1) a0 a1=(zd7 k a0.1 a1.1).bind fun p1=>if (!p1)=true then some false else (vo3 k a0.2.1 a1.2.1).bind fun p2=>if (!p2)=true then some false else (wb7 k a0.2.2.1 a1.2.2.1).bind fun p3=>if (!p3)=true then some false else (yl1 k a0.2.2.2.1 a1.2.2.2.1).bind fun p4=>if (!p4)=true then some false else (vl2 k a0.2.2.2.2.1 a1.2.2.2.2.1).bind fun p5=>if (!p5)=true then some false else (yi3 k a0.2.2.2.2.2.1 a1.2.2.2.2.2.1).bind fun p6=>if (!p6)=true then some false else (y74 k a0.2.2.2.2.2.2.1 a1.2.2.2.2.2.2.1).bind fun p7=>if (!p7)=true then some false else (yl1 k a0.2.2.2.2.2.2.2.1 a1.2.2.2.2.2.2.2.1).bind fun p8=>if (!p8)=true then some false else (z03 k a0.2.2.2.2.2.2.2.2.1 a1.2.2.2.2.2.2.2.2.1).bind fun p9=>if (!p9)=true then some false else (zg3 k a0.2.2.2.2.2.2.2.2.2.1 a1.2.2.2.2.2.2.2.2.2.1).bind fun p10=>if (!p10)=true then some false else if (a0.2.2.2.2.2.2.2.2.2.2.1 !=a1.2.2.2.2.2.2.2.2.2.2.1)=true then some false else if (a0.2.2.2.2.2.2.2.2.2.2.2.1 !=a1.2.2.2.2.2.2.2.2.2.2.2.1)=true then some false else (j22 k a0.2.2.2.2.2.2.2.2.2.2.2.2.1 a1.2.2.2.2.2.2.2.2.2.2.2.2.1).bind fun p11=>if (!p11)=true then some false else (yl2 k a0.2.2.2.2.2.2.2.2.2.2.2.2.2 a1.2.2.2.2.2.2.2.2.2.2.2.2.2).bind fun p12=>if (!p12)=true then some false else some true:=by kernel_rfl
noncomputable def zz2 (k:Nat) (a0:List I4) (a1:Int):Option (Int):=den E k 23 [.c (.l 146 sI4 a0),cI a1]
abbrev j11:=(List I4)
abbrev yg:=Int×Int
def vg4 (c0:j11) (v0:yg):St:=⟨49,0,[(0,.c (.l 146 sI4 c0)),(1,cI v0.1),(5,cI v0.2)],[]⟩
noncomputable def jv1 {R:Type} (k:Nat) (X0:yg→I4→Option R) (X1:yg→I4→I4→Option R) (X2:yg→I4→I4→I4→Option R) (X3:yg→I4→I4→I4→I4→Option R) (X4:yg→Option R) (c0:j11) (rec:yg→Option R) (v0:yg):Option R:=if (decide (v0.2<(c0.length:Int)))=true then if 0≤v0.2 then ix c0 v0.2.toNat fun x1=>if (x1.1 !=v0.1)=true then X0 v0 x1 else if 0≤v0.2 then ix c0 v0.2.toNat fun x2=>if (x2.2.1 !=(i64.wrap (v0.1+1)))=true then X1 v0 x1 x2 else if 0≤v0.2 then ix c0 v0.2.toNat fun x3=>if (x3.2.2.1 !=(i64.wrap ((i64.wrap (v0.1+1))+1)))=true then X2 v0 x1 x2 x3 else if 0≤v0.2 then ix c0 v0.2.toNat fun x4=>if (x4.2.2.2 !=(i64.wrap ((i64.wrap ((i64.wrap (v0.1+1))+1))+1)))=true then X3 v0 x1 x2 x3 x4 else rec ((i64.wrap ((i64.wrap ((i64.wrap ((i64.wrap (v0.1+1))+1))+1))+1)),(i64.wrap (v0.2+1))) else none else none else none else none else X4 v0
noncomputable def yu2 {R:Type} (k:Nat) (X0:yg→I4→Option R) (X1:yg→I4→I4→Option R) (X2:yg→I4→I4→I4→Option R) (X3:yg→I4→I4→I4→I4→Option R) (X4:yg→Option R) (c:j11):Nat→yg→Option R
 | 0,_=>none
 | n+1,v=>jv1 k X0 X1 X2 X3 X4 c (yu2 k X0 X1 X2 X3 X4 c n) v
def jx3 (K:Ex→St→Option R) (c0:j11) (v0:yg) (x1:I4):Option R:=K .ret ⟨49,0,[(0,.c (.l 146 sI4 c0)),(1,cI v0.1),(4,cI (-1)),(5,cI v0.2),(6,cI v0.2),(7,.c (.l 146 sI4 c0)),(8,cI (c0.length:Int)),(9,cB (decide (v0.2<(c0.length:Int)))),(12,.c (.l 146 sI4 c0)),(13,cI v0.2),(14,.c (.at_ (avs sI4 x1))),(15,.c (.at_ (avs sI4 x1))),(16,cI x1.1),(17,cI v0.1),(18,cB (x1.1 !=v0.1))],[]⟩
def y84 (K:Ex→St→Option R) (c0:j11) (v0:yg) (x1:I4) (x2:I4):Option R:=K .ret ⟨49,0,[(0,.c (.l 146 sI4 c0)),(1,cI (i64.wrap (v0.1+1))),(4,cI (-1)),(5,cI v0.2),(6,cI v0.2),(7,.c (.l 146 sI4 c0)),(8,cI (c0.length:Int)),(9,cB (decide (v0.2<(c0.length:Int)))),(12,.c (.l 146 sI4 c0)),(13,cI v0.2),(14,.c (.at_ (avs sI4 x1))),(15,.c (.at_ (avs sI4 x1))),(16,cI x1.1),(17,cI v0.1),(18,cB (x1.1 !=v0.1)),(19,cI v0.1),(20,cI (i64.wrap (v0.1+1))),(21,.c (.l 146 sI4 c0)),(22,cI v0.2),(23,.c (.at_ (avs sI4 x2))),(24,.c (.at_ (avs sI3 x2.2))),(25,cI x2.2.1),(26,cI (i64.wrap (v0.1+1))),(27,cB (x2.2.1 !=(i64.wrap (v0.1+1))))],[]⟩
def jz3 (K:Ex→St→Option R) (c0:j11) (v0:yg) (x1:I4) (x2:I4) (x3:I4):Option R:=K .ret ⟨49,0,[(0,.c (.l 146 sI4 c0)),(1,cI (i64.wrap ((i64.wrap (v0.1+1))+1))),(4,cI (-1)),(5,cI v0.2),(6,cI v0.2),(7,.c (.l 146 sI4 c0)),(8,cI (c0.length:Int)),(9,cB (decide (v0.2<(c0.length:Int)))),(12,.c (.l 146 sI4 c0)),(13,cI v0.2),(14,.c (.at_ (avs sI4 x1))),(15,.c (.at_ (avs sI4 x1))),(16,cI x1.1),(17,cI v0.1),(18,cB (x1.1 !=v0.1)),(19,cI v0.1),(20,cI (i64.wrap (v0.1+1))),(21,.c (.l 146 sI4 c0)),(22,cI v0.2),(23,.c (.at_ (avs sI4 x2))),(24,.c (.at_ (avs sI3 x2.2))),(25,cI x2.2.1),(26,cI (i64.wrap (v0.1+1))),(27,cB (x2.2.1 !=(i64.wrap (v0.1+1)))),(28,cI (i64.wrap (v0.1+1))),(29,cI (i64.wrap ((i64.wrap (v0.1+1))+1))),(30,.c (.l 146 sI4 c0)),(31,cI v0.2),(32,.c (.at_ (avs sI4 x3))),(33,.c (.at_ [vI x3.2.2.1,vI x3.2.2.2])),(34,cI x3.2.2.1),(35,cI (i64.wrap ((i64.wrap (v0.1+1))+1))),(36,cB (x3.2.2.1 !=(i64.wrap ((i64.wrap (v0.1+1))+1))))],[]⟩
def w44 (K:Ex→St→Option R) (c0:j11) (v0:yg) (x1:I4) (x2:I4) (x3:I4) (x4:I4):Option R:=K .ret ⟨49,0,[(0,.c (.l 146 sI4 c0)),(1,cI (i64.wrap ((i64.wrap ((i64.wrap (v0.1+1))+1))+1))),(4,cI (-1)),(5,cI v0.2),(6,cI v0.2),(7,.c (.l 146 sI4 c0)),(8,cI (c0.length:Int)),(9,cB (decide (v0.2<(c0.length:Int)))),(12,.c (.l 146 sI4 c0)),(13,cI v0.2),(14,.c (.at_ (avs sI4 x1))),(15,.c (.at_ (avs sI4 x1))),(16,cI x1.1),(17,cI v0.1),(18,cB (x1.1 !=v0.1)),(19,cI v0.1),(20,cI (i64.wrap (v0.1+1))),(21,.c (.l 146 sI4 c0)),(22,cI v0.2),(23,.c (.at_ (avs sI4 x2))),(24,.c (.at_ (avs sI3 x2.2))),(25,cI x2.2.1),(26,cI (i64.wrap (v0.1+1))),(27,cB (x2.2.1 !=(i64.wrap (v0.1+1)))),(28,cI (i64.wrap (v0.1+1))),(29,cI (i64.wrap ((i64.wrap (v0.1+1))+1))),(30,.c (.l 146 sI4 c0)),(31,cI v0.2),(32,.c (.at_ (avs sI4 x3))),(33,.c (.at_ [vI x3.2.2.1,vI x3.2.2.2])),(34,cI x3.2.2.1),(35,cI (i64.wrap ((i64.wrap (v0.1+1))+1))),(36,cB (x3.2.2.1 !=(i64.wrap ((i64.wrap (v0.1+1))+1)))),(37,cI (i64.wrap ((i64.wrap (v0.1+1))+1))),(38,cI (i64.wrap ((i64.wrap ((i64.wrap (v0.1+1))+1))+1))),(39,.c (.l 146 sI4 c0)),(40,cI v0.2),(41,.c (.at_ (avs sI4 x4))),(42,.c (.at_ [vI x4.2.2.2])),(43,cI x4.2.2.2),(44,cI (i64.wrap ((i64.wrap ((i64.wrap (v0.1+1))+1))+1))),(45,cB (x4.2.2.2 !=(i64.wrap ((i64.wrap ((i64.wrap (v0.1+1))+1))+1))))],[]⟩
def xz3 (K:Ex→St→Option R) (c0:j11) (v0:yg):Option R:=K (.exit 0) ⟨49,0,[(0,.c (.l 146 sI4 c0)),(1,cI v0.1),(5,cI v0.2),(6,cI v0.2),(7,.c (.l 146 sI4 c0)),(8,cI (c0.length:Int)),(9,cB (decide (v0.2<(c0.length:Int))))],[]⟩
theorem wl7 (k:Nat) (K:Ex→St→Option R) (c0:j11):∀(n:Nat) (v:yg),z2 [0,0,1,5] (run E (den E k) (lv 23) k (j1 Tryz.f23 0)) n (vg4 c0 v) K=yu2 k (jx3 K c0) (y84 K c0) (jz3 K c0) (w44 K c0) (xz3 K c0) c0 n v:=j6 (B:=jv1 k (jx3 K c0) (y84 K c0) (jz3 K c0) (w44 K c0) (xz3 K c0) c0) fun n v=>by kernel_rfl
theorem wi7 (k:Nat) (a0:List I4) (a1:Int):zz2 (k+1) a0 a1=z2 (R:=Int) [0,0,1,5] (run E (den E k) (lv 23) k (j1 Tryz.f23 0)) k (vg4 a0 (a1,0)) (z8 E (den E k) (lv 23) k (yc Tryz.f23) 0 [] (xa E (rs 23) Tryz.f23:Ex→St→Option (Int))):=by kernel_rfl
theorem xr8 (k:Nat) (a0:List I4) (a1:Int):zz2 (k+1) a0 a1=yu2 k (fun (v0:I2) (x1:I4)=>some (-1)) (fun (v0:I2) (x1:I4) (x2:I4)=>some (-1)) (fun (v0:I2) (x1:I4) (x2:I4) (x3:I4)=>some (-1)) (fun (v0:I2) (x1:I4) (x2:I4) (x3:I4) (x4:I4)=>some (-1)) (fun (v0:I2)=>some v0.1) a0 k (a1,0):=by
 rw [wi7]
 simp only [wl7]
 kernel_rfl
noncomputable def y03 (k:Nat) (a0:List I4) (a1:Int):Option (Int×List I4):=den E k 22 [.c (.l 146 sI4 a0),cI a1]
abbrev j82:=Unit
abbrev xd1:=Int×Int×(List I4)
def jh4 (c0:j82) (v0:xd1):St:=⟨41,1,[(0,.c (.ref 0)),(1,cI v0.1),(5,cI v0.2.1)],[(0,.arr 146 sI4 v0.2.2)]⟩
noncomputable def wv1 {R:Type} (k:Nat) (X0:xd1→Option R) (c0:j82) (rec:xd1→Option R) (v0:xd1):Option R:=if (decide (v0.2.1<(v0.2.2.length:Int)))=true then if 0≤v0.2.1 then if v0.2.1<(v0.2.2.length:Int) then ix v0.2.2 v0.2.1.toNat fun y1=>if 0≤v0.2.1 then if v0.2.1<((v0.2.2.set v0.2.1.toNat (v0.1,y1.2.1,y1.2.2.1,y1.2.2.2)).length:Int) then ix (v0.2.2.set v0.2.1.toNat (v0.1,y1.2.1,y1.2.2.1,y1.2.2.2)) v0.2.1.toNat fun y2=>if 0≤v0.2.1 then if v0.2.1<(((v0.2.2.set v0.2.1.toNat (v0.1,y1.2.1,y1.2.2.1,y1.2.2.2)).set v0.2.1.toNat (y2.1,(i64.wrap (v0.1+1)),y2.2.2.1,y2.2.2.2)).length:Int) then ix ((v0.2.2.set v0.2.1.toNat (v0.1,y1.2.1,y1.2.2.1,y1.2.2.2)).set v0.2.1.toNat (y2.1,(i64.wrap (v0.1+1)),y2.2.2.1,y2.2.2.2)) v0.2.1.toNat fun y3=>if 0≤v0.2.1 then if v0.2.1<((((v0.2.2.set v0.2.1.toNat (v0.1,y1.2.1,y1.2.2.1,y1.2.2.2)).set v0.2.1.toNat (y2.1,(i64.wrap (v0.1+1)),y2.2.2.1,y2.2.2.2)).set v0.2.1.toNat (y3.1,y3.2.1,(i64.wrap ((i64.wrap (v0.1+1))+1)),y3.2.2.2)).length:Int) then ix (((v0.2.2.set v0.2.1.toNat (v0.1,y1.2.1,y1.2.2.1,y1.2.2.2)).set v0.2.1.toNat (y2.1,(i64.wrap (v0.1+1)),y2.2.2.1,y2.2.2.2)).set v0.2.1.toNat (y3.1,y3.2.1,(i64.wrap ((i64.wrap (v0.1+1))+1)),y3.2.2.2)) v0.2.1.toNat fun y4=>rec ((i64.wrap ((i64.wrap ((i64.wrap ((i64.wrap (v0.1+1))+1))+1))+1)),(i64.wrap (v0.2.1+1)),((((v0.2.2.set v0.2.1.toNat (v0.1,y1.2.1,y1.2.2.1,y1.2.2.2)).set v0.2.1.toNat (y2.1,(i64.wrap (v0.1+1)),y2.2.2.1,y2.2.2.2)).set v0.2.1.toNat (y3.1,y3.2.1,(i64.wrap ((i64.wrap (v0.1+1))+1)),y3.2.2.2)).set v0.2.1.toNat (y4.1,y4.2.1,y4.2.2.1,(i64.wrap ((i64.wrap ((i64.wrap (v0.1+1))+1))+1))))) else none else none else none else none else none else none else none else none else X0 v0
noncomputable def zt2 {R:Type} (k:Nat) (X0:xd1→Option R) (c:j82):Nat→xd1→Option R
 | 0,_=>none
 | n+1,v=>wv1 k X0 c (zt2 k X0 c n) v
def y54 (K:Ex→St→Option R) (c0:j82) (v0:xd1):Option R:=K (.exit 0) ⟨41,1,[(0,.c (.ref 0)),(1,cI v0.1),(5,cI v0.2.1),(6,cI v0.2.1),(7,.c (.ref 0)),(8,cI (v0.2.2.length:Int)),(9,cB (decide (v0.2.1<(v0.2.2.length:Int))))],[(0,.arr 146 sI4 v0.2.2)]⟩
theorem wf7 (k:Nat) (K:Ex→St→Option R) (c0:j82):∀(n:Nat) (v:xd1),z2 [1,0,1,5] (run E (den E k) (lv 22) k (j1 Tryz.f22 0)) n (jh4 c0 v) K=zt2 k (y54 K c0) c0 n v:=j6 (B:=wv1 k (y54 K c0) c0) fun n v=>by kernel_rfl
theorem w97 (k:Nat) (a0:List I4) (a1:Int):y03 (k+1) a0 a1=z2 (R:=Int×List I4) [1,0,1,5] (run E (den E k) (lv 22) k (j1 Tryz.f22 0)) k (jh4 () (a1,0,a0)) (z8 E (den E k) (lv 22) k (yc Tryz.f22) 0 [] (xa E (rs 22) Tryz.f22:Ex→St→Option (Int×List I4))):=by kernel_rfl
theorem y98 (k:Nat) (a0:List I4) (a1:Int):y03 (k+1) a0 a1=zt2 k (fun (v0:Int×Int×(List I4))=>some (v0.1,v0.2.2)) () k (a1,0,a0):=by
 rw [w97]
 simp only [wf7]
 kernel_rfl
noncomputable def zj2 (k:Nat) (a0:List I6) (a1:Int):Option (Int×List I6):=den E k 104 [.c (.l 159 sI6 a0),cI a1]
abbrev xm1:=Unit
abbrev yv:=Int×Int×(List I6)
def xh3 (c0:xm1) (v0:yv):St:=⟨55,1,[(0,.c (.ref 0)),(1,cI v0.1),(5,cI v0.2.1)],[(0,.arr 159 sI6 v0.2.2)]⟩
noncomputable def za1 {R:Type} (k:Nat) (X0:yv→Option R) (c0:xm1) (rec:yv→Option R) (v0:yv):Option R:=if (decide (v0.2.1<(v0.2.2.length:Int)))=true then if 0≤v0.2.1 then if v0.2.1<(v0.2.2.length:Int) then ix v0.2.2 v0.2.1.toNat fun y1=>if 0≤v0.2.1 then if v0.2.1<((v0.2.2.set v0.2.1.toNat (v0.1,y1.2.1,y1.2.2.1,y1.2.2.2.1,y1.2.2.2.2.1,y1.2.2.2.2.2)).length:Int) then ix (v0.2.2.set v0.2.1.toNat (v0.1,y1.2.1,y1.2.2.1,y1.2.2.2.1,y1.2.2.2.2.1,y1.2.2.2.2.2)) v0.2.1.toNat fun y2=>if 0≤v0.2.1 then if v0.2.1<(((v0.2.2.set v0.2.1.toNat (v0.1,y1.2.1,y1.2.2.1,y1.2.2.2.1,y1.2.2.2.2.1,y1.2.2.2.2.2)).set v0.2.1.toNat (y2.1,(i64.wrap (v0.1+1)),y2.2.2.1,y2.2.2.2.1,y2.2.2.2.2.1,y2.2.2.2.2.2)).length:Int) then ix ((v0.2.2.set v0.2.1.toNat (v0.1,y1.2.1,y1.2.2.1,y1.2.2.2.1,y1.2.2.2.2.1,y1.2.2.2.2.2)).set v0.2.1.toNat (y2.1,(i64.wrap (v0.1+1)),y2.2.2.1,y2.2.2.2.1,y2.2.2.2.2.1,y2.2.2.2.2.2)) v0.2.1.toNat fun y3=>if 0≤v0.2.1 then if v0.2.1<((((v0.2.2.set v0.2.1.toNat (v0.1,y1.2.1,y1.2.2.1,y1.2.2.2.1,y1.2.2.2.2.1,y1.2.2.2.2.2)).set v0.2.1.toNat (y2.1,(i64.wrap (v0.1+1)),y2.2.2.1,y2.2.2.2.1,y2.2.2.2.2.1,y2.2.2.2.2.2)).set v0.2.1.toNat (y3.1,y3.2.1,(i64.wrap ((i64.wrap (v0.1+1))+1)),y3.2.2.2.1,y3.2.2.2.2.1,y3.2.2.2.2.2)).length:Int) then ix (((v0.2.2.set v0.2.1.toNat (v0.1,y1.2.1,y1.2.2.1,y1.2.2.2.1,y1.2.2.2.2.1,y1.2.2.2.2.2)).set v0.2.1.toNat (y2.1,(i64.wrap (v0.1+1)),y2.2.2.1,y2.2.2.2.1,y2.2.2.2.2.1,y2.2.2.2.2.2)).set v0.2.1.toNat (y3.1,y3.2.1,(i64.wrap ((i64.wrap (v0.1+1))+1)),y3.2.2.2.1,y3.2.2.2.2.1,y3.2.2.2.2.2)) v0.2.1.toNat fun y4=>if 0≤v0.2.1 then if v0.2.1<(((((v0.2.2.set v0.2.1.toNat (v0.1,y1.2.1,y1.2.2.1,y1.2.2.2.1,y1.2.2.2.2.1,y1.2.2.2.2.2)).set v0.2.1.toNat (y2.1,(i64.wrap (v0.1+1)),y2.2.2.1,y2.2.2.2.1,y2.2.2.2.2.1,y2.2.2.2.2.2)).set v0.2.1.toNat (y3.1,y3.2.1,(i64.wrap ((i64.wrap (v0.1+1))+1)),y3.2.2.2.1,y3.2.2.2.2.1,y3.2.2.2.2.2)).set v0.2.1.toNat (y4.1,y4.2.1,y4.2.2.1,(i64.wrap ((i64.wrap ((i64.wrap (v0.1+1))+1))+1)),y4.2.2.2.2.1,y4.2.2.2.2.2)).length:Int) then ix ((((v0.2.2.set v0.2.1.toNat (v0.1,y1.2.1,y1.2.2.1,y1.2.2.2.1,y1.2.2.2.2.1,y1.2.2.2.2.2)).set v0.2.1.toNat (y2.1,(i64.wrap (v0.1+1)),y2.2.2.1,y2.2.2.2.1,y2.2.2.2.2.1,y2.2.2.2.2.2)).set v0.2.1.toNat (y3.1,y3.2.1,(i64.wrap ((i64.wrap (v0.1+1))+1)),y3.2.2.2.1,y3.2.2.2.2.1,y3.2.2.2.2.2)).set v0.2.1.toNat (y4.1,y4.2.1,y4.2.2.1,(i64.wrap ((i64.wrap ((i64.wrap (v0.1+1))+1))+1)),y4.2.2.2.2.1,y4.2.2.2.2.2)) v0.2.1.toNat fun y5=>if 0≤v0.2.1 then if v0.2.1<((((((v0.2.2.set v0.2.1.toNat (v0.1,y1.2.1,y1.2.2.1,y1.2.2.2.1,y1.2.2.2.2.1,y1.2.2.2.2.2)).set v0.2.1.toNat (y2.1,(i64.wrap (v0.1+1)),y2.2.2.1,y2.2.2.2.1,y2.2.2.2.2.1,y2.2.2.2.2.2)).set v0.2.1.toNat (y3.1,y3.2.1,(i64.wrap ((i64.wrap (v0.1+1))+1)),y3.2.2.2.1,y3.2.2.2.2.1,y3.2.2.2.2.2)).set v0.2.1.toNat (y4.1,y4.2.1,y4.2.2.1,(i64.wrap ((i64.wrap ((i64.wrap (v0.1+1))+1))+1)),y4.2.2.2.2.1,y4.2.2.2.2.2)).set v0.2.1.toNat (y5.1,y5.2.1,y5.2.2.1,y5.2.2.2.1,(i64.wrap ((i64.wrap ((i64.wrap ((i64.wrap (v0.1+1))+1))+1))+1)),y5.2.2.2.2.2)).length:Int) then ix (((((v0.2.2.set v0.2.1.toNat (v0.1,y1.2.1,y1.2.2.1,y1.2.2.2.1,y1.2.2.2.2.1,y1.2.2.2.2.2)).set v0.2.1.toNat (y2.1,(i64.wrap (v0.1+1)),y2.2.2.1,y2.2.2.2.1,y2.2.2.2.2.1,y2.2.2.2.2.2)).set v0.2.1.toNat (y3.1,y3.2.1,(i64.wrap ((i64.wrap (v0.1+1))+1)),y3.2.2.2.1,y3.2.2.2.2.1,y3.2.2.2.2.2)).set v0.2.1.toNat (y4.1,y4.2.1,y4.2.2.1,(i64.wrap ((i64.wrap ((i64.wrap (v0.1+1))+1))+1)),y4.2.2.2.2.1,y4.2.2.2.2.2)).set v0.2.1.toNat (y5.1,y5.2.1,y5.2.2.1,y5.2.2.2.1,(i64.wrap ((i64.wrap ((i64.wrap ((i64.wrap (v0.1+1))+1))+1))+1)),y5.2.2.2.2.2)) v0.2.1.toNat fun y6=>rec ((i64.wrap ((i64.wrap ((i64.wrap ((i64.wrap ((i64.wrap ((i64.wrap (v0.1+1))+1))+1))+1))+1))+1)),(i64.wrap (v0.2.1+1)),((((((v0.2.2.set v0.2.1.toNat (v0.1,y1.2.1,y1.2.2.1,y1.2.2.2.1,y1.2.2.2.2.1,y1.2.2.2.2.2)).set v0.2.1.toNat (y2.1,(i64.wrap (v0.1+1)),y2.2.2.1,y2.2.2.2.1,y2.2.2.2.2.1,y2.2.2.2.2.2)).set v0.2.1.toNat (y3.1,y3.2.1,(i64.wrap ((i64.wrap (v0.1+1))+1)),y3.2.2.2.1,y3.2.2.2.2.1,y3.2.2.2.2.2)).set v0.2.1.toNat (y4.1,y4.2.1,y4.2.2.1,(i64.wrap ((i64.wrap ((i64.wrap (v0.1+1))+1))+1)),y4.2.2.2.2.1,y4.2.2.2.2.2)).set v0.2.1.toNat (y5.1,y5.2.1,y5.2.2.1,y5.2.2.2.1,(i64.wrap ((i64.wrap ((i64.wrap ((i64.wrap (v0.1+1))+1))+1))+1)),y5.2.2.2.2.2)).set v0.2.1.toNat (y6.1,y6.2.1,y6.2.2.1,y6.2.2.2.1,y6.2.2.2.2.1,(i64.wrap ((i64.wrap ((i64.wrap ((i64.wrap ((i64.wrap (v0.1+1))+1))+1))+1))+1))))) else none else none else none else none else none else none else none else none else none else none else none else none else X0 v0
noncomputable def xz1 {R:Type} (k:Nat) (X0:yv→Option R) (c:xm1):Nat→yv→Option R
 | 0,_=>none
 | n+1,v=>za1 k X0 c (xz1 k X0 c n) v
def z93 (K:Ex→St→Option R) (c0:xm1) (v0:yv):Option R:=K (.exit 0) ⟨55,1,[(0,.c (.ref 0)),(1,cI v0.1),(5,cI v0.2.1),(6,cI v0.2.1),(7,.c (.ref 0)),(8,cI (v0.2.2.length:Int)),(9,cB (decide (v0.2.1<(v0.2.2.length:Int))))],[(0,.arr 159 sI6 v0.2.2)]⟩
theorem xw5 (k:Nat) (K:Ex→St→Option R) (c0:xm1):∀(n:Nat) (v:yv),z2 [1,0,1,5] (run E (den E k) (lv 104) k (j1 Tryz.f104 0)) n (xh3 c0 v) K=xz1 k (z93 K c0) c0 n v:=j6 (B:=za1 k (z93 K c0) c0) fun n v=>by kernel_rfl
theorem w06 (k:Nat) (a0:List I6) (a1:Int):zj2 (k+1) a0 a1=z2 (R:=Int×List I6) [1,0,1,5] (run E (den E k) (lv 104) k (j1 Tryz.f104 0)) k (xh3 () (a1,0,a0)) (z8 E (den E k) (lv 104) k (yc Tryz.f104) 0 [] (xa E (rs 104) Tryz.f104:Ex→St→Option (Int×List I6))):=by kernel_rfl
theorem wx6 (k:Nat) (a0:List I6) (a1:Int):zj2 (k+1) a0 a1=xz1 k (fun (v0:Int×Int×(List I6))=>some (v0.1,v0.2.2)) () k (a1,0,a0):=by
 rw [w06]
 simp only [xw5]
 kernel_rfl
noncomputable def x63 (k:Nat) (a0:List I4) (a1:Int):Option (Int×List I4):=den E k 108 [.c (.l 86 sI4 a0),cI a1]
abbrev jy1:=Unit
abbrev j31:=Int×Int×(List I4)
def vx3 (c0:jy1) (v0:j31):St:=⟨41,1,[(0,.c (.ref 0)),(1,cI v0.1),(5,cI v0.2.1)],[(0,.arr 86 sI4 v0.2.2)]⟩
noncomputable def zo1 {R:Type} (k:Nat) (X0:j31→Option R) (c0:jy1) (rec:j31→Option R) (v0:j31):Option R:=if (decide (v0.2.1<(v0.2.2.length:Int)))=true then if 0≤v0.2.1 then if v0.2.1<(v0.2.2.length:Int) then ix v0.2.2 v0.2.1.toNat fun y1=>if 0≤v0.2.1 then if v0.2.1<((v0.2.2.set v0.2.1.toNat (v0.1,y1.2.1,y1.2.2.1,y1.2.2.2)).length:Int) then ix (v0.2.2.set v0.2.1.toNat (v0.1,y1.2.1,y1.2.2.1,y1.2.2.2)) v0.2.1.toNat fun y2=>if 0≤v0.2.1 then if v0.2.1<(((v0.2.2.set v0.2.1.toNat (v0.1,y1.2.1,y1.2.2.1,y1.2.2.2)).set v0.2.1.toNat (y2.1,(i64.wrap (v0.1+1)),y2.2.2.1,y2.2.2.2)).length:Int) then ix ((v0.2.2.set v0.2.1.toNat (v0.1,y1.2.1,y1.2.2.1,y1.2.2.2)).set v0.2.1.toNat (y2.1,(i64.wrap (v0.1+1)),y2.2.2.1,y2.2.2.2)) v0.2.1.toNat fun y3=>if 0≤v0.2.1 then if v0.2.1<((((v0.2.2.set v0.2.1.toNat (v0.1,y1.2.1,y1.2.2.1,y1.2.2.2)).set v0.2.1.toNat (y2.1,(i64.wrap (v0.1+1)),y2.2.2.1,y2.2.2.2)).set v0.2.1.toNat (y3.1,y3.2.1,(i64.wrap ((i64.wrap (v0.1+1))+1)),y3.2.2.2)).length:Int) then ix (((v0.2.2.set v0.2.1.toNat (v0.1,y1.2.1,y1.2.2.1,y1.2.2.2)).set v0.2.1.toNat (y2.1,(i64.wrap (v0.1+1)),y2.2.2.1,y2.2.2.2)).set v0.2.1.toNat (y3.1,y3.2.1,(i64.wrap ((i64.wrap (v0.1+1))+1)),y3.2.2.2)) v0.2.1.toNat fun y4=>rec ((i64.wrap ((i64.wrap ((i64.wrap ((i64.wrap (v0.1+1))+1))+1))+1)),(i64.wrap (v0.2.1+1)),((((v0.2.2.set v0.2.1.toNat (v0.1,y1.2.1,y1.2.2.1,y1.2.2.2)).set v0.2.1.toNat (y2.1,(i64.wrap (v0.1+1)),y2.2.2.1,y2.2.2.2)).set v0.2.1.toNat (y3.1,y3.2.1,(i64.wrap ((i64.wrap (v0.1+1))+1)),y3.2.2.2)).set v0.2.1.toNat (y4.1,y4.2.1,y4.2.2.1,(i64.wrap ((i64.wrap ((i64.wrap (v0.1+1))+1))+1))))) else none else none else none else none else none else none else none else none else X0 v0
noncomputable def yk2 {R:Type} (k:Nat) (X0:j31→Option R) (c:jy1):Nat→j31→Option R
 | 0,_=>none
 | n+1,v=>zo1 k X0 c (yk2 k X0 c n) v
def yt3 (K:Ex→St→Option R) (c0:jy1) (v0:j31):Option R:=K (.exit 0) ⟨41,1,[(0,.c (.ref 0)),(1,cI v0.1),(5,cI v0.2.1),(6,cI v0.2.1),(7,.c (.ref 0)),(8,cI (v0.2.2.length:Int)),(9,cB (decide (v0.2.1<(v0.2.2.length:Int))))],[(0,.arr 86 sI4 v0.2.2)]⟩
theorem wu6 (k:Nat) (K:Ex→St→Option R) (c0:jy1):∀(n:Nat) (v:j31),z2 [1,0,1,5] (run E (den E k) (lv 108) k (j1 Tryz.f108 0)) n (vx3 c0 v) K=yk2 k (yt3 K c0) c0 n v:=j6 (B:=zo1 k (yt3 K c0) c0) fun n v=>by kernel_rfl
theorem ww6 (k:Nat) (a0:List I4) (a1:Int):x63 (k+1) a0 a1=z2 (R:=Int×List I4) [1,0,1,5] (run E (den E k) (lv 108) k (j1 Tryz.f108 0)) k (vx3 () (a1,0,a0)) (z8 E (den E k) (lv 108) k (yc Tryz.f108) 0 [] (xa E (rs 108) Tryz.f108:Ex→St→Option (Int×List I4))):=by kernel_rfl
theorem z68 (k:Nat) (a0:List I4) (a1:Int):x63 (k+1) a0 a1=yk2 k (fun (v0:Int×Int×(List I4))=>some (v0.1,v0.2.2)) () k (a1,0,a0):=by
 rw [ww6]
 simp only [wu6]
 kernel_rfl
noncomputable def wm3 (k:Nat) (a0:List I4) (a1:Int):Option (Int×List I4):=den E k 106 [.c (.l 85 sI4 a0),cI a1]
abbrev w82:=Unit
abbrev wc1:=Int×Int×(List I4)
def zm4 (c0:w82) (v0:wc1):St:=⟨41,1,[(0,.c (.ref 0)),(1,cI v0.1),(5,cI v0.2.1)],[(0,.arr 85 sI4 v0.2.2)]⟩
noncomputable def vw1 {R:Type} (k:Nat) (X0:wc1→Option R) (c0:w82) (rec:wc1→Option R) (v0:wc1):Option R:=if (decide (v0.2.1<(v0.2.2.length:Int)))=true then if 0≤v0.2.1 then if v0.2.1<(v0.2.2.length:Int) then ix v0.2.2 v0.2.1.toNat fun y1=>if 0≤v0.2.1 then if v0.2.1<((v0.2.2.set v0.2.1.toNat (v0.1,y1.2.1,y1.2.2.1,y1.2.2.2)).length:Int) then ix (v0.2.2.set v0.2.1.toNat (v0.1,y1.2.1,y1.2.2.1,y1.2.2.2)) v0.2.1.toNat fun y2=>if 0≤v0.2.1 then if v0.2.1<(((v0.2.2.set v0.2.1.toNat (v0.1,y1.2.1,y1.2.2.1,y1.2.2.2)).set v0.2.1.toNat (y2.1,(i64.wrap (v0.1+1)),y2.2.2.1,y2.2.2.2)).length:Int) then ix ((v0.2.2.set v0.2.1.toNat (v0.1,y1.2.1,y1.2.2.1,y1.2.2.2)).set v0.2.1.toNat (y2.1,(i64.wrap (v0.1+1)),y2.2.2.1,y2.2.2.2)) v0.2.1.toNat fun y3=>if 0≤v0.2.1 then if v0.2.1<((((v0.2.2.set v0.2.1.toNat (v0.1,y1.2.1,y1.2.2.1,y1.2.2.2)).set v0.2.1.toNat (y2.1,(i64.wrap (v0.1+1)),y2.2.2.1,y2.2.2.2)).set v0.2.1.toNat (y3.1,y3.2.1,(i64.wrap ((i64.wrap (v0.1+1))+1)),y3.2.2.2)).length:Int) then ix (((v0.2.2.set v0.2.1.toNat (v0.1,y1.2.1,y1.2.2.1,y1.2.2.2)).set v0.2.1.toNat (y2.1,(i64.wrap (v0.1+1)),y2.2.2.1,y2.2.2.2)).set v0.2.1.toNat (y3.1,y3.2.1,(i64.wrap ((i64.wrap (v0.1+1))+1)),y3.2.2.2)) v0.2.1.toNat fun y4=>rec ((i64.wrap ((i64.wrap ((i64.wrap ((i64.wrap (v0.1+1))+1))+1))+1)),(i64.wrap (v0.2.1+1)),((((v0.2.2.set v0.2.1.toNat (v0.1,y1.2.1,y1.2.2.1,y1.2.2.2)).set v0.2.1.toNat (y2.1,(i64.wrap (v0.1+1)),y2.2.2.1,y2.2.2.2)).set v0.2.1.toNat (y3.1,y3.2.1,(i64.wrap ((i64.wrap (v0.1+1))+1)),y3.2.2.2)).set v0.2.1.toNat (y4.1,y4.2.1,y4.2.2.1,(i64.wrap ((i64.wrap ((i64.wrap (v0.1+1))+1))+1))))) else none else none else none else none else none else none else none else none else X0 v0
noncomputable def wu2 {R:Type} (k:Nat) (X0:wc1→Option R) (c:w82):Nat→wc1→Option R
 | 0,_=>none
 | n+1,v=>vw1 k X0 c (wu2 k X0 c n) v
def ju3 (K:Ex→St→Option R) (c0:w82) (v0:wc1):Option R:=K (.exit 0) ⟨41,1,[(0,.c (.ref 0)),(1,cI v0.1),(5,cI v0.2.1),(6,cI v0.2.1),(7,.c (.ref 0)),(8,cI (v0.2.2.length:Int)),(9,cB (decide (v0.2.1<(v0.2.2.length:Int))))],[(0,.arr 85 sI4 v0.2.2)]⟩
theorem vh7 (k:Nat) (K:Ex→St→Option R) (c0:w82):∀(n:Nat) (v:wc1),z2 [1,0,1,5] (run E (den E k) (lv 106) k (j1 Tryz.f106 0)) n (zm4 c0 v) K=wu2 k (ju3 K c0) c0 n v:=j6 (B:=vw1 k (ju3 K c0) c0) fun n v=>by kernel_rfl
theorem jl7 (k:Nat) (a0:List I4) (a1:Int):wm3 (k+1) a0 a1=z2 (R:=Int×List I4) [1,0,1,5] (run E (den E k) (lv 106) k (j1 Tryz.f106 0)) k (zm4 () (a1,0,a0)) (z8 E (den E k) (lv 106) k (yc Tryz.f106) 0 [] (xa E (rs 106) Tryz.f106:Ex→St→Option (Int×List I4))):=by kernel_rfl
theorem wm8 (k:Nat) (a0:List I4) (a1:Int):wm3 (k+1) a0 a1=wu2 k (fun (v0:Int×Int×(List I4))=>some (v0.1,v0.2.2)) () k (a1,0,a0):=by
 rw [jl7]
 simp only [vh7]
 kernel_rfl
noncomputable def ju1 (k:Nat) (a0:List Int) (a1:Int):Option (Int×List Int):=den E k 103 [.c (.l 3 (.i .i64) a0),cI a1]
abbrev xo2:=Unit
abbrev vj1:=Int×Int×(List Int)
def xw4 (c0:xo2) (v0:vj1):St:=⟨19,1,[(0,.c (.ref 0)),(1,cI v0.1),(5,cI v0.2.1)],[(0,.arr 3 (.i .i64) v0.2.2)]⟩
noncomputable def x62 {R:Type} (k:Nat) (X0:vj1→Option R) (c0:xo2) (rec:vj1→Option R) (v0:vj1):Option R:=if (decide (v0.2.1<(v0.2.2.length:Int)))=true then if 0≤v0.2.1 then if v0.2.1<(v0.2.2.length:Int) then ix v0.2.2 v0.2.1.toNat fun y1=>rec ((i64.wrap (v0.1+1)),(i64.wrap (v0.2.1+1)),(v0.2.2.set v0.2.1.toNat v0.1)) else none else none else X0 v0
noncomputable def x93 {R:Type} (k:Nat) (X0:vj1→Option R) (c:xo2):Nat→vj1→Option R
 | 0,_=>none
 | n+1,v=>x62 k X0 c (x93 k X0 c n) v
def wk4 (K:Ex→St→Option R) (c0:xo2) (v0:vj1):Option R:=K (.exit 0) ⟨19,1,[(0,.c (.ref 0)),(1,cI v0.1),(5,cI v0.2.1),(6,cI v0.2.1),(7,.c (.ref 0)),(8,cI (v0.2.2.length:Int)),(9,cB (decide (v0.2.1<(v0.2.2.length:Int))))],[(0,.arr 3 (.i .i64) v0.2.2)]⟩
theorem v28 (k:Nat) (K:Ex→St→Option R) (c0:xo2):∀(n:Nat) (v:vj1),z2 [1,0,1,5] (run E (den E k) (lv 103) k (j1 Tryz.f103 0)) n (xw4 c0 v) K=x93 k (wk4 K c0) c0 n v:=j6 (B:=x62 k (wk4 K c0) c0) fun n v=>by kernel_rfl
theorem x18 (k:Nat) (a0:List Int) (a1:Int):ju1 (k+1) a0 a1=z2 (R:=Int×List Int) [1,0,1,5] (run E (den E k) (lv 103) k (j1 Tryz.f103 0)) k (xw4 () (a1,0,a0)) (z8 E (den E k) (lv 103) k (yc Tryz.f103) 0 [] (xa E (rs 103) Tryz.f103:Ex→St→Option (Int×List Int))):=by kernel_rfl
theorem wk9 (k:Nat) (a0:List Int) (a1:Int):ju1 (k+1) a0 a1=x93 k (fun (v0:Int×Int×(List Int))=>some (v0.1,v0.2.2)) () k (a1,0,a0):=by
 rw [x18]
 simp only [v28]
 kernel_rfl
noncomputable def vb6 (k:Nat) (a0:List Int) (a1:Int):Option (Int×List Int):=den E k 102 [.agg [.l 3 (.i .i64) a0],cI a1]
theorem j6a (k:Nat) (a0:List Int) (a1:Int):vb6 (k+1) a0 a1=(ju1 k a0 a1).bind fun p1=>some p1:=by kernel_rfl
noncomputable def za2 (k:Nat) (a0:List I6) (a1:Int):Option (Int×List I6):=den E k 109 [.c (.l 66 sI6 a0),cI a1]
abbrev xs1:=Unit
abbrev zy:=Int×Int×(List I6)
def ys3 (c0:xs1) (v0:zy):St:=⟨55,1,[(0,.c (.ref 0)),(1,cI v0.1),(5,cI v0.2.1)],[(0,.arr 66 sI6 v0.2.2)]⟩
noncomputable def xg1 {R:Type} (k:Nat) (X0:zy→Option R) (c0:xs1) (rec:zy→Option R) (v0:zy):Option R:=if (decide (v0.2.1<(v0.2.2.length:Int)))=true then if 0≤v0.2.1 then if v0.2.1<(v0.2.2.length:Int) then ix v0.2.2 v0.2.1.toNat fun y1=>if 0≤v0.2.1 then if v0.2.1<((v0.2.2.set v0.2.1.toNat (v0.1,y1.2.1,y1.2.2.1,y1.2.2.2.1,y1.2.2.2.2.1,y1.2.2.2.2.2)).length:Int) then ix (v0.2.2.set v0.2.1.toNat (v0.1,y1.2.1,y1.2.2.1,y1.2.2.2.1,y1.2.2.2.2.1,y1.2.2.2.2.2)) v0.2.1.toNat fun y2=>if 0≤v0.2.1 then if v0.2.1<(((v0.2.2.set v0.2.1.toNat (v0.1,y1.2.1,y1.2.2.1,y1.2.2.2.1,y1.2.2.2.2.1,y1.2.2.2.2.2)).set v0.2.1.toNat (y2.1,(i64.wrap (v0.1+1)),y2.2.2.1,y2.2.2.2.1,y2.2.2.2.2.1,y2.2.2.2.2.2)).length:Int) then ix ((v0.2.2.set v0.2.1.toNat (v0.1,y1.2.1,y1.2.2.1,y1.2.2.2.1,y1.2.2.2.2.1,y1.2.2.2.2.2)).set v0.2.1.toNat (y2.1,(i64.wrap (v0.1+1)),y2.2.2.1,y2.2.2.2.1,y2.2.2.2.2.1,y2.2.2.2.2.2)) v0.2.1.toNat fun y3=>if 0≤v0.2.1 then if v0.2.1<((((v0.2.2.set v0.2.1.toNat (v0.1,y1.2.1,y1.2.2.1,y1.2.2.2.1,y1.2.2.2.2.1,y1.2.2.2.2.2)).set v0.2.1.toNat (y2.1,(i64.wrap (v0.1+1)),y2.2.2.1,y2.2.2.2.1,y2.2.2.2.2.1,y2.2.2.2.2.2)).set v0.2.1.toNat (y3.1,y3.2.1,(i64.wrap ((i64.wrap (v0.1+1))+1)),y3.2.2.2.1,y3.2.2.2.2.1,y3.2.2.2.2.2)).length:Int) then ix (((v0.2.2.set v0.2.1.toNat (v0.1,y1.2.1,y1.2.2.1,y1.2.2.2.1,y1.2.2.2.2.1,y1.2.2.2.2.2)).set v0.2.1.toNat (y2.1,(i64.wrap (v0.1+1)),y2.2.2.1,y2.2.2.2.1,y2.2.2.2.2.1,y2.2.2.2.2.2)).set v0.2.1.toNat (y3.1,y3.2.1,(i64.wrap ((i64.wrap (v0.1+1))+1)),y3.2.2.2.1,y3.2.2.2.2.1,y3.2.2.2.2.2)) v0.2.1.toNat fun y4=>if 0≤v0.2.1 then if v0.2.1<(((((v0.2.2.set v0.2.1.toNat (v0.1,y1.2.1,y1.2.2.1,y1.2.2.2.1,y1.2.2.2.2.1,y1.2.2.2.2.2)).set v0.2.1.toNat (y2.1,(i64.wrap (v0.1+1)),y2.2.2.1,y2.2.2.2.1,y2.2.2.2.2.1,y2.2.2.2.2.2)).set v0.2.1.toNat (y3.1,y3.2.1,(i64.wrap ((i64.wrap (v0.1+1))+1)),y3.2.2.2.1,y3.2.2.2.2.1,y3.2.2.2.2.2)).set v0.2.1.toNat (y4.1,y4.2.1,y4.2.2.1,(i64.wrap ((i64.wrap ((i64.wrap (v0.1+1))+1))+1)),y4.2.2.2.2.1,y4.2.2.2.2.2)).length:Int) then ix ((((v0.2.2.set v0.2.1.toNat (v0.1,y1.2.1,y1.2.2.1,y1.2.2.2.1,y1.2.2.2.2.1,y1.2.2.2.2.2)).set v0.2.1.toNat (y2.1,(i64.wrap (v0.1+1)),y2.2.2.1,y2.2.2.2.1,y2.2.2.2.2.1,y2.2.2.2.2.2)).set v0.2.1.toNat (y3.1,y3.2.1,(i64.wrap ((i64.wrap (v0.1+1))+1)),y3.2.2.2.1,y3.2.2.2.2.1,y3.2.2.2.2.2)).set v0.2.1.toNat (y4.1,y4.2.1,y4.2.2.1,(i64.wrap ((i64.wrap ((i64.wrap (v0.1+1))+1))+1)),y4.2.2.2.2.1,y4.2.2.2.2.2)) v0.2.1.toNat fun y5=>if 0≤v0.2.1 then if v0.2.1<((((((v0.2.2.set v0.2.1.toNat (v0.1,y1.2.1,y1.2.2.1,y1.2.2.2.1,y1.2.2.2.2.1,y1.2.2.2.2.2)).set v0.2.1.toNat (y2.1,(i64.wrap (v0.1+1)),y2.2.2.1,y2.2.2.2.1,y2.2.2.2.2.1,y2.2.2.2.2.2)).set v0.2.1.toNat (y3.1,y3.2.1,(i64.wrap ((i64.wrap (v0.1+1))+1)),y3.2.2.2.1,y3.2.2.2.2.1,y3.2.2.2.2.2)).set v0.2.1.toNat (y4.1,y4.2.1,y4.2.2.1,(i64.wrap ((i64.wrap ((i64.wrap (v0.1+1))+1))+1)),y4.2.2.2.2.1,y4.2.2.2.2.2)).set v0.2.1.toNat (y5.1,y5.2.1,y5.2.2.1,y5.2.2.2.1,(i64.wrap ((i64.wrap ((i64.wrap ((i64.wrap (v0.1+1))+1))+1))+1)),y5.2.2.2.2.2)).length:Int) then ix (((((v0.2.2.set v0.2.1.toNat (v0.1,y1.2.1,y1.2.2.1,y1.2.2.2.1,y1.2.2.2.2.1,y1.2.2.2.2.2)).set v0.2.1.toNat (y2.1,(i64.wrap (v0.1+1)),y2.2.2.1,y2.2.2.2.1,y2.2.2.2.2.1,y2.2.2.2.2.2)).set v0.2.1.toNat (y3.1,y3.2.1,(i64.wrap ((i64.wrap (v0.1+1))+1)),y3.2.2.2.1,y3.2.2.2.2.1,y3.2.2.2.2.2)).set v0.2.1.toNat (y4.1,y4.2.1,y4.2.2.1,(i64.wrap ((i64.wrap ((i64.wrap (v0.1+1))+1))+1)),y4.2.2.2.2.1,y4.2.2.2.2.2)).set v0.2.1.toNat (y5.1,y5.2.1,y5.2.2.1,y5.2.2.2.1,(i64.wrap ((i64.wrap ((i64.wrap ((i64.wrap (v0.1+1))+1))+1))+1)),y5.2.2.2.2.2)) v0.2.1.toNat fun y6=>rec ((i64.wrap ((i64.wrap ((i64.wrap ((i64.wrap ((i64.wrap ((i64.wrap (v0.1+1))+1))+1))+1))+1))+1)),(i64.wrap (v0.2.1+1)),((((((v0.2.2.set v0.2.1.toNat (v0.1,y1.2.1,y1.2.2.1,y1.2.2.2.1,y1.2.2.2.2.1,y1.2.2.2.2.2)).set v0.2.1.toNat (y2.1,(i64.wrap (v0.1+1)),y2.2.2.1,y2.2.2.2.1,y2.2.2.2.2.1,y2.2.2.2.2.2)).set v0.2.1.toNat (y3.1,y3.2.1,(i64.wrap ((i64.wrap (v0.1+1))+1)),y3.2.2.2.1,y3.2.2.2.2.1,y3.2.2.2.2.2)).set v0.2.1.toNat (y4.1,y4.2.1,y4.2.2.1,(i64.wrap ((i64.wrap ((i64.wrap (v0.1+1))+1))+1)),y4.2.2.2.2.1,y4.2.2.2.2.2)).set v0.2.1.toNat (y5.1,y5.2.1,y5.2.2.1,y5.2.2.2.1,(i64.wrap ((i64.wrap ((i64.wrap ((i64.wrap (v0.1+1))+1))+1))+1)),y5.2.2.2.2.2)).set v0.2.1.toNat (y6.1,y6.2.1,y6.2.2.1,y6.2.2.2.1,y6.2.2.2.2.1,(i64.wrap ((i64.wrap ((i64.wrap ((i64.wrap ((i64.wrap (v0.1+1))+1))+1))+1))+1))))) else none else none else none else none else none else none else none else none else none else none else none else none else X0 v0
noncomputable def z82 {R:Type} (k:Nat) (X0:zy→Option R) (c:xs1):Nat→zy→Option R
 | 0,_=>none
 | n+1,v=>xg1 k X0 c (z82 k X0 c n) v
def yc3 (K:Ex→St→Option R) (c0:xs1) (v0:zy):Option R:=K (.exit 0) ⟨55,1,[(0,.c (.ref 0)),(1,cI v0.1),(5,cI v0.2.1),(6,cI v0.2.1),(7,.c (.ref 0)),(8,cI (v0.2.2.length:Int)),(9,cB (decide (v0.2.1<(v0.2.2.length:Int))))],[(0,.arr 66 sI6 v0.2.2)]⟩
theorem xp6 (k:Nat) (K:Ex→St→Option R) (c0:xs1):∀(n:Nat) (v:zy),z2 [1,0,1,5] (run E (den E k) (lv 109) k (j1 Tryz.f109 0)) n (ys3 c0 v) K=z82 k (yc3 K c0) c0 n v:=j6 (B:=xg1 k (yc3 K c0) c0) fun n v=>by kernel_rfl
theorem wn6 (k:Nat) (a0:List I6) (a1:Int):za2 (k+1) a0 a1=z2 (R:=Int×List I6) [1,0,1,5] (run E (den E k) (lv 109) k (j1 Tryz.f109 0)) k (ys3 () (a1,0,a0)) (z8 E (den E k) (lv 109) k (yc Tryz.f109) 0 [] (xa E (rs 109) Tryz.f109:Ex→St→Option (Int×List I6))):=by kernel_rfl
theorem wg7 (k:Nat) (a0:List I6) (a1:Int):za2 (k+1) a0 a1=z82 k (fun (v0:Int×Int×(List I6))=>some (v0.1,v0.2.2)) () k (a1,0,a0):=by
 rw [wn6]
 simp only [xp6]
 kernel_rfl
noncomputable def yj3 (k:Nat) (a0:List I2) (a1:Int):Option (Int×List I2):=den E k 284 [.c (.l 348 sI2 a0),cI a1]
abbrev xb2:=Unit
abbrev xc1:=Int×Int×(List I2)
def xl4 (c0:xb2) (v0:xc1):St:=⟨27,1,[(0,.c (.ref 0)),(1,cI v0.1),(5,cI v0.2.1)],[(0,.arr 348 sI2 v0.2.2)]⟩
noncomputable def vt1 {R:Type} (k:Nat) (X0:xc1→Option R) (c0:xb2) (rec:xc1→Option R) (v0:xc1):Option R:=if (decide (v0.2.1<(v0.2.2.length:Int)))=true then if 0≤v0.2.1 then if v0.2.1<(v0.2.2.length:Int) then ix v0.2.2 v0.2.1.toNat fun y1=>if 0≤v0.2.1 then if v0.2.1<((v0.2.2.set v0.2.1.toNat (v0.1,y1.2)).length:Int) then ix (v0.2.2.set v0.2.1.toNat (v0.1,y1.2)) v0.2.1.toNat fun y2=>rec ((i64.wrap ((i64.wrap (v0.1+1))+1)),(i64.wrap (v0.2.1+1)),((v0.2.2.set v0.2.1.toNat (v0.1,y1.2)).set v0.2.1.toNat (y2.1,(i64.wrap (v0.1+1))))) else none else none else none else none else X0 v0
noncomputable def zu2 {R:Type} (k:Nat) (X0:xc1→Option R) (c:xb2):Nat→xc1→Option R
 | 0,_=>none
 | n+1,v=>vt1 k X0 c (zu2 k X0 c n) v
def wu3 (K:Ex→St→Option R) (c0:xb2) (v0:xc1):Option R:=K (.exit 0) ⟨27,1,[(0,.c (.ref 0)),(1,cI v0.1),(5,cI v0.2.1),(6,cI v0.2.1),(7,.c (.ref 0)),(8,cI (v0.2.2.length:Int)),(9,cB (decide (v0.2.1<(v0.2.2.length:Int))))],[(0,.arr 348 sI2 v0.2.2)]⟩
theorem z87 (k:Nat) (K:Ex→St→Option R) (c0:xb2):∀(n:Nat) (v:xc1),z2 [1,0,1,5] (run E (den E k) (lv 284) k (j1 Tryz.f284 0)) n (xl4 c0 v) K=zu2 k (wu3 K c0) c0 n v:=j6 (B:=vt1 k (wu3 K c0) c0) fun n v=>by kernel_rfl
theorem yd7 (k:Nat) (a0:List I2) (a1:Int):yj3 (k+1) a0 a1=z2 (R:=Int×List I2) [1,0,1,5] (run E (den E k) (lv 284) k (j1 Tryz.f284 0)) k (xl4 () (a1,0,a0)) (z8 E (den E k) (lv 284) k (yc Tryz.f284) 0 [] (xa E (rs 284) Tryz.f284:Ex→St→Option (Int×List I2))):=by kernel_rfl
theorem wp8 (k:Nat) (a0:List I2) (a1:Int):yj3 (k+1) a0 a1=zu2 k (fun (v0:Int×Int×(List I2))=>some (v0.1,v0.2.2)) () k (a1,0,a0):=by
 rw [yd7]
 simp only [z87]
 kernel_rfl
noncomputable def za3 (k:Nat) (a0:List (Int×(List Int)×List Int)) (a1:Int):Option (Int×List (Int×(List Int)×List Int)):=den E k 285 [.c (.l 220 z7 a0),cI a1]
abbrev zz1:=Unit
abbrev w21:=Int×Int×(List (Int×(List Int)×List Int))
def y04 (c0:zz1) (v0:w21):St:=⟨34,1,[(0,.c (.ref 0)),(1,cI v0.1),(5,cI v0.2.1)],[(0,.arr 220 z7 v0.2.2)]⟩
noncomputable def vn1 {R:Type} (k:Nat) (X0:w21→Option R) (c0:zz1) (rec:w21→Option R) (v0:w21):Option R:=if (decide (v0.2.1<(v0.2.2.length:Int)))=true then if 0≤v0.2.1 then if v0.2.1<(v0.2.2.length:Int) then ix v0.2.2 v0.2.1.toNat fun y1=>if 0≤v0.2.1 then if v0.2.1<((v0.2.2.set v0.2.1.toNat (v0.1,y1.2.1,y1.2.2)).length:Int) then ix (v0.2.2.set v0.2.1.toNat (v0.1,y1.2.1,y1.2.2)) v0.2.1.toNat fun x2=>(ju1 k x2.2.1 (i64.wrap (v0.1+1))).bind fun p3=>if 0≤v0.2.1 then if v0.2.1<((v0.2.2.set v0.2.1.toNat (v0.1,y1.2.1,y1.2.2)).length:Int) then ix ((v0.2.2.set v0.2.1.toNat (v0.1,y1.2.1,y1.2.2)).set v0.2.1.toNat (x2.1,p3.2,x2.2.2)) v0.2.1.toNat fun x4=>(ju1 k x4.2.2 p3.1).bind fun p5=>rec (p5.1,(i64.wrap (v0.2.1+1)),(((v0.2.2.set v0.2.1.toNat (v0.1,y1.2.1,y1.2.2)).set v0.2.1.toNat (x2.1,p3.2,x2.2.2)).set v0.2.1.toNat (x4.1,x4.2.1,p5.2))) else none else none else none else none else none else none else X0 v0
noncomputable def jj2 {R:Type} (k:Nat) (X0:w21→Option R) (c:zz1):Nat→w21→Option R
 | 0,_=>none
 | n+1,v=>vn1 k X0 c (jj2 k X0 c n) v
def zs3 (K:Ex→St→Option R) (c0:zz1) (v0:w21):Option R:=K (.exit 0) ⟨34,1,[(0,.c (.ref 0)),(1,cI v0.1),(5,cI v0.2.1),(6,cI v0.2.1),(7,.c (.ref 0)),(8,cI (v0.2.2.length:Int)),(9,cB (decide (v0.2.1<(v0.2.2.length:Int))))],[(0,.arr 220 z7 v0.2.2)]⟩
theorem xv6 (k:Nat) (K:Ex→St→Option R) (c0:zz1):∀(n:Nat) (v:w21),z2 [1,0,1,5] (run E (den E k) (lv 285) k (j1 Tryz.f285 0)) n (y04 c0 v) K=jj2 k (zs3 K c0) c0 n v:=j6 (B:=vn1 k (zs3 K c0) c0) fun n v=>by kernel_rfl
theorem jv6 (k:Nat) (a0:List (Int×(List Int)×List Int)) (a1:Int):za3 (k+1) a0 a1=z2 (R:=Int×List (Int×(List Int)×List Int)) [1,0,1,5] (run E (den E k) (lv 285) k (j1 Tryz.f285 0)) k (y04 () (a1,0,a0)) (z8 E (den E k) (lv 285) k (yc Tryz.f285) 0 [] (xa E (rs 285) Tryz.f285:Ex→St→Option (Int×List (Int×(List Int)×List Int)))):=by kernel_rfl
theorem xt7 (k:Nat) (a0:List (Int×(List Int)×List Int)) (a1:Int):za3 (k+1) a0 a1=jj2 k (fun (v0:Int×Int×(List (Int×(List Int)×List Int)))=>some (v0.1,v0.2.2)) () k (a1,0,a0):=by
 rw [jv6]
 simp only [xv6]
 kernel_rfl
noncomputable def j93 (k:Nat) (a0:List ze) (a1:Int):Option (Int×List ze):=den E k 210 [.c (.l 198 we a0),cI a1]
abbrev zy1:=Unit
abbrev w41:=Int×Int×(List ze)
def y24 (c0:zy1) (v0:w41):St:=⟨43,1,[(0,.c (.ref 0)),(1,cI v0.1),(5,cI v0.2.1)],[(0,.arr 198 we v0.2.2)]⟩
noncomputable def yo1 {R:Type} (k:Nat) (X0:w41→Option R) (c0:zy1) (rec:w41→Option R) (v0:w41):Option R:=if (decide (v0.2.1<(v0.2.2.length:Int)))=true then if 0≤v0.2.1 then if v0.2.1<(v0.2.2.length:Int) then ix v0.2.2 v0.2.1.toNat fun y1=>if 0≤v0.2.1 then if v0.2.1<((v0.2.2.set v0.2.1.toNat ((v0.1,y1.1.2),y1.2.1,y1.2.2)).length:Int) then ix (v0.2.2.set v0.2.1.toNat ((v0.1,y1.1.2),y1.2.1,y1.2.2)) v0.2.1.toNat fun y2=>if 0≤v0.2.1 then if v0.2.1<(((v0.2.2.set v0.2.1.toNat ((v0.1,y1.1.2),y1.2.1,y1.2.2)).set v0.2.1.toNat ((y2.1.1,(i64.wrap (v0.1+1))),y2.2.1,y2.2.2)).length:Int) then ix ((v0.2.2.set v0.2.1.toNat ((v0.1,y1.1.2),y1.2.1,y1.2.2)).set v0.2.1.toNat ((y2.1.1,(i64.wrap (v0.1+1))),y2.2.1,y2.2.2)) v0.2.1.toNat fun x3=>(yj3 k x3.2.1 (i64.wrap ((i64.wrap (v0.1+1))+1))).bind fun p4=>if 0≤v0.2.1 then if v0.2.1<(((v0.2.2.set v0.2.1.toNat ((v0.1,y1.1.2),y1.2.1,y1.2.2)).set v0.2.1.toNat ((y2.1.1,(i64.wrap (v0.1+1))),y2.2.1,y2.2.2)).length:Int) then ix (((v0.2.2.set v0.2.1.toNat ((v0.1,y1.1.2),y1.2.1,y1.2.2)).set v0.2.1.toNat ((y2.1.1,(i64.wrap (v0.1+1))),y2.2.1,y2.2.2)).set v0.2.1.toNat (x3.1,p4.2,x3.2.2)) v0.2.1.toNat fun x5=>(za3 k x5.2.2 p4.1).bind fun p6=>rec (p6.1,(i64.wrap (v0.2.1+1)),((((v0.2.2.set v0.2.1.toNat ((v0.1,y1.1.2),y1.2.1,y1.2.2)).set v0.2.1.toNat ((y2.1.1,(i64.wrap (v0.1+1))),y2.2.1,y2.2.2)).set v0.2.1.toNat (x3.1,p4.2,x3.2.2)).set v0.2.1.toNat (x5.1,x5.2.1,p6.2))) else none else none else none else none else none else none else none else none else X0 v0
noncomputable def zk2 {R:Type} (k:Nat) (X0:w41→Option R) (c:zy1):Nat→w41→Option R
 | 0,_=>none
 | n+1,v=>yo1 k X0 c (zk2 k X0 c n) v
def ws3 (K:Ex→St→Option R) (c0:zy1) (v0:w41):Option R:=K (.exit 0) ⟨43,1,[(0,.c (.ref 0)),(1,cI v0.1),(5,cI v0.2.1),(6,cI v0.2.1),(7,.c (.ref 0)),(8,cI (v0.2.2.length:Int)),(9,cB (decide (v0.2.1<(v0.2.2.length:Int))))],[(0,.arr 198 we v0.2.2)]⟩
theorem vu6 (k:Nat) (K:Ex→St→Option R) (c0:zy1):∀(n:Nat) (v:w41),z2 [1,0,1,5] (run E (den E k) (lv 210) k (j1 Tryz.f210 0)) n (y24 c0 v) K=zk2 k (ws3 K c0) c0 n v:=j6 (B:=yo1 k (ws3 K c0) c0) fun n v=>by kernel_rfl
theorem xu6 (k:Nat) (a0:List ze) (a1:Int):j93 (k+1) a0 a1=z2 (R:=Int×List ze) [1,0,1,5] (run E (den E k) (lv 210) k (j1 Tryz.f210 0)) k (y24 () (a1,0,a0)) (z8 E (den E k) (lv 210) k (yc Tryz.f210) 0 [] (xa E (rs 210) Tryz.f210:Ex→St→Option (Int×List ze))):=by kernel_rfl
theorem wq7 (k:Nat) (a0:List ze) (a1:Int):j93 (k+1) a0 a1=zk2 k (fun (v0:Int×Int×(List ze))=>some (v0.1,v0.2.2)) () k (a1,0,a0):=by
 rw [xu6]
 simp only [vu6]
 kernel_rfl
noncomputable def xn3 (k:Nat) (a0:j2) (a1:Int):Option (Int×List ze):=den E k 101 [.agg (avs j4 a0),cI a1]
theorem xj7 (k:Nat) (a0:j2) (a1:Int):xn3 (k+1) a0 a1=(j93 k a0.2.2.2 a1).bind fun p1=>some p1:=by kernel_rfl
noncomputable def w53 (k:Nat) (a0:List (List I6)) (a1:Int):Option (Int×List (List I6)):=den E k 105 [.c (.l 140 vg a0),cI a1]
abbrev wy1:=Unit
abbrev x41:=Int×Int×(List (List I6))
def vu3 (c0:wy1) (v0:x41):St:=⟨20,1,[(0,.c (.ref 0)),(1,cI v0.1),(5,cI v0.2.1)],[(0,.arr 140 vg v0.2.2)]⟩
noncomputable def yn1 {R:Type} (k:Nat) (X0:x41→Option R) (c0:wy1) (rec:x41→Option R) (v0:x41):Option R:=if (decide (v0.2.1<(v0.2.2.length:Int)))=true then if 0≤v0.2.1 then if v0.2.1<(v0.2.2.length:Int) then ix v0.2.2 v0.2.1.toNat fun x1=>(za2 k x1 v0.1).bind fun p2=>rec (p2.1,(i64.wrap (v0.2.1+1)),(v0.2.2.set v0.2.1.toNat p2.2)) else none else none else X0 v0
noncomputable def xj2 {R:Type} (k:Nat) (X0:x41→Option R) (c:wy1):Nat→x41→Option R
 | 0,_=>none
 | n+1,v=>yn1 k X0 c (xj2 k X0 c n) v
def jr3 (K:Ex→St→Option R) (c0:wy1) (v0:x41):Option R:=K (.exit 0) ⟨20,1,[(0,.c (.ref 0)),(1,cI v0.1),(5,cI v0.2.1),(6,cI v0.2.1),(7,.c (.ref 0)),(8,cI (v0.2.2.length:Int)),(9,cB (decide (v0.2.1<(v0.2.2.length:Int))))],[(0,.arr 140 vg v0.2.2)]⟩
theorem jw6 (k:Nat) (K:Ex→St→Option R) (c0:wy1):∀(n:Nat) (v:x41),z2 [1,0,1,5] (run E (den E k) (lv 105) k (j1 Tryz.f105 0)) n (vu3 c0 v) K=xj2 k (jr3 K c0) c0 n v:=j6 (B:=yn1 k (jr3 K c0) c0) fun n v=>by kernel_rfl
theorem vx6 (k:Nat) (a0:List (List I6)) (a1:Int):w53 (k+1) a0 a1=z2 (R:=Int×List (List I6)) [1,0,1,5] (run E (den E k) (lv 105) k (j1 Tryz.f105 0)) k (vu3 () (a1,0,a0)) (z8 E (den E k) (lv 105) k (yc Tryz.f105) 0 [] (xa E (rs 105) Tryz.f105:Ex→St→Option (Int×List (List I6)))):=by kernel_rfl
theorem j08 (k:Nat) (a0:List (List I6)) (a1:Int):w53 (k+1) a0 a1=xj2 k (fun (v0:Int×Int×(List (List I6)))=>some (v0.1,v0.2.2)) () k (a1,0,a0):=by
 rw [vx6]
 simp only [jw6]
 kernel_rfl
noncomputable def xc4 (k:Nat) (a0:List I4) (a1:Int):Option (Int×List I4):=den E k 207 [.c (.l 186 sI4 a0),cI a1]
abbrev vm2:=Unit
abbrev wj1:=Int×Int×(List I4)
def yy4 (c0:vm2) (v0:wj1):St:=⟨41,1,[(0,.c (.ref 0)),(1,cI v0.1),(5,cI v0.2.1)],[(0,.arr 186 sI4 v0.2.2)]⟩
noncomputable def w52 {R:Type} (k:Nat) (X0:wj1→Option R) (c0:vm2) (rec:wj1→Option R) (v0:wj1):Option R:=if (decide (v0.2.1<(v0.2.2.length:Int)))=true then if 0≤v0.2.1 then if v0.2.1<(v0.2.2.length:Int) then ix v0.2.2 v0.2.1.toNat fun y1=>if 0≤v0.2.1 then if v0.2.1<((v0.2.2.set v0.2.1.toNat (v0.1,y1.2.1,y1.2.2.1,y1.2.2.2)).length:Int) then ix (v0.2.2.set v0.2.1.toNat (v0.1,y1.2.1,y1.2.2.1,y1.2.2.2)) v0.2.1.toNat fun y2=>if 0≤v0.2.1 then if v0.2.1<(((v0.2.2.set v0.2.1.toNat (v0.1,y1.2.1,y1.2.2.1,y1.2.2.2)).set v0.2.1.toNat (y2.1,(i64.wrap (v0.1+1)),y2.2.2.1,y2.2.2.2)).length:Int) then ix ((v0.2.2.set v0.2.1.toNat (v0.1,y1.2.1,y1.2.2.1,y1.2.2.2)).set v0.2.1.toNat (y2.1,(i64.wrap (v0.1+1)),y2.2.2.1,y2.2.2.2)) v0.2.1.toNat fun y3=>if 0≤v0.2.1 then if v0.2.1<((((v0.2.2.set v0.2.1.toNat (v0.1,y1.2.1,y1.2.2.1,y1.2.2.2)).set v0.2.1.toNat (y2.1,(i64.wrap (v0.1+1)),y2.2.2.1,y2.2.2.2)).set v0.2.1.toNat (y3.1,y3.2.1,(i64.wrap ((i64.wrap (v0.1+1))+1)),y3.2.2.2)).length:Int) then ix (((v0.2.2.set v0.2.1.toNat (v0.1,y1.2.1,y1.2.2.1,y1.2.2.2)).set v0.2.1.toNat (y2.1,(i64.wrap (v0.1+1)),y2.2.2.1,y2.2.2.2)).set v0.2.1.toNat (y3.1,y3.2.1,(i64.wrap ((i64.wrap (v0.1+1))+1)),y3.2.2.2)) v0.2.1.toNat fun y4=>rec ((i64.wrap ((i64.wrap ((i64.wrap ((i64.wrap (v0.1+1))+1))+1))+1)),(i64.wrap (v0.2.1+1)),((((v0.2.2.set v0.2.1.toNat (v0.1,y1.2.1,y1.2.2.1,y1.2.2.2)).set v0.2.1.toNat (y2.1,(i64.wrap (v0.1+1)),y2.2.2.1,y2.2.2.2)).set v0.2.1.toNat (y3.1,y3.2.1,(i64.wrap ((i64.wrap (v0.1+1))+1)),y3.2.2.2)).set v0.2.1.toNat (y4.1,y4.2.1,y4.2.2.1,(i64.wrap ((i64.wrap ((i64.wrap (v0.1+1))+1))+1))))) else none else none else none else none else none else none else none else none else X0 v0
noncomputable def j43 {R:Type} (k:Nat) (X0:wj1→Option R) (c:vm2):Nat→wj1→Option R
 | 0,_=>none
 | n+1,v=>w52 k X0 c (j43 k X0 c n) v
def vh4 (K:Ex→St→Option R) (c0:vm2) (v0:wj1):Option R:=K (.exit 0) ⟨41,1,[(0,.c (.ref 0)),(1,cI v0.1),(5,cI v0.2.1),(6,cI v0.2.1),(7,.c (.ref 0)),(8,cI (v0.2.2.length:Int)),(9,cB (decide (v0.2.1<(v0.2.2.length:Int))))],[(0,.arr 186 sI4 v0.2.2)]⟩
theorem xo7 (k:Nat) (K:Ex→St→Option R) (c0:vm2):∀(n:Nat) (v:wj1),z2 [1,0,1,5] (run E (den E k) (lv 207) k (j1 Tryz.f207 0)) n (yy4 c0 v) K=j43 k (vh4 K c0) c0 n v:=j6 (B:=w52 k (vh4 K c0) c0) fun n v=>by kernel_rfl
theorem wp7 (k:Nat) (a0:List I4) (a1:Int):xc4 (k+1) a0 a1=z2 (R:=Int×List I4) [1,0,1,5] (run E (den E k) (lv 207) k (j1 Tryz.f207 0)) k (yy4 () (a1,0,a0)) (z8 E (den E k) (lv 207) k (yc Tryz.f207) 0 [] (xa E (rs 207) Tryz.f207:Ex→St→Option (Int×List I4))):=by kernel_rfl
theorem v19 (k:Nat) (a0:List I4) (a1:Int):xc4 (k+1) a0 a1=j43 k (fun (v0:Int×Int×(List I4))=>some (v0.1,v0.2.2)) () k (a1,0,a0):=by
 rw [wp7]
 simp only [xo7]
 kernel_rfl
noncomputable def yl3 (k:Nat) (a0:List I3) (a1:Int):Option (Int×List I3):=den E k 208 [.c (.l 188 sI3 a0),cI a1]
abbrev vc2:=Unit
abbrev vb1:=Int×Int×(List I3)
def vk4 (c0:vc2) (v0:vb1):St:=⟨34,1,[(0,.c (.ref 0)),(1,cI v0.1),(5,cI v0.2.1)],[(0,.arr 188 sI3 v0.2.2)]⟩
noncomputable def yv1 {R:Type} (k:Nat) (X0:vb1→Option R) (c0:vc2) (rec:vb1→Option R) (v0:vb1):Option R:=if (decide (v0.2.1<(v0.2.2.length:Int)))=true then if 0≤v0.2.1 then if v0.2.1<(v0.2.2.length:Int) then ix v0.2.2 v0.2.1.toNat fun y1=>if 0≤v0.2.1 then if v0.2.1<((v0.2.2.set v0.2.1.toNat (v0.1,y1.2.1,y1.2.2)).length:Int) then ix (v0.2.2.set v0.2.1.toNat (v0.1,y1.2.1,y1.2.2)) v0.2.1.toNat fun y2=>if 0≤v0.2.1 then if v0.2.1<(((v0.2.2.set v0.2.1.toNat (v0.1,y1.2.1,y1.2.2)).set v0.2.1.toNat (y2.1,(i64.wrap (v0.1+1)),y2.2.2)).length:Int) then ix ((v0.2.2.set v0.2.1.toNat (v0.1,y1.2.1,y1.2.2)).set v0.2.1.toNat (y2.1,(i64.wrap (v0.1+1)),y2.2.2)) v0.2.1.toNat fun y3=>rec ((i64.wrap ((i64.wrap ((i64.wrap (v0.1+1))+1))+1)),(i64.wrap (v0.2.1+1)),(((v0.2.2.set v0.2.1.toNat (v0.1,y1.2.1,y1.2.2)).set v0.2.1.toNat (y2.1,(i64.wrap (v0.1+1)),y2.2.2)).set v0.2.1.toNat (y3.1,y3.2.1,(i64.wrap ((i64.wrap (v0.1+1))+1))))) else none else none else none else none else none else none else X0 v0
noncomputable def ws2 {R:Type} (k:Nat) (X0:vb1→Option R) (c:vc2):Nat→vb1→Option R
 | 0,_=>none
 | n+1,v=>yv1 k X0 c (ws2 k X0 c n) v
def zz3 (K:Ex→St→Option R) (c0:vc2) (v0:vb1):Option R:=K (.exit 0) ⟨34,1,[(0,.c (.ref 0)),(1,cI v0.1),(5,cI v0.2.1),(6,cI v0.2.1),(7,.c (.ref 0)),(8,cI (v0.2.2.length:Int)),(9,cB (decide (v0.2.1<(v0.2.2.length:Int))))],[(0,.arr 188 sI3 v0.2.2)]⟩
theorem wa7 (k:Nat) (K:Ex→St→Option R) (c0:vc2):∀(n:Nat) (v:vb1),z2 [1,0,1,5] (run E (den E k) (lv 208) k (j1 Tryz.f208 0)) n (vk4 c0 v) K=ws2 k (zz3 K c0) c0 n v:=j6 (B:=yv1 k (zz3 K c0) c0) fun n v=>by kernel_rfl
theorem v87 (k:Nat) (a0:List I3) (a1:Int):yl3 (k+1) a0 a1=z2 (R:=Int×List I3) [1,0,1,5] (run E (den E k) (lv 208) k (j1 Tryz.f208 0)) k (vk4 () (a1,0,a0)) (z8 E (den E k) (lv 208) k (yc Tryz.f208) 0 [] (xa E (rs 208) Tryz.f208:Ex→St→Option (Int×List I3))):=by kernel_rfl
theorem je8 (k:Nat) (a0:List I3) (a1:Int):yl3 (k+1) a0 a1=ws2 k (fun (v0:Int×Int×(List I3))=>some (v0.1,v0.2.2)) () k (a1,0,a0):=by
 rw [v87]
 simp only [wa7]
 kernel_rfl
noncomputable def jm3 (k:Nat) (a0:List I3) (a1:Int):Option (Int×List I3):=den E k 209 [.c (.l 193 yk a0),cI a1]
abbrev j92:=Unit
abbrev wb1:=Int×Int×(List I3)
def zh4 (c0:j92) (v0:wb1):St:=⟨36,1,[(0,.c (.ref 0)),(1,cI v0.1),(5,cI v0.2.1)],[(0,.arr 193 yk v0.2.2)]⟩
noncomputable def zu1 {R:Type} (k:Nat) (X0:wb1→Option R) (c0:j92) (rec:wb1→Option R) (v0:wb1):Option R:=if (decide (v0.2.1<(v0.2.2.length:Int)))=true then if 0≤v0.2.1 then if v0.2.1<(v0.2.2.length:Int) then ix v0.2.2 v0.2.1.toNat fun y1=>if 0≤v0.2.1 then if v0.2.1<((v0.2.2.set v0.2.1.toNat (v0.1,y1.2)).length:Int) then ix (v0.2.2.set v0.2.1.toNat (v0.1,y1.2)) v0.2.1.toNat fun y2=>if 0≤v0.2.1 then if v0.2.1<(((v0.2.2.set v0.2.1.toNat (v0.1,y1.2)).set v0.2.1.toNat (y2.1,((i64.wrap (v0.1+1)),y2.2.2))).length:Int) then ix ((v0.2.2.set v0.2.1.toNat (v0.1,y1.2)).set v0.2.1.toNat (y2.1,((i64.wrap (v0.1+1)),y2.2.2))) v0.2.1.toNat fun y3=>rec ((i64.wrap ((i64.wrap ((i64.wrap (v0.1+1))+1))+1)),(i64.wrap (v0.2.1+1)),(((v0.2.2.set v0.2.1.toNat (v0.1,y1.2)).set v0.2.1.toNat (y2.1,((i64.wrap (v0.1+1)),y2.2.2))).set v0.2.1.toNat (y3.1,(y3.2.1,(i64.wrap ((i64.wrap (v0.1+1))+1)))))) else none else none else none else none else none else none else X0 v0
noncomputable def vr2 {R:Type} (k:Nat) (X0:wb1→Option R) (c:j92):Nat→wb1→Option R
 | 0,_=>none
 | n+1,v=>zu1 k X0 c (vr2 k X0 c n) v
def zy3 (K:Ex→St→Option R) (c0:j92) (v0:wb1):Option R:=K (.exit 0) ⟨36,1,[(0,.c (.ref 0)),(1,cI v0.1),(5,cI v0.2.1),(6,cI v0.2.1),(7,.c (.ref 0)),(8,cI (v0.2.2.length:Int)),(9,cB (decide (v0.2.1<(v0.2.2.length:Int))))],[(0,.arr 193 yk v0.2.2)]⟩
theorem zb7 (k:Nat) (K:Ex→St→Option R) (c0:j92):∀(n:Nat) (v:wb1),z2 [1,0,1,5] (run E (den E k) (lv 209) k (j1 Tryz.f209 0)) n (zh4 c0 v) K=vr2 k (zy3 K c0) c0 n v:=j6 (B:=zu1 k (zy3 K c0) c0) fun n v=>by kernel_rfl
theorem wn7 (k:Nat) (a0:List I3) (a1:Int):jm3 (k+1) a0 a1=z2 (R:=Int×List I3) [1,0,1,5] (run E (den E k) (lv 209) k (j1 Tryz.f209 0)) k (zh4 () (a1,0,a0)) (z8 E (den E k) (lv 209) k (yc Tryz.f209) 0 [] (xa E (rs 209) Tryz.f209:Ex→St→Option (Int×List I3))):=by kernel_rfl
theorem zq8 (k:Nat) (a0:List I3) (a1:Int):jm3 (k+1) a0 a1=vr2 k (fun (v0:Int×Int×(List I3))=>some (v0.1,v0.2.2)) () k (a1,0,a0):=by
 rw [wn7]
 simp only [zb7]
 kernel_rfl
noncomputable def zi6 (k:Nat) (a0:jd2) (a1:Int):Option (Int×(List I4)×(List I3)×List I3):=den E k 100 [.agg (avs xd2 a0),cI a1]
theorem y0a (k:Nat) (a0:jd2) (a1:Int):zi6 (k+1) a0 a1=(xc4 k a0.2.1 a1).bind fun p1=>(yl3 k a0.2.2.1 p1.1).bind fun p2=>(jm3 k a0.2.2.2.2.2.2.2.2.1 p2.1).bind fun p3=>some (p3.1,p1.2,p2.2,p3.2):=by kernel_rfl
noncomputable def yt2 (k:Nat) (a0:List (Int×Int×List Int)) (a1:Int):Option (Int×List (Int×Int×List Int)):=den E k 107 [.c (.l 205 z6 a0),cI a1]
abbrev yq1:=Unit
abbrev yy:=Int×Int×(List (Int×Int×List Int))
def zt3 (c0:yq1) (v0:yy):St:=⟨34,1,[(0,.c (.ref 0)),(1,cI v0.1),(5,cI v0.2.1)],[(0,.arr 205 z6 v0.2.2)]⟩
noncomputable def jh1 {R:Type} (k:Nat) (X0:yy→Option R) (c0:yq1) (rec:yy→Option R) (v0:yy):Option R:=if (decide (v0.2.1<(v0.2.2.length:Int)))=true then if 0≤v0.2.1 then if v0.2.1<(v0.2.2.length:Int) then ix v0.2.2 v0.2.1.toNat fun y1=>if 0≤v0.2.1 then if v0.2.1<((v0.2.2.set v0.2.1.toNat (v0.1,y1.2.1,y1.2.2)).length:Int) then ix (v0.2.2.set v0.2.1.toNat (v0.1,y1.2.1,y1.2.2)) v0.2.1.toNat fun y2=>if 0≤v0.2.1 then if v0.2.1<(((v0.2.2.set v0.2.1.toNat (v0.1,y1.2.1,y1.2.2)).set v0.2.1.toNat (y2.1,(i64.wrap (v0.1+1)),y2.2.2)).length:Int) then ix ((v0.2.2.set v0.2.1.toNat (v0.1,y1.2.1,y1.2.2)).set v0.2.1.toNat (y2.1,(i64.wrap (v0.1+1)),y2.2.2)) v0.2.1.toNat fun x3=>(ju1 k x3.2.2 (i64.wrap ((i64.wrap (v0.1+1))+1))).bind fun p4=>rec (p4.1,(i64.wrap (v0.2.1+1)),(((v0.2.2.set v0.2.1.toNat (v0.1,y1.2.1,y1.2.2)).set v0.2.1.toNat (y2.1,(i64.wrap (v0.1+1)),y2.2.2)).set v0.2.1.toNat (x3.1,x3.2.1,p4.2))) else none else none else none else none else none else none else X0 v0
noncomputable def w92 {R:Type} (k:Nat) (X0:yy→Option R) (c:yq1):Nat→yy→Option R
 | 0,_=>none
 | n+1,v=>jh1 k X0 c (w92 k X0 c n) v
def vc3 (K:Ex→St→Option R) (c0:yq1) (v0:yy):Option R:=K (.exit 0) ⟨34,1,[(0,.c (.ref 0)),(1,cI v0.1),(5,cI v0.2.1),(6,cI v0.2.1),(7,.c (.ref 0)),(8,cI (v0.2.2.length:Int)),(9,cB (decide (v0.2.1<(v0.2.2.length:Int))))],[(0,.arr 205 z6 v0.2.2)]⟩
theorem v76 (k:Nat) (K:Ex→St→Option R) (c0:yq1):∀(n:Nat) (v:yy),z2 [1,0,1,5] (run E (den E k) (lv 107) k (j1 Tryz.f107 0)) n (zt3 c0 v) K=w92 k (vc3 K c0) c0 n v:=j6 (B:=jh1 k (vc3 K c0) c0) fun n v=>by kernel_rfl
theorem xn6 (k:Nat) (a0:List (Int×Int×List Int)) (a1:Int):yt2 (k+1) a0 a1=z2 (R:=Int×List (Int×Int×List Int)) [1,0,1,5] (run E (den E k) (lv 107) k (j1 Tryz.f107 0)) k (zt3 () (a1,0,a0)) (z8 E (den E k) (lv 107) k (yc Tryz.f107) 0 [] (xa E (rs 107) Tryz.f107:Ex→St→Option (Int×List (Int×Int×List Int)))):=by kernel_rfl
theorem vl7 (k:Nat) (a0:List (Int×Int×List Int)) (a1:Int):yt2 (k+1) a0 a1=w92 k (fun (v0:Int×Int×(List (Int×Int×List Int)))=>some (v0.1,v0.2.2)) () k (a1,0,a0):=by
 rw [xn6]
 simp only [v76]
 kernel_rfl
noncomputable def wr4 (k:Nat) (a0:xm) (a1:Int):Option (Int×(List I4)×(List I3)×(List I3)×(List ze)×(List Int)×(List Int)×(List I6)×(List (List I6))×(List I4)×(List Int)×(List (Int×Int×List Int))×(List I4)×(List I6)×List I4):=den E k 21 [.agg (avs xi a0),cI a1]
theorem yr8 (k:Nat) (a0:xm) (a1:Int):wr4 (k+1) a0 a1=(zi6 k a0.1 a1).bind fun p1=>(xn3 k a0.2.1 p1.1).bind fun p2=>(vb6 k a0.2.2.1 p2.1).bind fun p3=>(ju1 k a0.2.2.2.1 p3.1).bind fun p4=>(zj2 k a0.2.2.2.2.1 p4.1).bind fun p5=>(w53 k a0.2.2.2.2.2.1 p5.1).bind fun p6=>(wm3 k a0.2.2.2.2.2.2.1 p6.1).bind fun p7=>(ju1 k a0.2.2.2.2.2.2.2.1 p7.1).bind fun p8=>(yt2 k a0.2.2.2.2.2.2.2.2.1 p8.1).bind fun p9=>(x63 k a0.2.2.2.2.2.2.2.2.2.1 p9.1).bind fun p10=>(za2 k a0.2.2.2.2.2.2.2.2.2.2.2.2.1 p10.1).bind fun p11=>(y03 k a0.2.2.2.2.2.2.2.2.2.2.2.2.2 p11.1).bind fun p12=>some (p12.1,p1.2.1,p1.2.2.1,p1.2.2.2,p2.2,p3.2,p4.2,p5.2,p6.2,p7.2,p8.2,p9.2,p10.2,p11.2,p12.2):=by kernel_rfl
noncomputable def jw3 (k:Nat) (a0:List I6) (a1:Int):Option (Int):=den E k 42 [.c (.l 211 sI6 a0),cI a1]
theorem zw7 (k:Nat) (a0:List I6) (a1:Int):jw3 (k+1) a0 a1=if (decide ((i64.wrap (a1-(a0.length:Int)))<0))=true then some (-1) else some (i64.wrap (a1-(a0.length:Int))):=by kernel_rfl
noncomputable def wh5 (k:Nat) (a0:List I4) (a1:Int):Option (Int):=den E k 46 [.c (.l 81 sI4 a0),cI a1]
theorem zd9 (k:Nat) (a0:List I4) (a1:Int):wh5 (k+1) a0 a1=if (decide ((i64.wrap (a1-(a0.length:Int)))<0))=true then some (-1) else some (i64.wrap (a1-(a0.length:Int))):=by kernel_rfl
noncomputable def zg6 (k:Nat) (a0:List I4) (a1:Int):Option (Int):=den E k 44 [.c (.l 79 sI4 a0),cI a1]
theorem w9a (k:Nat) (a0:List I4) (a1:Int):zg6 (k+1) a0 a1=if (decide ((i64.wrap (a1-(a0.length:Int)))<0))=true then some (-1) else some (i64.wrap (a1-(a0.length:Int))):=by kernel_rfl
noncomputable def x73 (k:Nat) (a0:List Int) (a1:Int):Option (Int):=den E k 41 [.c (.l 3 (.i .i64) a0),cI a1]
theorem jta (k:Nat) (a0:List Int) (a1:Int):x73 (k+1) a0 a1=if (decide ((i64.wrap (a1-(a0.length:Int)))<0))=true then some (-1) else some (i64.wrap (a1-(a0.length:Int))):=by kernel_rfl
noncomputable def xf8 (k:Nat) (a0:List Int) (a1:Int):Option (Int):=den E k 40 [.agg [.l 3 (.i .i64) a0],cI a1]
theorem yhb (k:Nat) (a0:List Int) (a1:Int):xf8 (k+1) a0 a1=(x73 k a0 a1).bind fun p1=>if (decide (p1<0))=true then some (-1) else some p1:=by kernel_rfl
noncomputable def vi3 (k:Nat) (a0:List I6) (a1:Int):Option (Int):=den E k 47 [.c (.l 215 sI6 a0),cI a1]
theorem vl8 (k:Nat) (a0:List I6) (a1:Int):vi3 (k+1) a0 a1=if (decide ((i64.wrap (a1-(a0.length:Int)))<0))=true then some (-1) else some (i64.wrap (a1-(a0.length:Int))):=by kernel_rfl
noncomputable def zd6 (k:Nat) (a0:List I2) (a1:Int):Option (Int):=den E k 309 [.c (.l 357 sI2 a0),cI a1]
theorem v6a (k:Nat) (a0:List I2) (a1:Int):zd6 (k+1) a0 a1=if (decide ((i64.wrap (a1-(a0.length:Int)))<0))=true then some (-1) else some (i64.wrap (a1-(a0.length:Int))):=by kernel_rfl
noncomputable def wx4 (k:Nat) (a0:Int×(List Int)×List Int) (a1:Int):Option (Int):=den E k 371 [.agg (avs z7 a0),cI a1]
theorem vea (k:Nat) (a0:Int×(List Int)×List Int) (a1:Int):wx4 (k+1) a0 a1=(x73 k a0.2.1 a1).bind fun p1=>if (decide (p1<0))=true then some (-1) else (x73 k a0.2.2 p1).bind fun p2=>if (decide (p2<0))=true then some (-1) else some p2:=by kernel_rfl
noncomputable def jd4 (k:Nat) (a0:List (Int×(List Int)×List Int)) (a1:Int):Option (Int):=den E k 310 [.c (.l 355 z7 a0),cI a1]
abbrev x52:=(List (Int×(List Int)×List Int))
abbrev vx:=Int×Int
def wy4 (c0:x52) (v0:vx):St:=⟨27,0,[(0,.c (.l 355 z7 c0)),(1,cI v0.1),(5,cI v0.2)],[]⟩
noncomputable def zn5 {R:Type} (k:Nat) (X0:vx→(Int×(List Int)×List Int)→Int→Option R) (X1:vx→Option R) (c0:x52) (rec:vx→Option R) (v0:vx):Option R:=if (decide (v0.2<(c0.length:Int)))=true then if 0≤v0.2 then ix c0 v0.2.toNat fun x1=>(wx4 k x1 v0.1).bind fun p2=>if (decide (p2<0))=true then X0 v0 x1 p2 else rec (p2,(i64.wrap (v0.2+1))) else none else X1 v0
noncomputable def w63 {R:Type} (k:Nat) (X0:vx→(Int×(List Int)×List Int)→Int→Option R) (X1:vx→Option R) (c:x52):Nat→vx→Option R
 | 0,_=>none
 | n+1,v=>zn5 k X0 X1 c (w63 k X0 X1 c n) v
def zl4 (K:Ex→St→Option R) (c0:x52) (v0:vx) (x1:Int×(List Int)×List Int) (p2:Int):Option R:=K .ret ⟨27,0,[(0,.c (.l 355 z7 c0)),(1,cI p2),(4,cI (-1)),(5,cI v0.2),(12,cI v0.2),(13,.c (.l 355 z7 c0)),(14,cI (c0.length:Int)),(15,cB (decide (v0.2<(c0.length:Int)))),(18,.c (.l 355 z7 c0)),(19,cI v0.2),(20,.c (.at_ (avs z7 x1))),(21,.agg (avs z7 x1)),(22,cI v0.1),(23,cI p2),(24,cI p2),(25,cB (decide (p2<0)))],[]⟩
def wh4 (K:Ex→St→Option R) (c0:x52) (v0:vx):Option R:=K (.exit 0) ⟨27,0,[(0,.c (.l 355 z7 c0)),(1,cI v0.1),(5,cI v0.2),(12,cI v0.2),(13,.c (.l 355 z7 c0)),(14,cI (c0.length:Int)),(15,cB (decide (v0.2<(c0.length:Int))))],[]⟩
theorem jo7 (k:Nat) (K:Ex→St→Option R) (c0:x52):∀(n:Nat) (v:vx),z2 [0,0,1,5] (run E (den E k) (lv 310) k (j1 Tryz.f310 0)) n (wy4 c0 v) K=w63 k (zl4 K c0) (wh4 K c0) c0 n v:=j6 (B:=zn5 k (zl4 K c0) (wh4 K c0) c0) fun n v=>by kernel_rfl
theorem z48 (k:Nat) (a0:List (Int×(List Int)×List Int)) (a1:Int):jd4 (k+1) a0 a1=if (decide ((i64.wrap (a1-(a0.length:Int)))<0))=true then some (-1) else z2 (R:=Int) [0,0,1,5] (run E (den E k) (lv 310) k (j1 Tryz.f310 0)) k (wy4 a0 ((i64.wrap (a1-(a0.length:Int))),0)) (z8 E (den E k) (lv 310) k (yc Tryz.f310) 0 [] (xa E (rs 310) Tryz.f310:Ex→St→Option (Int))):=by kernel_rfl
theorem va9 (k:Nat) (a0:List (Int×(List Int)×List Int)) (a1:Int):jd4 (k+1) a0 a1=if (decide ((i64.wrap (a1-(a0.length:Int)))<0))=true then some (-1) else w63 k (fun (v0:I2) (x1:Int×(List Int)×List Int) (p2:Int)=>some (-1)) (fun (v0:I2)=>some v0.1) a0 k ((i64.wrap (a1-(a0.length:Int))),0):=by
 rw [z48]
 simp only [jo7]
 kernel_rfl
noncomputable def vz4 (k:Nat) (a0:ze) (a1:Int):Option (Int):=den E k 246 [.agg (avs vj a0),cI a1]
theorem zha (k:Nat) (a0:ze) (a1:Int):vz4 (k+1) a0 a1=(zd6 k a0.2.1 a1).bind fun p1=>if (decide (p1<0))=true then some (-1) else (jd4 k a0.2.2 p1).bind fun p2=>if (decide (p2<0))=true then some (-1) else some p2:=by kernel_rfl
noncomputable def wb4 (k:Nat) (a0:List ze) (a1:Int):Option (Int):=den E k 143 [.c (.l 270 vj a0),cI a1]
abbrev y42:=(List ze)
abbrev wy:=Int×Int
def xa5 (c0:y42) (v0:wy):St:=⟨27,0,[(0,.c (.l 270 vj c0)),(1,cI v0.1),(5,cI v0.2)],[]⟩
noncomputable def xp5 {R:Type} (k:Nat) (X0:wy→ze→Int→Option R) (X1:wy→Option R) (c0:y42) (rec:wy→Option R) (v0:wy):Option R:=if (decide (v0.2<(c0.length:Int)))=true then if 0≤v0.2 then ix c0 v0.2.toNat fun x1=>(vz4 k x1 v0.1).bind fun p2=>if (decide (p2<0))=true then X0 v0 x1 p2 else rec (p2,(i64.wrap (v0.2+1))) else none else X1 v0
noncomputable def v73 {R:Type} (k:Nat) (X0:wy→ze→Int→Option R) (X1:wy→Option R) (c:y42):Nat→wy→Option R
 | 0,_=>none
 | n+1,v=>xp5 k X0 X1 c (v73 k X0 X1 c n) v
def zk4 (K:Ex→St→Option R) (c0:y42) (v0:wy) (x1:ze) (p2:Int):Option R:=K .ret ⟨27,0,[(0,.c (.l 270 vj c0)),(1,cI p2),(4,cI (-1)),(5,cI v0.2),(12,cI v0.2),(13,.c (.l 270 vj c0)),(14,cI (c0.length:Int)),(15,cB (decide (v0.2<(c0.length:Int)))),(18,.c (.l 270 vj c0)),(19,cI v0.2),(20,.c (.at_ (avs vj x1))),(21,.agg (avs vj x1)),(22,cI v0.1),(23,cI p2),(24,cI p2),(25,cB (decide (p2<0)))],[]⟩
def jj4 (K:Ex→St→Option R) (c0:y42) (v0:wy):Option R:=K (.exit 0) ⟨27,0,[(0,.c (.l 270 vj c0)),(1,cI v0.1),(5,cI v0.2),(12,cI v0.2),(13,.c (.l 270 vj c0)),(14,cI (c0.length:Int)),(15,cB (decide (v0.2<(c0.length:Int))))],[]⟩
theorem zv7 (k:Nat) (K:Ex→St→Option R) (c0:y42):∀(n:Nat) (v:wy),z2 [0,0,1,5] (run E (den E k) (lv 143) k (j1 Tryz.f143 0)) n (xa5 c0 v) K=v73 k (zk4 K c0) (jj4 K c0) c0 n v:=j6 (B:=xp5 k (zk4 K c0) (jj4 K c0) c0) fun n v=>by kernel_rfl
theorem j28 (k:Nat) (a0:List ze) (a1:Int):wb4 (k+1) a0 a1=if (decide ((i64.wrap (a1-(a0.length:Int)))<0))=true then some (-1) else z2 (R:=Int) [0,0,1,5] (run E (den E k) (lv 143) k (j1 Tryz.f143 0)) k (xa5 a0 ((i64.wrap (a1-(a0.length:Int))),0)) (z8 E (den E k) (lv 143) k (yc Tryz.f143) 0 [] (xa E (rs 143) Tryz.f143:Ex→St→Option (Int))):=by kernel_rfl
theorem z69 (k:Nat) (a0:List ze) (a1:Int):wb4 (k+1) a0 a1=if (decide ((i64.wrap (a1-(a0.length:Int)))<0))=true then some (-1) else v73 k (fun (v0:I2) (x1:ze) (p2:Int)=>some (-1)) (fun (v0:I2)=>some v0.1) a0 k ((i64.wrap (a1-(a0.length:Int))),0):=by
 rw [j28]
 simp only [zv7]
 kernel_rfl
noncomputable def xr4 (k:Nat) (a0:j2) (a1:Int):Option (Int):=den E k 39 [.agg (avs y11 a0),cI a1]
theorem yl8 (k:Nat) (a0:j2) (a1:Int):xr4 (k+1) a0 a1=(wb4 k a0.2.2.2 a1).bind fun p1=>if (decide (p1<0))=true then some (-1) else some p1:=by kernel_rfl
noncomputable def xx4 (k:Nat) (a0:List I6) (a1:Int):Option (Int):=den E k 144 [.agg [.l 215 sI6 a0],cI a1]
theorem zx9 (k:Nat) (a0:List I6) (a1:Int):xx4 (k+1) a0 a1=(vi3 k a0 a1).bind fun p1=>if (decide (p1<0))=true then some (-1) else some p1:=by kernel_rfl
noncomputable def xe4 (k:Nat) (a0:List (List I6)) (a1:Int):Option (Int):=den E k 43 [.c (.l 177 xl a0),cI a1]
abbrev v52:=(List (List I6))
abbrev yz:=Int×Int
def ju4 (c0:v52) (v0:yz):St:=⟨27,0,[(0,.c (.l 177 xl c0)),(1,cI v0.1),(5,cI v0.2)],[]⟩
noncomputable def zl5 {R:Type} (k:Nat) (X0:yz→(List I6)→Int→Option R) (X1:yz→Option R) (c0:v52) (rec:yz→Option R) (v0:yz):Option R:=if (decide (v0.2<(c0.length:Int)))=true then if 0≤v0.2 then ix c0 v0.2.toNat fun x1=>(xx4 k x1 v0.1).bind fun p2=>if (decide (p2<0))=true then X0 v0 x1 p2 else rec (p2,(i64.wrap (v0.2+1))) else none else X1 v0
noncomputable def v83 {R:Type} (k:Nat) (X0:yz→(List I6)→Int→Option R) (X1:yz→Option R) (c:v52):Nat→yz→Option R
 | 0,_=>none
 | n+1,v=>zl5 k X0 X1 c (v83 k X0 X1 c n) v
def wg4 (K:Ex→St→Option R) (c0:v52) (v0:yz) (x1:List I6) (p2:Int):Option R:=K .ret ⟨27,0,[(0,.c (.l 177 xl c0)),(1,cI p2),(4,cI (-1)),(5,cI v0.2),(12,cI v0.2),(13,.c (.l 177 xl c0)),(14,cI (c0.length:Int)),(15,cB (decide (v0.2<(c0.length:Int)))),(18,.c (.l 177 xl c0)),(19,cI v0.2),(20,.c (.at_ [.l 215 sI6 x1])),(21,.agg [.l 215 sI6 x1]),(22,cI v0.1),(23,cI p2),(24,cI p2),(25,cB (decide (p2<0)))],[]⟩
def ym4 (K:Ex→St→Option R) (c0:v52) (v0:yz):Option R:=K (.exit 0) ⟨27,0,[(0,.c (.l 177 xl c0)),(1,cI v0.1),(5,cI v0.2),(12,cI v0.2),(13,.c (.l 177 xl c0)),(14,cI (c0.length:Int)),(15,cB (decide (v0.2<(c0.length:Int))))],[]⟩
theorem zp7 (k:Nat) (K:Ex→St→Option R) (c0:v52):∀(n:Nat) (v:yz),z2 [0,0,1,5] (run E (den E k) (lv 43) k (j1 Tryz.f43 0)) n (ju4 c0 v) K=v83 k (wg4 K c0) (ym4 K c0) c0 n v:=j6 (B:=zl5 k (wg4 K c0) (ym4 K c0) c0) fun n v=>by kernel_rfl
theorem wz7 (k:Nat) (a0:List (List I6)) (a1:Int):xe4 (k+1) a0 a1=if (decide ((i64.wrap (a1-(a0.length:Int)))<0))=true then some (-1) else z2 (R:=Int) [0,0,1,5] (run E (den E k) (lv 43) k (j1 Tryz.f43 0)) k (ju4 a0 ((i64.wrap (a1-(a0.length:Int))),0)) (z8 E (den E k) (lv 43) k (yc Tryz.f43) 0 [] (xa E (rs 43) Tryz.f43:Ex→St→Option (Int))):=by kernel_rfl
theorem x29 (k:Nat) (a0:List (List I6)) (a1:Int):xe4 (k+1) a0 a1=if (decide ((i64.wrap (a1-(a0.length:Int)))<0))=true then some (-1) else v83 k (fun (v0:I2) (x1:List I6) (p2:Int)=>some (-1)) (fun (v0:I2)=>some v0.1) a0 k ((i64.wrap (a1-(a0.length:Int))),0):=by
 rw [wz7]
 simp only [zp7]
 kernel_rfl
noncomputable def za6 (k:Nat) (a0:List I4) (a1:Int):Option (Int):=den E k 48 [.c (.l 217 sI4 a0),cI a1]
theorem wz9 (k:Nat) (a0:List I4) (a1:Int):za6 (k+1) a0 a1=if (decide ((i64.wrap (a1-(a0.length:Int)))<0))=true then some (-1) else some (i64.wrap (a1-(a0.length:Int))):=by kernel_rfl
noncomputable def zm7 (k:Nat) (a0:List I4) (a1:Int):Option (Int):=den E k 140 [.c (.l 273 sI4 a0),cI a1]
theorem xua (k:Nat) (a0:List I4) (a1:Int):zm7 (k+1) a0 a1=if (decide ((i64.wrap (a1-(a0.length:Int)))<0))=true then some (-1) else some (i64.wrap (a1-(a0.length:Int))):=by kernel_rfl
noncomputable def wj6 (k:Nat) (a0:List I3) (a1:Int):Option (Int):=den E k 141 [.c (.l 275 sI3 a0),cI a1]
theorem via (k:Nat) (a0:List I3) (a1:Int):wj6 (k+1) a0 a1=if (decide ((i64.wrap (a1-(a0.length:Int)))<0))=true then some (-1) else some (i64.wrap (a1-(a0.length:Int))):=by kernel_rfl
noncomputable def ve6 (k:Nat) (a0:List I3) (a1:Int):Option (Int):=den E k 142 [.c (.l 279 yk a0),cI a1]
theorem x4a (k:Nat) (a0:List I3) (a1:Int):ve6 (k+1) a0 a1=if (decide ((i64.wrap (a1-(a0.length:Int)))<0))=true then some (-1) else some (i64.wrap (a1-(a0.length:Int))):=by kernel_rfl
noncomputable def x98 (k:Nat) (a0:jd2) (a1:Int):Option (Int):=den E k 38 [.agg (avs ve4 a0),cI a1]
theorem y9b (k:Nat) (a0:jd2) (a1:Int):x98 (k+1) a0 a1=(zm7 k a0.2.1 a1).bind fun p1=>if (decide (p1<0))=true then some (-1) else (wj6 k a0.2.2.1 p1).bind fun p2=>if (decide (p2<0))=true then some (-1) else (ve6 k a0.2.2.2.2.2.2.2.2.1 p2).bind fun p3=>if (decide (p3<0))=true then some (-1) else some p3:=by kernel_rfl
noncomputable def jb4 (k:Nat) (a0:Int×Int×List Int) (a1:Int):Option (Int):=den E k 145 [.agg (avs z6 a0),cI a1]
theorem zl9 (k:Nat) (a0:Int×Int×List Int) (a1:Int):jb4 (k+1) a0 a1=(x73 k a0.2.2 a1).bind fun p1=>if (decide (p1<0))=true then some (-1) else some p1:=by kernel_rfl
noncomputable def xp3 (k:Nat) (a0:List (Int×Int×List Int)) (a1:Int):Option (Int):=den E k 45 [.c (.l 180 z6 a0),cI a1]
abbrev yw1:=(List (Int×Int×List Int))
abbrev zt:=Int×Int
def jm4 (c0:yw1) (v0:zt):St:=⟨27,0,[(0,.c (.l 180 z6 c0)),(1,cI v0.1),(5,cI v0.2)],[]⟩
noncomputable def w25 {R:Type} (k:Nat) (X0:zt→(Int×Int×List Int)→Int→Option R) (X1:zt→Option R) (c0:yw1) (rec:zt→Option R) (v0:zt):Option R:=if (decide (v0.2<(c0.length:Int)))=true then if 0≤v0.2 then ix c0 v0.2.toNat fun x1=>(jb4 k x1 v0.1).bind fun p2=>if (decide (p2<0))=true then X0 v0 x1 p2 else rec (p2,(i64.wrap (v0.2+1))) else none else X1 v0
noncomputable def zs2 {R:Type} (k:Nat) (X0:zt→(Int×Int×List Int)→Int→Option R) (X1:zt→Option R) (c:yw1):Nat→zt→Option R
 | 0,_=>none
 | n+1,v=>w25 k X0 X1 c (zs2 k X0 X1 c n) v
def yx3 (K:Ex→St→Option R) (c0:yw1) (v0:zt) (x1:Int×Int×List Int) (p2:Int):Option R:=K .ret ⟨27,0,[(0,.c (.l 180 z6 c0)),(1,cI p2),(4,cI (-1)),(5,cI v0.2),(12,cI v0.2),(13,.c (.l 180 z6 c0)),(14,cI (c0.length:Int)),(15,cB (decide (v0.2<(c0.length:Int)))),(18,.c (.l 180 z6 c0)),(19,cI v0.2),(20,.c (.at_ (avs z6 x1))),(21,.agg (avs z6 x1)),(22,cI v0.1),(23,cI p2),(24,cI p2),(25,cB (decide (p2<0)))],[]⟩
def j74 (K:Ex→St→Option R) (c0:yw1) (v0:zt):Option R:=K (.exit 0) ⟨27,0,[(0,.c (.l 180 z6 c0)),(1,cI v0.1),(5,cI v0.2),(12,cI v0.2),(13,.c (.l 180 z6 c0)),(14,cI (c0.length:Int)),(15,cB (decide (v0.2<(c0.length:Int))))],[]⟩
theorem xk7 (k:Nat) (K:Ex→St→Option R) (c0:yw1):∀(n:Nat) (v:zt),z2 [0,0,1,5] (run E (den E k) (lv 45) k (j1 Tryz.f45 0)) n (jm4 c0 v) K=zs2 k (yx3 K c0) (j74 K c0) c0 n v:=j6 (B:=w25 k (yx3 K c0) (j74 K c0) c0) fun n v=>by kernel_rfl
theorem zi7 (k:Nat) (a0:List (Int×Int×List Int)) (a1:Int):xp3 (k+1) a0 a1=if (decide ((i64.wrap (a1-(a0.length:Int)))<0))=true then some (-1) else z2 (R:=Int) [0,0,1,5] (run E (den E k) (lv 45) k (j1 Tryz.f45 0)) k (jm4 a0 ((i64.wrap (a1-(a0.length:Int))),0)) (z8 E (den E k) (lv 45) k (yc Tryz.f45) 0 [] (xa E (rs 45) Tryz.f45:Ex→St→Option (Int))):=by kernel_rfl
theorem zg8 (k:Nat) (a0:List (Int×Int×List Int)) (a1:Int):xp3 (k+1) a0 a1=if (decide ((i64.wrap (a1-(a0.length:Int)))<0))=true then some (-1) else zs2 k (fun (v0:I2) (x1:Int×Int×List Int) (p2:Int)=>some (-1)) (fun (v0:I2)=>some v0.1) a0 k ((i64.wrap (a1-(a0.length:Int))),0):=by
 rw [zi7]
 simp only [xk7]
 kernel_rfl
noncomputable def xg6 (k:Nat) (a0:xm) (a1:Int):Option (Int):=den E k 10 [.agg (avs jw a0),cI a1]
theorem y8a (k:Nat) (a0:xm) (a1:Int):xg6 (k+1) a0 a1=(x98 k a0.1 a1).bind fun p1=>if (decide (p1<0))=true then some (-1) else (xr4 k a0.2.1 p1).bind fun p2=>if (decide (p2<0))=true then some (-1) else (xf8 k a0.2.2.1 p2).bind fun p3=>if (decide (p3<0))=true then some (-1) else (x73 k a0.2.2.2.1 p3).bind fun p4=>if (decide (p4<0))=true then some (-1) else (jw3 k a0.2.2.2.2.1 p4).bind fun p5=>if (decide (p5<0))=true then some (-1) else (xe4 k a0.2.2.2.2.2.1 p5).bind fun p6=>if (decide (p6<0))=true then some (-1) else (zg6 k a0.2.2.2.2.2.2.1 p6).bind fun p7=>if (decide (p7<0))=true then some (-1) else (x73 k a0.2.2.2.2.2.2.2.1 p7).bind fun p8=>if (decide (p8<0))=true then some (-1) else (xp3 k a0.2.2.2.2.2.2.2.2.1 p8).bind fun p9=>if (decide (p9<0))=true then some (-1) else (wh5 k a0.2.2.2.2.2.2.2.2.2.1 p9).bind fun p10=>if (decide (p10<0))=true then some (-1) else (vi3 k a0.2.2.2.2.2.2.2.2.2.2.2.2.1 p10).bind fun p11=>if (decide (p11<0))=true then some (-1) else (za6 k a0.2.2.2.2.2.2.2.2.2.2.2.2.2 p11).bind fun p12=>if (decide (p12<0))=true then some (-1) else some p12:=by kernel_rfl
noncomputable def wi3 (k:Nat) (a0:I6):Option I6:=den E k 164 [.agg (avs sI6 a0)]
theorem x88 (k:Nat) (a0:I6):wi3 (k+1) a0=some a0:=by kernel_rfl
noncomputable def zo2 (k:Nat) (a0:List I6):Option (List I6):=den E k 64 [.c (.l 211 sI6 a0)]
abbrev xy1:=(List I6)
abbrev x31:=Int×(List I6)
def yy3 (c0:xy1) (v0:x31):St:=⟨23,1,[(0,.c (.l 211 sI6 c0)),(3,.c (.ref 0)),(4,cI v0.1)],[(0,.arr 159 sI6 v0.2)]⟩
noncomputable def wl4 {R:Type} (k:Nat) (X0:x31→Option R) (c0:xy1) (rec:x31→Option R) (v0:x31):Option R:=if (decide (v0.1<(c0.length:Int)))=true then if 0≤v0.1 then ix c0 v0.1.toNat fun x1=>(wi3 k x1).bind fun p2=>if 0≤v0.1 then if v0.1<(v0.2.length:Int) then ix v0.2 v0.1.toNat fun y3=>rec ((i64.wrap (v0.1+1)),(v0.2.set v0.1.toNat p2)) else none else none else none else X0 v0
noncomputable def xk2 {R:Type} (k:Nat) (X0:x31→Option R) (c:xy1):Nat→x31→Option R
 | 0,_=>none
 | n+1,v=>wl4 k X0 c (xk2 k X0 c n) v
def xr3 (K:Ex→St→Option R) (c0:xy1) (v0:x31):Option R:=K (.exit 0) ⟨23,1,[(0,.c (.l 211 sI6 c0)),(3,.c (.ref 0)),(4,cI v0.1),(8,cI v0.1),(9,.c (.l 211 sI6 c0)),(10,cI (c0.length:Int)),(11,cB (decide (v0.1<(c0.length:Int))))],[(0,.arr 159 sI6 v0.2)]⟩
theorem zx6 (k:Nat) (K:Ex→St→Option R) (c0:xy1):∀(n:Nat) (v:x31),z2 [0,0,3,4] (run E (den E k) (lv 64) k (j1 Tryz.f64 0)) n (yy3 c0 v) K=xk2 k (xr3 K c0) c0 n v:=j6 (B:=wl4 k (xr3 K c0) c0) fun n v=>by kernel_rfl
theorem vv6 (k:Nat) (a0:List I6):zo2 (k+1) a0=if ((a0.length:Int)==(a0.length:Int))=true then if 0≤(a0.length:Int) then if 48*(a0.length:Int).toNat≤281474976710656 then z2 (R:=List I6) [0,0,3,4] (run E (den E k) (lv 64) k (j1 Tryz.f64 0)) k (yy3 a0 (0,(List.replicate (a0.length:Int).toNat ((0,0,0,0,0,0):I6)))) (z8 E (den E k) (lv 64) k (yc Tryz.f64) 0 [] (xa E (rs 64) Tryz.f64:Ex→St→Option (List I6))) else none else none else none:=by kernel_rfl
theorem vq7 (k:Nat) (a0:List I6):zo2 (k+1) a0=if ((a0.length:Int)==(a0.length:Int))=true then if 0≤(a0.length:Int) then if 48*(a0.length:Int).toNat≤281474976710656 then xk2 k (fun (v0:Int×(List I6))=>some v0.2) a0 k (0,(List.replicate (a0.length:Int).toNat ((0,0,0,0,0,0):I6))) else none else none else none:=by
 rw [vv6]
 simp only [zx6]
 kernel_rfl
noncomputable def x45 (k:Nat) (a0:I4):Option I4:=den E k 135 [.agg (avs sI4 a0)]
theorem ju9 (k:Nat) (a0:I4):x45 (k+1) a0=some a0:=by kernel_rfl
noncomputable def xc3 (k:Nat) (a0:List I4):Option (List I4):=den E k 68 [.c (.l 81 sI4 a0)]
abbrev jl2:=(List I4)
abbrev ji1:=Int×(List I4)
def wv4 (c0:jl2) (v0:ji1):St:=⟨23,1,[(0,.c (.l 81 sI4 c0)),(3,.c (.ref 0)),(4,cI v0.1)],[(0,.arr 86 sI4 v0.2)]⟩
noncomputable def jo5 {R:Type} (k:Nat) (X0:ji1→Option R) (c0:jl2) (rec:ji1→Option R) (v0:ji1):Option R:=if (decide (v0.1<(c0.length:Int)))=true then if 0≤v0.1 then ix c0 v0.1.toNat fun x1=>(x45 k x1).bind fun p2=>if 0≤v0.1 then if v0.1<(v0.2.length:Int) then ix v0.2 v0.1.toNat fun y3=>rec ((i64.wrap (v0.1+1)),(v0.2.set v0.1.toNat p2)) else none else none else none else X0 v0
noncomputable def y93 {R:Type} (k:Nat) (X0:ji1→Option R) (c:jl2):Nat→ji1→Option R
 | 0,_=>none
 | n+1,v=>jo5 k X0 c (y93 k X0 c n) v
def vm4 (K:Ex→St→Option R) (c0:jl2) (v0:ji1):Option R:=K (.exit 0) ⟨23,1,[(0,.c (.l 81 sI4 c0)),(3,.c (.ref 0)),(4,cI v0.1),(8,cI v0.1),(9,.c (.l 81 sI4 c0)),(10,cI (c0.length:Int)),(11,cB (decide (v0.1<(c0.length:Int))))],[(0,.arr 86 sI4 v0.2)]⟩
theorem w18 (k:Nat) (K:Ex→St→Option R) (c0:jl2):∀(n:Nat) (v:ji1),z2 [0,0,3,4] (run E (den E k) (lv 68) k (j1 Tryz.f68 0)) n (wv4 c0 v) K=y93 k (vm4 K c0) c0 n v:=j6 (B:=jo5 k (vm4 K c0) c0) fun n v=>by kernel_rfl
theorem yz7 (k:Nat) (a0:List I4):xc3 (k+1) a0=if ((a0.length:Int)==(a0.length:Int))=true then if 0≤(a0.length:Int) then if 32*(a0.length:Int).toNat≤281474976710656 then z2 (R:=List I4) [0,0,3,4] (run E (den E k) (lv 68) k (j1 Tryz.f68 0)) k (wv4 a0 (0,(List.replicate (a0.length:Int).toNat ((0,0,0,0):I4)))) (z8 E (den E k) (lv 68) k (yc Tryz.f68) 0 [] (xa E (rs 68) Tryz.f68:Ex→St→Option (List I4))) else none else none else none:=by kernel_rfl
theorem zj9 (k:Nat) (a0:List I4):xc3 (k+1) a0=if ((a0.length:Int)==(a0.length:Int))=true then if 0≤(a0.length:Int) then if 32*(a0.length:Int).toNat≤281474976710656 then y93 k (fun (v0:Int×(List I4))=>some v0.2) a0 k (0,(List.replicate (a0.length:Int).toNat ((0,0,0,0):I4))) else none else none else none:=by
 rw [yz7]
 simp only [w18]
 kernel_rfl
noncomputable def w56 (k:Nat) (a0:I4):Option I4:=den E k 134 [.agg (avs sI4 a0)]
theorem yma (k:Nat) (a0:I4):w56 (k+1) a0=some a0:=by kernel_rfl
noncomputable def w34 (k:Nat) (a0:List I4):Option (List I4):=den E k 66 [.c (.l 79 sI4 a0)]
abbrev vx2:=(List I4)
abbrev jp1:=Int×(List I4)
def vp5 (c0:vx2) (v0:jp1):St:=⟨23,1,[(0,.c (.l 79 sI4 c0)),(3,.c (.ref 0)),(4,cI v0.1)],[(0,.arr 85 sI4 v0.2)]⟩
noncomputable def xj6 {R:Type} (k:Nat) (X0:jp1→Option R) (c0:vx2) (rec:jp1→Option R) (v0:jp1):Option R:=if (decide (v0.1<(c0.length:Int)))=true then if 0≤v0.1 then ix c0 v0.1.toNat fun x1=>(w56 k x1).bind fun p2=>if 0≤v0.1 then if v0.1<(v0.2.length:Int) then ix v0.2 v0.1.toNat fun y3=>rec ((i64.wrap (v0.1+1)),(v0.2.set v0.1.toNat p2)) else none else none else none else X0 v0
noncomputable def zj3 {R:Type} (k:Nat) (X0:jp1→Option R) (c:vx2):Nat→jp1→Option R
 | 0,_=>none
 | n+1,v=>xj6 k X0 c (zj3 k X0 c n) v
def x75 (K:Ex→St→Option R) (c0:vx2) (v0:jp1):Option R:=K (.exit 0) ⟨23,1,[(0,.c (.l 79 sI4 c0)),(3,.c (.ref 0)),(4,cI v0.1),(8,cI v0.1),(9,.c (.l 79 sI4 c0)),(10,cI (c0.length:Int)),(11,cB (decide (v0.1<(c0.length:Int))))],[(0,.arr 85 sI4 v0.2)]⟩
theorem xm8 (k:Nat) (K:Ex→St→Option R) (c0:vx2):∀(n:Nat) (v:jp1),z2 [0,0,3,4] (run E (den E k) (lv 66) k (j1 Tryz.f66 0)) n (vp5 c0 v) K=zj3 k (x75 K c0) c0 n v:=j6 (B:=xj6 k (x75 K c0) c0) fun n v=>by kernel_rfl
theorem vk8 (k:Nat) (a0:List I4):w34 (k+1) a0=if ((a0.length:Int)==(a0.length:Int))=true then if 0≤(a0.length:Int) then if 32*(a0.length:Int).toNat≤281474976710656 then z2 (R:=List I4) [0,0,3,4] (run E (den E k) (lv 66) k (j1 Tryz.f66 0)) k (vp5 a0 (0,(List.replicate (a0.length:Int).toNat ((0,0,0,0):I4)))) (z8 E (den E k) (lv 66) k (yc Tryz.f66) 0 [] (xa E (rs 66) Tryz.f66:Ex→St→Option (List I4))) else none else none else none:=by kernel_rfl
theorem y6a (k:Nat) (a0:List I4):w34 (k+1) a0=if ((a0.length:Int)==(a0.length:Int))=true then if 0≤(a0.length:Int) then if 32*(a0.length:Int).toNat≤281474976710656 then zj3 k (fun (v0:Int×(List I4))=>some v0.2) a0 k (0,(List.replicate (a0.length:Int).toNat ((0,0,0,0):I4))) else none else none else none:=by
 rw [vk8]
 simp only [xm8]
 kernel_rfl
noncomputable def wl1 (k:Nat) (a0:List Int):Option (List Int):=den E k 63 [.c (.l 3 (.i .i64) a0)]
abbrev wc3:=(List Int)
abbrev w62:=Int×(List Int)
def ya6 (c0:wc3) (v0:w62):St:=⟨22,1,[(0,.c (.l 3 (.i .i64) c0)),(3,.c (.ref 0)),(4,cI v0.1)],[(0,.arr 3 (.i .i64) v0.2)]⟩
noncomputable def z67 {R:Type} (k:Nat) (X0:w62→Option R) (c0:wc3) (rec:w62→Option R) (v0:w62):Option R:=if (decide (v0.1<(c0.length:Int)))=true then if 0≤v0.1 then ix c0 v0.1.toNat fun x1=>if 0≤v0.1 then if v0.1<(v0.2.length:Int) then ix v0.2 v0.1.toNat fun y2=>rec ((i64.wrap (v0.1+1)),(v0.2.set v0.1.toNat x1)) else none else none else none else X0 v0
noncomputable def wc4 {R:Type} (k:Nat) (X0:w62→Option R) (c:wc3):Nat→w62→Option R
 | 0,_=>none
 | n+1,v=>z67 k X0 c (wc4 k X0 c n) v
def zu5 (K:Ex→St→Option R) (c0:wc3) (v0:w62):Option R:=K (.exit 0) ⟨22,1,[(0,.c (.l 3 (.i .i64) c0)),(3,.c (.ref 0)),(4,cI v0.1),(8,cI v0.1),(9,.c (.l 3 (.i .i64) c0)),(10,cI (c0.length:Int)),(11,cB (decide (v0.1<(c0.length:Int))))],[(0,.arr 3 (.i .i64) v0.2)]⟩
theorem v29 (k:Nat) (K:Ex→St→Option R) (c0:wc3):∀(n:Nat) (v:w62),z2 [0,0,3,4] (run E (den E k) (lv 63) k (j1 Tryz.f63 0)) n (ya6 c0 v) K=wc4 k (zu5 K c0) c0 n v:=j6 (B:=z67 k (zu5 K c0) c0) fun n v=>by kernel_rfl
theorem xg9 (k:Nat) (a0:List Int):wl1 (k+1) a0=if ((a0.length:Int)==(a0.length:Int))=true then if 0≤(a0.length:Int) then if 8*(a0.length:Int).toNat≤281474976710656 then z2 (R:=List Int) [0,0,3,4] (run E (den E k) (lv 63) k (j1 Tryz.f63 0)) k (ya6 a0 (0,(List.replicate (a0.length:Int).toNat (0:Int)))) (z8 E (den E k) (lv 63) k (yc Tryz.f63) 0 [] (xa E (rs 63) Tryz.f63:Ex→St→Option (List Int))) else none else none else none:=by kernel_rfl
theorem xsa (k:Nat) (a0:List Int):wl1 (k+1) a0=if ((a0.length:Int)==(a0.length:Int))=true then if 0≤(a0.length:Int) then if 8*(a0.length:Int).toNat≤281474976710656 then wc4 k (fun (v0:Int×(List Int))=>some v0.2) a0 k (0,(List.replicate (a0.length:Int).toNat (0:Int))) else none else none else none:=by
 rw [xg9]
 simp only [v29]
 kernel_rfl
noncomputable def xl7 (k:Nat) (a0:List Int):Option (List Int):=den E k 62 [.agg [.l 3 (.i .i64) a0]]
theorem yib (k:Nat) (a0:List Int):xl7 (k+1) a0=(wl1 k a0).bind fun p1=>some p1:=by kernel_rfl
noncomputable def x84 (k:Nat) (a0:I6):Option I6:=den E k 167 [.agg (avs sI6 a0)]
theorem v99 (k:Nat) (a0:I6):x84 (k+1) a0=some a0:=by kernel_rfl
noncomputable def v02 (k:Nat) (a0:List I6):Option (List I6):=den E k 69 [.c (.l 215 sI6 a0)]
abbrev zc2:=(List I6)
abbrev va1:=Int×(List I6)
def jk4 (c0:zc2) (v0:va1):St:=⟨23,1,[(0,.c (.l 215 sI6 c0)),(3,.c (.ref 0)),(4,cI v0.1)],[(0,.arr 66 sI6 v0.2)]⟩
noncomputable def y15 {R:Type} (k:Nat) (X0:va1→Option R) (c0:zc2) (rec:va1→Option R) (v0:va1):Option R:=if (decide (v0.1<(c0.length:Int)))=true then if 0≤v0.1 then ix c0 v0.1.toNat fun x1=>(x84 k x1).bind fun p2=>if 0≤v0.1 then if v0.1<(v0.2.length:Int) then ix v0.2 v0.1.toNat fun y3=>rec ((i64.wrap (v0.1+1)),(v0.2.set v0.1.toNat p2)) else none else none else none else X0 v0
noncomputable def jr2 {R:Type} (k:Nat) (X0:va1→Option R) (c:zc2):Nat→va1→Option R
 | 0,_=>none
 | n+1,v=>y15 k X0 c (jr2 k X0 c n) v
def w14 (K:Ex→St→Option R) (c0:zc2) (v0:va1):Option R:=K (.exit 0) ⟨23,1,[(0,.c (.l 215 sI6 c0)),(3,.c (.ref 0)),(4,cI v0.1),(8,cI v0.1),(9,.c (.l 215 sI6 c0)),(10,cI (c0.length:Int)),(11,cB (decide (v0.1<(c0.length:Int))))],[(0,.arr 66 sI6 v0.2)]⟩
theorem j67 (k:Nat) (K:Ex→St→Option R) (c0:zc2):∀(n:Nat) (v:va1),z2 [0,0,3,4] (run E (den E k) (lv 69) k (j1 Tryz.f69 0)) n (jk4 c0 v) K=jr2 k (w14 K c0) c0 n v:=j6 (B:=y15 k (w14 K c0) c0) fun n v=>by kernel_rfl
theorem zk7 (k:Nat) (a0:List I6):v02 (k+1) a0=if ((a0.length:Int)==(a0.length:Int))=true then if 0≤(a0.length:Int) then if 48*(a0.length:Int).toNat≤281474976710656 then z2 (R:=List I6) [0,0,3,4] (run E (den E k) (lv 69) k (j1 Tryz.f69 0)) k (jk4 a0 (0,(List.replicate (a0.length:Int).toNat ((0,0,0,0,0,0):I6)))) (z8 E (den E k) (lv 69) k (yc Tryz.f69) 0 [] (xa E (rs 69) Tryz.f69:Ex→St→Option (List I6))) else none else none else none:=by kernel_rfl
theorem jb8 (k:Nat) (a0:List I6):v02 (k+1) a0=if ((a0.length:Int)==(a0.length:Int))=true then if 0≤(a0.length:Int) then if 48*(a0.length:Int).toNat≤281474976710656 then jr2 k (fun (v0:Int×(List I6))=>some v0.2) a0 k (0,(List.replicate (a0.length:Int).toNat ((0,0,0,0,0,0):I6))) else none else none else none:=by
 rw [zk7]
 simp only [j67]
 kernel_rfl
noncomputable def x36 (k:Nat) (a0:I2):Option I2:=den E k 373 [.agg [vI a0.1,vI a0.2]]
theorem vxa (k:Nat) (a0:I2):x36 (k+1) a0=some a0:=by kernel_rfl
noncomputable def wz3 (k:Nat) (a0:List I2):Option (List I2):=den E k 316 [.c (.l 357 sI2 a0)]
abbrev w23:=(List I2)
abbrev zp1:=Int×(List I2)
def wn5 (c0:w23) (v0:zp1):St:=⟨23,1,[(0,.c (.l 357 sI2 c0)),(3,.c (.ref 0)),(4,cI v0.1)],[(0,.arr 348 sI2 v0.2)]⟩
noncomputable def je6 {R:Type} (k:Nat) (X0:zp1→Option R) (c0:w23) (rec:zp1→Option R) (v0:zp1):Option R:=if (decide (v0.1<(c0.length:Int)))=true then if 0≤v0.1 then ix c0 v0.1.toNat fun x1=>(x36 k x1).bind fun p2=>if 0≤v0.1 then if v0.1<(v0.2.length:Int) then ix v0.2 v0.1.toNat fun y3=>rec ((i64.wrap (v0.1+1)),(v0.2.set v0.1.toNat p2)) else none else none else none else X0 v0
noncomputable def zo3 {R:Type} (k:Nat) (X0:zp1→Option R) (c:w23):Nat→zp1→Option R
 | 0,_=>none
 | n+1,v=>je6 k X0 c (zo3 k X0 c n) v
def yv4 (K:Ex→St→Option R) (c0:w23) (v0:zp1):Option R:=K (.exit 0) ⟨23,1,[(0,.c (.l 357 sI2 c0)),(3,.c (.ref 0)),(4,cI v0.1),(8,cI v0.1),(9,.c (.l 357 sI2 c0)),(10,cI (c0.length:Int)),(11,cB (decide (v0.1<(c0.length:Int))))],[(0,.arr 348 sI2 v0.2)]⟩
theorem jg8 (k:Nat) (K:Ex→St→Option R) (c0:w23):∀(n:Nat) (v:zp1),z2 [0,0,3,4] (run E (den E k) (lv 316) k (j1 Tryz.f316 0)) n (wn5 c0 v) K=zo3 k (yv4 K c0) c0 n v:=j6 (B:=je6 k (yv4 K c0) c0) fun n v=>by kernel_rfl
theorem wc8 (k:Nat) (a0:List I2):wz3 (k+1) a0=if ((a0.length:Int)==(a0.length:Int))=true then if 0≤(a0.length:Int) then if 16*(a0.length:Int).toNat≤281474976710656 then z2 (R:=List I2) [0,0,3,4] (run E (den E k) (lv 316) k (j1 Tryz.f316 0)) k (wn5 a0 (0,(List.replicate (a0.length:Int).toNat ((0,0):I2)))) (z8 E (den E k) (lv 316) k (yc Tryz.f316) 0 [] (xa E (rs 316) Tryz.f316:Ex→St→Option (List I2))) else none else none else none:=by kernel_rfl
theorem jaa (k:Nat) (a0:List I2):wz3 (k+1) a0=if ((a0.length:Int)==(a0.length:Int))=true then if 0≤(a0.length:Int) then if 16*(a0.length:Int).toNat≤281474976710656 then zo3 k (fun (v0:Int×(List I2))=>some v0.2) a0 k (0,(List.replicate (a0.length:Int).toNat ((0,0):I2))) else none else none else none:=by
 rw [wc8]
 simp only [jg8]
 kernel_rfl
noncomputable def w26 (k:Nat) (a0:I2):Option I2:=den E k 315 [.agg [vI a0.1,vI a0.2]]
theorem jla (k:Nat) (a0:I2):w26 (k+1) a0=some a0:=by kernel_rfl
noncomputable def y85 (k:Nat) (a0:Int×(List Int)×List Int):Option (Int×(List Int)×List Int):=den E k 374 [.agg (avs z7 a0)]
theorem yo9 (k:Nat) (a0:Int×(List Int)×List Int):y85 (k+1) a0=(wl1 k a0.2.1).bind fun p1=>(wl1 k a0.2.2).bind fun p2=>some (a0.1,p1,p2):=by kernel_rfl
noncomputable def vh3 (k:Nat) (a0:List (Int×(List Int)×List Int)):Option (List (Int×(List Int)×List Int)):=den E k 317 [.c (.l 355 z7 a0)]
abbrev yn2:=(List (Int×(List Int)×List Int))
abbrev jj1:=Int×(List (Int×(List Int)×List Int))
def z55 (c0:yn2) (v0:jj1):St:=⟨23,1,[(0,.c (.l 355 z7 c0)),(3,.c (.ref 0)),(4,cI v0.1)],[(0,.arr 220 z7 v0.2)]⟩
noncomputable def wm5 {R:Type} (k:Nat) (X0:jj1→Option R) (c0:yn2) (rec:jj1→Option R) (v0:jj1):Option R:=if (decide (v0.1<(c0.length:Int)))=true then if 0≤v0.1 then ix c0 v0.1.toNat fun x1=>(y85 k x1).bind fun p2=>if 0≤v0.1 then if v0.1<(v0.2.length:Int) then ix v0.2 v0.1.toNat fun y3=>rec ((i64.wrap (v0.1+1)),(v0.2.set v0.1.toNat p2)) else none else none else none else X0 v0
noncomputable def y83 {R:Type} (k:Nat) (X0:jj1→Option R) (c:yn2):Nat→jj1→Option R
 | 0,_=>none
 | n+1,v=>wm5 k X0 c (y83 k X0 c n) v
def yj4 (K:Ex→St→Option R) (c0:yn2) (v0:jj1):Option R:=K (.exit 0) ⟨23,1,[(0,.c (.l 355 z7 c0)),(3,.c (.ref 0)),(4,cI v0.1),(8,cI v0.1),(9,.c (.l 355 z7 c0)),(10,cI (c0.length:Int)),(11,cB (decide (v0.1<(c0.length:Int))))],[(0,.arr 220 z7 v0.2)]⟩
theorem ww7 (k:Nat) (K:Ex→St→Option R) (c0:yn2):∀(n:Nat) (v:jj1),z2 [0,0,3,4] (run E (den E k) (lv 317) k (j1 Tryz.f317 0)) n (z55 c0 v) K=y83 k (yj4 K c0) c0 n v:=j6 (B:=wm5 k (yj4 K c0) c0) fun n v=>by kernel_rfl
theorem xw7 (k:Nat) (a0:List (Int×(List Int)×List Int)):vh3 (k+1) a0=if ((a0.length:Int)==(a0.length:Int))=true then if 0≤(a0.length:Int) then if 56*(a0.length:Int).toNat≤281474976710656 then z2 (R:=List (Int×(List Int)×List Int)) [0,0,3,4] (run E (den E k) (lv 317) k (j1 Tryz.f317 0)) k (z55 a0 (0,(List.replicate (a0.length:Int).toNat ((0,[],[]):Int×(List Int)×List Int)))) (z8 E (den E k) (lv 317) k (yc Tryz.f317) 0 [] (xa E (rs 317) Tryz.f317:Ex→St→Option (List (Int×(List Int)×List Int)))) else none else none else none:=by kernel_rfl
theorem wl9 (k:Nat) (a0:List (Int×(List Int)×List Int)):vh3 (k+1) a0=if ((a0.length:Int)==(a0.length:Int))=true then if 0≤(a0.length:Int) then if 56*(a0.length:Int).toNat≤281474976710656 then y83 k (fun (v0:Int×(List (Int×(List Int)×List Int)))=>some v0.2) a0 k (0,(List.replicate (a0.length:Int).toNat ((0,[],[]):Int×(List Int)×List Int))) else none else none else none:=by
 rw [xw7]
 simp only [ww7]
 kernel_rfl
noncomputable def vw4 (k:Nat) (a0:ze):Option ze:=den E k 253 [.agg (avs vj a0)]
theorem jja (k:Nat) (a0:ze):vw4 (k+1) a0=(w26 k a0.1).bind fun p1=>(wz3 k a0.2.1).bind fun p2=>(vh3 k a0.2.2).bind fun p3=>some (p1,p2,p3):=by kernel_rfl
noncomputable def zd3 (k:Nat) (a0:List ze):Option (List ze):=den E k 163 [.c (.l 270 vj a0)]
abbrev wo2:=(List ze)
abbrev wk1:=Int×(List ze)
def w45 (c0:wo2) (v0:wk1):St:=⟨23,1,[(0,.c (.l 270 vj c0)),(3,.c (.ref 0)),(4,cI v0.1)],[(0,.arr 198 we v0.2)]⟩
noncomputable def yu5 {R:Type} (k:Nat) (X0:wk1→Option R) (c0:wo2) (rec:wk1→Option R) (v0:wk1):Option R:=if (decide (v0.1<(c0.length:Int)))=true then if 0≤v0.1 then ix c0 v0.1.toNat fun x1=>(vw4 k x1).bind fun p2=>if 0≤v0.1 then if v0.1<(v0.2.length:Int) then ix v0.2 v0.1.toNat fun y3=>rec ((i64.wrap (v0.1+1)),(v0.2.set v0.1.toNat p2)) else none else none else none else X0 v0
noncomputable def j73 {R:Type} (k:Nat) (X0:wk1→Option R) (c:wo2):Nat→wk1→Option R
 | 0,_=>none
 | n+1,v=>yu5 k X0 c (j73 k X0 c n) v
def xh4 (K:Ex→St→Option R) (c0:wo2) (v0:wk1):Option R:=K (.exit 0) ⟨23,1,[(0,.c (.l 270 vj c0)),(3,.c (.ref 0)),(4,cI v0.1),(8,cI v0.1),(9,.c (.l 270 vj c0)),(10,cI (c0.length:Int)),(11,cB (decide (v0.1<(c0.length:Int))))],[(0,.arr 198 we v0.2)]⟩
theorem y68 (k:Nat) (K:Ex→St→Option R) (c0:wo2):∀(n:Nat) (v:wk1),z2 [0,0,3,4] (run E (den E k) (lv 163) k (j1 Tryz.f163 0)) n (w45 c0 v) K=j73 k (xh4 K c0) c0 n v:=j6 (B:=yu5 k (xh4 K c0) c0) fun n v=>by kernel_rfl
theorem vp7 (k:Nat) (a0:List ze):zd3 (k+1) a0=if ((a0.length:Int)==(a0.length:Int))=true then if 0≤(a0.length:Int) then if 64*(a0.length:Int).toNat≤281474976710656 then z2 (R:=List ze) [0,0,3,4] (run E (den E k) (lv 163) k (j1 Tryz.f163 0)) k (w45 a0 (0,(List.replicate (a0.length:Int).toNat (((0,0),[],[]):ze)))) (z8 E (den E k) (lv 163) k (yc Tryz.f163) 0 [] (xa E (rs 163) Tryz.f163:Ex→St→Option (List ze))) else none else none else none:=by kernel_rfl
theorem w99 (k:Nat) (a0:List ze):zd3 (k+1) a0=if ((a0.length:Int)==(a0.length:Int))=true then if 0≤(a0.length:Int) then if 64*(a0.length:Int).toNat≤281474976710656 then j73 k (fun (v0:Int×(List ze))=>some v0.2) a0 k (0,(List.replicate (a0.length:Int).toNat (((0,0),[],[]):ze))) else none else none else none:=by
 rw [vp7]
 simp only [y68]
 kernel_rfl
noncomputable def vk3 (k:Nat) (a0:j2):Option j2:=den E k 61 [.agg (avs y11 a0)]
theorem vj8 (k:Nat) (a0:j2):vk3 (k+1) a0=(zd3 k a0.2.2.2).bind fun p1=>some (a0.1,a0.2.1,a0.2.2.1,p1):=by kernel_rfl
noncomputable def jz4 (k:Nat) (a0:List I6):Option (List I6):=den E k 165 [.agg [.l 215 sI6 a0]]
theorem y3a (k:Nat) (a0:List I6):jz4 (k+1) a0=(v02 k a0).bind fun p1=>some p1:=by kernel_rfl
noncomputable def xf3 (k:Nat) (a0:List (List I6)):Option (List (List I6)):=den E k 65 [.c (.l 177 xl a0)]
abbrev vn2:=(List (List I6))
abbrev zk1:=Int×(List (List I6))
def jc5 (c0:vn2) (v0:zk1):St:=⟨23,1,[(0,.c (.l 177 xl c0)),(3,.c (.ref 0)),(4,cI v0.1)],[(0,.arr 140 vg v0.2)]⟩
noncomputable def jk5 {R:Type} (k:Nat) (X0:zk1→Option R) (c0:vn2) (rec:zk1→Option R) (v0:zk1):Option R:=if (decide (v0.1<(c0.length:Int)))=true then if 0≤v0.1 then ix c0 v0.1.toNat fun x1=>(jz4 k x1).bind fun p2=>if 0≤v0.1 then if v0.1<(v0.2.length:Int) then ix v0.2 v0.1.toNat fun y3=>rec ((i64.wrap (v0.1+1)),(v0.2.set v0.1.toNat p2)) else none else none else none else X0 v0
noncomputable def v93 {R:Type} (k:Nat) (X0:zk1→Option R) (c:vn2):Nat→zk1→Option R
 | 0,_=>none
 | n+1,v=>jk5 k X0 c (v93 k X0 c n) v
def xi4 (K:Ex→St→Option R) (c0:vn2) (v0:zk1):Option R:=K (.exit 0) ⟨23,1,[(0,.c (.l 177 xl c0)),(3,.c (.ref 0)),(4,cI v0.1),(8,cI v0.1),(9,.c (.l 177 xl c0)),(10,cI (c0.length:Int)),(11,cB (decide (v0.1<(c0.length:Int))))],[(0,.arr 140 vg v0.2)]⟩
theorem vx7 (k:Nat) (K:Ex→St→Option R) (c0:vn2):∀(n:Nat) (v:zk1),z2 [0,0,3,4] (run E (den E k) (lv 65) k (j1 Tryz.f65 0)) n (jc5 c0 v) K=v93 k (xi4 K c0) c0 n v:=j6 (B:=jk5 k (xi4 K c0) c0) fun n v=>by kernel_rfl
theorem jr7 (k:Nat) (a0:List (List I6)):xf3 (k+1) a0=if ((a0.length:Int)==(a0.length:Int))=true then if 0≤(a0.length:Int) then if 24*(a0.length:Int).toNat≤281474976710656 then z2 (R:=List (List I6)) [0,0,3,4] (run E (den E k) (lv 65) k (j1 Tryz.f65 0)) k (jc5 a0 (0,(List.replicate (a0.length:Int).toNat ([]:List I6)))) (z8 E (den E k) (lv 65) k (yc Tryz.f65) 0 [] (xa E (rs 65) Tryz.f65:Ex→St→Option (List (List I6)))) else none else none else none:=by kernel_rfl
theorem yj9 (k:Nat) (a0:List (List I6)):xf3 (k+1) a0=if ((a0.length:Int)==(a0.length:Int))=true then if 0≤(a0.length:Int) then if 24*(a0.length:Int).toNat≤281474976710656 then v93 k (fun (v0:Int×(List (List I6)))=>some v0.2) a0 k (0,(List.replicate (a0.length:Int).toNat ([]:List I6))) else none else none else none:=by
 rw [jr7]
 simp only [vx7]
 kernel_rfl
noncomputable def x66 (k:Nat) (a0:I4):Option I4:=den E k 168 [.agg (avs sI4 a0)]
theorem jpa (k:Nat) (a0:I4):x66 (k+1) a0=some a0:=by kernel_rfl
noncomputable def zx3 (k:Nat) (a0:List I4):Option (List I4):=den E k 70 [.c (.l 217 sI4 a0)]
abbrev z13:=(List I4)
abbrev xq1:=Int×(List I4)
def zp5 (c0:z13) (v0:xq1):St:=⟨23,1,[(0,.c (.l 217 sI4 c0)),(3,.c (.ref 0)),(4,cI v0.1)],[(0,.arr 146 sI4 v0.2)]⟩
noncomputable def wp6 {R:Type} (k:Nat) (X0:xq1→Option R) (c0:z13) (rec:xq1→Option R) (v0:xq1):Option R:=if (decide (v0.1<(c0.length:Int)))=true then if 0≤v0.1 then ix c0 v0.1.toNat fun x1=>(x66 k x1).bind fun p2=>if 0≤v0.1 then if v0.1<(v0.2.length:Int) then ix v0.2 v0.1.toNat fun y3=>rec ((i64.wrap (v0.1+1)),(v0.2.set v0.1.toNat p2)) else none else none else none else X0 v0
noncomputable def vn3 {R:Type} (k:Nat) (X0:xq1→Option R) (c:z13):Nat→xq1→Option R
 | 0,_=>none
 | n+1,v=>wp6 k X0 c (vn3 k X0 c n) v
def y75 (K:Ex→St→Option R) (c0:z13) (v0:xq1):Option R:=K (.exit 0) ⟨23,1,[(0,.c (.l 217 sI4 c0)),(3,.c (.ref 0)),(4,cI v0.1),(8,cI v0.1),(9,.c (.l 217 sI4 c0)),(10,cI (c0.length:Int)),(11,cB (decide (v0.1<(c0.length:Int))))],[(0,.arr 146 sI4 v0.2)]⟩
theorem zf8 (k:Nat) (K:Ex→St→Option R) (c0:z13):∀(n:Nat) (v:xq1),z2 [0,0,3,4] (run E (den E k) (lv 70) k (j1 Tryz.f70 0)) n (zp5 c0 v) K=vn3 k (y75 K c0) c0 n v:=j6 (B:=wp6 k (y75 K c0) c0) fun n v=>by kernel_rfl
theorem yk8 (k:Nat) (a0:List I4):zx3 (k+1) a0=if ((a0.length:Int)==(a0.length:Int))=true then if 0≤(a0.length:Int) then if 32*(a0.length:Int).toNat≤281474976710656 then z2 (R:=List I4) [0,0,3,4] (run E (den E k) (lv 70) k (j1 Tryz.f70 0)) k (zp5 a0 (0,(List.replicate (a0.length:Int).toNat ((0,0,0,0):I4)))) (z8 E (den E k) (lv 70) k (yc Tryz.f70) 0 [] (xa E (rs 70) Tryz.f70:Ex→St→Option (List I4))) else none else none else none:=by kernel_rfl
theorem zq9 (k:Nat) (a0:List I4):zx3 (k+1) a0=if ((a0.length:Int)==(a0.length:Int))=true then if 0≤(a0.length:Int) then if 32*(a0.length:Int).toNat≤281474976710656 then vn3 k (fun (v0:Int×(List I4))=>some v0.2) a0 k (0,(List.replicate (a0.length:Int).toNat ((0,0,0,0):I4))) else none else none else none:=by
 rw [yk8]
 simp only [zf8]
 kernel_rfl
noncomputable def yh7 (k:Nat) (a0:I4):Option I4:=den E k 250 [.agg (avs sI4 a0)]
theorem j7b (k:Nat) (a0:I4):yh7 (k+1) a0=some a0:=by kernel_rfl
noncomputable def x65 (k:Nat) (a0:List I4):Option (List I4):=den E k 160 [.c (.l 273 sI4 a0)]
abbrev je3:=(List I4)
abbrev x42:=Int×(List I4)
def zh6 (c0:je3) (v0:x42):St:=⟨23,1,[(0,.c (.l 273 sI4 c0)),(3,.c (.ref 0)),(4,cI v0.1)],[(0,.arr 186 sI4 v0.2)]⟩
noncomputable def vz6 {R:Type} (k:Nat) (X0:x42→Option R) (c0:je3) (rec:x42→Option R) (v0:x42):Option R:=if (decide (v0.1<(c0.length:Int)))=true then if 0≤v0.1 then ix c0 v0.1.toNat fun x1=>(yh7 k x1).bind fun p2=>if 0≤v0.1 then if v0.1<(v0.2.length:Int) then ix v0.2 v0.1.toNat fun y3=>rec ((i64.wrap (v0.1+1)),(v0.2.set v0.1.toNat p2)) else none else none else none else X0 v0
noncomputable def wd4 {R:Type} (k:Nat) (X0:x42→Option R) (c:je3):Nat→x42→Option R
 | 0,_=>none
 | n+1,v=>vz6 k X0 c (wd4 k X0 c n) v
def js5 (K:Ex→St→Option R) (c0:je3) (v0:x42):Option R:=K (.exit 0) ⟨23,1,[(0,.c (.l 273 sI4 c0)),(3,.c (.ref 0)),(4,cI v0.1),(8,cI v0.1),(9,.c (.l 273 sI4 c0)),(10,cI (c0.length:Int)),(11,cB (decide (v0.1<(c0.length:Int))))],[(0,.arr 186 sI4 v0.2)]⟩
theorem wc9 (k:Nat) (K:Ex→St→Option R) (c0:je3):∀(n:Nat) (v:x42),z2 [0,0,3,4] (run E (den E k) (lv 160) k (j1 Tryz.f160 0)) n (zh6 c0 v) K=wd4 k (js5 K c0) c0 n v:=j6 (B:=vz6 k (js5 K c0) c0) fun n v=>by kernel_rfl
theorem vi9 (k:Nat) (a0:List I4):x65 (k+1) a0=if ((a0.length:Int)==(a0.length:Int))=true then if 0≤(a0.length:Int) then if 32*(a0.length:Int).toNat≤281474976710656 then z2 (R:=List I4) [0,0,3,4] (run E (den E k) (lv 160) k (j1 Tryz.f160 0)) k (zh6 a0 (0,(List.replicate (a0.length:Int).toNat ((0,0,0,0):I4)))) (z8 E (den E k) (lv 160) k (yc Tryz.f160) 0 [] (xa E (rs 160) Tryz.f160:Ex→St→Option (List I4))) else none else none else none:=by kernel_rfl
theorem zsa (k:Nat) (a0:List I4):x65 (k+1) a0=if ((a0.length:Int)==(a0.length:Int))=true then if 0≤(a0.length:Int) then if 32*(a0.length:Int).toNat≤281474976710656 then wd4 k (fun (v0:Int×(List I4))=>some v0.2) a0 k (0,(List.replicate (a0.length:Int).toNat ((0,0,0,0):I4))) else none else none else none:=by
 rw [vi9]
 simp only [wc9]
 kernel_rfl
noncomputable def y26 (k:Nat) (a0:I3):Option I3:=den E k 251 [.agg (avs sI3 a0)]
theorem j2b (k:Nat) (a0:I3):y26 (k+1) a0=some a0:=by kernel_rfl
noncomputable def x74 (k:Nat) (a0:List I3):Option (List I3):=den E k 161 [.c (.l 275 sI3 a0)]
abbrev x33:=(List I3)
abbrev js1:=Int×(List I3)
def xk5 (c0:x33) (v0:js1):St:=⟨23,1,[(0,.c (.l 275 sI3 c0)),(3,.c (.ref 0)),(4,cI v0.1)],[(0,.arr 188 sI3 v0.2)]⟩
noncomputable def vj6 {R:Type} (k:Nat) (X0:js1→Option R) (c0:x33) (rec:js1→Option R) (v0:js1):Option R:=if (decide (v0.1<(c0.length:Int)))=true then if 0≤v0.1 then ix c0 v0.1.toNat fun x1=>(y26 k x1).bind fun p2=>if 0≤v0.1 then if v0.1<(v0.2.length:Int) then ix v0.2 v0.1.toNat fun y3=>rec ((i64.wrap (v0.1+1)),(v0.2.set v0.1.toNat p2)) else none else none else none else X0 v0
noncomputable def jk3 {R:Type} (k:Nat) (X0:js1→Option R) (c:x33):Nat→js1→Option R
 | 0,_=>none
 | n+1,v=>vj6 k X0 c (jk3 k X0 c n) v
def xt4 (K:Ex→St→Option R) (c0:x33) (v0:js1):Option R:=K (.exit 0) ⟨23,1,[(0,.c (.l 275 sI3 c0)),(3,.c (.ref 0)),(4,cI v0.1),(8,cI v0.1),(9,.c (.l 275 sI3 c0)),(10,cI (c0.length:Int)),(11,cB (decide (v0.1<(c0.length:Int))))],[(0,.arr 188 sI3 v0.2)]⟩
theorem xb8 (k:Nat) (K:Ex→St→Option R) (c0:x33):∀(n:Nat) (v:js1),z2 [0,0,3,4] (run E (den E k) (lv 161) k (j1 Tryz.f161 0)) n (xk5 c0 v) K=jk3 k (xt4 K c0) c0 n v:=j6 (B:=vj6 k (xt4 K c0) c0) fun n v=>by kernel_rfl
theorem vr8 (k:Nat) (a0:List I3):x74 (k+1) a0=if ((a0.length:Int)==(a0.length:Int))=true then if 0≤(a0.length:Int) then if 24*(a0.length:Int).toNat≤281474976710656 then z2 (R:=List I3) [0,0,3,4] (run E (den E k) (lv 161) k (j1 Tryz.f161 0)) k (xk5 a0 (0,(List.replicate (a0.length:Int).toNat ((0,0,0):I3)))) (z8 E (den E k) (lv 161) k (yc Tryz.f161) 0 [] (xa E (rs 161) Tryz.f161:Ex→St→Option (List I3))) else none else none else none:=by kernel_rfl
theorem v3a (k:Nat) (a0:List I3):x74 (k+1) a0=if ((a0.length:Int)==(a0.length:Int))=true then if 0≤(a0.length:Int) then if 24*(a0.length:Int).toNat≤281474976710656 then jk3 k (fun (v0:Int×(List I3))=>some v0.2) a0 k (0,(List.replicate (a0.length:Int).toNat ((0,0,0):I3))) else none else none else none:=by
 rw [vr8]
 simp only [xb8]
 kernel_rfl
noncomputable def vm7 (k:Nat) (a0:I2):Option I2:=den E k 314 [.agg [vI a0.1,vI a0.2]]
theorem v9b (k:Nat) (a0:I2):vm7 (k+1) a0=some a0:=by kernel_rfl
noncomputable def v26 (k:Nat) (a0:I3):Option I3:=den E k 252 [.agg (avs sI3 a0)]
theorem x2b (k:Nat) (a0:I3):v26 (k+1) a0=(vm7 k a0.2).bind fun p1=>some (a0.1,p1):=by kernel_rfl
noncomputable def x04 (k:Nat) (a0:List I3):Option (List I3):=den E k 162 [.c (.l 279 yk a0)]
abbrev jy2:=(List I3)
abbrev vp1:=Int×(List I3)
def jq5 (c0:jy2) (v0:vp1):St:=⟨23,1,[(0,.c (.l 279 yk c0)),(3,.c (.ref 0)),(4,cI v0.1)],[(0,.arr 193 yk v0.2)]⟩
noncomputable def vq6 {R:Type} (k:Nat) (X0:vp1→Option R) (c0:jy2) (rec:vp1→Option R) (v0:vp1):Option R:=if (decide (v0.1<(c0.length:Int)))=true then if 0≤v0.1 then ix c0 v0.1.toNat fun x1=>(v26 k x1).bind fun p2=>if 0≤v0.1 then if v0.1<(v0.2.length:Int) then ix v0.2 v0.1.toNat fun y3=>rec ((i64.wrap (v0.1+1)),(v0.2.set v0.1.toNat p2)) else none else none else none else X0 v0
noncomputable def wk3 {R:Type} (k:Nat) (X0:vp1→Option R) (c:jy2):Nat→vp1→Option R
 | 0,_=>none
 | n+1,v=>vq6 k X0 c (wk3 k X0 c n) v
def y55 (K:Ex→St→Option R) (c0:jy2) (v0:vp1):Option R:=K (.exit 0) ⟨23,1,[(0,.c (.l 279 yk c0)),(3,.c (.ref 0)),(4,cI v0.1),(8,cI v0.1),(9,.c (.l 279 yk c0)),(10,cI (c0.length:Int)),(11,cB (decide (v0.1<(c0.length:Int))))],[(0,.arr 193 yk v0.2)]⟩
theorem xq8 (k:Nat) (K:Ex→St→Option R) (c0:jy2):∀(n:Nat) (v:vp1),z2 [0,0,3,4] (run E (den E k) (lv 162) k (j1 Tryz.f162 0)) n (jq5 c0 v) K=wk3 k (y55 K c0) c0 n v:=j6 (B:=vq6 k (y55 K c0) c0) fun n v=>by kernel_rfl
theorem zb8 (k:Nat) (a0:List I3):x04 (k+1) a0=if ((a0.length:Int)==(a0.length:Int))=true then if 0≤(a0.length:Int) then if 24*(a0.length:Int).toNat≤281474976710656 then z2 (R:=List I3) [0,0,3,4] (run E (den E k) (lv 162) k (j1 Tryz.f162 0)) k (jq5 a0 (0,(List.replicate (a0.length:Int).toNat ((0,(0,0)):I3)))) (z8 E (den E k) (lv 162) k (yc Tryz.f162) 0 [] (xa E (rs 162) Tryz.f162:Ex→St→Option (List I3))) else none else none else none:=by kernel_rfl
theorem xia (k:Nat) (a0:List I3):x04 (k+1) a0=if ((a0.length:Int)==(a0.length:Int))=true then if 0≤(a0.length:Int) then if 24*(a0.length:Int).toNat≤281474976710656 then wk3 k (fun (v0:Int×(List I3))=>some v0.2) a0 k (0,(List.replicate (a0.length:Int).toNat ((0,(0,0)):I3))) else none else none else none:=by
 rw [zb8]
 simp only [xq8]
 kernel_rfl
noncomputable def xn7 (k:Nat) (a0:jd2):Option jd2:=den E k 60 [.agg (avs ve4 a0)]
theorem zfb (k:Nat) (a0:jd2):xn7 (k+1) a0=(x65 k a0.2.1).bind fun p1=>(x74 k a0.2.2.1).bind fun p2=>(x04 k a0.2.2.2.2.2.2.2.2.1).bind fun p3=>some (a0.1,p1,p2,a0.2.2.2.1,a0.2.2.2.2.1,a0.2.2.2.2.2.1,a0.2.2.2.2.2.2.1,a0.2.2.2.2.2.2.2.1,p3,a0.2.2.2.2.2.2.2.2.2):=by kernel_rfl
noncomputable def wa4 (k:Nat) (a0:Int×Int×List Int):Option (Int×Int×List Int):=den E k 166 [.agg (avs z6 a0)]
theorem x49 (k:Nat) (a0:Int×Int×List Int):wa4 (k+1) a0=(wl1 k a0.2.2).bind fun p1=>some (a0.1,a0.2.1,p1):=by kernel_rfl
noncomputable def w03 (k:Nat) (a0:List (Int×Int×List Int)):Option (List (Int×Int×List Int)):=den E k 67 [.c (.l 180 z6 a0)]
abbrev v92:=(List (Int×Int×List Int))
abbrev zb1:=Int×(List (Int×Int×List Int))
def yn4 (c0:v92) (v0:zb1):St:=⟨23,1,[(0,.c (.l 180 z6 c0)),(3,.c (.ref 0)),(4,cI v0.1)],[(0,.arr 205 z6 v0.2)]⟩
noncomputable def z65 {R:Type} (k:Nat) (X0:zb1→Option R) (c0:v92) (rec:zb1→Option R) (v0:zb1):Option R:=if (decide (v0.1<(c0.length:Int)))=true then if 0≤v0.1 then ix c0 v0.1.toNat fun x1=>(wa4 k x1).bind fun p2=>if 0≤v0.1 then if v0.1<(v0.2.length:Int) then ix v0.2 v0.1.toNat fun y3=>rec ((i64.wrap (v0.1+1)),(v0.2.set v0.1.toNat p2)) else none else none else none else X0 v0
noncomputable def jt2 {R:Type} (k:Nat) (X0:zb1→Option R) (c:v92):Nat→zb1→Option R
 | 0,_=>none
 | n+1,v=>z65 k X0 c (jt2 k X0 c n) v
def wv3 (K:Ex→St→Option R) (c0:v92) (v0:zb1):Option R:=K (.exit 0) ⟨23,1,[(0,.c (.l 180 z6 c0)),(3,.c (.ref 0)),(4,cI v0.1),(8,cI v0.1),(9,.c (.l 180 z6 c0)),(10,cI (c0.length:Int)),(11,cB (decide (v0.1<(c0.length:Int))))],[(0,.arr 205 z6 v0.2)]⟩
theorem wm7 (k:Nat) (K:Ex→St→Option R) (c0:v92):∀(n:Nat) (v:zb1),z2 [0,0,3,4] (run E (den E k) (lv 67) k (j1 Tryz.f67 0)) n (yn4 c0 v) K=jt2 k (wv3 K c0) c0 n v:=j6 (B:=z65 k (wv3 K c0) c0) fun n v=>by kernel_rfl
theorem j97 (k:Nat) (a0:List (Int×Int×List Int)):w03 (k+1) a0=if ((a0.length:Int)==(a0.length:Int))=true then if 0≤(a0.length:Int) then if 40*(a0.length:Int).toNat≤281474976710656 then z2 (R:=List (Int×Int×List Int)) [0,0,3,4] (run E (den E k) (lv 67) k (j1 Tryz.f67 0)) k (yn4 a0 (0,(List.replicate (a0.length:Int).toNat ((0,0,[]):Int×Int×List Int)))) (z8 E (den E k) (lv 67) k (yc Tryz.f67) 0 [] (xa E (rs 67) Tryz.f67:Ex→St→Option (List (Int×Int×List Int)))) else none else none else none:=by kernel_rfl
theorem jt8 (k:Nat) (a0:List (Int×Int×List Int)):w03 (k+1) a0=if ((a0.length:Int)==(a0.length:Int))=true then if 0≤(a0.length:Int) then if 40*(a0.length:Int).toNat≤281474976710656 then jt2 k (fun (v0:Int×(List (Int×Int×List Int)))=>some v0.2) a0 k (0,(List.replicate (a0.length:Int).toNat ((0,0,[]):Int×Int×List Int))) else none else none else none:=by
 rw [j97]
 simp only [wm7]
 kernel_rfl
noncomputable def wd3 (k:Nat) (a0:xm):Option xm:=den E k 12 [.agg (avs jw a0)]
theorem v9a (k:Nat) (a0:xm):wd3 (k+1) a0=(xn7 k a0.1).bind fun p1=>(vk3 k a0.2.1).bind fun p2=>(xl7 k a0.2.2.1).bind fun p3=>(wl1 k a0.2.2.2.1).bind fun p4=>(zo2 k a0.2.2.2.2.1).bind fun p5=>(xf3 k a0.2.2.2.2.2.1).bind fun p6=>(w34 k a0.2.2.2.2.2.2.1).bind fun p7=>(wl1 k a0.2.2.2.2.2.2.2.1).bind fun p8=>(w03 k a0.2.2.2.2.2.2.2.2.1).bind fun p9=>(xc3 k a0.2.2.2.2.2.2.2.2.2.1).bind fun p10=>(v02 k a0.2.2.2.2.2.2.2.2.2.2.2.2.1).bind fun p11=>(zx3 k a0.2.2.2.2.2.2.2.2.2.2.2.2.2).bind fun p12=>some (p1,p2,p3,p4,p5,p6,p7,p8,p9,p10,a0.2.2.2.2.2.2.2.2.2.2.1,a0.2.2.2.2.2.2.2.2.2.2.2.1,p11,p12):=by kernel_rfl
noncomputable def v56 (k:Nat) (a0:I2):Option (Bool):=den E k 146 [.agg [vI a0.1,vI a0.2]]
theorem jra (k:Nat) (a0:I2):v56 (k+1) a0=if ((decide (a0.1≥0))==true)=true then if ((decide (a0.2≤1000))==true)=true then some (decide (a0.1<a0.2)) else some false else some false:=by kernel_rfl
noncomputable def y65 (k:Nat) (a0:I2) (a1:Int):Option (Bool):=den E k 220 [.agg [vI a0.1,vI a0.2],cI a1]
theorem yua (k:Nat) (a0:I2) (a1:Int):y65 (k+1) a0 a1=(v56 k a0).bind fun p1=>if (p1==true)=true then if ((decide (a0.1≤a1))==true)=true then some (decide (a1<a0.2)) else some false else some false:=by kernel_rfl
noncomputable def w94 (k:Nat) (a0:I4) (a1:Int):Option (Bool):=den E k 266 [.agg (avs sI4 a0),cI a1]
theorem vna (k:Nat) (a0:I4) (a1:Int):w94 (k+1) a0 a1=(y65 k a0.2.2 a1).bind fun p1=>some p1:=by kernel_rfl
noncomputable def ja4 (k:Nat) (a0:List I4) (a1:Int) (a2:Int):Option (Bool):=den E k 196 [.c (.l 86 sI4 a0),cI a1,cI a2]
abbrev ww2:=(List I4)×Int×Int
abbrev wg1:=Int
def j66 (c0:ww2) (v0:wg1):St:=⟨37,0,[(0,.c (.l 86 sI4 c0.1)),(1,cI c0.2.1),(2,cI c0.2.2),(7,cI v0)],[]⟩
noncomputable def y47 {R:Type} (k:Nat) (X0:wg1→I4→I4→I4→Bool→Option R) (X1:wg1→Option R) (c0:ww2) (rec:wg1→Option R) (v0:wg1):Option R:=if (decide (v0<(c0.1.length:Int)))=true then if 0≤v0 then ix c0.1 v0.toNat fun x1=>if ((x1.1==c0.2.1)==true)=true then if 0≤v0 then ix c0.1 v0.toNat fun x2=>if ((x2.2.1== -1)==true)=true then if 0≤v0 then ix c0.1 v0.toNat fun x3=>(w94 k x3 c0.2.2).bind fun p4=>if p4=true then X0 v0 x1 x2 x3 p4 else rec (i64.wrap (v0+1)) else none else rec (i64.wrap (v0+1)) else none else rec (i64.wrap (v0+1)) else none else X1 v0
noncomputable def we5 {R:Type} (k:Nat) (X0:wg1→I4→I4→I4→Bool→Option R) (X1:wg1→Option R) (c:ww2):Nat→wg1→Option R
 | 0,_=>none
 | n+1,v=>y47 k X0 X1 c (we5 k X0 X1 c n) v
def jm5 (K:Ex→St→Option R) (c0:ww2) (v0:wg1) (x1:I4) (x2:I4) (x3:I4) (p4:Bool):Option R:=K .ret ⟨37,0,[(0,.c (.l 86 sI4 c0.1)),(1,cI c0.2.1),(2,cI c0.2.2),(6,cB true),(7,cI v0),(8,cI v0),(9,.c (.l 86 sI4 c0.1)),(10,cI (c0.1.length:Int)),(11,cB (decide (v0<(c0.1.length:Int)))),(14,.c (.l 86 sI4 c0.1)),(15,cI v0),(16,.c (.at_ (avs sI4 x1))),(17,.c (.at_ (avs sI4 x1))),(18,cI x1.1),(19,cI c0.2.1),(20,cB (x1.1==c0.2.1)),(21,cB true),(22,.c (.l 86 sI4 c0.1)),(23,cI v0),(24,.c (.at_ (avs sI4 x2))),(25,.c (.at_ (avs sI3 x2.2))),(26,cI x2.2.1),(27,cB (x2.2.1== -1)),(28,cB (x2.2.1== -1)),(29,cB true),(30,.c (.l 86 sI4 c0.1)),(31,cI v0),(32,.c (.at_ (avs sI4 x3))),(33,.agg (avs sI4 x3)),(34,cI c0.2.2),(35,cB p4),(36,cB p4)],[]⟩
def zw5 (K:Ex→St→Option R) (c0:ww2) (v0:wg1):Option R:=K (.exit 0) ⟨37,0,[(0,.c (.l 86 sI4 c0.1)),(1,cI c0.2.1),(2,cI c0.2.2),(7,cI v0),(8,cI v0),(9,.c (.l 86 sI4 c0.1)),(10,cI (c0.1.length:Int)),(11,cB (decide (v0<(c0.1.length:Int))))],[]⟩
theorem zh9 (k:Nat) (K:Ex→St→Option R) (c0:ww2):∀(n:Nat) (v:wg1),z2 [0,0,1,2,7] (run E (den E k) (lv 196) k (j1 Tryz.f196 0)) n (j66 c0 v) K=we5 k (jm5 K c0) (zw5 K c0) c0 n v:=j6 (B:=y47 k (jm5 K c0) (zw5 K c0) c0) fun n v=>by kernel_rfl
theorem x59 (k:Nat) (a0:List I4) (a1:Int) (a2:Int):ja4 (k+1) a0 a1 a2=z2 (R:=Bool) [0,0,1,2,7] (run E (den E k) (lv 196) k (j1 Tryz.f196 0)) k (j66 (a0,a1,a2) 0) (z8 E (den E k) (lv 196) k (yc Tryz.f196) 0 [] (xa E (rs 196) Tryz.f196:Ex→St→Option (Bool))):=by kernel_rfl
theorem jna (k:Nat) (a0:List I4) (a1:Int) (a2:Int):ja4 (k+1) a0 a1 a2=we5 k (fun (v0:Int) (x1:I4) (x2:I4) (x3:I4) (p4:Bool)=>some true) (fun (v0:Int)=>some false) (a0,a1,a2) k 0:=by
 rw [x59]
 simp only [zh9]
 kernel_rfl
noncomputable def xn (k:Nat) (a0:Int) (a1:Int) (a2:Int):Option (Bool):=den E k 55 [cI a0,cI a1,cI a2]
theorem jlb (k:Nat) (a0:Int) (a1:Int) (a2:Int):xn (k+1) a0 a1 a2=if ((decide (a0≥a1))==true)=true then some (decide (a0≤a2)) else some false:=by kernel_rfl
noncomputable def jc3 (k:Nat) (a0:I6):Option (Bool):=den E k 249 [.agg (avs sI6 a0)]
theorem j79 (k:Nat) (a0:I6):jc3 (k+1) a0=(xn k a0.2.2.2.1 0 100).bind fun p1=>if (p1==true)=true then (xn k a0.2.2.2.2.2 0 100).bind fun p2=>some p2 else some false:=by kernel_rfl
noncomputable def xs4 (k:Nat) (a0:I6):Option (Bool):=den E k 152 [.agg (avs sI6 a0)]
theorem w78 (k:Nat) (a0:I6):xs4 (k+1) a0=(jc3 k a0).bind fun p1=>if (p1==true)=true then (xn k a0.2.2.2.2.1 0 100).bind fun p2=>if (p2==true)=true then (xn k a0.2.1 0 10000).bind fun p3=>if (p3==true)=true then (xn k a0.2.2.1 0 a0.2.1).bind fun p4=>if (p4==true)=true then (xn k a0.1 a0.2.2.1 a0.2.1).bind fun p5=>some p5 else some false else some false else some false else some false:=by kernel_rfl
noncomputable def zr6 (k:Nat) (a0:I6) (a1:Int):Option (Bool):=den E k 197 [.agg (avs sI6 a0),cI a1]
theorem vha (k:Nat) (a0:I6) (a1:Int):zr6 (k+1) a0 a1=(xs4 k a0).bind fun p1=>if (p1==true)=true then (xn k a1 0 10000).bind fun p2=>if (p2==true)=true then some (decide ((i64.wrap (a0.1-a0.2.2.2.2.1))≥(i64.wrap (a0.2.2.1+a1)))) else some false else some false:=by kernel_rfl
noncomputable def vfb (k:Nat) (a0:Int) (a1:Int):Option (Int):=den E k 408 [cI a0,cI a1]
theorem zsb (k:Nat) (a0:Int) (a1:Int):vfb (k+1) a0 a1=(xn k a1 1 1000000000000).bind fun p1=>if (!p1)=true then some 0 else if a1=0 then none else if a1=0 then none else some (((i64.wrap (((a0).tmod a1)+a1))).tmod a1):=by kernel_rfl
noncomputable def v11 (k:Nat) (a0:Int):Option (Int):=den E k 392 [cI a0]
theorem wca (k:Nat) (a0:Int):v11 (k+1) a0=(vfb k a0 360).bind fun p1=>some p1:=by kernel_rfl
noncomputable def j77 (k:Nat) (a0:Int) (a1:Int):Option (Int):=den E k 98 [cI a0,cI a1]
theorem xnb (k:Nat) (a0:Int) (a1:Int):j77 (k+1) a0 a1=if (decide (a1<a0))=true then some a1 else some a0:=by kernel_rfl
noncomputable def vc8 (k:Nat) (a0:Int) (a1:Int):Option (Int):=den E k 355 [cI a0,cI a1]
theorem zkb (k:Nat) (a0:Int) (a1:Int):vc8 (k+1) a0 a1=(v11 k a0).bind fun p1=>(v11 k a1).bind fun p2=>(v11 k (i64.wrap (p1-p2))).bind fun p3=>(j77 k p3 (i64.wrap (360-p3))).bind fun p4=>some p4:=by kernel_rfl
noncomputable def ye5 (k:Nat) (a0:I2):Option (Int):=den E k 356 [.agg [vI a0.1,vI a0.2]]
theorem v89 (k:Nat) (a0:I2):ye5 (k+1) a0=(xn k a0.2 0 359).bind fun p1=>if (!p1)=true then (v11 k a0.1).bind fun p2=>some p2 else (v11 k a0.1).bind fun p3=>(v11 k (i64.wrap (p3+(i64.wrap ((a0.2).tdiv 2))))).bind fun p4=>some p4:=by kernel_rfl
noncomputable def ynb (k:Nat) (a0:jd2):Option (Int):=den E k 53 [.agg (avs xd2 a0)]
noncomputable def jxa (k:Nat) (a0:jd2) (a1:Int):Option (Bool):=den E k 155 [.agg (avs xd2 a0),cI a1]
noncomputable def zc5 (k:Nat) (a0:Int):Option (Int):=den E k 407 [cI a0]
theorem vp9 (k:Nat) (a0:Int):zc5 (k+1) a0=(xn k a0 (-60) 60).bind fun p1=>if p1=true then some a0 else some 0:=by kernel_rfl
noncomputable def z54 (k:Nat) (a0:I4) (a1:Int):Option (Int):=den E k 391 [.agg (avs sI4 a0),cI a1]
theorem v2a (k:Nat) (a0:I4) (a1:Int):z54 (k+1) a0 a1=(xn k a1 0 1000).bind fun p1=>if (!p1)=true then (v11 k a0.2.1).bind fun p2=>(zc5 k a0.2.2.1).bind fun p3=>(v11 k (i64.wrap (p2+(i64.wrap (p3*0))))).bind fun p4=>some p4 else (v11 k a0.2.1).bind fun p5=>(zc5 k a0.2.2.1).bind fun p6=>(v11 k (i64.wrap (p5+(i64.wrap (p6*a1))))).bind fun p7=>some p7:=by kernel_rfl
noncomputable def xj5 (k:Nat) (a0:I2) (a1:Int):Option I2:=den E k 406 [.agg [vI a0.1,vI a0.2],cI a1]
theorem x69 (k:Nat) (a0:I2) (a1:Int):xj5 (k+1) a0 a1=(xn k a1 0 360).bind fun p1=>if ((!p1)==false)=true then (xn k a0.2 0 359).bind fun p2=>if (!p2)=true then (v11 k a0.1).bind fun p3=>some (p3,a0.2) else (v11 k a0.1).bind fun p4=>(v11 k (i64.wrap (p4-a1))).bind fun p5=>(j77 k 359 (i64.wrap (a0.2+(i64.wrap (2*a1))))).bind fun p6=>some (p5,p6) else (v11 k a0.1).bind fun p7=>some (p7,a0.2):=by kernel_rfl
noncomputable def wj5 (k:Nat) (a0:I4) (a1:Int):Option I2:=den E k 390 [.agg (avs sI4 a0),cI a1]
theorem w39 (k:Nat) (a0:I4) (a1:Int):wj5 (k+1) a0 a1=(z54 k a0 a1).bind fun p1=>(xj5 k (p1,0) a0.2.2.2).bind fun p2=>some p2:=by kernel_rfl
noncomputable def z97 (k:Nat) (a0:jd2) (a1:Int) (a2:Int):Option I2:=den E k 354 [.agg (avs xd2 a0),cI a1,cI a2]
theorem wua (k:Nat) (a0:jd2) (a1:Int) (a2:Int):z97 (k+1) a0 a1 a2=(xn k a1 0 (i64.wrap ((a0.2.1.length:Int)-1))).bind fun p1=>if p1=true then if 0≤a1 then ix a0.2.1 a1.toNat fun x2=>(wj5 k x2 a2).bind fun p3=>some p3 else none else (jxa k a0 a1).bind fun p4=>if (!p4)=true then some (0,0) else if 0≤(i64.wrap (a1-(a0.2.1.length:Int))) then ix a0.2.2.1 ((i64.wrap (a1-(a0.2.1.length:Int))).toNat) fun x5=>(z54 k (0,x5.2.1,x5.2.2,0) a2).bind fun p6=>some (p6,0) else none:=by kernel_rfl
noncomputable def we8 (k:Nat) (a0:jd2) (a1:Int):Option (Int):=den E k 357 [.agg (avs xd2 a0),cI a1]
theorem vhb (k:Nat) (a0:jd2) (a1:Int):we8 (k+1) a0 a1=(z54 k (0,0,a0.2.2.2.2.2.2.1,0) a1).bind fun p1=>some p1:=by kernel_rfl
noncomputable def vd4 (k:Nat) (a0:jd2) (a1:Int) (a2:Int):Option (Int):=den E k 288 [.agg (avs xd2 a0),cI a1,cI a2]
theorem jc9 (k:Nat) (a0:jd2) (a1:Int) (a2:Int):vd4 (k+1) a0 a1 a2=(xn k a1 0 (i64.wrap ((a0.2.1.length:Int)-1))).bind fun p1=>if (!p1)=true then some 0 else (z97 k a0 a1 a2).bind fun p2=>(ye5 k p2).bind fun p3=>(we8 k a0 a2).bind fun p4=>(vc8 k p3 (i64.wrap (p4+180))).bind fun p5=>if (decide ((i64.wrap (p5-(i64.wrap ((p2.2).tdiv 2))))>a0.2.2.2.2.2.2.2.1))=true then some 0 else if (decide ((i64.wrap (p5+(i64.wrap ((p2.2).tdiv 2))))≤a0.2.2.2.2.2.2.2.1))=true then some 2 else some 1:=by kernel_rfl
noncomputable def v88 (k:Nat) (a0:List I2) (a1:Int):Option (List I2):=den E k 289 [.c (.l 183 sI2 a0),cI a1]
theorem yfb (k:Nat) (a0:List I2) (a1:Int):v88 (k+1) a0 a1=if ((decide ((a0.length:Int)>0))==true)=true then if 0≤(i64.wrap ((a0.length:Int)-1)) then if (i64.wrap ((a0.length:Int)-1))<(a0.length:Int) then ix a0 ((i64.wrap ((a0.length:Int)-1)).toNat) fun x1=>if (x1.2==a1)=true then if 0≤(i64.wrap ((a0.length:Int)-1)) then if (i64.wrap ((a0.length:Int)-1))<(a0.length:Int) then ix a0 ((i64.wrap ((a0.length:Int)-1)).toNat) fun y2=>some (a0.set ((i64.wrap ((a0.length:Int)-1)).toNat) (y2.1,(i64.wrap (a1+1)))) else none else none else if (a0.length+([(a1,(i64.wrap (a1+1)))]).length)*16≤140737488355328 then some (a0++[(a1,(i64.wrap (a1+1)))]) else none else none else none else if (a0.length+([(a1,(i64.wrap (a1+1)))]).length)*16≤140737488355328 then some (a0++[(a1,(i64.wrap (a1+1)))]) else none:=by kernel_rfl
noncomputable def jp8 (k:Nat) (a0:Int) (a1:Int):Option (Int):=den E k 219 [cI a0,cI a1]
theorem vtb (k:Nat) (a0:Int) (a1:Int):jp8 (k+1) a0 a1=if (decide (a1>a0))=true then some a1 else some a0:=by kernel_rfl
noncomputable def j95 (k:Nat) (a0:Int) (a1:Int):Option I2:=den E k 287 [cI a0,cI a1]
theorem xt9 (k:Nat) (a0:Int) (a1:Int):j95 (k+1) a0 a1=(jp8 k 0 a0).bind fun p1=>(j77 k 1000 p1).bind fun p2=>(j77 k 1000 a1).bind fun p3=>(jp8 k 0 p3).bind fun p4=>some (p2,p4):=by kernel_rfl
noncomputable def yc4 (k:Nat) (a0:jd2) (a1:Int) (a2:Int) (a3:Int):Option (List I2):=den E k 221 [.agg (avs xd2 a0),cI a1,cI a2,cI a3]
abbrev wn2:=Int×Int×jd2
abbrev xj1:=Int×(List I2)
def z95 (c0:wn2) (v0:xj1):St:=⟨35,2,[(1,cI c0.1),(4,cP 0),(9,.c (.ref 1)),(11,cI c0.2.1),(12,cI v0.1)],[(0,.var (avs xd2 c0.2.2)),(1,.arr 183 sI2 v0.2)]⟩
noncomputable def xu5 {R:Type} (k:Nat) (X0:xj1→Option R) (c0:wn2) (rec:xj1→Option R) (v0:xj1):Option R:=if (decide (v0.1<c0.2.1))=true then (vd4 k c0.2.2 c0.1 v0.1).bind fun p2=>if (p2==0)=true then (v88 k v0.2 v0.1).bind fun p3=>rec ((i64.wrap (v0.1+1)),p3) else rec ((i64.wrap (v0.1+1)),v0.2) else X0 v0
noncomputable def w43 {R:Type} (k:Nat) (X0:xj1→Option R) (c:wn2):Nat→xj1→Option R
 | 0,_=>none
 | n+1,v=>xu5 k X0 c (w43 k X0 c n) v
def yg4 (K:Ex→St→Option R) (c0:wn2) (v0:xj1):Option R:=K (.exit 0) ⟨35,2,[(1,cI c0.1),(4,cP 0),(9,.c (.ref 1)),(11,cI c0.2.1),(12,cI v0.1),(21,cI v0.1),(22,cI c0.2.1),(23,cB (decide (v0.1<c0.2.1)))],[(0,.var (avs xd2 c0.2.2)),(1,.arr 183 sI2 v0.2)]⟩
theorem z18 (k:Nat) (K:Ex→St→Option R) (c0:wn2):∀(n:Nat) (v:xj1),z2 [0,1,4,9,11,12] (run E (den E k) (lv 221) k (j1 Tryz.f221 0)) n (z95 c0 v) K=w43 k (yg4 K c0) c0 n v:=j6 (B:=xu5 k (yg4 K c0) c0) fun n v=>by kernel_rfl
theorem ju7 (k:Nat) (a0:jd2) (a1:Int) (a2:Int) (a3:Int):yc4 (k+1) a0 a1 a2 a3=(j95 k a2 a3).bind fun p1=>z2 (R:=List I2) [0,1,4,9,11,12] (run E (den E k) (lv 221) k (j1 Tryz.f221 0)) k (z95 (a1,p1.2,a0) (p1.1,[])) (z8 E (den E k) (lv 221) k (yc Tryz.f221) 0 [] (xa E (rs 221) Tryz.f221:Ex→St→Option (List I2))):=by kernel_rfl
theorem v79 (k:Nat) (a0:jd2) (a1:Int) (a2:Int) (a3:Int):yc4 (k+1) a0 a1 a2 a3=(j95 k a2 a3).bind fun p1=>w43 k (fun (v0:Int×(List I2))=>some v0.2) (a1,p1.2,a0) k (p1.1,[]):=by
 rw [ju7]
 simp only [z18]
 kernel_rfl
noncomputable def wi8 (k:Nat) (a0:xm) (a1:Int):Option (List I2):=den E k 114 [.agg (avs xi a0),cI a1]
theorem ydb (k:Nat) (a0:xm) (a1:Int):wi8 (k+1) a0 a1=(yc4 k a0.1 a1 0 a0.2.2.2.2.2.2.2.2.2.2.2.1).bind fun p1=>some p1:=by kernel_rfl
noncomputable def j24 (k:Nat) (a0:List I2) (a1:Int):Option (Bool):=den E k 113 [.c (.l 183 sI2 a0),cI a1]
abbrev wg2:=(List I2)×Int
abbrev y81:=Int
def wk5 (c0:wg2) (v0:y81):St:=⟨18,0,[(0,.c (.l 183 sI2 c0.1)),(1,cI c0.2),(5,cI v0)],[]⟩
noncomputable def yq6 {R:Type} (k:Nat) (X0:y81→I2→Bool→Option R) (X1:y81→Option R) (c0:wg2) (rec:y81→Option R) (v0:y81):Option R:=if (decide (v0<(c0.1.length:Int)))=true then if 0≤v0 then ix c0.1 v0.toNat fun x1=>(y65 k x1 c0.2).bind fun p2=>if p2=true then X0 v0 x1 p2 else rec (i64.wrap (v0+1)) else none else X1 v0
noncomputable def zs4 {R:Type} (k:Nat) (X0:y81→I2→Bool→Option R) (X1:y81→Option R) (c:wg2):Nat→y81→Option R
 | 0,_=>none
 | n+1,v=>yq6 k X0 X1 c (zs4 k X0 X1 c n) v
def zv4 (K:Ex→St→Option R) (c0:wg2) (v0:y81) (x1:I2) (p2:Bool):Option R:=K .ret ⟨18,0,[(0,.c (.l 183 sI2 c0.1)),(1,cI c0.2),(4,cB true),(5,cI v0),(6,cI v0),(7,.c (.l 183 sI2 c0.1)),(8,cI (c0.1.length:Int)),(9,cB (decide (v0<(c0.1.length:Int)))),(12,.c (.l 183 sI2 c0.1)),(13,cI v0),(14,.c (.at_ [vI x1.1,vI x1.2])),(15,.agg [vI x1.1,vI x1.2]),(16,cI c0.2),(17,cB p2)],[]⟩
def vs4 (K:Ex→St→Option R) (c0:wg2) (v0:y81):Option R:=K (.exit 0) ⟨18,0,[(0,.c (.l 183 sI2 c0.1)),(1,cI c0.2),(5,cI v0),(6,cI v0),(7,.c (.l 183 sI2 c0.1)),(8,cI (c0.1.length:Int)),(9,cB (decide (v0<(c0.1.length:Int))))],[]⟩
theorem wt8 (k:Nat) (K:Ex→St→Option R) (c0:wg2):∀(n:Nat) (v:y81),z2 [0,0,1,5] (run E (den E k) (lv 113) k (j1 Tryz.f113 0)) n (wk5 c0 v) K=zs4 k (zv4 K c0) (vs4 K c0) c0 n v:=j6 (B:=yq6 k (zv4 K c0) (vs4 K c0) c0) fun n v=>by kernel_rfl
theorem jn8 (k:Nat) (a0:List I2) (a1:Int):j24 (k+1) a0 a1=z2 (R:=Bool) [0,0,1,5] (run E (den E k) (lv 113) k (j1 Tryz.f113 0)) k (wk5 (a0,a1) 0) (z8 E (den E k) (lv 113) k (yc Tryz.f113) 0 [] (xa E (rs 113) Tryz.f113:Ex→St→Option (Bool))):=by kernel_rfl
theorem z5a (k:Nat) (a0:List I2) (a1:Int):j24 (k+1) a0 a1=zs4 k (fun (v0:Int) (x1:I2) (p2:Bool)=>some true) (fun (v0:Int)=>some false) (a0,a1) k 0:=by
 rw [jn8]
 simp only [wt8]
 kernel_rfl
noncomputable def j26 (k:Nat) (a0:I6) (a1:List I2) (a2:Int) (a3:Int):Option (Int):=den E k 153 [.agg (avs sI6 a0),.c (.l 183 sI2 a1),cI a2,cI a3]
abbrev vf3:=(List I2)×Int×I6
abbrev z62:=Int×Int
def jc6 (c0:vf3) (v0:z62):St:=⟨49,1,[(1,.c (.l 183 sI2 c0.1)),(2,cI c0.2.1),(4,cP 0),(9,cI v0.1),(10,cI v0.2)],[(0,.var (avs sI6 c0.2.2))]⟩
noncomputable def z47 {R:Type} (k:Nat) (X0:z62→Option R) (c0:vf3) (rec:z62→Option R) (v0:z62):Option R:=if (decide (v0.2≥c0.2.1))=true then (j24 k c0.1 v0.2).bind fun p2=>if p2=true then (jp8 k 0 (i64.wrap ((i64.wrap (v0.1+c0.2.2.2.2.2.1))-c0.2.2.2.2.2.2.2))).bind fun p3=>rec (p3,(i64.wrap (v0.2-1))) else (jp8 k 0 (i64.wrap (v0.1+c0.2.2.2.2.2.1))).bind fun p4=>rec (p4,(i64.wrap (v0.2-1))) else X0 v0
noncomputable def yd4 {R:Type} (k:Nat) (X0:z62→Option R) (c:vf3):Nat→z62→Option R
 | 0,_=>none
 | n+1,v=>z47 k X0 c (yd4 k X0 c n) v
def wq5 (K:Ex→St→Option R) (c0:vf3) (v0:z62):Option R:=K (.exit 0) ⟨49,1,[(1,.c (.l 183 sI2 c0.1)),(2,cI c0.2.1),(4,cP 0),(9,cI v0.1),(10,cI v0.2),(30,cI v0.2),(31,cI c0.2.1),(32,cB (decide (v0.2≥c0.2.1)))],[(0,.var (avs sI6 c0.2.2))]⟩
theorem wf9 (k:Nat) (K:Ex→St→Option R) (c0:vf3):∀(n:Nat) (v:z62),z2 [0,1,2,4,9,10] (run E (den E k) (lv 153) k (j1 Tryz.f153 0)) n (jc6 c0 v) K=yd4 k (wq5 K c0) c0 n v:=j6 (B:=z47 k (wq5 K c0) c0) fun n v=>by kernel_rfl
theorem y79 (k:Nat) (a0:I6) (a1:List I2) (a2:Int) (a3:Int):j26 (k+1) a0 a1 a2 a3=(jc3 k a0).bind fun p1=>if ((!p1)==false)=true then if ((decide (a2<0))==false)=true then if ((decide (a3>1000))==false)=true then if (decide (a3≤a2))=true then some 0 else z2 (R:=Int) [0,1,2,4,9,10] (run E (den E k) (lv 153) k (j1 Tryz.f153 0)) k (jc6 (a1,a2,a0) (0,(i64.wrap (a3-1)))) (z8 E (den E k) (lv 153) k (yc Tryz.f153) 0 [] (xa E (rs 153) Tryz.f153:Ex→St→Option (Int))) else some 0 else some 0 else some 0:=by kernel_rfl
theorem xqa (k:Nat) (a0:I6) (a1:List I2) (a2:Int) (a3:Int):j26 (k+1) a0 a1 a2 a3=(jc3 k a0).bind fun p1=>if ((!p1)==false)=true then if ((decide (a2<0))==false)=true then if ((decide (a3>1000))==false)=true then if (decide (a3≤a2))=true then some 0 else yd4 k (fun (v0:I2)=>some v0.1) (a1,a2,a0) k (0,(i64.wrap (a3-1))) else some 0 else some 0 else some 0:=by
 rw [y79]
 simp only [wf9]
 kernel_rfl
noncomputable def yg6 (k:Nat) (a0:xm) (a1:Int):Option (Int):=den E k 198 [.agg (avs xi a0),cI a1]
theorem w6a (k:Nat) (a0:xm) (a1:Int):yg6 (k+1) a0 a1=(xn k a1 0 (i64.wrap ((a0.2.2.2.2.1.length:Int)-1))).bind fun p1=>if (!p1)=true then some 0 else if 0≤a1 then ix a0.2.2.2.2.1 a1.toNat fun x2=>(wi8 k a0 a1).bind fun p3=>(j26 k x2 p3 a0.2.2.2.2.2.2.2.2.2.2.1 a0.2.2.2.2.2.2.2.2.2.2.2.1).bind fun p4=>some p4 else none:=by kernel_rfl
noncomputable def xb5 (k:Nat) (a0:xm) (a1:Int):Option (Bool):=den E k 91 [.agg (avs xi a0),cI a1]
theorem w4a (k:Nat) (a0:xm) (a1:Int):xb5 (k+1) a0 a1=if ((decide (a1<0))==false)=true then if ((decide (a1≥a0.2.1.1))==false)=true then (ja4 k a0.2.2.2.2.2.2.2.2.2.1 a1 a0.2.2.2.2.2.2.2.2.2.2.1).bind fun p1=>if p1=true then some false else if (decide (a1≥a0.2.1.2.1))=true then some true else if ((decide (a1<(a0.2.2.2.2.1.length:Int)))==true)=true then if 0≤a1 then ix a0.2.2.2.2.1 a1.toNat fun x2=>(yg6 k a0 a1).bind fun p3=>(zr6 k x2 p3).bind fun p4=>some p4 else none else some false else some false else some false:=by kernel_rfl
noncomputable def yn7 (k:Nat) (a0:List I4) (a1:Int) (a2:Int) (a3:Int):Option (Bool):=den E k 340 [.c (.l 86 sI4 a0),cI a1,cI a2,cI a3]
abbrev jm2:=(List I4)×Int×Int×Int
abbrev wx:=Int
def j37 (c0:jm2) (v0:wx):St:=⟨68,0,[(0,.c (.l 86 sI4 c0.1)),(1,cI c0.2.1),(2,cI c0.2.2.1),(3,cI c0.2.2.2),(9,cI v0)],[]⟩
noncomputable def zs7 {R:Type} (k:Nat) (X0:wx→I4→I4→I4→I4→I4→Bool→Option R) (X1:wx→I4→I4→I4→Bool→Option R) (X2:wx→I4→I4→I4→I4→Bool→Option R) (X3:wx→Option R) (c0:jm2) (rec:wx→Option R) (v0:wx):Option R:=if (decide (v0<(c0.1.length:Int)))=true then if 0≤v0 then ix c0.1 v0.toNat fun x1=>if ((x1.1==c0.2.1)==true)=true then if 0≤v0 then ix c0.1 v0.toNat fun x2=>if ((x2.2.1==c0.2.2.1)==false)=true then if 0≤v0 then ix c0.1 v0.toNat fun x3=>if ((x3.1==c0.2.2.1)==true)=true then if 0≤v0 then ix c0.1 v0.toNat fun x4=>if ((x4.2.1==c0.2.1)==true)=true then if 0≤v0 then ix c0.1 v0.toNat fun x5=>(w94 k x5 c0.2.2.2).bind fun p6=>if p6=true then X0 v0 x1 x2 x3 x4 x5 p6 else rec (i64.wrap (v0+1)) else none else rec (i64.wrap (v0+1)) else none else rec (i64.wrap (v0+1)) else none else if 0≤v0 then ix c0.1 v0.toNat fun x7=>(w94 k x7 c0.2.2.2).bind fun p8=>if p8=true then X1 v0 x1 x2 x7 p8 else rec (i64.wrap (v0+1)) else none else none else if 0≤v0 then ix c0.1 v0.toNat fun x9=>if ((x9.1==c0.2.2.1)==true)=true then if 0≤v0 then ix c0.1 v0.toNat fun x10=>if ((x10.2.1==c0.2.1)==true)=true then if 0≤v0 then ix c0.1 v0.toNat fun x11=>(w94 k x11 c0.2.2.2).bind fun p12=>if p12=true then X2 v0 x1 x9 x10 x11 p12 else rec (i64.wrap (v0+1)) else none else rec (i64.wrap (v0+1)) else none else rec (i64.wrap (v0+1)) else none else none else X3 v0
noncomputable def x96 {R:Type} (k:Nat) (X0:wx→I4→I4→I4→I4→I4→Bool→Option R) (X1:wx→I4→I4→I4→Bool→Option R) (X2:wx→I4→I4→I4→I4→Bool→Option R) (X3:wx→Option R) (c:jm2):Nat→wx→Option R
 | 0,_=>none
 | n+1,v=>zs7 k X0 X1 X2 X3 c (x96 k X0 X1 X2 X3 c n) v
def ye6 (K:Ex→St→Option R) (c0:jm2) (v0:wx) (x1:I4) (x2:I4) (x3:I4) (x4:I4) (x5:I4) (p6:Bool):Option R:=K .ret ⟨68,0,[(0,.c (.l 86 sI4 c0.1)),(1,cI c0.2.1),(2,cI c0.2.2.1),(3,cI c0.2.2.2),(8,cB true),(9,cI v0),(10,cI v0),(11,.c (.l 86 sI4 c0.1)),(12,cI (c0.1.length:Int)),(13,cB (decide (v0<(c0.1.length:Int)))),(16,.c (.l 86 sI4 c0.1)),(17,cI v0),(18,.c (.at_ (avs sI4 x1))),(19,.c (.at_ (avs sI4 x1))),(20,cI x1.1),(21,cI c0.2.1),(22,cB (x1.1==c0.2.1)),(23,cB true),(24,.c (.l 86 sI4 c0.1)),(25,cI v0),(26,.c (.at_ (avs sI4 x2))),(27,.c (.at_ (avs sI3 x2.2))),(28,cI x2.2.1),(29,cI c0.2.2.1),(30,cB (x2.2.1==c0.2.2.1)),(31,cB (x2.2.1==c0.2.2.1)),(32,cB false),(33,.c (.l 86 sI4 c0.1)),(34,cI v0),(35,.c (.at_ (avs sI4 x3))),(36,.c (.at_ (avs sI4 x3))),(37,cI x3.1),(38,cI c0.2.2.1),(39,cB (x3.1==c0.2.2.1)),(40,cB true),(41,.c (.l 86 sI4 c0.1)),(42,cI v0),(43,.c (.at_ (avs sI4 x4))),(44,.c (.at_ (avs sI3 x4.2))),(45,cI x4.2.1),(46,cI c0.2.1),(47,cB (x4.2.1==c0.2.1)),(48,cB (x4.2.1==c0.2.1)),(49,cB (x4.2.1==c0.2.1)),(50,cB true),(51,.c (.l 86 sI4 c0.1)),(52,cI v0),(53,.c (.at_ (avs sI4 x5))),(54,.agg (avs sI4 x5)),(55,cI c0.2.2.2),(56,cB p6),(57,cB p6)],[]⟩
def yc6 (K:Ex→St→Option R) (c0:jm2) (v0:wx) (x1:I4) (x2:I4) (x7:I4) (p8:Bool):Option R:=K .ret ⟨68,0,[(0,.c (.l 86 sI4 c0.1)),(1,cI c0.2.1),(2,cI c0.2.2.1),(3,cI c0.2.2.2),(8,cB true),(9,cI v0),(10,cI v0),(11,.c (.l 86 sI4 c0.1)),(12,cI (c0.1.length:Int)),(13,cB (decide (v0<(c0.1.length:Int)))),(16,.c (.l 86 sI4 c0.1)),(17,cI v0),(18,.c (.at_ (avs sI4 x1))),(19,.c (.at_ (avs sI4 x1))),(20,cI x1.1),(21,cI c0.2.1),(22,cB (x1.1==c0.2.1)),(23,cB true),(24,.c (.l 86 sI4 c0.1)),(25,cI v0),(26,.c (.at_ (avs sI4 x2))),(27,.c (.at_ (avs sI3 x2.2))),(28,cI x2.2.1),(29,cI c0.2.2.1),(30,cB (x2.2.1==c0.2.2.1)),(31,cB (x2.2.1==c0.2.2.1)),(32,cB true),(33,.tup []),(34,.tup []),(35,.tup []),(36,.tup []),(37,.tup []),(38,.tup []),(39,.tup []),(40,.tup []),(41,.tup []),(42,.tup []),(43,.tup []),(44,.tup []),(45,.tup []),(46,.tup []),(47,.tup []),(48,.tup []),(49,cB true),(50,cB true),(51,.c (.l 86 sI4 c0.1)),(52,cI v0),(53,.c (.at_ (avs sI4 x7))),(54,.agg (avs sI4 x7)),(55,cI c0.2.2.2),(56,cB p8),(57,cB p8)],[]⟩
def wa6 (K:Ex→St→Option R) (c0:jm2) (v0:wx) (x1:I4) (x9:I4) (x10:I4) (x11:I4) (p12:Bool):Option R:=K .ret ⟨68,0,[(0,.c (.l 86 sI4 c0.1)),(1,cI c0.2.1),(2,cI c0.2.2.1),(3,cI c0.2.2.2),(8,cB true),(9,cI v0),(10,cI v0),(11,.c (.l 86 sI4 c0.1)),(12,cI (c0.1.length:Int)),(13,cB (decide (v0<(c0.1.length:Int)))),(16,.c (.l 86 sI4 c0.1)),(17,cI v0),(18,.c (.at_ (avs sI4 x1))),(19,.c (.at_ (avs sI4 x1))),(20,cI x1.1),(21,cI c0.2.1),(22,cB (x1.1==c0.2.1)),(23,cB false),(24,.tup []),(25,.tup []),(26,.tup []),(27,.tup []),(28,.tup []),(29,.tup []),(30,.tup []),(31,cB false),(32,cB false),(33,.c (.l 86 sI4 c0.1)),(34,cI v0),(35,.c (.at_ (avs sI4 x9))),(36,.c (.at_ (avs sI4 x9))),(37,cI x9.1),(38,cI c0.2.2.1),(39,cB (x9.1==c0.2.2.1)),(40,cB true),(41,.c (.l 86 sI4 c0.1)),(42,cI v0),(43,.c (.at_ (avs sI4 x10))),(44,.c (.at_ (avs sI3 x10.2))),(45,cI x10.2.1),(46,cI c0.2.1),(47,cB (x10.2.1==c0.2.1)),(48,cB (x10.2.1==c0.2.1)),(49,cB (x10.2.1==c0.2.1)),(50,cB true),(51,.c (.l 86 sI4 c0.1)),(52,cI v0),(53,.c (.at_ (avs sI4 x11))),(54,.agg (avs sI4 x11)),(55,cI c0.2.2.2),(56,cB p12),(57,cB p12)],[]⟩
def jg6 (K:Ex→St→Option R) (c0:jm2) (v0:wx):Option R:=K (.exit 0) ⟨68,0,[(0,.c (.l 86 sI4 c0.1)),(1,cI c0.2.1),(2,cI c0.2.2.1),(3,cI c0.2.2.2),(9,cI v0),(10,cI v0),(11,.c (.l 86 sI4 c0.1)),(12,cI (c0.1.length:Int)),(13,cB (decide (v0<(c0.1.length:Int))))],[]⟩
theorem xz9 (k:Nat) (K:Ex→St→Option R) (c0:jm2):∀(n:Nat) (v:wx),z2 [0,0,1,2,3,9] (run E (den E k) (lv 340) k (j1 Tryz.f340 0)) n (j37 c0 v) K=x96 k (ye6 K c0) (yc6 K c0) (wa6 K c0) (jg6 K c0) c0 n v:=j6 (B:=zs7 k (ye6 K c0) (yc6 K c0) (wa6 K c0) (jg6 K c0) c0) fun n v=>by kernel_rfl
theorem vo9 (k:Nat) (a0:List I4) (a1:Int) (a2:Int) (a3:Int):yn7 (k+1) a0 a1 a2 a3=z2 (R:=Bool) [0,0,1,2,3,9] (run E (den E k) (lv 340) k (j1 Tryz.f340 0)) k (j37 (a0,a1,a2,a3) 0) (z8 E (den E k) (lv 340) k (yc Tryz.f340) 0 [] (xa E (rs 340) Tryz.f340:Ex→St→Option (Bool))):=by kernel_rfl
theorem zjb (k:Nat) (a0:List I4) (a1:Int) (a2:Int) (a3:Int):yn7 (k+1) a0 a1 a2 a3=x96 k (fun (v0:Int) (x1:I4) (x2:I4) (x3:I4) (x4:I4) (x5:I4) (p6:Bool)=>some true) (fun (v0:Int) (x1:I4) (x2:I4) (x7:I4) (p8:Bool)=>some true) (fun (v0:Int) (x1:I4) (x9:I4) (x10:I4) (x11:I4) (p12:Bool)=>some true) (fun (v0:Int)=>(ja4 k a0 a1 a3).bind fun p1=>if (p1==false)=true then (ja4 k a0 a2 a3).bind fun p2=>some p2 else some true) (a0,a1,a2,a3) k 0:=by
 rw [vo9]
 simp only [xz9]
 kernel_rfl
noncomputable def x95 (k:Nat) (a0:List I4) (a1:Int) (a2:Int) (a3:Int):Option (List Int):=den E k 273 [.c (.l 86 sI4 a0),cI a1,cI a2,cI a3]
abbrev w33:=(List I4)×Int×Int×Int
abbrev ws1:=Int×(List Int)
def vn5 (c0:w33) (v0:ws1):St:=⟨36,1,[(0,.c (.l 86 sI4 c0.1)),(1,cI c0.2.1),(2,cI c0.2.2.1),(3,cI c0.2.2.2),(9,.c (.ref 0)),(10,cI v0.1)],[(0,.arr 3 (.i .i64) v0.2)]⟩
noncomputable def xq3 {R:Type} (k:Nat) (X0:ws1→Option R) (c0:w33) (rec:ws1→Option R) (v0:ws1):Option R:=if (decide (v0.1<c0.2.2.2))=true then if ((v0.1 !=c0.2.1)==true)=true then (yn7 k c0.1 c0.2.1 v0.1 c0.2.2.1).bind fun p2=>if p2=true then if (v0.2.length+([v0.1]).length)*8≤140737488355328 then rec ((i64.wrap (v0.1+1)),(v0.2++[v0.1])) else none else rec ((i64.wrap (v0.1+1)),v0.2) else rec ((i64.wrap (v0.1+1)),v0.2) else X0 v0
noncomputable def jo4 {R:Type} (k:Nat) (X0:ws1→Option R) (c:w33):Nat→ws1→Option R
 | 0,_=>none
 | n+1,v=>xq3 k X0 c (jo4 k X0 c n) v
def vv4 (K:Ex→St→Option R) (c0:w33) (v0:ws1):Option R:=K (.exit 0) ⟨36,1,[(0,.c (.l 86 sI4 c0.1)),(1,cI c0.2.1),(2,cI c0.2.2.1),(3,cI c0.2.2.2),(9,.c (.ref 0)),(10,cI v0.1),(16,cI v0.1),(17,cI c0.2.2.2),(18,cB (decide (v0.1<c0.2.2.2)))],[(0,.arr 3 (.i .i64) v0.2)]⟩
theorem va8 (k:Nat) (K:Ex→St→Option R) (c0:w33):∀(n:Nat) (v:ws1),z2 [0,0,1,2,3,9,10] (run E (den E k) (lv 273) k (j1 Tryz.f273 0)) n (vn5 c0 v) K=jo4 k (vv4 K c0) c0 n v:=j6 (B:=xq3 k (vv4 K c0) c0) fun n v=>by kernel_rfl
theorem ys8 (k:Nat) (a0:List I4) (a1:Int) (a2:Int) (a3:Int):x95 (k+1) a0 a1 a2 a3=(xn k a3 1 12).bind fun p1=>if (!p1)=true then some ([]) else z2 (R:=List Int) [0,0,1,2,3,9,10] (run E (den E k) (lv 273) k (j1 Tryz.f273 0)) k (vn5 (a0,a1,a2,a3) (0,[])) (z8 E (den E k) (lv 273) k (yc Tryz.f273) 0 [] (xa E (rs 273) Tryz.f273:Ex→St→Option (List Int))):=by kernel_rfl
theorem v1a (k:Nat) (a0:List I4) (a1:Int) (a2:Int) (a3:Int):x95 (k+1) a0 a1 a2 a3=(xn k a3 1 12).bind fun p1=>if (!p1)=true then some ([]) else jo4 k (fun (v0:Int×(List Int))=>some v0.2) (a0,a1,a2,a3) k (0,[]):=by
 rw [ys8]
 simp only [va8]
 kernel_rfl
noncomputable def wl6 (k:Nat) (a0:xm) (a1:Int):Option (List Int):=den E k 200 [.agg (avs xi a0),cI a1]
theorem x7a (k:Nat) (a0:xm) (a1:Int):wl6 (k+1) a0 a1=(x95 k a0.2.2.2.2.2.2.2.2.2.1 a1 a0.2.2.2.2.2.2.2.2.2.2.1 a0.2.1.1).bind fun p1=>some p1:=by kernel_rfl
noncomputable def wb5 (k:Nat) (a0:j2) (a1:Int) (a2:Int) (a3:Int):Option (Bool):=den E k 341 [.agg (avs j4 a0),cI a1,cI a2,cI a3]
abbrev j02:=Int×Int×(List I2)
abbrev xu:=Int
def jt5 (c0:j02) (v0:xu):St:=⟨48,0,[(2,cI c0.1),(3,cI c0.2.1),(9,.c (.l 348 sI2 c0.2.2)),(10,cI v0)],[]⟩
noncomputable def yo6 {R:Type} (k:Nat) (X0:xu→I2→I2→Option R) (X1:xu→I2→Option R) (X2:xu→Option R) (c0:j02) (rec:xu→Option R) (v0:xu):Option R:=if (decide (v0<(c0.2.2.length:Int)))=true then if 0≤v0 then ix c0.2.2 v0.toNat fun x3=>if ((eqT sI2 x3 (c0.1,c0.2.1))==false)=true then if 0≤v0 then ix c0.2.2 v0.toNat fun x4=>if (eqT sI2 x4 (c0.2.1,c0.1))=true then X0 v0 x3 x4 else rec (i64.wrap (v0+1)) else none else X1 v0 x3 else none else X2 v0
noncomputable def wj3 {R:Type} (k:Nat) (X0:xu→I2→I2→Option R) (X1:xu→I2→Option R) (X2:xu→Option R) (c:j02):Nat→xu→Option R
 | 0,_=>none
 | n+1,v=>yo6 k X0 X1 X2 c (wj3 k X0 X1 X2 c n) v
def j75 (K:Ex→St→Option R) (c0:j02) (v0:xu) (x3:I2) (x4:I2):Option R:=K .ret ⟨48,0,[(2,cI c0.1),(3,cI c0.2.1),(8,cB true),(9,.c (.l 348 sI2 c0.2.2)),(10,cI v0),(24,cI v0),(25,.c (.l 348 sI2 c0.2.2)),(26,cI (c0.2.2.length:Int)),(27,cB (decide (v0<(c0.2.2.length:Int)))),(30,.c (.l 348 sI2 c0.2.2)),(31,cI v0),(32,.c (.at_ [vI x3.1,vI x3.2])),(33,.agg [vI x3.1,vI x3.2]),(34,cI c0.1),(35,cI c0.2.1),(36,.agg [vI c0.1,vI c0.2.1]),(37,cB (eqT sI2 x3 (c0.1,c0.2.1))),(38,cB false),(39,.c (.l 348 sI2 c0.2.2)),(40,cI v0),(41,.c (.at_ [vI x4.1,vI x4.2])),(42,.agg [vI x4.1,vI x4.2]),(43,cI c0.2.1),(44,cI c0.1),(45,.agg [vI c0.2.1,vI c0.1]),(46,cB (eqT sI2 x4 (c0.2.1,c0.1))),(47,cB (eqT sI2 x4 (c0.2.1,c0.1)))],[]⟩
def zz4 (K:Ex→St→Option R) (c0:j02) (v0:xu) (x3:I2):Option R:=K .ret ⟨48,0,[(2,cI c0.1),(3,cI c0.2.1),(8,cB true),(9,.c (.l 348 sI2 c0.2.2)),(10,cI v0),(24,cI v0),(25,.c (.l 348 sI2 c0.2.2)),(26,cI (c0.2.2.length:Int)),(27,cB (decide (v0<(c0.2.2.length:Int)))),(30,.c (.l 348 sI2 c0.2.2)),(31,cI v0),(32,.c (.at_ [vI x3.1,vI x3.2])),(33,.agg [vI x3.1,vI x3.2]),(34,cI c0.1),(35,cI c0.2.1),(36,.agg [vI c0.1,vI c0.2.1]),(37,cB (eqT sI2 x3 (c0.1,c0.2.1))),(38,cB true),(39,.tup []),(40,.tup []),(41,.tup []),(42,.tup []),(43,.tup []),(44,.tup []),(45,.tup []),(46,.tup []),(47,cB true)],[]⟩
def vb5 (K:Ex→St→Option R) (c0:j02) (v0:xu):Option R:=K (.exit 0) ⟨48,0,[(2,cI c0.1),(3,cI c0.2.1),(9,.c (.l 348 sI2 c0.2.2)),(10,cI v0),(24,cI v0),(25,.c (.l 348 sI2 c0.2.2)),(26,cI (c0.2.2.length:Int)),(27,cB (decide (v0<(c0.2.2.length:Int))))],[]⟩
theorem wb8 (k:Nat) (K:Ex→St→Option R) (c0:j02):∀(n:Nat) (v:xu),z2 [0,2,3,9,10] (run E (den E k) (lv 341) k (j1 Tryz.f341 0)) n (jt5 c0 v) K=wj3 k (j75 K c0) (zz4 K c0) (vb5 K c0) c0 n v:=j6 (B:=yo6 k (j75 K c0) (zz4 K c0) (vb5 K c0) c0) fun n v=>by kernel_rfl
theorem vb8 (k:Nat) (a0:j2) (a1:Int) (a2:Int) (a3:Int):wb5 (k+1) a0 a1 a2 a3=(xn k a1 0 (i64.wrap ((a0.2.2.2.length:Int)-1))).bind fun p1=>if (!p1)=true then some false else if 0≤a1 then ix a0.2.2.2 a1.toNat fun x2=>z2 (R:=Bool) [0,2,3,9,10] (run E (den E k) (lv 341) k (j1 Tryz.f341 0)) k (jt5 (a2,a3,x2.2.1) 0) (z8 E (den E k) (lv 341) k (yc Tryz.f341) 0 [] (xa E (rs 341) Tryz.f341:Ex→St→Option (Bool))) else none:=by kernel_rfl
theorem x2a (k:Nat) (a0:j2) (a1:Int) (a2:Int) (a3:Int):wb5 (k+1) a0 a1 a2 a3=(xn k a1 0 (i64.wrap ((a0.2.2.2.length:Int)-1))).bind fun p1=>if (!p1)=true then some false else if 0≤a1 then ix a0.2.2.2 a1.toNat fun x2=>wj3 k (fun (v0:Int) (x3:I2) (x4:I2)=>some true) (fun (v0:Int) (x3:I2)=>some true) (fun (v0:Int)=>some false) (a2,a3,x2.2.1) k 0 else none:=by
 rw [vb8]
 simp only [wb8]
 kernel_rfl
noncomputable def vy2 (k:Nat) (a0:j2) (a1:Int):Option (Int):=den E k 269 [.agg (avs j4 a0),cI a1]
abbrev jg2:=Int×j2
abbrev x61:=Int
def vo5 (c0:jg2) (v0:x61):St:=⟨22,1,[(1,cI c0.1),(2,cP 0),(5,cI v0)],[(0,.var (avs j4 c0.2))]⟩
noncomputable def zt6 {R:Type} (k:Nat) (X0:x61→ze→Bool→Option R) (X1:x61→Option R) (c0:jg2) (rec:x61→Option R) (v0:x61):Option R:=if (decide (v0<(c0.2.2.2.2.length:Int)))=true then if 0≤v0 then ix c0.2.2.2.2 v0.toNat fun x1=>(y65 k x1.1 c0.1).bind fun p2=>if p2=true then X0 v0 x1 p2 else rec (i64.wrap (v0+1)) else none else X1 v0
noncomputable def zk3 {R:Type} (k:Nat) (X0:x61→ze→Bool→Option R) (X1:x61→Option R) (c:jg2):Nat→x61→Option R
 | 0,_=>none
 | n+1,v=>zt6 k X0 X1 c (zk3 k X0 X1 c n) v
def wu4 (K:Ex→St→Option R) (c0:jg2) (v0:x61) (x1:ze) (p2:Bool):Option R:=K .ret ⟨22,1,[(1,cI c0.1),(2,cP 0),(4,cI v0),(5,cI v0),(6,cI v0),(7,.c (.ptr 0 3)),(8,.c (.l 198 we c0.2.2.2.2)),(9,cI (c0.2.2.2.2.length:Int)),(10,cB (decide (v0<(c0.2.2.2.2.length:Int)))),(13,.c (.ptr 0 3)),(14,.c (.l 198 we c0.2.2.2.2)),(15,cI v0),(16,.c (.at_ (avs we x1))),(17,.c (.at_ (avs we x1))),(18,.agg [vI x1.1.1,vI x1.1.2]),(19,cI c0.1),(20,cB p2),(21,cI v0)],[(0,.var (avs j4 c0.2))]⟩
def zw4 (K:Ex→St→Option R) (c0:jg2) (v0:x61):Option R:=K (.exit 0) ⟨22,1,[(1,cI c0.1),(2,cP 0),(5,cI v0),(6,cI v0),(7,.c (.ptr 0 3)),(8,.c (.l 198 we c0.2.2.2.2)),(9,cI (c0.2.2.2.2.length:Int)),(10,cB (decide (v0<(c0.2.2.2.2.length:Int))))],[(0,.var (avs j4 c0.2))]⟩
theorem z88 (k:Nat) (K:Ex→St→Option R) (c0:jg2):∀(n:Nat) (v:x61),z2 [0,1,2,5] (run E (den E k) (lv 269) k (j1 Tryz.f269 0)) n (vo5 c0 v) K=zk3 k (wu4 K c0) (zw4 K c0) c0 n v:=j6 (B:=zt6 k (wu4 K c0) (zw4 K c0) c0) fun n v=>by kernel_rfl
theorem zt8 (k:Nat) (a0:j2) (a1:Int):vy2 (k+1) a0 a1=z2 (R:=Int) [0,1,2,5] (run E (den E k) (lv 269) k (j1 Tryz.f269 0)) k (vo5 (a1,a0) 0) (z8 E (den E k) (lv 269) k (yc Tryz.f269) 0 [] (xa E (rs 269) Tryz.f269:Ex→St→Option (Int))):=by kernel_rfl
theorem x8a (k:Nat) (a0:j2) (a1:Int):vy2 (k+1) a0 a1=zk3 k (fun (v0:Int) (x1:ze) (p2:Bool)=>some v0) (fun (v0:Int)=>some (-1)) (a1,a0) k 0:=by
 rw [zt8]
 simp only [z88]
 kernel_rfl
noncomputable def xi5 (k:Nat) (a0:j2) (a1:Int) (a2:Int) (a3:Int):Option (Bool):=den E k 274 [.agg (avs j4 a0),cI a1,cI a2,cI a3]
theorem jf9 (k:Nat) (a0:j2) (a1:Int) (a2:Int) (a3:Int):xi5 (k+1) a0 a1 a2 a3=(vy2 k a0 a3).bind fun p1=>(wb5 k a0 p1 a1 a2).bind fun p2=>some p2:=by kernel_rfl
noncomputable def w66 (k:Nat) (a0:j2) (a1:Int) (a2:Int) (a3:Int):Option (Bool):=den E k 201 [.agg (avs j4 a0),cI a1,cI a2,cI a3]
abbrev xx2:=Int×Int×Int×j2
abbrev jf1:=Int
def j86 (c0:xx2) (v0:jf1):St:=⟨37,1,[(1,cI c0.1),(2,cI c0.2.1),(3,cI c0.2.2.1),(4,cP 0),(9,cI v0)],[(0,.var (avs j4 c0.2.2.2))]⟩
noncomputable def v17 {R:Type} (k:Nat) (X0:jf1→Bool→Option R) (X1:jf1→Option R) (c0:xx2) (rec:jf1→Option R) (v0:jf1):Option R:=if (decide (v0≤(i64.wrap (c0.2.2.1+c0.2.2.2.2.2.1))))=true then (xi5 k c0.2.2.2 c0.1 c0.2.1 v0).bind fun p3=>if (!p3)=true then X0 v0 p3 else rec (i64.wrap (v0+1)) else X1 v0
noncomputable def v94 {R:Type} (k:Nat) (X0:jf1→Bool→Option R) (X1:jf1→Option R) (c:xx2):Nat→jf1→Option R
 | 0,_=>none
 | n+1,v=>v17 k X0 X1 c (v94 k X0 X1 c n) v
def xo5 (K:Ex→St→Option R) (c0:xx2) (v0:jf1) (p3:Bool):Option R:=K .ret ⟨37,1,[(1,cI c0.1),(2,cI c0.2.1),(3,cI c0.2.2.1),(4,cP 0),(8,cB false),(9,cI v0),(23,cI v0),(24,cI c0.2.2.1),(25,.c (.ptr 0 2)),(26,cI c0.2.2.2.2.2.1),(27,cI (i64.wrap (c0.2.2.1+c0.2.2.2.2.2.1))),(28,cB (decide (v0≤(i64.wrap (c0.2.2.1+c0.2.2.2.2.2.1))))),(31,.agg (avs j4 c0.2.2.2)),(32,cI c0.1),(33,cI c0.2.1),(34,cI v0),(35,cB p3),(36,cB (!p3))],[(0,.var (avs j4 c0.2.2.2))]⟩
def yo5 (K:Ex→St→Option R) (c0:xx2) (v0:jf1):Option R:=K (.exit 0) ⟨37,1,[(1,cI c0.1),(2,cI c0.2.1),(3,cI c0.2.2.1),(4,cP 0),(9,cI v0),(23,cI v0),(24,cI c0.2.2.1),(25,.c (.ptr 0 2)),(26,cI c0.2.2.2.2.2.1),(27,cI (i64.wrap (c0.2.2.1+c0.2.2.2.2.2.1))),(28,cB (decide (v0≤(i64.wrap (c0.2.2.1+c0.2.2.2.2.2.1)))))],[(0,.var (avs j4 c0.2.2.2))]⟩
theorem v69 (k:Nat) (K:Ex→St→Option R) (c0:xx2):∀(n:Nat) (v:jf1),z2 [0,1,2,3,4,9] (run E (den E k) (lv 201) k (j1 Tryz.f201 0)) n (j86 c0 v) K=v94 k (xo5 K c0) (yo5 K c0) c0 n v:=j6 (B:=v17 k (xo5 K c0) (yo5 K c0) c0) fun n v=>by kernel_rfl
theorem ye9 (k:Nat) (a0:j2) (a1:Int) (a2:Int) (a3:Int):w66 (k+1) a0 a1 a2 a3=(xn k a0.2.2.1 0 5).bind fun p1=>if ((!p1)==false)=true then (xn k a3 0 1000).bind fun p2=>if (!p2)=true then some false else z2 (R:=Bool) [0,1,2,3,4,9] (run E (den E k) (lv 201) k (j1 Tryz.f201 0)) k (j86 (a1,a2,a3,a0) (i64.wrap (a3-a0.2.2.1))) (z8 E (den E k) (lv 201) k (yc Tryz.f201) 0 [] (xa E (rs 201) Tryz.f201:Ex→St→Option (Bool))) else some false:=by kernel_rfl
theorem wwa (k:Nat) (a0:j2) (a1:Int) (a2:Int) (a3:Int):w66 (k+1) a0 a1 a2 a3=(xn k a0.2.2.1 0 5).bind fun p1=>if ((!p1)==false)=true then (xn k a3 0 1000).bind fun p2=>if (!p2)=true then some false else v94 k (fun (v0:Int) (p3:Bool)=>some false) (fun (v0:Int)=>some true) (a1,a2,a3,a0) k (i64.wrap (a3-a0.2.2.1)) else some false:=by
 rw [ye9]
 simp only [v69]
 kernel_rfl
noncomputable def va2 (k:Nat) (a0:List I2) (a1:Int):Option (List Int):=den E k 339 [.c (.l 348 sI2 a0),cI a1]
abbrev j51:=(List I2)×Int×Int×Int×(List Int)
abbrev yl:=Int
def xp2 (c1:j51) (v1:yl):St:=⟨79,1,[(0,.c (.l 348 sI2 c1.1)),(1,cI c1.2.1),(5,.c (.ref 0)),(6,cI c1.2.2.1),(7,cI c1.2.2.2.1),(8,cI v1)],[(0,.arr 3 (.i .i64) c1.2.2.2.2)]⟩
noncomputable def yw3 {R:Type} (k:Nat) (X0:yl→Int→Option R) (X1:yl→Option R) (c1:j51) (rec:yl→Option R) (v1:yl):Option R:=if ((decide (v1<(c1.2.2.2.2.length:Int)))==true)=true then if 0≤v1 then if v1<(c1.2.2.2.2.length:Int) then ix c1.2.2.2.2 v1.toNat fun x3=>if (decide (x3<c1.2.2.2.1))=true then rec (i64.wrap (v1+1)) else X0 v1 x3 else none else none else X1 v1
noncomputable def j61 {R:Type} (k:Nat) (X0:yl→Int→Option R) (X1:yl→Option R) (c:j51):Nat→yl→Option R
 | 0,_=>none
 | n+1,v=>yw3 k X0 X1 c (j61 k X0 X1 c n) v
def we3 (K:Ex→St→Option R) (c1:j51) (v1:yl) (x3:Int):Option R:=K (.exit 2) ⟨79,1,[(0,.c (.l 348 sI2 c1.1)),(1,cI c1.2.1),(5,.c (.ref 0)),(6,cI c1.2.2.1),(7,cI c1.2.2.2.1),(8,cI v1),(40,cI v1),(41,.c (.ref 0)),(42,cI (c1.2.2.2.2.length:Int)),(43,cB (decide (v1<(c1.2.2.2.2.length:Int)))),(44,cB true),(45,.c (.ref 0)),(46,cI v1),(47,.c (.el 0 1 v1.toNat 0)),(48,cI x3),(49,cI c1.2.2.2.1),(50,cB (decide (x3<c1.2.2.2.1))),(51,cB (decide (x3<c1.2.2.2.1)))],[(0,.arr 3 (.i .i64) c1.2.2.2.2)]⟩
def jf3 (K:Ex→St→Option R) (c1:j51) (v1:yl):Option R:=K (.exit 2) ⟨79,1,[(0,.c (.l 348 sI2 c1.1)),(1,cI c1.2.1),(5,.c (.ref 0)),(6,cI c1.2.2.1),(7,cI c1.2.2.2.1),(8,cI v1),(40,cI v1),(41,.c (.ref 0)),(42,cI (c1.2.2.2.2.length:Int)),(43,cB (decide (v1<(c1.2.2.2.2.length:Int)))),(44,cB false),(45,.tup []),(46,.tup []),(47,.tup []),(48,.tup []),(49,.tup []),(50,.tup []),(51,cB false)],[(0,.arr 3 (.i .i64) c1.2.2.2.2)]⟩
theorem we6 (k:Nat) (K:Ex→St→Option R) (c1:j51):∀(n:Nat) (v:yl),z2 [0,0,1,5,6,7,8] (run E (den E k) (lv 339) k (j1 Tryz.f339 1)) n (xp2 c1 v) K=j61 k (we3 K c1) (jf3 K c1) c1 n v:=j6 (B:=yw3 k (we3 K c1) (jf3 K c1) c1) fun n v=>by kernel_rfl
abbrev x71:=(List I2)×Int
abbrev vp:=Int×(List Int)
def j91 (c0:x71) (v0:vp):St:=⟨79,1,[(0,.c (.l 348 sI2 c0.1)),(1,cI c0.2),(5,.c (.ref 0)),(6,cI v0.1)],[(0,.arr 3 (.i .i64) v0.2)]⟩
noncomputable def xy2 {R:Type} (k:Nat) (X0:vp→Option R) (c0:x71) (rec:vp→Option R) (v0:vp):Option R:=if (decide (v0.1<(c0.1.length:Int)))=true then if 0≤v0.1 then ix c0.1 v0.1.toNat fun x1=>if (x1.1==c0.2)=true then if 0≤v0.1 then ix c0.1 v0.1.toNat fun x2=>j61 k (fun (v1:Int) (x3:Int)=>if ((v1==(v0.2.length:Int))==false)=true then if 0≤v1 then if v1<(v0.2.length:Int) then ix v0.2 v1.toNat fun x3=>if (x3 !=x2.2)=true then if 0≤v1 then if v1≤(v0.2.length:Int) then if (0+((v0.2.take v1.toNat).drop ((0:Int).toNat)).length)*8≤140737488355328 then if (((v0.2.take v1.toNat).drop ((0:Int).toNat)).length+([x2.2]).length)*8≤140737488355328 then if 0≤v1 then if v1≤(v0.2.length:Int) then if (v0.2.length:Int)≤(v0.2.length:Int) then if ((((v0.2.take v1.toNat).drop ((0:Int).toNat))++[x2.2]).length+((v0.2.take ((v0.2.length:Int).toNat)).drop v1.toNat).length)*8≤140737488355328 then rec ((i64.wrap (v0.1+1)),((((v0.2.take v1.toNat).drop ((0:Int).toNat))++[x2.2])++((v0.2.take ((v0.2.length:Int).toNat)).drop v1.toNat))) else none else none else none else none else none else none else none else none else rec ((i64.wrap (v0.1+1)),v0.2) else none else none else if 0≤v1 then if v1≤(v0.2.length:Int) then if (0+((v0.2.take v1.toNat).drop ((0:Int).toNat)).length)*8≤140737488355328 then if (((v0.2.take v1.toNat).drop ((0:Int).toNat)).length+([x2.2]).length)*8≤140737488355328 then if 0≤v1 then if v1≤(v0.2.length:Int) then if (v0.2.length:Int)≤(v0.2.length:Int) then if ((((v0.2.take v1.toNat).drop ((0:Int).toNat))++[x2.2]).length+((v0.2.take ((v0.2.length:Int).toNat)).drop v1.toNat).length)*8≤140737488355328 then rec ((i64.wrap (v0.1+1)),((((v0.2.take v1.toNat).drop ((0:Int).toNat))++[x2.2])++((v0.2.take ((v0.2.length:Int).toNat)).drop v1.toNat))) else none else none else none else none else none else none else none else none) (fun (v1:Int)=>if ((v1==(v0.2.length:Int))==false)=true then if 0≤v1 then if v1<(v0.2.length:Int) then ix v0.2 v1.toNat fun x4=>if (x4 !=x2.2)=true then if 0≤v1 then if v1≤(v0.2.length:Int) then if (0+((v0.2.take v1.toNat).drop ((0:Int).toNat)).length)*8≤140737488355328 then if (((v0.2.take v1.toNat).drop ((0:Int).toNat)).length+([x2.2]).length)*8≤140737488355328 then if 0≤v1 then if v1≤(v0.2.length:Int) then if (v0.2.length:Int)≤(v0.2.length:Int) then if ((((v0.2.take v1.toNat).drop ((0:Int).toNat))++[x2.2]).length+((v0.2.take ((v0.2.length:Int).toNat)).drop v1.toNat).length)*8≤140737488355328 then rec ((i64.wrap (v0.1+1)),((((v0.2.take v1.toNat).drop ((0:Int).toNat))++[x2.2])++((v0.2.take ((v0.2.length:Int).toNat)).drop v1.toNat))) else none else none else none else none else none else none else none else none else rec ((i64.wrap (v0.1+1)),v0.2) else none else none else if 0≤v1 then if v1≤(v0.2.length:Int) then if (0+((v0.2.take v1.toNat).drop ((0:Int).toNat)).length)*8≤140737488355328 then if (((v0.2.take v1.toNat).drop ((0:Int).toNat)).length+([x2.2]).length)*8≤140737488355328 then if 0≤v1 then if v1≤(v0.2.length:Int) then if (v0.2.length:Int)≤(v0.2.length:Int) then if ((((v0.2.take v1.toNat).drop ((0:Int).toNat))++[x2.2]).length+((v0.2.take ((v0.2.length:Int).toNat)).drop v1.toNat).length)*8≤140737488355328 then rec ((i64.wrap (v0.1+1)),((((v0.2.take v1.toNat).drop ((0:Int).toNat))++[x2.2])++((v0.2.take ((v0.2.length:Int).toNat)).drop v1.toNat))) else none else none else none else none else none else none else none else none) (c0.1,c0.2,v0.1,x2.2,v0.2) k 0 else none else if 0≤v0.1 then ix c0.1 v0.1.toNat fun x5=>if (x5.2==c0.2)=true then if 0≤v0.1 then ix c0.1 v0.1.toNat fun x6=>j61 k (fun (v1:Int) (x3:Int)=>if ((v1==(v0.2.length:Int))==false)=true then if 0≤v1 then if v1<(v0.2.length:Int) then ix v0.2 v1.toNat fun x7=>if (x7 !=x6.1)=true then if 0≤v1 then if v1≤(v0.2.length:Int) then if (0+((v0.2.take v1.toNat).drop ((0:Int).toNat)).length)*8≤140737488355328 then if (((v0.2.take v1.toNat).drop ((0:Int).toNat)).length+([x6.1]).length)*8≤140737488355328 then if 0≤v1 then if v1≤(v0.2.length:Int) then if (v0.2.length:Int)≤(v0.2.length:Int) then if ((((v0.2.take v1.toNat).drop ((0:Int).toNat))++[x6.1]).length+((v0.2.take ((v0.2.length:Int).toNat)).drop v1.toNat).length)*8≤140737488355328 then rec ((i64.wrap (v0.1+1)),((((v0.2.take v1.toNat).drop ((0:Int).toNat))++[x6.1])++((v0.2.take ((v0.2.length:Int).toNat)).drop v1.toNat))) else none else none else none else none else none else none else none else none else rec ((i64.wrap (v0.1+1)),v0.2) else none else none else if 0≤v1 then if v1≤(v0.2.length:Int) then if (0+((v0.2.take v1.toNat).drop ((0:Int).toNat)).length)*8≤140737488355328 then if (((v0.2.take v1.toNat).drop ((0:Int).toNat)).length+([x6.1]).length)*8≤140737488355328 then if 0≤v1 then if v1≤(v0.2.length:Int) then if (v0.2.length:Int)≤(v0.2.length:Int) then if ((((v0.2.take v1.toNat).drop ((0:Int).toNat))++[x6.1]).length+((v0.2.take ((v0.2.length:Int).toNat)).drop v1.toNat).length)*8≤140737488355328 then rec ((i64.wrap (v0.1+1)),((((v0.2.take v1.toNat).drop ((0:Int).toNat))++[x6.1])++((v0.2.take ((v0.2.length:Int).toNat)).drop v1.toNat))) else none else none else none else none else none else none else none else none) (fun (v1:Int)=>if ((v1==(v0.2.length:Int))==false)=true then if 0≤v1 then if v1<(v0.2.length:Int) then ix v0.2 v1.toNat fun x8=>if (x8 !=x6.1)=true then if 0≤v1 then if v1≤(v0.2.length:Int) then if (0+((v0.2.take v1.toNat).drop ((0:Int).toNat)).length)*8≤140737488355328 then if (((v0.2.take v1.toNat).drop ((0:Int).toNat)).length+([x6.1]).length)*8≤140737488355328 then if 0≤v1 then if v1≤(v0.2.length:Int) then if (v0.2.length:Int)≤(v0.2.length:Int) then if ((((v0.2.take v1.toNat).drop ((0:Int).toNat))++[x6.1]).length+((v0.2.take ((v0.2.length:Int).toNat)).drop v1.toNat).length)*8≤140737488355328 then rec ((i64.wrap (v0.1+1)),((((v0.2.take v1.toNat).drop ((0:Int).toNat))++[x6.1])++((v0.2.take ((v0.2.length:Int).toNat)).drop v1.toNat))) else none else none else none else none else none else none else none else none else rec ((i64.wrap (v0.1+1)),v0.2) else none else none else if 0≤v1 then if v1≤(v0.2.length:Int) then if (0+((v0.2.take v1.toNat).drop ((0:Int).toNat)).length)*8≤140737488355328 then if (((v0.2.take v1.toNat).drop ((0:Int).toNat)).length+([x6.1]).length)*8≤140737488355328 then if 0≤v1 then if v1≤(v0.2.length:Int) then if (v0.2.length:Int)≤(v0.2.length:Int) then if ((((v0.2.take v1.toNat).drop ((0:Int).toNat))++[x6.1]).length+((v0.2.take ((v0.2.length:Int).toNat)).drop v1.toNat).length)*8≤140737488355328 then rec ((i64.wrap (v0.1+1)),((((v0.2.take v1.toNat).drop ((0:Int).toNat))++[x6.1])++((v0.2.take ((v0.2.length:Int).toNat)).drop v1.toNat))) else none else none else none else none else none else none else none else none) (c0.1,c0.2,v0.1,x6.1,v0.2) k 0 else none else rec ((i64.wrap (v0.1+1)),v0.2) else none else none else X0 v0
noncomputable def yi1 {R:Type} (k:Nat) (X0:vp→Option R) (c:x71):Nat→vp→Option R
 | 0,_=>none
 | n+1,v=>xy2 k X0 c (yi1 k X0 c n) v
def zg2 (K:Ex→St→Option R) (c0:x71) (v0:vp):Option R:=K (.exit 0) ⟨79,1,[(0,.c (.l 348 sI2 c0.1)),(1,cI c0.2),(5,.c (.ref 0)),(6,cI v0.1),(10,cI v0.1),(11,.c (.l 348 sI2 c0.1)),(12,cI (c0.1.length:Int)),(13,cB (decide (v0.1<(c0.1.length:Int))))],[(0,.arr 3 (.i .i64) v0.2)]⟩
theorem wz4 (k n:Nat) (K:Ex→St→Option R) (c0:x71) (v0:vp):z2 [0,0,1,5,6] (run E (den E k) (lv 339) k (j1 Tryz.f339 0)) (n+1) (j91 c0 v0) K=if (decide (v0.1<(c0.1.length:Int)))=true then if 0≤v0.1 then ix c0.1 v0.1.toNat fun x1=>if (x1.1==c0.2)=true then if 0≤v0.1 then ix c0.1 v0.1.toNat fun x2=>z2 [0,0,1,5,6,7,8] (run E (den E k) (lv 339) k (j1 Tryz.f339 1)) k (xp2 (c0.1,c0.2,v0.1,x2.2,v0.2) 0) (z8 E (den E k) (lv 339) k (.loop (j1 Tryz.f339 0)) (1-0) [(n,[0,0,1,5,6])] K) else none else if 0≤v0.1 then ix c0.1 v0.1.toNat fun x4=>if (x4.2==c0.2)=true then if 0≤v0.1 then ix c0.1 v0.1.toNat fun x5=>z2 [0,0,1,5,6,7,8] (run E (den E k) (lv 339) k (j1 Tryz.f339 1)) k (xp2 (c0.1,c0.2,v0.1,x5.1,v0.2) 0) (z8 E (den E k) (lv 339) k (.loop (j1 Tryz.f339 0)) (1-0) [(n,[0,0,1,5,6])] K) else none else z2 [0,0,1,5,6] (run E (den E k) (lv 339) k (j1 Tryz.f339 0)) n (j91 c0 ((i64.wrap (v0.1+1)),v0.2)) K else none else none else K (.exit 0) ⟨79,1,[(0,.c (.l 348 sI2 c0.1)),(1,cI c0.2),(5,.c (.ref 0)),(6,cI v0.1),(10,cI v0.1),(11,.c (.l 348 sI2 c0.1)),(12,cI (c0.1.length:Int)),(13,cB (decide (v0.1<(c0.1.length:Int))))],[(0,.arr 3 (.i .i64) v0.2)]⟩:=by kernel_rfl
theorem yf6 (k n:Nat) (K:Ex→St→Option R) (c0:x71) (v:vp):z2 [0,0,1,5,6] (run E (den E k) (lv 339) k (j1 Tryz.f339 0)) (n+1) (j91 c0 v) K=xy2 k (zg2 K c0) c0 (fun v=>z2 [0,0,1,5,6] (run E (den E k) (lv 339) k (j1 Tryz.f339 0)) n (j91 c0 v) K) v:=by
 rw [wz4]
 simp only [we6]
 kernel_rfl
theorem yd6 (k:Nat) (K:Ex→St→Option R) (c0:x71):∀(n:Nat) (v:vp),z2 [0,0,1,5,6] (run E (den E k) (lv 339) k (j1 Tryz.f339 0)) n (j91 c0 v) K=yi1 k (zg2 K c0) c0 n v:=ji2 (B:=xy2 k (zg2 K c0) c0) (fun _=>rfl) (fun n v=>yf6 k n K c0 v) (fun _=>rfl) (fun _ _=>rfl)
theorem wm6 (k:Nat) (a0:List I2) (a1:Int):va2 (k+1) a0 a1=z2 (R:=List Int) [0,0,1,5,6] (run E (den E k) (lv 339) k (j1 Tryz.f339 0)) k (j91 (a0,a1) (0,[])) (z8 E (den E k) (lv 339) k (yc Tryz.f339) 0 [] (xa E (rs 339) Tryz.f339:Ex→St→Option (List Int))):=by kernel_rfl
theorem xe7 (k:Nat) (a0:List I2) (a1:Int):va2 (k+1) a0 a1=yi1 k (fun (v0:Int×(List Int))=>some v0.2) (a0,a1) k (0,[]):=by
 rw [wm6]
 simp only [yd6]
 kernel_rfl
noncomputable def zx4 (k:Nat) (a0:Int×(List Int)×List Int) (a1:List I2) (a2:Int) (a3:Int):Option (List Int):=den E k 272 [.agg (avs z7 a0),.c (.l 348 sI2 a1),cI a2,cI a3]
abbrev jf2:=Int×Int×Int×Int×(Int×(List Int)×List Int)×(List Int)×(List Int)
abbrev j41:=Int
def vo4 (c1:jf2) (v1:j41):St:=⟨128,3,[(2,cI c1.1),(3,cI c1.2.1),(4,cP 0),(9,.c (.ref 1)),(10,.c (.ref 2)),(11,cI c1.2.2.1),(12,cI c1.2.2.2.1),(13,cI v1)],[(0,.var (avs z7 c1.2.2.2.2.1)),(1,.arr 3 (.i .i64) c1.2.2.2.2.2.1),(2,.arr 3 (.i .i64) c1.2.2.2.2.2.2)]⟩
noncomputable def j27 {R:Type} (k:Nat) (X0:j41→Int→Int→Int→Option R) (X1:j41→Option R) (c1:jf2) (rec:j41→Option R) (v1:j41):Option R:=if ((decide (v1<(c1.2.2.2.2.2.1.length:Int)))==true)=true then if 0≤v1 then if v1<(c1.2.2.2.2.2.1.length:Int) then ix c1.2.2.2.2.2.1 v1.toNat fun x10=>if 0≤x10 then ix c1.2.2.2.2.1.2.1 x10.toNat fun x11=>if 0≤c1.2.2.2.1 then ix c1.2.2.2.2.1.2.1 c1.2.2.2.1.toNat fun x12=>if (decide (x11≤x12))=true then rec (i64.wrap (v1+1)) else X0 v1 x10 x11 x12 else none else none else none else none else X1 v1
noncomputable def z42 {R:Type} (k:Nat) (X0:j41→Int→Int→Int→Option R) (X1:j41→Option R) (c:jf2):Nat→j41→Option R
 | 0,_=>none
 | n+1,v=>j27 k X0 X1 c (z42 k X0 X1 c n) v
def xl5 (K:Ex→St→Option R) (c1:jf2) (v1:j41) (x10:Int) (x11:Int) (x12:Int):Option R:=K (.exit 2) ⟨128,3,[(2,cI c1.1),(3,cI c1.2.1),(4,cP 0),(9,.c (.ref 1)),(10,.c (.ref 2)),(11,cI c1.2.2.1),(12,cI c1.2.2.2.1),(13,cI v1),(93,cI v1),(94,.c (.ref 1)),(95,cI (c1.2.2.2.2.2.1.length:Int)),(96,cB (decide (v1<(c1.2.2.2.2.2.1.length:Int)))),(97,cB true),(98,.c (.ptr 0 1)),(99,.c (.l 3 (.i .i64) c1.2.2.2.2.1.2.1)),(100,.c (.ref 1)),(101,cI v1),(102,.c (.el 1 1 v1.toNat 0)),(103,cI x10),(104,.c (.at_ [vI x11])),(105,cI x11),(106,.c (.ptr 0 1)),(107,.c (.l 3 (.i .i64) c1.2.2.2.2.1.2.1)),(108,cI c1.2.2.2.1),(109,.c (.at_ [vI x12])),(110,cI x12),(111,cB (decide (x11≤x12))),(112,cB (decide (x11≤x12)))],[(0,.var (avs z7 c1.2.2.2.2.1)),(1,.arr 3 (.i .i64) c1.2.2.2.2.2.1),(2,.arr 3 (.i .i64) c1.2.2.2.2.2.2)]⟩
def zq5 (K:Ex→St→Option R) (c1:jf2) (v1:j41):Option R:=K (.exit 2) ⟨128,3,[(2,cI c1.1),(3,cI c1.2.1),(4,cP 0),(9,.c (.ref 1)),(10,.c (.ref 2)),(11,cI c1.2.2.1),(12,cI c1.2.2.2.1),(13,cI v1),(93,cI v1),(94,.c (.ref 1)),(95,cI (c1.2.2.2.2.2.1.length:Int)),(96,cB (decide (v1<(c1.2.2.2.2.2.1.length:Int)))),(97,cB false),(98,.tup []),(99,.tup []),(100,.tup []),(101,.tup []),(102,.tup []),(103,.tup []),(104,.tup []),(105,.tup []),(106,.tup []),(107,.tup []),(108,.tup []),(109,.tup []),(110,.tup []),(111,.tup []),(112,cB false)],[(0,.var (avs z7 c1.2.2.2.2.1)),(1,.arr 3 (.i .i64) c1.2.2.2.2.2.1),(2,.arr 3 (.i .i64) c1.2.2.2.2.2.2)]⟩
theorem zb9 (k:Nat) (K:Ex→St→Option R) (c1:jf2):∀(n:Nat) (v:j41),z2 [0,2,3,4,9,10,11,12,13] (run E (den E k) (lv 272) k (j1 Tryz.f272 1)) n (vo4 c1 v) K=z42 k (xl5 K c1) (zq5 K c1) c1 n v:=j6 (B:=j27 k (xl5 K c1) (zq5 K c1) c1) fun n v=>by kernel_rfl
abbrev wf2:=Int×Int×(Int×(List Int)×List Int)×(List Int)
abbrev wn1:=Int×(List Int)
def vw (c0:wf2) (v0:wn1):St:=⟨128,3,[(2,cI c0.1),(3,cI c0.2.1),(4,cP 0),(9,.c (.ref 1)),(10,.c (.ref 2)),(11,cI v0.1)],[(0,.var (avs z7 c0.2.2.1)),(1,.arr 3 (.i .i64) v0.2),(2,.arr 3 (.i .i64) c0.2.2.2)]⟩
noncomputable def xh5 {R:Type} (k:Nat) (X0:wn1→Option R) (c0:wf2) (rec:wn1→Option R) (v0:wn1):Option R:=if (decide (v0.1<(c0.2.2.2.length:Int)))=true then if 0≤v0.1 then if v0.1<(c0.2.2.2.length:Int) then ix c0.2.2.2 v0.1.toNat fun x4=>if 0≤c0.2.1 then ix c0.2.2.1.2.2 c0.2.1.toNat fun x5=>if ((x4==x5)==false)=true then if ((decide (x4≥c0.1))==true)=true then if ((x4 !=c0.2.2.1.1)==false)=true then (xn k x4 0 (i64.wrap ((c0.2.2.1.2.1.length:Int)-1))).bind fun p6=>if ((!p6)==false)=true then if 0≤x4 then ix c0.2.2.1.2.1 x4.toNat fun x7=>if ((decide (x7<0))==false)=true then if 0≤x4 then ix c0.2.2.1.2.1 x4.toNat fun x8=>if 0≤c0.2.1 then ix c0.2.2.1.2.1 c0.2.1.toNat fun x9=>if (decide (x8≥x9))=true then rec ((i64.wrap (v0.1+1)),v0.2) else z42 k (fun (v1:Int) (x10:Int) (x11:Int) (x12:Int)=>if 0≤v1 then if v1≤(v0.2.length:Int) then if (0+((v0.2.take v1.toNat).drop ((0:Int).toNat)).length)*8≤140737488355328 then if (((v0.2.take v1.toNat).drop ((0:Int).toNat)).length+([x4]).length)*8≤140737488355328 then if 0≤v1 then if v1≤(v0.2.length:Int) then if (v0.2.length:Int)≤(v0.2.length:Int) then if ((((v0.2.take v1.toNat).drop ((0:Int).toNat))++[x4]).length+((v0.2.take ((v0.2.length:Int).toNat)).drop v1.toNat).length)*8≤140737488355328 then rec ((i64.wrap (v0.1+1)),((((v0.2.take v1.toNat).drop ((0:Int).toNat))++[x4])++((v0.2.take ((v0.2.length:Int).toNat)).drop v1.toNat))) else none else none else none else none else none else none else none else none) (fun (v1:Int)=>if 0≤v1 then if v1≤(v0.2.length:Int) then if (0+((v0.2.take v1.toNat).drop ((0:Int).toNat)).length)*8≤140737488355328 then if (((v0.2.take v1.toNat).drop ((0:Int).toNat)).length+([x4]).length)*8≤140737488355328 then if 0≤v1 then if v1≤(v0.2.length:Int) then if (v0.2.length:Int)≤(v0.2.length:Int) then if ((((v0.2.take v1.toNat).drop ((0:Int).toNat))++[x4]).length+((v0.2.take ((v0.2.length:Int).toNat)).drop v1.toNat).length)*8≤140737488355328 then rec ((i64.wrap (v0.1+1)),((((v0.2.take v1.toNat).drop ((0:Int).toNat))++[x4])++((v0.2.take ((v0.2.length:Int).toNat)).drop v1.toNat))) else none else none else none else none else none else none else none else none) (c0.1,c0.2.1,v0.1,x4,c0.2.2.1,v0.2,c0.2.2.2) k 0 else none else none else rec ((i64.wrap (v0.1+1)),v0.2) else none else rec ((i64.wrap (v0.1+1)),v0.2) else rec ((i64.wrap (v0.1+1)),v0.2) else (xn k x4 0 (i64.wrap ((c0.2.2.1.2.1.length:Int)-1))).bind fun p10=>if ((!p10)==false)=true then if 0≤x4 then ix c0.2.2.1.2.1 x4.toNat fun x11=>if ((decide (x11<0))==false)=true then if 0≤x4 then ix c0.2.2.1.2.1 x4.toNat fun x12=>if 0≤c0.2.1 then ix c0.2.2.1.2.1 c0.2.1.toNat fun x13=>if (decide (x12≥x13))=true then rec ((i64.wrap (v0.1+1)),v0.2) else z42 k (fun (v1:Int) (x10:Int) (x11:Int) (x12:Int)=>if 0≤v1 then if v1≤(v0.2.length:Int) then if (0+((v0.2.take v1.toNat).drop ((0:Int).toNat)).length)*8≤140737488355328 then if (((v0.2.take v1.toNat).drop ((0:Int).toNat)).length+([x4]).length)*8≤140737488355328 then if 0≤v1 then if v1≤(v0.2.length:Int) then if (v0.2.length:Int)≤(v0.2.length:Int) then if ((((v0.2.take v1.toNat).drop ((0:Int).toNat))++[x4]).length+((v0.2.take ((v0.2.length:Int).toNat)).drop v1.toNat).length)*8≤140737488355328 then rec ((i64.wrap (v0.1+1)),((((v0.2.take v1.toNat).drop ((0:Int).toNat))++[x4])++((v0.2.take ((v0.2.length:Int).toNat)).drop v1.toNat))) else none else none else none else none else none else none else none else none) (fun (v1:Int)=>if 0≤v1 then if v1≤(v0.2.length:Int) then if (0+((v0.2.take v1.toNat).drop ((0:Int).toNat)).length)*8≤140737488355328 then if (((v0.2.take v1.toNat).drop ((0:Int).toNat)).length+([x4]).length)*8≤140737488355328 then if 0≤v1 then if v1≤(v0.2.length:Int) then if (v0.2.length:Int)≤(v0.2.length:Int) then if ((((v0.2.take v1.toNat).drop ((0:Int).toNat))++[x4]).length+((v0.2.take ((v0.2.length:Int).toNat)).drop v1.toNat).length)*8≤140737488355328 then rec ((i64.wrap (v0.1+1)),((((v0.2.take v1.toNat).drop ((0:Int).toNat))++[x4])++((v0.2.take ((v0.2.length:Int).toNat)).drop v1.toNat))) else none else none else none else none else none else none else none else none) (c0.1,c0.2.1,v0.1,x4,c0.2.2.1,v0.2,c0.2.2.2) k 0 else none else none else rec ((i64.wrap (v0.1+1)),v0.2) else none else rec ((i64.wrap (v0.1+1)),v0.2) else rec ((i64.wrap (v0.1+1)),v0.2) else none else none else none else X0 v0
noncomputable def zg1 {R:Type} (k:Nat) (X0:wn1→Option R) (c:wf2):Nat→wn1→Option R
 | 0,_=>none
 | n+1,v=>xh5 k X0 c (zg1 k X0 c n) v
def j44 (K:Ex→St→Option R) (c0:wf2) (v0:wn1):Option R:=K (.exit 0) ⟨128,3,[(2,cI c0.1),(3,cI c0.2.1),(4,cP 0),(9,.c (.ref 1)),(10,.c (.ref 2)),(11,cI v0.1),(35,cI v0.1),(36,.c (.ref 2)),(37,cI (c0.2.2.2.length:Int)),(38,cB (decide (v0.1<(c0.2.2.2.length:Int))))],[(0,.var (avs z7 c0.2.2.1)),(1,.arr 3 (.i .i64) v0.2),(2,.arr 3 (.i .i64) c0.2.2.2)]⟩
theorem xm7 (k n:Nat) (K:Ex→St→Option R) (c0:wf2) (v0:wn1):z2 [0,2,3,4,9,10,11] (run E (den E k) (lv 272) k (j1 Tryz.f272 0)) (n+1) (vw c0 v0) K=if (decide (v0.1<(c0.2.2.2.length:Int)))=true then if 0≤v0.1 then if v0.1<(c0.2.2.2.length:Int) then ix c0.2.2.2 v0.1.toNat fun x4=>if 0≤c0.2.1 then ix c0.2.2.1.2.2 c0.2.1.toNat fun x5=>if ((x4==x5)==false)=true then if ((decide (x4≥c0.1))==true)=true then if ((x4 !=c0.2.2.1.1)==false)=true then (xn k x4 0 (i64.wrap ((c0.2.2.1.2.1.length:Int)-1))).bind fun p6=>if ((!p6)==false)=true then if 0≤x4 then ix c0.2.2.1.2.1 x4.toNat fun x7=>if ((decide (x7<0))==false)=true then if 0≤x4 then ix c0.2.2.1.2.1 x4.toNat fun x8=>if 0≤c0.2.1 then ix c0.2.2.1.2.1 c0.2.1.toNat fun x9=>if (decide (x8≥x9))=true then z2 [0,2,3,4,9,10,11] (run E (den E k) (lv 272) k (j1 Tryz.f272 0)) n (vw c0 ((i64.wrap (v0.1+1)),v0.2)) K else z2 [0,2,3,4,9,10,11,12,13] (run E (den E k) (lv 272) k (j1 Tryz.f272 1)) k (vo4 (c0.1,c0.2.1,v0.1,x4,c0.2.2.1,v0.2,c0.2.2.2) 0) (z8 E (den E k) (lv 272) k (.loop (j1 Tryz.f272 0)) (1-0) [(n,[0,2,3,4,9,10,11])] K) else none else none else z2 [0,2,3,4,9,10,11] (run E (den E k) (lv 272) k (j1 Tryz.f272 0)) n (vw c0 ((i64.wrap (v0.1+1)),v0.2)) K else none else z2 [0,2,3,4,9,10,11] (run E (den E k) (lv 272) k (j1 Tryz.f272 0)) n (vw c0 ((i64.wrap (v0.1+1)),v0.2)) K else z2 [0,2,3,4,9,10,11] (run E (den E k) (lv 272) k (j1 Tryz.f272 0)) n (vw c0 ((i64.wrap (v0.1+1)),v0.2)) K else (xn k x4 0 (i64.wrap ((c0.2.2.1.2.1.length:Int)-1))).bind fun p13=>if ((!p13)==false)=true then if 0≤x4 then ix c0.2.2.1.2.1 x4.toNat fun x14=>if ((decide (x14<0))==false)=true then if 0≤x4 then ix c0.2.2.1.2.1 x4.toNat fun x15=>if 0≤c0.2.1 then ix c0.2.2.1.2.1 c0.2.1.toNat fun x16=>if (decide (x15≥x16))=true then z2 [0,2,3,4,9,10,11] (run E (den E k) (lv 272) k (j1 Tryz.f272 0)) n (vw c0 ((i64.wrap (v0.1+1)),v0.2)) K else z2 [0,2,3,4,9,10,11,12,13] (run E (den E k) (lv 272) k (j1 Tryz.f272 1)) k (vo4 (c0.1,c0.2.1,v0.1,x4,c0.2.2.1,v0.2,c0.2.2.2) 0) (z8 E (den E k) (lv 272) k (.loop (j1 Tryz.f272 0)) (1-0) [(n,[0,2,3,4,9,10,11])] K) else none else none else z2 [0,2,3,4,9,10,11] (run E (den E k) (lv 272) k (j1 Tryz.f272 0)) n (vw c0 ((i64.wrap (v0.1+1)),v0.2)) K else none else z2 [0,2,3,4,9,10,11] (run E (den E k) (lv 272) k (j1 Tryz.f272 0)) n (vw c0 ((i64.wrap (v0.1+1)),v0.2)) K else z2 [0,2,3,4,9,10,11] (run E (den E k) (lv 272) k (j1 Tryz.f272 0)) n (vw c0 ((i64.wrap (v0.1+1)),v0.2)) K else none else none else none else K (.exit 0) ⟨128,3,[(2,cI c0.1),(3,cI c0.2.1),(4,cP 0),(9,.c (.ref 1)),(10,.c (.ref 2)),(11,cI v0.1),(35,cI v0.1),(36,.c (.ref 2)),(37,cI (c0.2.2.2.length:Int)),(38,cB (decide (v0.1<(c0.2.2.2.length:Int))))],[(0,.var (avs z7 c0.2.2.1)),(1,.arr 3 (.i .i64) v0.2),(2,.arr 3 (.i .i64) c0.2.2.2)]⟩:=by kernel_rfl
theorem jd9 (k n:Nat) (K:Ex→St→Option R) (c0:wf2) (v:wn1):z2 [0,2,3,4,9,10,11] (run E (den E k) (lv 272) k (j1 Tryz.f272 0)) (n+1) (vw c0 v) K=xh5 k (j44 K c0) c0 (fun v=>z2 [0,2,3,4,9,10,11] (run E (den E k) (lv 272) k (j1 Tryz.f272 0)) n (vw c0 v) K) v:=by
 rw [xm7]
 simp only [zb9]
 kernel_rfl
theorem xf9 (k:Nat) (K:Ex→St→Option R) (c0:wf2):∀(n:Nat) (v:wn1),z2 [0,2,3,4,9,10,11] (run E (den E k) (lv 272) k (j1 Tryz.f272 0)) n (vw c0 v) K=zg1 k (j44 K c0) c0 n v:=ji2 (B:=xh5 k (j44 K c0) c0) (fun _=>rfl) (fun n v=>jd9 k n K c0 v) (fun _=>rfl) (fun _ _=>rfl)
theorem ym9 (k:Nat) (a0:Int×(List Int)×List Int) (a1:List I2) (a2:Int) (a3:Int):zx4 (k+1) a0 a1 a2 a3=(xn k a3 0 (i64.wrap ((a0.2.1.length:Int)-1))).bind fun p1=>if ((!p1)==false)=true then (xn k a3 0 (i64.wrap ((a0.2.2.length:Int)-1))).bind fun p2=>if (!p2)=true then some ([]) else (va2 k a1 a3).bind fun p3=>z2 (R:=List Int) [0,2,3,4,9,10,11] (run E (den E k) (lv 272) k (j1 Tryz.f272 0)) k (vw (a2,a3,a0,p3) (0,[])) (z8 E (den E k) (lv 272) k (yc Tryz.f272) 0 [] (xa E (rs 272) Tryz.f272:Ex→St→Option (List Int))) else some ([]):=by kernel_rfl
theorem xpa (k:Nat) (a0:Int×(List Int)×List Int) (a1:List I2) (a2:Int) (a3:Int):zx4 (k+1) a0 a1 a2 a3=(xn k a3 0 (i64.wrap ((a0.2.1.length:Int)-1))).bind fun p1=>if ((!p1)==false)=true then (xn k a3 0 (i64.wrap ((a0.2.2.length:Int)-1))).bind fun p2=>if (!p2)=true then some ([]) else (va2 k a1 a3).bind fun p3=>zg1 k (fun (v0:Int×(List Int))=>some v0.2) (a2,a3,a0,p3) k (0,[]) else some ([]):=by
 rw [ym9]
 simp only [xf9]
 kernel_rfl
noncomputable def zx2 (k:Nat) (a0:j2) (a1:Int) (a2:Int):Option (List Int):=den E k 338 [.agg (avs j4 a0),cI a1,cI a2]
abbrev wl2:=Int×Int×j2
abbrev yj1:=Int×(List Int)
def w55 (c0:wl2) (v0:yj1):St:=⟨48,2,[(1,cI c0.1),(2,cI c0.2.1),(3,cP 0),(7,.c (.ref 1)),(8,cI v0.1)],[(0,.var (avs j4 c0.2.2)),(1,.arr 3 (.i .i64) v0.2)]⟩
noncomputable def jr5 {R:Type} (k:Nat) (X0:yj1→Option R) (c0:wl2) (rec:yj1→Option R) (v0:yj1):Option R:=if (decide (v0.1<(c0.2.2.2.2.2.length:Int)))=true then if 0≤v0.1 then ix c0.2.2.2.2.2 v0.1.toNat fun x1=>(v56 k x1.1).bind fun p2=>if (p2==true)=true then if ((decide (c0.1≤c0.2.1))==true)=true then if ((decide (x1.1.1≤c0.2.1))==true)=true then if (decide (c0.1<x1.1.2))=true then if (v0.2.length+([v0.1]).length)*8≤140737488355328 then rec ((i64.wrap (v0.1+1)),(v0.2++[v0.1])) else none else rec ((i64.wrap (v0.1+1)),v0.2) else rec ((i64.wrap (v0.1+1)),v0.2) else rec ((i64.wrap (v0.1+1)),v0.2) else rec ((i64.wrap (v0.1+1)),v0.2) else none else X0 v0
noncomputable def ya3 {R:Type} (k:Nat) (X0:yj1→Option R) (c:wl2):Nat→yj1→Option R
 | 0,_=>none
 | n+1,v=>jr5 k X0 c (ya3 k X0 c n) v
def vi4 (K:Ex→St→Option R) (c0:wl2) (v0:yj1):Option R:=K (.exit 0) ⟨48,2,[(1,cI c0.1),(2,cI c0.2.1),(3,cP 0),(7,.c (.ref 1)),(8,cI v0.1),(11,cI v0.1),(12,.c (.ptr 0 3)),(13,.c (.l 198 we c0.2.2.2.2.2)),(14,cI (c0.2.2.2.2.2.length:Int)),(15,cB (decide (v0.1<(c0.2.2.2.2.2.length:Int))))],[(0,.var (avs j4 c0.2.2)),(1,.arr 3 (.i .i64) v0.2)]⟩
theorem x28 (k:Nat) (K:Ex→St→Option R) (c0:wl2):∀(n:Nat) (v:yj1),z2 [0,1,2,3,7,8] (run E (den E k) (lv 338) k (j1 Tryz.f338 0)) n (w55 c0 v) K=ya3 k (vi4 K c0) c0 n v:=j6 (B:=jr5 k (vi4 K c0) c0) fun n v=>by kernel_rfl
theorem x58 (k:Nat) (a0:j2) (a1:Int) (a2:Int):zx2 (k+1) a0 a1 a2=z2 (R:=List Int) [0,1,2,3,7,8] (run E (den E k) (lv 338) k (j1 Tryz.f338 0)) k (w55 (a1,a2,a0) (0,[])) (z8 E (den E k) (lv 338) k (yc Tryz.f338) 0 [] (xa E (rs 338) Tryz.f338:Ex→St→Option (List Int))):=by kernel_rfl
theorem jg9 (k:Nat) (a0:j2) (a1:Int) (a2:Int):zx2 (k+1) a0 a1 a2=ya3 k (fun (v0:Int×(List Int))=>some v0.2) (a1,a2,a0) k (0,[]):=by
 rw [x58]
 simp only [x28]
 kernel_rfl
noncomputable def yr6 (k:Nat) (a0:Int×(List Int)×List Int):Option (Int×(List Int)×List Int):=den E k 286 [.agg (avs z7 a0)]
theorem xw9 (k:Nat) (a0:Int×(List Int)×List Int):yr6 (k+1) a0=if (0+a0.2.1.length)*8≤140737488355328 then if (0+a0.2.2.length)*8≤140737488355328 then some a0 else none else none:=by kernel_rfl
noncomputable def yd3 (k:Nat) (a0:j2) (a1:Int) (a2:Int):Option ((Int×(List Int)×List Int)×Bool):=den E k 270 [.agg (avs j4 a0),cI a1,cI a2]
theorem xha (k:Nat) (a0:j2) (a1:Int) (a2:Int):yd3 (k+1) a0 a1 a2=(xn k a1 0 (i64.wrap ((a0.2.2.2.length:Int)-1))).bind fun p1=>if ((!p1)==false)=true then if 0≤a1 then ix a0.2.2.2 a1.toNat fun x2=>(xn k a2 0 (i64.wrap ((x2.2.2.length:Int)-1))).bind fun p3=>if (!p3)=true then some ((0,[],[]),false) else if 0≤a1 then ix a0.2.2.2 a1.toNat fun x4=>if 0≤a2 then ix x4.2.2 a2.toNat fun x5=>(yr6 k x5).bind fun p6=>some (p6,true) else none else none else none else some ((0,[],[]),false):=by kernel_rfl
noncomputable def xc2 (k:Nat) (a0:List Int) (a1:Int):Option (Bool):=den E k 268 [.c (.l 3 (.i .i64) a0),cI a1]
abbrev vv2:=(List Int)×Int
abbrev zi1:=Int
def yn6 (c0:vv2) (v0:zi1):St:=⟨18,0,[(0,.c (.l 3 (.i .i64) c0.1)),(1,cI c0.2),(5,cI v0)],[]⟩
noncomputable def x27 {R:Type} (k:Nat) (X0:zi1→Int→Option R) (X1:zi1→Option R) (c0:vv2) (rec:zi1→Option R) (v0:zi1):Option R:=if (decide (v0<(c0.1.length:Int)))=true then if 0≤v0 then ix c0.1 v0.toNat fun x1=>if (x1==c0.2)=true then X0 v0 x1 else rec (i64.wrap (v0+1)) else none else X1 v0
noncomputable def jc4 {R:Type} (k:Nat) (X0:zi1→Int→Option R) (X1:zi1→Option R) (c:vv2):Nat→zi1→Option R
 | 0,_=>none
 | n+1,v=>x27 k X0 X1 c (jc4 k X0 X1 c n) v
def wr5 (K:Ex→St→Option R) (c0:vv2) (v0:zi1) (x1:Int):Option R:=K .ret ⟨18,0,[(0,.c (.l 3 (.i .i64) c0.1)),(1,cI c0.2),(4,cB true),(5,cI v0),(6,cI v0),(7,.c (.l 3 (.i .i64) c0.1)),(8,cI (c0.1.length:Int)),(9,cB (decide (v0<(c0.1.length:Int)))),(12,.c (.l 3 (.i .i64) c0.1)),(13,cI v0),(14,.c (.at_ [vI x1])),(15,cI x1),(16,cI c0.2),(17,cB (x1==c0.2))],[]⟩
def jp5 (K:Ex→St→Option R) (c0:vv2) (v0:zi1):Option R:=K (.exit 0) ⟨18,0,[(0,.c (.l 3 (.i .i64) c0.1)),(1,cI c0.2),(5,cI v0),(6,cI v0),(7,.c (.l 3 (.i .i64) c0.1)),(8,cI (c0.1.length:Int)),(9,cB (decide (v0<(c0.1.length:Int))))],[]⟩
theorem y59 (k:Nat) (K:Ex→St→Option R) (c0:vv2):∀(n:Nat) (v:zi1),z2 [0,0,1,5] (run E (den E k) (lv 268) k (j1 Tryz.f268 0)) n (yn6 c0 v) K=jc4 k (wr5 K c0) (jp5 K c0) c0 n v:=j6 (B:=x27 k (wr5 K c0) (jp5 K c0) c0) fun n v=>by kernel_rfl
theorem xj9 (k:Nat) (a0:List Int) (a1:Int):xc2 (k+1) a0 a1=z2 (R:=Bool) [0,0,1,5] (run E (den E k) (lv 268) k (j1 Tryz.f268 0)) k (yn6 (a0,a1) 0) (z8 E (den E k) (lv 268) k (yc Tryz.f268) 0 [] (xa E (rs 268) Tryz.f268:Ex→St→Option (Bool))):=by kernel_rfl
theorem vpa (k:Nat) (a0:List Int) (a1:Int):xc2 (k+1) a0 a1=jc4 k (fun (v0:Int) (x1:Int)=>some true) (fun (v0:Int)=>some false) (a0,a1) k 0:=by
 rw [xj9]
 simp only [y59]
 kernel_rfl
noncomputable def y14 (k:Nat) (a0:List (List Int)):Option (Int):=den E k 401 [.c (.l 30 (.l 3 (.i .i64)) a0)]
abbrev y13:=(List (List Int))
abbrev jq1:=Int×Int
def yk5 (c0:y13) (v0:jq1):St:=⟨19,0,[(0,.c (.l 30 (.l 3 (.i .i64)) c0)),(3,cI v0.1),(4,cI v0.2)],[]⟩
noncomputable def wi6 {R:Type} (k:Nat) (X0:jq1→Option R) (c0:y13) (rec:jq1→Option R) (v0:jq1):Option R:=if (decide (v0.2<(c0.length:Int)))=true then if 0≤v0.2 then ix c0 v0.2.toNat fun x1=>(jp8 k v0.1 (x1.length:Int)).bind fun p2=>rec (p2,(i64.wrap (v0.2+1))) else none else X0 v0
noncomputable def xo3 {R:Type} (k:Nat) (X0:jq1→Option R) (c:y13):Nat→jq1→Option R
 | 0,_=>none
 | n+1,v=>wi6 k X0 c (xo3 k X0 c n) v
def v05 (K:Ex→St→Option R) (c0:y13) (v0:jq1):Option R:=K (.exit 0) ⟨19,0,[(0,.c (.l 30 (.l 3 (.i .i64)) c0)),(3,cI v0.1),(4,cI v0.2),(5,cI v0.2),(6,.c (.l 30 (.l 3 (.i .i64)) c0)),(7,cI (c0.length:Int)),(8,cB (decide (v0.2<(c0.length:Int))))],[]⟩
theorem wo8 (k:Nat) (K:Ex→St→Option R) (c0:y13):∀(n:Nat) (v:jq1),z2 [0,0,3,4] (run E (den E k) (lv 401) k (j1 Tryz.f401 0)) n (yk5 c0 v) K=xo3 k (v05 K c0) c0 n v:=j6 (B:=wi6 k (v05 K c0) c0) fun n v=>by kernel_rfl
theorem yc8 (k:Nat) (a0:List (List Int)):y14 (k+1) a0=z2 (R:=Int) [0,0,3,4] (run E (den E k) (lv 401) k (j1 Tryz.f401 0)) k (yk5 a0 (0,0)) (z8 E (den E k) (lv 401) k (yc Tryz.f401) 0 [] (xa E (rs 401) Tryz.f401:Ex→St→Option (Int))):=by kernel_rfl
theorem x5a (k:Nat) (a0:List (List Int)):y14 (k+1) a0=xo3 k (fun (v0:I2)=>some v0.1) a0 k (0,0):=by
 rw [yc8]
 simp only [wo8]
 kernel_rfl
noncomputable def zi2 (k:Nat) (a0:List (List Int)) (a1:Int) (a2:Int):Option (List Int):=den E k 402 [.c (.l 30 (.l 3 (.i .i64)) a0),cI a1,cI a2]
abbrev zm2:=(List (List Int))×Int×Int
abbrev xk1:=Int×(List Int)
def y35 (c0:zm2) (v0:xk1):St:=⟨58,1,[(0,.c (.l 30 (.l 3 (.i .i64)) c0.1)),(1,cI c0.2.1),(2,cI c0.2.2),(7,.c (.ref 0)),(8,cI v0.1)],[(0,.arr 3 (.i .i64) v0.2)]⟩
noncomputable def xt5 {R:Type} (k:Nat) (X0:xk1→Option R) (c0:zm2) (rec:xk1→Option R) (v0:xk1):Option R:=if (decide (v0.1<(c0.1.length:Int)))=true then if 0≤v0.1 then ix c0.1 v0.1.toNat fun x1=>if ((decide (c0.2.2<(x1.length:Int)))==true)=true then if 0≤v0.1 then ix c0.1 v0.1.toNat fun x2=>if 0≤c0.2.2 then ix x2 c0.2.2.toNat fun x3=>(xn k x3 0 (i64.wrap (c0.2.1-1))).bind fun p4=>if (p4==true)=true then if 0≤v0.1 then ix c0.1 v0.1.toNat fun x5=>if 0≤c0.2.2 then ix x5 c0.2.2.toNat fun x6=>(xc2 k v0.2 x6).bind fun p7=>if (!p7)=true then if 0≤v0.1 then ix c0.1 v0.1.toNat fun x8=>if 0≤c0.2.2 then ix x8 c0.2.2.toNat fun x9=>if (v0.2.length+([x9]).length)*8≤140737488355328 then rec ((i64.wrap (v0.1+1)),(v0.2++[x9])) else none else none else none else rec ((i64.wrap (v0.1+1)),v0.2) else none else none else rec ((i64.wrap (v0.1+1)),v0.2) else none else none else rec ((i64.wrap (v0.1+1)),v0.2) else none else X0 v0
noncomputable def xn2 {R:Type} (k:Nat) (X0:xk1→Option R) (c:zm2):Nat→xk1→Option R
 | 0,_=>none
 | n+1,v=>xt5 k X0 c (xn2 k X0 c n) v
def zf4 (K:Ex→St→Option R) (c0:zm2) (v0:xk1):Option R:=K (.exit 0) ⟨58,1,[(0,.c (.l 30 (.l 3 (.i .i64)) c0.1)),(1,cI c0.2.1),(2,cI c0.2.2),(7,.c (.ref 0)),(8,cI v0.1),(10,cI v0.1),(11,.c (.l 30 (.l 3 (.i .i64)) c0.1)),(12,cI (c0.1.length:Int)),(13,cB (decide (v0.1<(c0.1.length:Int))))],[(0,.arr 3 (.i .i64) v0.2)]⟩
theorem wu7 (k:Nat) (K:Ex→St→Option R) (c0:zm2):∀(n:Nat) (v:xk1),z2 [0,0,1,2,7,8] (run E (den E k) (lv 402) k (j1 Tryz.f402 0)) n (y35 c0 v) K=xn2 k (zf4 K c0) c0 n v:=j6 (B:=xt5 k (zf4 K c0) c0) fun n v=>by kernel_rfl
theorem v08 (k:Nat) (a0:List (List Int)) (a1:Int) (a2:Int):zi2 (k+1) a0 a1 a2=z2 (R:=List Int) [0,0,1,2,7,8] (run E (den E k) (lv 402) k (j1 Tryz.f402 0)) k (y35 (a0,a1,a2) (0,[])) (z8 E (den E k) (lv 402) k (yc Tryz.f402) 0 [] (xa E (rs 402) Tryz.f402:Ex→St→Option (List Int))):=by kernel_rfl
theorem y49 (k:Nat) (a0:List (List Int)) (a1:Int) (a2:Int):zi2 (k+1) a0 a1 a2=xn2 k (fun (v0:Int×(List Int))=>some v0.2) (a0,a1,a2) k (0,[]):=by
 rw [v08]
 simp only [wu7]
 kernel_rfl
noncomputable def jr (k:Nat) (a0:List (List Int)):Option (Bool):=den E k 384 [.c (.l 30 (.l 3 (.i .i64)) a0)]
abbrev ya1:=(List (List Int))×Int×Int×Int×(List Int)
abbrev yq:=Int×(List Int)
def yg3 (c2:ya1) (v2:yq):St:=⟨59,2,[(0,.c (.l 30 (.l 3 (.i .i64)) c2.1)),(3,cI c2.2.1),(4,cI c2.2.2.1),(5,.c (.ref 0)),(6,cI c2.2.2.2.1),(7,.c (.ref 1)),(8,cI v2.1)],[(0,.arr 3 (.i .i64) v2.2),(1,.arr 3 (.i .i64) c2.2.2.2.2)]⟩
noncomputable def wt3 {R:Type} (k:Nat) (X0:yq→Option R) (c2:ya1) (rec:yq→Option R) (v2:yq):Option R:=if (decide (v2.1<(c2.2.2.2.2.length:Int)))=true then if 0≤v2.1 then if v2.1<(c2.2.2.2.2.length:Int) then ix c2.2.2.2.2 v2.1.toNat fun x6=>(xc2 k v2.2 x6).bind fun p7=>if (!p7)=true then if 0≤v2.1 then if v2.1<(c2.2.2.2.2.length:Int) then ix c2.2.2.2.2 v2.1.toNat fun x8=>if (v2.2.length+([x8]).length)*8≤140737488355328 then rec ((i64.wrap (v2.1+1)),(v2.2++[x8])) else none else none else none else rec ((i64.wrap (v2.1+1)),v2.2) else none else none else X0 v2
noncomputable def wz1 {R:Type} (k:Nat) (X0:yq→Option R) (c:ya1):Nat→yq→Option R
 | 0,_=>none
 | n+1,v=>wt3 k X0 c (wz1 k X0 c n) v
def y53 (K:Ex→St→Option R) (c2:ya1) (v2:yq):Option R:=K (.exit 4) ⟨59,2,[(0,.c (.l 30 (.l 3 (.i .i64)) c2.1)),(3,cI c2.2.1),(4,cI c2.2.2.1),(5,.c (.ref 0)),(6,cI c2.2.2.2.1),(7,.c (.ref 1)),(8,cI v2.1),(39,cI v2.1),(40,.c (.ref 1)),(41,cI (c2.2.2.2.2.length:Int)),(42,cB (decide (v2.1<(c2.2.2.2.2.length:Int))))],[(0,.arr 3 (.i .i64) v2.2),(1,.arr 3 (.i .i64) c2.2.2.2.2)]⟩
theorem wz5 (k:Nat) (K:Ex→St→Option R) (c2:ya1):∀(n:Nat) (v:yq),z2 [0,0,3,4,5,6,7,8] (run E (den E k) (lv 384) k (j1 Tryz.f384 2)) n (yg3 c2 v) K=wz1 k (y53 K c2) c2 n v:=j6 (B:=wt3 k (y53 K c2) c2) fun n v=>by kernel_rfl
abbrev wv:=(List (List Int))×Int×Int
abbrev yj:=Int×(List Int)
def vg1 (c1:wv) (v1:yj):St:=⟨59,1,[(0,.c (.l 30 (.l 3 (.i .i64)) c1.1)),(3,cI c1.2.1),(4,cI c1.2.2),(5,.c (.ref 0)),(6,cI v1.1)],[(0,.arr 3 (.i .i64) v1.2)]⟩
noncomputable def wp2 {R:Type} (k:Nat) (X0:yj→Int→Option R) (X1:yj→Option R) (c1:wv) (rec:yj→Option R) (v1:yj):Option R:=if (decide (v1.1<(v1.2.length:Int)))=true then if 0≤v1.1 then if v1.1<(v1.2.length:Int) then ix v1.2 v1.1.toNat fun x3=>if (x3==c1.2.2)=true then X0 v1 x3 else if 0≤v1.1 then if v1.1<(v1.2.length:Int) then ix v1.2 v1.1.toNat fun x4=>(zi2 k c1.1 c1.2.1 x4).bind fun p5=>wz1 k (fun (v2:Int×(List Int))=>rec ((i64.wrap (v1.1+1)),v2.2)) (c1.1,c1.2.1,c1.2.2,v1.1,p5) k (0,v1.2) else none else none else none else none else X1 v1
noncomputable def xv {R:Type} (k:Nat) (X0:yj→Int→Option R) (X1:yj→Option R) (c:wv):Nat→yj→Option R
 | 0,_=>none
 | n+1,v=>wp2 k X0 X1 c (xv k X0 X1 c n) v
def ja2 (K:Ex→St→Option R) (c1:wv) (v1:yj) (x3:Int):Option R:=K .ret ⟨59,1,[(0,.c (.l 30 (.l 3 (.i .i64)) c1.1)),(2,cB true),(3,cI c1.2.1),(4,cI c1.2.2),(5,.c (.ref 0)),(6,cI v1.1),(20,cI v1.1),(21,.c (.ref 0)),(22,cI (v1.2.length:Int)),(23,cB (decide (v1.1<(v1.2.length:Int)))),(26,.c (.ref 0)),(27,cI v1.1),(28,.c (.el 0 1 v1.1.toNat 0)),(29,cI x3),(30,cI c1.2.2),(31,cB (x3==c1.2.2))],[(0,.arr 3 (.i .i64) v1.2)]⟩
def y82 (K:Ex→St→Option R) (c1:wv) (v1:yj):Option R:=K (.exit 2) ⟨59,1,[(0,.c (.l 30 (.l 3 (.i .i64)) c1.1)),(3,cI c1.2.1),(4,cI c1.2.2),(5,.c (.ref 0)),(6,cI v1.1),(20,cI v1.1),(21,.c (.ref 0)),(22,cI (v1.2.length:Int)),(23,cB (decide (v1.1<(v1.2.length:Int))))],[(0,.arr 3 (.i .i64) v1.2)]⟩
theorem yq4 (k n:Nat) (K:Ex→St→Option R) (c1:wv) (v1:yj):z2 [0,0,3,4,5,6] (run E (den E k) (lv 384) k (j1 Tryz.f384 1)) (n+1) (vg1 c1 v1) K=if (decide (v1.1<(v1.2.length:Int)))=true then if 0≤v1.1 then if v1.1<(v1.2.length:Int) then ix v1.2 v1.1.toNat fun x3=>if (x3==c1.2.2)=true then K .ret ⟨59,1,[(0,.c (.l 30 (.l 3 (.i .i64)) c1.1)),(2,cB true),(3,cI c1.2.1),(4,cI c1.2.2),(5,.c (.ref 0)),(6,cI v1.1),(20,cI v1.1),(21,.c (.ref 0)),(22,cI (v1.2.length:Int)),(23,cB (decide (v1.1<(v1.2.length:Int)))),(26,.c (.ref 0)),(27,cI v1.1),(28,.c (.el 0 1 v1.1.toNat 0)),(29,cI x3),(30,cI c1.2.2),(31,cB (x3==c1.2.2))],[(0,.arr 3 (.i .i64) v1.2)]⟩ else if 0≤v1.1 then if v1.1<(v1.2.length:Int) then ix v1.2 v1.1.toNat fun x4=>(zi2 k c1.1 c1.2.1 x4).bind fun p5=>z2 [0,0,3,4,5,6,7,8] (run E (den E k) (lv 384) k (j1 Tryz.f384 2)) k (yg3 (c1.1,c1.2.1,c1.2.2,v1.1,p5) (0,v1.2)) (z8 E (den E k) (lv 384) k (.loop (j1 Tryz.f384 1)) (2-1) [(n,[0,0,3,4,5,6])] K) else none else none else none else none else K (.exit 2) ⟨59,1,[(0,.c (.l 30 (.l 3 (.i .i64)) c1.1)),(3,cI c1.2.1),(4,cI c1.2.2),(5,.c (.ref 0)),(6,cI v1.1),(20,cI v1.1),(21,.c (.ref 0)),(22,cI (v1.2.length:Int)),(23,cB (decide (v1.1<(v1.2.length:Int))))],[(0,.arr 3 (.i .i64) v1.2)]⟩:=by kernel_rfl
theorem v06 (k n:Nat) (K:Ex→St→Option R) (c1:wv) (v:yj):z2 [0,0,3,4,5,6] (run E (den E k) (lv 384) k (j1 Tryz.f384 1)) (n+1) (vg1 c1 v) K=wp2 k (ja2 K c1) (y82 K c1) c1 (fun v=>z2 [0,0,3,4,5,6] (run E (den E k) (lv 384) k (j1 Tryz.f384 1)) n (vg1 c1 v) K) v:=by
 rw [yq4]
 simp only [wz5]
 kernel_rfl
theorem jz5 (k:Nat) (K:Ex→St→Option R) (c1:wv):∀(n:Nat) (v:yj),z2 [0,0,3,4,5,6] (run E (den E k) (lv 384) k (j1 Tryz.f384 1)) n (vg1 c1 v) K=xv k (ja2 K c1) (y82 K c1) c1 n v:=ji2 (B:=wp2 k (ja2 K c1) (y82 K c1) c1) (fun _=>rfl) (fun n v=>v06 k n K c1 v) (fun _=>rfl) (fun _ _=>rfl)
abbrev vv:=(List (List Int))×Int
abbrev zj:=Int
def wf1 (c0:vv) (v0:zj):St:=⟨59,0,[(0,.c (.l 30 (.l 3 (.i .i64)) c0.1)),(3,cI c0.2),(4,cI v0)],[]⟩
noncomputable def yq2 {R:Type} (k:Nat) (X0:zj→(List Int)→(Int×(List Int))→Int→Option R) (X1:zj→Option R) (c0:vv) (rec:zj→Option R) (v0:zj):Option R:=if (decide (v0<c0.2))=true then (zi2 k c0.1 c0.2 v0).bind fun p2=>xv k (fun (v1:Int×(List Int)) (x3:Int)=>X0 v0 p2 v1 x3) (fun (v1:Int×(List Int))=>rec (i64.wrap (v0+1))) (c0.1,c0.2,v0) k (0,p2) else X1 v0
noncomputable def ym1 {R:Type} (k:Nat) (X0:zj→(List Int)→(Int×(List Int))→Int→Option R) (X1:zj→Option R) (c:vv):Nat→zj→Option R
 | 0,_=>none
 | n+1,v=>yq2 k X0 X1 c (ym1 k X0 X1 c n) v
def y92 (K:Ex→St→Option R) (c0:vv) (v0:zj) (p2:List Int) (v1:Int×(List Int)) (x3:Int):Option R:=K .ret ⟨59,1,[(0,.c (.l 30 (.l 3 (.i .i64)) c0.1)),(2,cB true),(3,cI c0.2),(4,cI v0),(5,.c (.ref 0)),(6,cI v1.1),(20,cI v1.1),(21,.c (.ref 0)),(22,cI (v1.2.length:Int)),(23,cB (decide (v1.1<(v1.2.length:Int)))),(26,.c (.ref 0)),(27,cI v1.1),(28,.c (.el 0 1 v1.1.toNat 0)),(29,cI x3),(30,cI v0),(31,cB (x3==v0))],[(0,.arr 3 (.i .i64) v1.2)]⟩
def wc2 (K:Ex→St→Option R) (c0:vv) (v0:zj):Option R:=K (.exit 0) ⟨59,0,[(0,.c (.l 30 (.l 3 (.i .i64)) c0.1)),(3,cI c0.2),(4,cI v0),(11,cI v0),(12,cI c0.2),(13,cB (decide (v0<c0.2)))],[]⟩
theorem yo4 (k n:Nat) (K:Ex→St→Option R) (c0:vv) (v0:zj):z2 [0,0,3,4] (run E (den E k) (lv 384) k (j1 Tryz.f384 0)) (n+1) (wf1 c0 v0) K=if (decide (v0<c0.2))=true then (zi2 k c0.1 c0.2 v0).bind fun p2=>z2 [0,0,3,4,5,6] (run E (den E k) (lv 384) k (j1 Tryz.f384 1)) k (vg1 (c0.1,c0.2,v0) (0,p2)) (z8 E (den E k) (lv 384) k (.loop (j1 Tryz.f384 0)) (1-0) [(n,[0,0,3,4])] K) else K (.exit 0) ⟨59,0,[(0,.c (.l 30 (.l 3 (.i .i64)) c0.1)),(3,cI c0.2),(4,cI v0),(11,cI v0),(12,cI c0.2),(13,cB (decide (v0<c0.2)))],[]⟩:=by kernel_rfl
theorem vz5 (k n:Nat) (K:Ex→St→Option R) (c0:vv) (v:zj):z2 [0,0,3,4] (run E (den E k) (lv 384) k (j1 Tryz.f384 0)) (n+1) (wf1 c0 v) K=yq2 k (y92 K c0) (wc2 K c0) c0 (fun v=>z2 [0,0,3,4] (run E (den E k) (lv 384) k (j1 Tryz.f384 0)) n (wf1 c0 v) K) v:=by
 rw [yo4]
 simp only [jz5]
 kernel_rfl
theorem jx5 (k:Nat) (K:Ex→St→Option R) (c0:vv):∀(n:Nat) (v:zj),z2 [0,0,3,4] (run E (den E k) (lv 384) k (j1 Tryz.f384 0)) n (wf1 c0 v) K=ym1 k (y92 K c0) (wc2 K c0) c0 n v:=ji2 (B:=yq2 k (y92 K c0) (wc2 K c0) c0) (fun _=>rfl) (fun n v=>vz5 k n K c0 v) (fun _=>rfl) (fun _ _=>rfl)
theorem wy5 (k:Nat) (a0:List (List Int)):jr (k+1) a0=(y14 k a0).bind fun p1=>z2 (R:=Bool) [0,0,3,4] (run E (den E k) (lv 384) k (j1 Tryz.f384 0)) k (wf1 (a0,p1) 0) (z8 E (den E k) (lv 384) k (yc Tryz.f384) 0 [] (xa E (rs 384) Tryz.f384:Ex→St→Option (Bool))):=by kernel_rfl
theorem yx6 (k:Nat) (a0:List (List Int)):jr (k+1) a0=(y14 k a0).bind fun p1=>ym1 k (fun (v0:Int) (p2:List Int) (v1:Int×(List Int)) (x3:Int)=>some true) (fun (v0:Int)=>some false) (a0,p1) k 0:=by
 rw [wy5]
 simp only [jx5]
 kernel_rfl
noncomputable def y23 (k:Nat) (a0:j2) (a1:Int) (a2:Int) (a3:Int):Option (Bool):=den E k 336 [.agg (avs j4 a0),cI a1,cI a2,cI a3]
abbrev x82:=Int×j2×(List Int)
abbrev yc1:=Int×(List (List Int))
def yl4 (c0:x82) (v0:yc1):St:=⟨44,3,[(1,cI c0.1),(4,cP 0),(9,.c (.ref 1)),(10,.c (.ref 2)),(11,cI v0.1)],[(0,.var (avs j4 c0.2.1)),(1,.arr 30 (.l 3 (.i .i64)) v0.2),(2,.arr 3 (.i .i64) c0.2.2)]⟩
noncomputable def yd5 {R:Type} (k:Nat) (X0:yc1→Option R) (c0:x82) (rec:yc1→Option R) (v0:yc1):Option R:=if (decide (v0.1<(c0.2.2.length:Int)))=true then if 0≤v0.1 then if v0.1<(c0.2.2.length:Int) then ix c0.2.2 v0.1.toNat fun x2=>(yd3 k c0.2.1 x2 c0.1).bind fun p3=>if p3.2=true then if (v0.2.length+([p3.1.2.2]).length)*24≤140737488355328 then rec ((i64.wrap (v0.1+1)),(v0.2++[p3.1.2.2])) else none else rec ((i64.wrap (v0.1+1)),v0.2) else none else none else X0 v0
noncomputable def vt2 {R:Type} (k:Nat) (X0:yc1→Option R) (c:x82):Nat→yc1→Option R
 | 0,_=>none
 | n+1,v=>yd5 k X0 c (vt2 k X0 c n) v
def x54 (K:Ex→St→Option R) (c0:x82) (v0:yc1):Option R:=K (.exit 0) ⟨44,3,[(1,cI c0.1),(4,cP 0),(9,.c (.ref 1)),(10,.c (.ref 2)),(11,cI v0.1),(19,cI v0.1),(20,.c (.ref 2)),(21,cI (c0.2.2.length:Int)),(22,cB (decide (v0.1<(c0.2.2.length:Int))))],[(0,.var (avs j4 c0.2.1)),(1,.arr 30 (.l 3 (.i .i64)) v0.2),(2,.arr 3 (.i .i64) c0.2.2)]⟩
theorem x87 (k:Nat) (K:Ex→St→Option R) (c0:x82):∀(n:Nat) (v:yc1),z2 [0,1,4,9,10,11] (run E (den E k) (lv 336) k (j1 Tryz.f336 0)) n (yl4 c0 v) K=vt2 k (x54 K c0) c0 n v:=j6 (B:=yd5 k (x54 K c0) c0) fun n v=>by kernel_rfl
theorem wh7 (k:Nat) (a0:j2) (a1:Int) (a2:Int) (a3:Int):y23 (k+1) a0 a1 a2 a3=(zx2 k a0 a2 a3).bind fun p1=>z2 (R:=Bool) [0,1,4,9,10,11] (run E (den E k) (lv 336) k (j1 Tryz.f336 0)) k (yl4 (a1,a0,p1) (0,[])) (z8 E (den E k) (lv 336) k (yc Tryz.f336) 0 [] (xa E (rs 336) Tryz.f336:Ex→St→Option (Bool))):=by kernel_rfl
theorem vt8 (k:Nat) (a0:j2) (a1:Int) (a2:Int) (a3:Int):y23 (k+1) a0 a1 a2 a3=(zx2 k a0 a2 a3).bind fun p1=>vt2 k (fun (v0:Int×(List (List Int)))=>(jr k v0.2).bind fun p2=>some (!p2)) (a1,a0,p1) k (0,[]):=by
 rw [wh7]
 simp only [x87]
 kernel_rfl
noncomputable def v96 (k:Nat) (a0:j2) (a1:Int) (a2:Int) (a3:Int):Option (Int):=den E k 337 [.agg (avs j4 a0),cI a1,cI a2,cI a3]
theorem yka (k:Nat) (a0:j2) (a1:Int) (a2:Int) (a3:Int):v96 (k+1) a0 a1 a2 a3=(vy2 k a0 a3).bind fun p1=>(yd3 k a0 p1 a2).bind fun p2=>if ((!p2.2)==false)=true then (xn k a1 0 (i64.wrap ((p2.1.2.2.length:Int)-1))).bind fun p3=>if (!p3)=true then some (-1) else if 0≤a1 then if a1<(p2.1.2.2.length:Int) then ix p2.1.2.2 a1.toNat fun x4=>some x4 else none else none else some (-1):=by kernel_rfl
noncomputable def wr6 (k:Nat) (a0:j2) (a1:Int) (a2:Int) (a3:Int):Option (Int):=den E k 267 [.agg (avs j4 a0),cI a1,cI a2,cI a3]
theorem wbb (k:Nat) (a0:j2) (a1:Int) (a2:Int) (a3:Int):wr6 (k+1) a0 a1 a2 a3=(xn k a0.2.2.1 0 5).bind fun p1=>if ((!p1)==false)=true then (xn k a3 0 1000).bind fun p2=>if ((!p2)==false)=true then (y23 k a0 a2 (i64.wrap (a3-(i64.wrap (2*a0.2.2.1)))) (i64.wrap (a3+(i64.wrap (2*a0.2.2.1))))).bind fun p3=>if (!p3)=true then some (-1) else (v96 k a0 a1 a2 a3).bind fun p4=>some p4 else some (-1) else some (-1):=by kernel_rfl
end Go.Proofs.YtkgjmgaccfmhpaaGreat.World
