/- The equations of the functions that a law reaches, part 2. No condition. -/
import Derived.Test.YtkgjmgaccfmhpaaGreatWa
namespace Go.Proofs.YtkgjmgaccfmhpaaGreat.World
open Go Go.V Go.Proofs
set_option linter.unusedVariables false
set_option linter.unusedSimpArgs false
set_option maxRecDepth 100000
set_option maxHeartbeats 4000000
noncomputable def FleqSentS (k:Nat) (a0:List I4) (a1:List I4):Option (Bool):=den E k 20 [.c (.l 146 sI4 a0),.c (.l 146 sI4 a1)]
abbrev CleqSentS_0:Type:=(List I4)×(List I4)
abbrev v21:Type:=Int
def StleqSentS_0 (c0:CleqSentS_0) (v0:v21):St:=⟨27,0,[(0,.c (.l 146 sI4 c0.1)),(1,.c (.l 146 sI4 c0.2)),(5,cI v0)],[]⟩
noncomputable def BleqSentS_0 {R:Type} (k:Nat) (X0:v21→I4→I4→Bool→Option R) (X1:v21→Option R) (c0:CleqSentS_0) (rec:v21→Option R) (v0:v21):Option R:=if (decide (v0<(c0.1.length:Int)))=true then if 0≤v0 then ix c0.1 v0.toNat fun x1=>if 0≤v0 then ix c0.2 v0.toNat fun x2=>(FleqSent k x1 x2).bind fun p3=>if (!p3)=true then X0 v0 x1 x2 p3 else rec (IntKind.i64.wrap (v0+1)) else none else none else X1 v0
noncomputable def LleqSentS_0 {R:Type} (k:Nat) (X0:v21→I4→I4→Bool→Option R) (X1:v21→Option R) (c:CleqSentS_0):Nat→v21→Option R
 | 0,_=>none
 | n+1,v=>BleqSentS_0 k X0 X1 c (LleqSentS_0 k X0 X1 c n) v
def YleqSentS_0_0 {R:Type} (K:Ex→St→Option R) (c0:CleqSentS_0) (v0:v21) (x1:I4) (x2:I4) (p3:Bool):Option R:=K .ret ⟨27,0,[(0,.c (.l 146 sI4 c0.1)),(1,.c (.l 146 sI4 c0.2)),(4,cB false),(5,cI v0),(11,cI v0),(12,.c (.l 146 sI4 c0.1)),(13,cI (c0.1.length:Int)),(14,cB (decide (v0<(c0.1.length:Int)))),(17,.c (.l 146 sI4 c0.1)),(18,cI v0),(19,.c (.at_ (avs sI4 x1))),(20,.agg (avs sI4 x1)),(21,.c (.l 146 sI4 c0.2)),(22,cI v0),(23,.c (.at_ (avs sI4 x2))),(24,.agg (avs sI4 x2)),(25,cB p3),(26,cB (!p3))],[]⟩
def YleqSentS_0_1 {R:Type} (K:Ex→St→Option R) (c0:CleqSentS_0) (v0:v21):Option R:=K (.exit 0) ⟨27,0,[(0,.c (.l 146 sI4 c0.1)),(1,.c (.l 146 sI4 c0.2)),(5,cI v0),(11,cI v0),(12,.c (.l 146 sI4 c0.1)),(13,cI (c0.1.length:Int)),(14,cB (decide (v0<(c0.1.length:Int))))],[]⟩
theorem lleqSentS_0 {R:Type} (k:Nat) (K:Ex→St→Option R) (c0:CleqSentS_0):∀(n:Nat) (v:v21),z2 [0,0,1,5] (run E (den E k) (lv 20) k (j1 Tryz.f20 0)) n (StleqSentS_0 c0 v) K=LleqSentS_0 k (YleqSentS_0_0 K c0) (YleqSentS_0_1 K c0) c0 n v:=j4 (B:=BleqSentS_0 k (YleqSentS_0_0 K c0) (YleqSentS_0_1 K c0) c0) (fun _=>rfl) (fun n v=>by kernel_rfl) (fun _=>rfl) (fun _ _=>rfl)
theorem mleqSentS_0 (k:Nat) (a0:List I4) (a1:List I4):FleqSentS (k+1) a0 a1=if ((a0.length:Int) !=(a1.length:Int))=true then some false else z2 (R:=Bool) [0,0,1,5] (run E (den E k) (lv 20) k (j1 Tryz.f20 0)) k (StleqSentS_0 (a0,a1) 0) (zb E (den E k) (lv 20) k (yd Tryz.f20) 0 [] (zd E (rs 20) Tryz.f20:Ex→St→Option (Bool))):=by kernel_rfl
theorem eleqSentS (k:Nat) (a0:List I4) (a1:List I4):FleqSentS (k+1) a0 a1=if ((a0.length:Int) !=(a1.length:Int))=true then some false else LleqSentS_0 k (fun (v0:Int) (x1:I4) (x2:I4) (p3:Bool)=>some false) (fun (v0:Int)=>some true) (a0,a1) k 0:=by
 rw [mleqSentS_0]
 simp only [lleqSentS_0]
 kernel_rfl
noncomputable def FleqSat (k:Nat) (a0:I4) (a1:I4):Option (Bool):=den E k 262 [.agg (avs sI4 a0),.agg (avs sI4 a1)]
theorem eleqSat (k:Nat) (a0:I4) (a1:I4):FleqSat (k+1) a0 a1=if (a0.1 !=a1.1)=true then some false else if (a0.2.1 !=a1.2.1)=true then some false else if (a0.2.2.1 !=a1.2.2.1)=true then some false else if (a0.2.2.2 !=a1.2.2.2)=true then some false else some true:=by kernel_rfl
noncomputable def FleqSatS (k:Nat) (a0:List I4) (a1:List I4):Option (Bool):=den E k 187 [.c (.l 186 sI4 a0),.c (.l 186 sI4 a1)]
abbrev CleqSatS_0:Type:=(List I4)×(List I4)
abbrev xd1:Type:=Int
def StleqSatS_0 (c0:CleqSatS_0) (v0:xd1):St:=⟨27,0,[(0,.c (.l 186 sI4 c0.1)),(1,.c (.l 186 sI4 c0.2)),(5,cI v0)],[]⟩
noncomputable def BleqSatS_0 {R:Type} (k:Nat) (X0:xd1→I4→I4→Bool→Option R) (X1:xd1→Option R) (c0:CleqSatS_0) (rec:xd1→Option R) (v0:xd1):Option R:=if (decide (v0<(c0.1.length:Int)))=true then if 0≤v0 then ix c0.1 v0.toNat fun x1=>if 0≤v0 then ix c0.2 v0.toNat fun x2=>(FleqSat k x1 x2).bind fun p3=>if (!p3)=true then X0 v0 x1 x2 p3 else rec (IntKind.i64.wrap (v0+1)) else none else none else X1 v0
noncomputable def LleqSatS_0 {R:Type} (k:Nat) (X0:xd1→I4→I4→Bool→Option R) (X1:xd1→Option R) (c:CleqSatS_0):Nat→xd1→Option R
 | 0,_=>none
 | n+1,v=>BleqSatS_0 k X0 X1 c (LleqSatS_0 k X0 X1 c n) v
def YleqSatS_0_0 {R:Type} (K:Ex→St→Option R) (c0:CleqSatS_0) (v0:xd1) (x1:I4) (x2:I4) (p3:Bool):Option R:=K .ret ⟨27,0,[(0,.c (.l 186 sI4 c0.1)),(1,.c (.l 186 sI4 c0.2)),(4,cB false),(5,cI v0),(11,cI v0),(12,.c (.l 186 sI4 c0.1)),(13,cI (c0.1.length:Int)),(14,cB (decide (v0<(c0.1.length:Int)))),(17,.c (.l 186 sI4 c0.1)),(18,cI v0),(19,.c (.at_ (avs sI4 x1))),(20,.agg (avs sI4 x1)),(21,.c (.l 186 sI4 c0.2)),(22,cI v0),(23,.c (.at_ (avs sI4 x2))),(24,.agg (avs sI4 x2)),(25,cB p3),(26,cB (!p3))],[]⟩
def YleqSatS_0_1 {R:Type} (K:Ex→St→Option R) (c0:CleqSatS_0) (v0:xd1):Option R:=K (.exit 0) ⟨27,0,[(0,.c (.l 186 sI4 c0.1)),(1,.c (.l 186 sI4 c0.2)),(5,cI v0),(11,cI v0),(12,.c (.l 186 sI4 c0.1)),(13,cI (c0.1.length:Int)),(14,cB (decide (v0<(c0.1.length:Int))))],[]⟩
theorem lleqSatS_0 {R:Type} (k:Nat) (K:Ex→St→Option R) (c0:CleqSatS_0):∀(n:Nat) (v:xd1),z2 [0,0,1,5] (run E (den E k) (lv 187) k (j1 Tryz.f187 0)) n (StleqSatS_0 c0 v) K=LleqSatS_0 k (YleqSatS_0_0 K c0) (YleqSatS_0_1 K c0) c0 n v:=j4 (B:=BleqSatS_0 k (YleqSatS_0_0 K c0) (YleqSatS_0_1 K c0) c0) (fun _=>rfl) (fun n v=>by kernel_rfl) (fun _=>rfl) (fun _ _=>rfl)
theorem mleqSatS_0 (k:Nat) (a0:List I4) (a1:List I4):FleqSatS (k+1) a0 a1=if ((a0.length:Int) !=(a1.length:Int))=true then some false else z2 (R:=Bool) [0,0,1,5] (run E (den E k) (lv 187) k (j1 Tryz.f187 0)) k (StleqSatS_0 (a0,a1) 0) (zb E (den E k) (lv 187) k (yd Tryz.f187) 0 [] (zd E (rs 187) Tryz.f187:Ex→St→Option (Bool))):=by kernel_rfl
theorem eleqSatS (k:Nat) (a0:List I4) (a1:List I4):FleqSatS (k+1) a0 a1=if ((a0.length:Int) !=(a1.length:Int))=true then some false else LleqSatS_0 k (fun (v0:Int) (x1:I4) (x2:I4) (p3:Bool)=>some false) (fun (v0:Int)=>some true) (a0,a1) k 0:=by
 rw [mleqSatS_0]
 simp only [lleqSatS_0]
 kernel_rfl
noncomputable def FleqSite (k:Nat) (a0:I3) (a1:I3):Option (Bool):=den E k 263 [.agg (avs sI3 a0),.agg (avs sI3 a1)]
theorem eleqSite (k:Nat) (a0:I3) (a1:I3):FleqSite (k+1) a0 a1=if (a0.1 !=a1.1)=true then some false else if (a0.2.1 !=a1.2.1)=true then some false else if (a0.2.2 !=a1.2.2)=true then some false else some true:=by kernel_rfl
noncomputable def FleqSiteS (k:Nat) (a0:List I3) (a1:List I3):Option (Bool):=den E k 188 [.c (.l 188 sI3 a0),.c (.l 188 sI3 a1)]
abbrev CleqSiteS_0:Type:=(List I3)×(List I3)
abbrev z21:Type:=Int
def StleqSiteS_0 (c0:CleqSiteS_0) (v0:z21):St:=⟨27,0,[(0,.c (.l 188 sI3 c0.1)),(1,.c (.l 188 sI3 c0.2)),(5,cI v0)],[]⟩
noncomputable def BleqSiteS_0 {R:Type} (k:Nat) (X0:z21→I3→I3→Bool→Option R) (X1:z21→Option R) (c0:CleqSiteS_0) (rec:z21→Option R) (v0:z21):Option R:=if (decide (v0<(c0.1.length:Int)))=true then if 0≤v0 then ix c0.1 v0.toNat fun x1=>if 0≤v0 then ix c0.2 v0.toNat fun x2=>(FleqSite k x1 x2).bind fun p3=>if (!p3)=true then X0 v0 x1 x2 p3 else rec (IntKind.i64.wrap (v0+1)) else none else none else X1 v0
noncomputable def LleqSiteS_0 {R:Type} (k:Nat) (X0:z21→I3→I3→Bool→Option R) (X1:z21→Option R) (c:CleqSiteS_0):Nat→z21→Option R
 | 0,_=>none
 | n+1,v=>BleqSiteS_0 k X0 X1 c (LleqSiteS_0 k X0 X1 c n) v
def YleqSiteS_0_0 {R:Type} (K:Ex→St→Option R) (c0:CleqSiteS_0) (v0:z21) (x1:I3) (x2:I3) (p3:Bool):Option R:=K .ret ⟨27,0,[(0,.c (.l 188 sI3 c0.1)),(1,.c (.l 188 sI3 c0.2)),(4,cB false),(5,cI v0),(11,cI v0),(12,.c (.l 188 sI3 c0.1)),(13,cI (c0.1.length:Int)),(14,cB (decide (v0<(c0.1.length:Int)))),(17,.c (.l 188 sI3 c0.1)),(18,cI v0),(19,.c (.at_ (avs sI3 x1))),(20,.agg (avs sI3 x1)),(21,.c (.l 188 sI3 c0.2)),(22,cI v0),(23,.c (.at_ (avs sI3 x2))),(24,.agg (avs sI3 x2)),(25,cB p3),(26,cB (!p3))],[]⟩
def YleqSiteS_0_1 {R:Type} (K:Ex→St→Option R) (c0:CleqSiteS_0) (v0:z21):Option R:=K (.exit 0) ⟨27,0,[(0,.c (.l 188 sI3 c0.1)),(1,.c (.l 188 sI3 c0.2)),(5,cI v0),(11,cI v0),(12,.c (.l 188 sI3 c0.1)),(13,cI (c0.1.length:Int)),(14,cB (decide (v0<(c0.1.length:Int))))],[]⟩
theorem lleqSiteS_0 {R:Type} (k:Nat) (K:Ex→St→Option R) (c0:CleqSiteS_0):∀(n:Nat) (v:z21),z2 [0,0,1,5] (run E (den E k) (lv 188) k (j1 Tryz.f188 0)) n (StleqSiteS_0 c0 v) K=LleqSiteS_0 k (YleqSiteS_0_0 K c0) (YleqSiteS_0_1 K c0) c0 n v:=j4 (B:=BleqSiteS_0 k (YleqSiteS_0_0 K c0) (YleqSiteS_0_1 K c0) c0) (fun _=>rfl) (fun n v=>by kernel_rfl) (fun _=>rfl) (fun _ _=>rfl)
theorem mleqSiteS_0 (k:Nat) (a0:List I3) (a1:List I3):FleqSiteS (k+1) a0 a1=if ((a0.length:Int) !=(a1.length:Int))=true then some false else z2 (R:=Bool) [0,0,1,5] (run E (den E k) (lv 188) k (j1 Tryz.f188 0)) k (StleqSiteS_0 (a0,a1) 0) (zb E (den E k) (lv 188) k (yd Tryz.f188) 0 [] (zd E (rs 188) Tryz.f188:Ex→St→Option (Bool))):=by kernel_rfl
theorem eleqSiteS (k:Nat) (a0:List I3) (a1:List I3):FleqSiteS (k+1) a0 a1=if ((a0.length:Int) !=(a1.length:Int))=true then some false else LleqSiteS_0 k (fun (v0:Int) (x1:I3) (x2:I3) (p3:Bool)=>some false) (fun (v0:Int)=>some true) (a0,a1) k 0:=by
 rw [mleqSiteS_0]
 simp only [lleqSiteS_0]
 kernel_rfl
noncomputable def FleqArc (k:Nat) (a0:I2) (a1:I2):Option (Bool):=den E k 332 [.agg [vI a0.1,vI a0.2],.agg [vI a1.1,vI a1.2]]
theorem eleqArc (k:Nat) (a0:I2) (a1:I2):FleqArc (k+1) a0 a1=if (a0.1 !=a1.1)=true then some false else if (a0.2 !=a1.2)=true then some false else some true:=by kernel_rfl
noncomputable def FleqZone (k:Nat) (a0:I3) (a1:I3):Option (Bool):=den E k 264 [.agg (avs sI3 a0),.agg (avs sI3 a1)]
theorem eleqZone (k:Nat) (a0:I3) (a1:I3):FleqZone (k+1) a0 a1=if (a0.1 !=a1.1)=true then some false else (FleqArc k a0.2 a1.2).bind fun p1=>if (!p1)=true then some false else some true:=by kernel_rfl
noncomputable def FleqZoneS (k:Nat) (a0:List I3) (a1:List I3):Option (Bool):=den E k 189 [.c (.l 193 sZone a0),.c (.l 193 sZone a1)]
abbrev CleqZoneS_0:Type:=(List I3)×(List I3)
abbrev x31:Type:=Int
def StleqZoneS_0 (c0:CleqZoneS_0) (v0:x31):St:=⟨27,0,[(0,.c (.l 193 sZone c0.1)),(1,.c (.l 193 sZone c0.2)),(5,cI v0)],[]⟩
noncomputable def BleqZoneS_0 {R:Type} (k:Nat) (X0:x31→I3→I3→Bool→Option R) (X1:x31→Option R) (c0:CleqZoneS_0) (rec:x31→Option R) (v0:x31):Option R:=if (decide (v0<(c0.1.length:Int)))=true then if 0≤v0 then ix c0.1 v0.toNat fun x1=>if 0≤v0 then ix c0.2 v0.toNat fun x2=>(FleqZone k x1 x2).bind fun p3=>if (!p3)=true then X0 v0 x1 x2 p3 else rec (IntKind.i64.wrap (v0+1)) else none else none else X1 v0
noncomputable def LleqZoneS_0 {R:Type} (k:Nat) (X0:x31→I3→I3→Bool→Option R) (X1:x31→Option R) (c:CleqZoneS_0):Nat→x31→Option R
 | 0,_=>none
 | n+1,v=>BleqZoneS_0 k X0 X1 c (LleqZoneS_0 k X0 X1 c n) v
def YleqZoneS_0_0 {R:Type} (K:Ex→St→Option R) (c0:CleqZoneS_0) (v0:x31) (x1:I3) (x2:I3) (p3:Bool):Option R:=K .ret ⟨27,0,[(0,.c (.l 193 sZone c0.1)),(1,.c (.l 193 sZone c0.2)),(4,cB false),(5,cI v0),(11,cI v0),(12,.c (.l 193 sZone c0.1)),(13,cI (c0.1.length:Int)),(14,cB (decide (v0<(c0.1.length:Int)))),(17,.c (.l 193 sZone c0.1)),(18,cI v0),(19,.c (.at_ (avs sI3 x1))),(20,.agg (avs sI3 x1)),(21,.c (.l 193 sZone c0.2)),(22,cI v0),(23,.c (.at_ (avs sI3 x2))),(24,.agg (avs sI3 x2)),(25,cB p3),(26,cB (!p3))],[]⟩
def YleqZoneS_0_1 {R:Type} (K:Ex→St→Option R) (c0:CleqZoneS_0) (v0:x31):Option R:=K (.exit 0) ⟨27,0,[(0,.c (.l 193 sZone c0.1)),(1,.c (.l 193 sZone c0.2)),(5,cI v0),(11,cI v0),(12,.c (.l 193 sZone c0.1)),(13,cI (c0.1.length:Int)),(14,cB (decide (v0<(c0.1.length:Int))))],[]⟩
theorem lleqZoneS_0 {R:Type} (k:Nat) (K:Ex→St→Option R) (c0:CleqZoneS_0):∀(n:Nat) (v:x31),z2 [0,0,1,5] (run E (den E k) (lv 189) k (j1 Tryz.f189 0)) n (StleqZoneS_0 c0 v) K=LleqZoneS_0 k (YleqZoneS_0_0 K c0) (YleqZoneS_0_1 K c0) c0 n v:=j4 (B:=BleqZoneS_0 k (YleqZoneS_0_0 K c0) (YleqZoneS_0_1 K c0) c0) (fun _=>rfl) (fun n v=>by kernel_rfl) (fun _=>rfl) (fun _ _=>rfl)
theorem mleqZoneS_0 (k:Nat) (a0:List I3) (a1:List I3):FleqZoneS (k+1) a0 a1=if ((a0.length:Int) !=(a1.length:Int))=true then some false else z2 (R:=Bool) [0,0,1,5] (run E (den E k) (lv 189) k (j1 Tryz.f189 0)) k (StleqZoneS_0 (a0,a1) 0) (zb E (den E k) (lv 189) k (yd Tryz.f189) 0 [] (zd E (rs 189) Tryz.f189:Ex→St→Option (Bool))):=by kernel_rfl
theorem eleqZoneS (k:Nat) (a0:List I3) (a1:List I3):FleqZoneS (k+1) a0 a1=if ((a0.length:Int) !=(a1.length:Int))=true then some false else LleqZoneS_0 k (fun (v0:Int) (x1:I3) (x2:I3) (p3:Bool)=>some false) (fun (v0:Int)=>some true) (a0,a1) k 0:=by
 rw [mleqZoneS_0]
 simp only [lleqZoneS_0]
 kernel_rfl
noncomputable def FleqSky (k:Nat) (a0:TSky) (a1:TSky):Option (Bool):=den E k 81 [.agg (avs sSky a0),.agg (avs sSky a1)]
theorem eleqSky (k:Nat) (a0:TSky) (a1:TSky):FleqSky (k+1) a0 a1=if (a0.1 !=a1.1)=true then some false else (FleqSatS k a0.2.1 a1.2.1).bind fun p1=>if (!p1)=true then some false else (FleqSiteS k a0.2.2.1 a1.2.2.1).bind fun p2=>if (!p2)=true then some false else if (a0.2.2.2.1 !=a1.2.2.2.1)=true then some false else if (a0.2.2.2.2.1 !=a1.2.2.2.2.1)=true then some false else if (a0.2.2.2.2.2.1 !=a1.2.2.2.2.2.1)=true then some false else if (a0.2.2.2.2.2.2.1 !=a1.2.2.2.2.2.2.1)=true then some false else if (a0.2.2.2.2.2.2.2.1 !=a1.2.2.2.2.2.2.2.1)=true then some false else (FleqZoneS k a0.2.2.2.2.2.2.2.2.1 a1.2.2.2.2.2.2.2.2.1).bind fun p3=>if (!p3)=true then some false else if (a0.2.2.2.2.2.2.2.2.2 !=a1.2.2.2.2.2.2.2.2.2)=true then some false else some true:=by kernel_rfl
noncomputable def FleqStream (k:Nat) (a0:Int×Int×List Int) (a1:Int×Int×List Int):Option (Bool):=den E k 194 [.agg (avs z8 a0),.agg (avs z8 a1)]
theorem eleqStream (k:Nat) (a0:Int×Int×List Int) (a1:Int×Int×List Int):FleqStream (k+1) a0 a1=if (a0.1 !=a1.1)=true then some false else if (a0.2.1 !=a1.2.1)=true then some false else (vf1 k a0.2.2 a1.2.2).bind fun p1=>if (!p1)=true then some false else some true:=by kernel_rfl
noncomputable def FleqStreamS (k:Nat) (a0:List (Int×Int×List Int)) (a1:List (Int×Int×List Int)):Option (Bool):=den E k 88 [.c (.l 205 z8 a0),.c (.l 205 z8 a1)]
abbrev yn1:Type:=(List (Int×Int×List Int))×(List (Int×Int×List Int))
abbrev yq:Type:=Int
def StleqStreamS_0 (c0:yn1) (v0:yq):St:=⟨27,0,[(0,.c (.l 205 z8 c0.1)),(1,.c (.l 205 z8 c0.2)),(5,cI v0)],[]⟩
noncomputable def BleqStreamS_0 {R:Type} (k:Nat) (X0:yq→(Int×Int×List Int)→(Int×Int×List Int)→Bool→Option R) (X1:yq→Option R) (c0:yn1) (rec:yq→Option R) (v0:yq):Option R:=if (decide (v0<(c0.1.length:Int)))=true then if 0≤v0 then ix c0.1 v0.toNat fun x1=>if 0≤v0 then ix c0.2 v0.toNat fun x2=>(FleqStream k x1 x2).bind fun p3=>if (!p3)=true then X0 v0 x1 x2 p3 else rec (IntKind.i64.wrap (v0+1)) else none else none else X1 v0
noncomputable def LleqStreamS_0 {R:Type} (k:Nat) (X0:yq→(Int×Int×List Int)→(Int×Int×List Int)→Bool→Option R) (X1:yq→Option R) (c:yn1):Nat→yq→Option R
 | 0,_=>none
 | n+1,v=>BleqStreamS_0 k X0 X1 c (LleqStreamS_0 k X0 X1 c n) v
def YleqStreamS_0_0 {R:Type} (K:Ex→St→Option R) (c0:yn1) (v0:yq) (x1:Int×Int×List Int) (x2:Int×Int×List Int) (p3:Bool):Option R:=K .ret ⟨27,0,[(0,.c (.l 205 z8 c0.1)),(1,.c (.l 205 z8 c0.2)),(4,cB false),(5,cI v0),(11,cI v0),(12,.c (.l 205 z8 c0.1)),(13,cI (c0.1.length:Int)),(14,cB (decide (v0<(c0.1.length:Int)))),(17,.c (.l 205 z8 c0.1)),(18,cI v0),(19,.c (.at_ (avs z8 x1))),(20,.agg (avs z8 x1)),(21,.c (.l 205 z8 c0.2)),(22,cI v0),(23,.c (.at_ (avs z8 x2))),(24,.agg (avs z8 x2)),(25,cB p3),(26,cB (!p3))],[]⟩
def YleqStreamS_0_1 {R:Type} (K:Ex→St→Option R) (c0:yn1) (v0:yq):Option R:=K (.exit 0) ⟨27,0,[(0,.c (.l 205 z8 c0.1)),(1,.c (.l 205 z8 c0.2)),(5,cI v0),(11,cI v0),(12,.c (.l 205 z8 c0.1)),(13,cI (c0.1.length:Int)),(14,cB (decide (v0<(c0.1.length:Int))))],[]⟩
theorem lleqStreamS_0 {R:Type} (k:Nat) (K:Ex→St→Option R) (c0:yn1):∀(n:Nat) (v:yq),z2 [0,0,1,5] (run E (den E k) (lv 88) k (j1 Tryz.f88 0)) n (StleqStreamS_0 c0 v) K=LleqStreamS_0 k (YleqStreamS_0_0 K c0) (YleqStreamS_0_1 K c0) c0 n v:=j4 (B:=BleqStreamS_0 k (YleqStreamS_0_0 K c0) (YleqStreamS_0_1 K c0) c0) (fun _=>rfl) (fun n v=>by kernel_rfl) (fun _=>rfl) (fun _ _=>rfl)
theorem mleqStreamS_0 (k:Nat) (a0:List (Int×Int×List Int)) (a1:List (Int×Int×List Int)):FleqStreamS (k+1) a0 a1=if ((a0.length:Int) !=(a1.length:Int))=true then some false else z2 (R:=Bool) [0,0,1,5] (run E (den E k) (lv 88) k (j1 Tryz.f88 0)) k (StleqStreamS_0 (a0,a1) 0) (zb E (den E k) (lv 88) k (yd Tryz.f88) 0 [] (zd E (rs 88) Tryz.f88:Ex→St→Option (Bool))):=by kernel_rfl
theorem eleqStreamS (k:Nat) (a0:List (Int×Int×List Int)) (a1:List (Int×Int×List Int)):FleqStreamS (k+1) a0 a1=if ((a0.length:Int) !=(a1.length:Int))=true then some false else LleqStreamS_0 k (fun (v0:Int) (x1:Int×Int×List Int) (x2:Int×Int×List Int) (p3:Bool)=>some false) (fun (v0:Int)=>some true) (a0,a1) k 0:=by
 rw [mleqStreamS_0]
 simp only [lleqStreamS_0]
 kernel_rfl
noncomputable def FleqWorld (k:Nat) (a0:xp) (a1:xp):Option (Bool):=den E k 14 [.agg (avs y51 a0),.agg (avs y51 a1)]
theorem eleqWorld (k:Nat) (a0:xp) (a1:xp):FleqWorld (k+1) a0 a1=(FleqSky k a0.1 a1.1).bind fun p1=>if (!p1)=true then some false else (FleqProgram k a0.2.1 a1.2.1).bind fun p2=>if (!p2)=true then some false else (FleqLaw k a0.2.2.1 a1.2.2.1).bind fun p3=>if (!p3)=true then some false else (vf1 k a0.2.2.2.1 a1.2.2.2.1).bind fun p4=>if (!p4)=true then some false else (FleqBatteryS k a0.2.2.2.2.1 a1.2.2.2.2.1).bind fun p5=>if (!p5)=true then some false else (FleqQueueS k a0.2.2.2.2.2.1 a1.2.2.2.2.2.1).bind fun p6=>if (!p6)=true then some false else (FleqFlowS k a0.2.2.2.2.2.2.1 a1.2.2.2.2.2.2.1).bind fun p7=>if (!p7)=true then some false else (vf1 k a0.2.2.2.2.2.2.2.1 a1.2.2.2.2.2.2.2.1).bind fun p8=>if (!p8)=true then some false else (FleqStreamS k a0.2.2.2.2.2.2.2.2.1 a1.2.2.2.2.2.2.2.2.1).bind fun p9=>if (!p9)=true then some false else (FleqFaultS k a0.2.2.2.2.2.2.2.2.2.1 a1.2.2.2.2.2.2.2.2.2.1).bind fun p10=>if (!p10)=true then some false else if (a0.2.2.2.2.2.2.2.2.2.2.1 !=a1.2.2.2.2.2.2.2.2.2.2.1)=true then some false else if (a0.2.2.2.2.2.2.2.2.2.2.2.1 !=a1.2.2.2.2.2.2.2.2.2.2.2.1)=true then some false else (wr1 k a0.2.2.2.2.2.2.2.2.2.2.2.2.1 a1.2.2.2.2.2.2.2.2.2.2.2.2.1).bind fun p11=>if (!p11)=true then some false else (FleqSentS k a0.2.2.2.2.2.2.2.2.2.2.2.2.2 a1.2.2.2.2.2.2.2.2.2.2.2.2.2).bind fun p12=>if (!p12)=true then some false else some true:=by kernel_rfl
noncomputable def FlszBatteryS (k:Nat) (a0:List I6) (a1:Int):Option (Int):=den E k 42 [.c (.l 211 sI6 a0),cI a1]
theorem elszBatteryS (k:Nat) (a0:List I6) (a1:Int):FlszBatteryS (k+1) a0 a1=if (decide ((IntKind.i64.wrap (a1-(a0.length:Int)))<0))=true then some (-1) else some (IntKind.i64.wrap (a1-(a0.length:Int))):=by kernel_rfl
noncomputable def FlszFaultS (k:Nat) (a0:List I4) (a1:Int):Option (Int):=den E k 46 [.c (.l 81 sI4 a0),cI a1]
theorem elszFaultS (k:Nat) (a0:List I4) (a1:Int):FlszFaultS (k+1) a0 a1=if (decide ((IntKind.i64.wrap (a1-(a0.length:Int)))<0))=true then some (-1) else some (IntKind.i64.wrap (a1-(a0.length:Int))):=by kernel_rfl
noncomputable def FlszFlowS (k:Nat) (a0:List I4) (a1:Int):Option (Int):=den E k 44 [.c (.l 79 sI4 a0),cI a1]
theorem elszFlowS (k:Nat) (a0:List I4) (a1:Int):FlszFlowS (k+1) a0 a1=if (decide ((IntKind.i64.wrap (a1-(a0.length:Int)))<0))=true then some (-1) else some (IntKind.i64.wrap (a1-(a0.length:Int))):=by kernel_rfl
noncomputable def FlszIntS (k:Nat) (a0:List Int) (a1:Int):Option (Int):=den E k 41 [.c (.l 3 (.i .i64) a0),cI a1]
theorem elszIntS (k:Nat) (a0:List Int) (a1:Int):FlszIntS (k+1) a0 a1=if (decide ((IntKind.i64.wrap (a1-(a0.length:Int)))<0))=true then some (-1) else some (IntKind.i64.wrap (a1-(a0.length:Int))):=by kernel_rfl
noncomputable def FlszLaw (k:Nat) (a0:List Int) (a1:Int):Option (Int):=den E k 40 [.agg [.l 3 (.i .i64) a0],cI a1]
theorem elszLaw (k:Nat) (a0:List Int) (a1:Int):FlszLaw (k+1) a0 a1=(FlszIntS k a0 a1).bind fun p1=>if (decide (p1<0))=true then some (-1) else some p1:=by kernel_rfl
noncomputable def FlszPacketS (k:Nat) (a0:List I6) (a1:Int):Option (Int):=den E k 47 [.c (.l 215 sI6 a0),cI a1]
theorem elszPacketS (k:Nat) (a0:List I6) (a1:Int):FlszPacketS (k+1) a0 a1=if (decide ((IntKind.i64.wrap (a1-(a0.length:Int)))<0))=true then some (-1) else some (IntKind.i64.wrap (a1-(a0.length:Int))):=by kernel_rfl
noncomputable def FlszLinkS (k:Nat) (a0:List I2) (a1:Int):Option (Int):=den E k 309 [.c (.l 357 sI2 a0),cI a1]
theorem elszLinkS (k:Nat) (a0:List I2) (a1:Int):FlszLinkS (k+1) a0 a1=if (decide ((IntKind.i64.wrap (a1-(a0.length:Int)))<0))=true then some (-1) else some (IntKind.i64.wrap (a1-(a0.length:Int))):=by kernel_rfl
noncomputable def FlszTable (k:Nat) (a0:Int×(List Int)×List Int) (a1:Int):Option (Int):=den E k 371 [.agg (avs y9 a0),cI a1]
theorem elszTable (k:Nat) (a0:Int×(List Int)×List Int) (a1:Int):FlszTable (k+1) a0 a1=(FlszIntS k a0.2.1 a1).bind fun p1=>if (decide (p1<0))=true then some (-1) else (FlszIntS k a0.2.2 p1).bind fun p2=>if (decide (p2<0))=true then some (-1) else some p2:=by kernel_rfl
noncomputable def FlszTableS (k:Nat) (a0:List (Int×(List Int)×List Int)) (a1:Int):Option (Int):=den E k 310 [.c (.l 355 y9 a0),cI a1]
abbrev yt1:Type:=(List (Int×(List Int)×List Int))
abbrev xw:Type:=Int×Int
def StlszTableS_0 (c0:yt1) (v0:xw):St:=⟨27,0,[(0,.c (.l 355 y9 c0)),(1,cI v0.1),(5,cI v0.2)],[]⟩
noncomputable def BlszTableS_0 {R:Type} (k:Nat) (X0:xw→(Int×(List Int)×List Int)→Int→Option R) (X1:xw→Option R) (c0:yt1) (rec:xw→Option R) (v0:xw):Option R:=if (decide (v0.2<(c0.length:Int)))=true then if 0≤v0.2 then ix c0 v0.2.toNat fun x1=>(FlszTable k x1 v0.1).bind fun p2=>if (decide (p2<0))=true then X0 v0 x1 p2 else rec (p2,(IntKind.i64.wrap (v0.2+1))) else none else X1 v0
noncomputable def LlszTableS_0 {R:Type} (k:Nat) (X0:xw→(Int×(List Int)×List Int)→Int→Option R) (X1:xw→Option R) (c:yt1):Nat→xw→Option R
 | 0,_=>none
 | n+1,v=>BlszTableS_0 k X0 X1 c (LlszTableS_0 k X0 X1 c n) v
def YlszTableS_0_0 {R:Type} (K:Ex→St→Option R) (c0:yt1) (v0:xw) (x1:Int×(List Int)×List Int) (p2:Int):Option R:=K .ret ⟨27,0,[(0,.c (.l 355 y9 c0)),(1,cI p2),(4,cI (-1)),(5,cI v0.2),(12,cI v0.2),(13,.c (.l 355 y9 c0)),(14,cI (c0.length:Int)),(15,cB (decide (v0.2<(c0.length:Int)))),(18,.c (.l 355 y9 c0)),(19,cI v0.2),(20,.c (.at_ (avs y9 x1))),(21,.agg (avs y9 x1)),(22,cI v0.1),(23,cI p2),(24,cI p2),(25,cB (decide (p2<0)))],[]⟩
def YlszTableS_0_1 {R:Type} (K:Ex→St→Option R) (c0:yt1) (v0:xw):Option R:=K (.exit 0) ⟨27,0,[(0,.c (.l 355 y9 c0)),(1,cI v0.1),(5,cI v0.2),(12,cI v0.2),(13,.c (.l 355 y9 c0)),(14,cI (c0.length:Int)),(15,cB (decide (v0.2<(c0.length:Int))))],[]⟩
theorem llszTableS_0 {R:Type} (k:Nat) (K:Ex→St→Option R) (c0:yt1):∀(n:Nat) (v:xw),z2 [0,0,1,5] (run E (den E k) (lv 310) k (j1 Tryz.f310 0)) n (StlszTableS_0 c0 v) K=LlszTableS_0 k (YlszTableS_0_0 K c0) (YlszTableS_0_1 K c0) c0 n v:=j4 (B:=BlszTableS_0 k (YlszTableS_0_0 K c0) (YlszTableS_0_1 K c0) c0) (fun _=>rfl) (fun n v=>by kernel_rfl) (fun _=>rfl) (fun _ _=>rfl)
theorem mlszTableS_0 (k:Nat) (a0:List (Int×(List Int)×List Int)) (a1:Int):FlszTableS (k+1) a0 a1=if (decide ((IntKind.i64.wrap (a1-(a0.length:Int)))<0))=true then some (-1) else z2 (R:=Int) [0,0,1,5] (run E (den E k) (lv 310) k (j1 Tryz.f310 0)) k (StlszTableS_0 a0 ((IntKind.i64.wrap (a1-(a0.length:Int))),0)) (zb E (den E k) (lv 310) k (yd Tryz.f310) 0 [] (zd E (rs 310) Tryz.f310:Ex→St→Option (Int))):=by kernel_rfl
theorem elszTableS (k:Nat) (a0:List (Int×(List Int)×List Int)) (a1:Int):FlszTableS (k+1) a0 a1=if (decide ((IntKind.i64.wrap (a1-(a0.length:Int)))<0))=true then some (-1) else LlszTableS_0 k (fun (v0:I2) (x1:Int×(List Int)×List Int) (p2:Int)=>some (-1)) (fun (v0:I2)=>some v0.1) a0 k ((IntKind.i64.wrap (a1-(a0.length:Int))),0):=by
 rw [mlszTableS_0]
 simp only [llszTableS_0]
 kernel_rfl
noncomputable def FlszPiece (k:Nat) (a0:zf) (a1:Int):Option (Int):=den E k 246 [.agg (avs xi a0),cI a1]
theorem elszPiece (k:Nat) (a0:zf) (a1:Int):FlszPiece (k+1) a0 a1=(FlszLinkS k a0.2.1 a1).bind fun p1=>if (decide (p1<0))=true then some (-1) else (FlszTableS k a0.2.2 p1).bind fun p2=>if (decide (p2<0))=true then some (-1) else some p2:=by kernel_rfl
noncomputable def FlszPieceS (k:Nat) (a0:List zf) (a1:Int):Option (Int):=den E k 143 [.c (.l 270 xi a0),cI a1]
abbrev ws1:Type:=(List zf)
abbrev vv:Type:=Int×Int
def StlszPieceS_0 (c0:ws1) (v0:vv):St:=⟨27,0,[(0,.c (.l 270 xi c0)),(1,cI v0.1),(5,cI v0.2)],[]⟩
noncomputable def BlszPieceS_0 {R:Type} (k:Nat) (X0:vv→zf→Int→Option R) (X1:vv→Option R) (c0:ws1) (rec:vv→Option R) (v0:vv):Option R:=if (decide (v0.2<(c0.length:Int)))=true then if 0≤v0.2 then ix c0 v0.2.toNat fun x1=>(FlszPiece k x1 v0.1).bind fun p2=>if (decide (p2<0))=true then X0 v0 x1 p2 else rec (p2,(IntKind.i64.wrap (v0.2+1))) else none else X1 v0
noncomputable def LlszPieceS_0 {R:Type} (k:Nat) (X0:vv→zf→Int→Option R) (X1:vv→Option R) (c:ws1):Nat→vv→Option R
 | 0,_=>none
 | n+1,v=>BlszPieceS_0 k X0 X1 c (LlszPieceS_0 k X0 X1 c n) v
def YlszPieceS_0_0 {R:Type} (K:Ex→St→Option R) (c0:ws1) (v0:vv) (x1:zf) (p2:Int):Option R:=K .ret ⟨27,0,[(0,.c (.l 270 xi c0)),(1,cI p2),(4,cI (-1)),(5,cI v0.2),(12,cI v0.2),(13,.c (.l 270 xi c0)),(14,cI (c0.length:Int)),(15,cB (decide (v0.2<(c0.length:Int)))),(18,.c (.l 270 xi c0)),(19,cI v0.2),(20,.c (.at_ (avs xi x1))),(21,.agg (avs xi x1)),(22,cI v0.1),(23,cI p2),(24,cI p2),(25,cB (decide (p2<0)))],[]⟩
def YlszPieceS_0_1 {R:Type} (K:Ex→St→Option R) (c0:ws1) (v0:vv):Option R:=K (.exit 0) ⟨27,0,[(0,.c (.l 270 xi c0)),(1,cI v0.1),(5,cI v0.2),(12,cI v0.2),(13,.c (.l 270 xi c0)),(14,cI (c0.length:Int)),(15,cB (decide (v0.2<(c0.length:Int))))],[]⟩
theorem llszPieceS_0 {R:Type} (k:Nat) (K:Ex→St→Option R) (c0:ws1):∀(n:Nat) (v:vv),z2 [0,0,1,5] (run E (den E k) (lv 143) k (j1 Tryz.f143 0)) n (StlszPieceS_0 c0 v) K=LlszPieceS_0 k (YlszPieceS_0_0 K c0) (YlszPieceS_0_1 K c0) c0 n v:=j4 (B:=BlszPieceS_0 k (YlszPieceS_0_0 K c0) (YlszPieceS_0_1 K c0) c0) (fun _=>rfl) (fun n v=>by kernel_rfl) (fun _=>rfl) (fun _ _=>rfl)
theorem mlszPieceS_0 (k:Nat) (a0:List zf) (a1:Int):FlszPieceS (k+1) a0 a1=if (decide ((IntKind.i64.wrap (a1-(a0.length:Int)))<0))=true then some (-1) else z2 (R:=Int) [0,0,1,5] (run E (den E k) (lv 143) k (j1 Tryz.f143 0)) k (StlszPieceS_0 a0 ((IntKind.i64.wrap (a1-(a0.length:Int))),0)) (zb E (den E k) (lv 143) k (yd Tryz.f143) 0 [] (zd E (rs 143) Tryz.f143:Ex→St→Option (Int))):=by kernel_rfl
theorem elszPieceS (k:Nat) (a0:List zf) (a1:Int):FlszPieceS (k+1) a0 a1=if (decide ((IntKind.i64.wrap (a1-(a0.length:Int)))<0))=true then some (-1) else LlszPieceS_0 k (fun (v0:I2) (x1:zf) (p2:Int)=>some (-1)) (fun (v0:I2)=>some v0.1) a0 k ((IntKind.i64.wrap (a1-(a0.length:Int))),0):=by
 rw [mlszPieceS_0]
 simp only [llszPieceS_0]
 kernel_rfl
noncomputable def FlszProgram (k:Nat) (a0:j2) (a1:Int):Option (Int):=den E k 39 [.agg (avs xy a0),cI a1]
theorem elszProgram (k:Nat) (a0:j2) (a1:Int):FlszProgram (k+1) a0 a1=(FlszPieceS k a0.2.2.2 a1).bind fun p1=>if (decide (p1<0))=true then some (-1) else some p1:=by kernel_rfl
noncomputable def FlszQueue (k:Nat) (a0:List I6) (a1:Int):Option (Int):=den E k 144 [.agg [.l 215 sI6 a0],cI a1]
theorem elszQueue (k:Nat) (a0:List I6) (a1:Int):FlszQueue (k+1) a0 a1=(FlszPacketS k a0 a1).bind fun p1=>if (decide (p1<0))=true then some (-1) else some p1:=by kernel_rfl
noncomputable def FlszQueueS (k:Nat) (a0:List (List I6)) (a1:Int):Option (Int):=den E k 43 [.c (.l 177 jj a0),cI a1]
abbrev wt1:Type:=(List (List I6))
abbrev jv:Type:=Int×Int
def StlszQueueS_0 (c0:wt1) (v0:jv):St:=⟨27,0,[(0,.c (.l 177 jj c0)),(1,cI v0.1),(5,cI v0.2)],[]⟩
noncomputable def BlszQueueS_0 {R:Type} (k:Nat) (X0:jv→(List I6)→Int→Option R) (X1:jv→Option R) (c0:wt1) (rec:jv→Option R) (v0:jv):Option R:=if (decide (v0.2<(c0.length:Int)))=true then if 0≤v0.2 then ix c0 v0.2.toNat fun x1=>(FlszQueue k x1 v0.1).bind fun p2=>if (decide (p2<0))=true then X0 v0 x1 p2 else rec (p2,(IntKind.i64.wrap (v0.2+1))) else none else X1 v0
noncomputable def LlszQueueS_0 {R:Type} (k:Nat) (X0:jv→(List I6)→Int→Option R) (X1:jv→Option R) (c:wt1):Nat→jv→Option R
 | 0,_=>none
 | n+1,v=>BlszQueueS_0 k X0 X1 c (LlszQueueS_0 k X0 X1 c n) v
def YlszQueueS_0_0 {R:Type} (K:Ex→St→Option R) (c0:wt1) (v0:jv) (x1:List I6) (p2:Int):Option R:=K .ret ⟨27,0,[(0,.c (.l 177 jj c0)),(1,cI p2),(4,cI (-1)),(5,cI v0.2),(12,cI v0.2),(13,.c (.l 177 jj c0)),(14,cI (c0.length:Int)),(15,cB (decide (v0.2<(c0.length:Int)))),(18,.c (.l 177 jj c0)),(19,cI v0.2),(20,.c (.at_ [.l 215 sI6 x1])),(21,.agg [.l 215 sI6 x1]),(22,cI v0.1),(23,cI p2),(24,cI p2),(25,cB (decide (p2<0)))],[]⟩
def YlszQueueS_0_1 {R:Type} (K:Ex→St→Option R) (c0:wt1) (v0:jv):Option R:=K (.exit 0) ⟨27,0,[(0,.c (.l 177 jj c0)),(1,cI v0.1),(5,cI v0.2),(12,cI v0.2),(13,.c (.l 177 jj c0)),(14,cI (c0.length:Int)),(15,cB (decide (v0.2<(c0.length:Int))))],[]⟩
theorem llszQueueS_0 {R:Type} (k:Nat) (K:Ex→St→Option R) (c0:wt1):∀(n:Nat) (v:jv),z2 [0,0,1,5] (run E (den E k) (lv 43) k (j1 Tryz.f43 0)) n (StlszQueueS_0 c0 v) K=LlszQueueS_0 k (YlszQueueS_0_0 K c0) (YlszQueueS_0_1 K c0) c0 n v:=j4 (B:=BlszQueueS_0 k (YlszQueueS_0_0 K c0) (YlszQueueS_0_1 K c0) c0) (fun _=>rfl) (fun n v=>by kernel_rfl) (fun _=>rfl) (fun _ _=>rfl)
theorem mlszQueueS_0 (k:Nat) (a0:List (List I6)) (a1:Int):FlszQueueS (k+1) a0 a1=if (decide ((IntKind.i64.wrap (a1-(a0.length:Int)))<0))=true then some (-1) else z2 (R:=Int) [0,0,1,5] (run E (den E k) (lv 43) k (j1 Tryz.f43 0)) k (StlszQueueS_0 a0 ((IntKind.i64.wrap (a1-(a0.length:Int))),0)) (zb E (den E k) (lv 43) k (yd Tryz.f43) 0 [] (zd E (rs 43) Tryz.f43:Ex→St→Option (Int))):=by kernel_rfl
theorem elszQueueS (k:Nat) (a0:List (List I6)) (a1:Int):FlszQueueS (k+1) a0 a1=if (decide ((IntKind.i64.wrap (a1-(a0.length:Int)))<0))=true then some (-1) else LlszQueueS_0 k (fun (v0:I2) (x1:List I6) (p2:Int)=>some (-1)) (fun (v0:I2)=>some v0.1) a0 k ((IntKind.i64.wrap (a1-(a0.length:Int))),0):=by
 rw [mlszQueueS_0]
 simp only [llszQueueS_0]
 kernel_rfl
noncomputable def FlszSentS (k:Nat) (a0:List I4) (a1:Int):Option (Int):=den E k 48 [.c (.l 217 sI4 a0),cI a1]
theorem elszSentS (k:Nat) (a0:List I4) (a1:Int):FlszSentS (k+1) a0 a1=if (decide ((IntKind.i64.wrap (a1-(a0.length:Int)))<0))=true then some (-1) else some (IntKind.i64.wrap (a1-(a0.length:Int))):=by kernel_rfl
noncomputable def FlszSatS (k:Nat) (a0:List I4) (a1:Int):Option (Int):=den E k 140 [.c (.l 273 sI4 a0),cI a1]
theorem elszSatS (k:Nat) (a0:List I4) (a1:Int):FlszSatS (k+1) a0 a1=if (decide ((IntKind.i64.wrap (a1-(a0.length:Int)))<0))=true then some (-1) else some (IntKind.i64.wrap (a1-(a0.length:Int))):=by kernel_rfl
noncomputable def FlszSiteS (k:Nat) (a0:List I3) (a1:Int):Option (Int):=den E k 141 [.c (.l 275 sI3 a0),cI a1]
theorem elszSiteS (k:Nat) (a0:List I3) (a1:Int):FlszSiteS (k+1) a0 a1=if (decide ((IntKind.i64.wrap (a1-(a0.length:Int)))<0))=true then some (-1) else some (IntKind.i64.wrap (a1-(a0.length:Int))):=by kernel_rfl
noncomputable def FlszZoneS (k:Nat) (a0:List I3) (a1:Int):Option (Int):=den E k 142 [.c (.l 279 sZone a0),cI a1]
theorem elszZoneS (k:Nat) (a0:List I3) (a1:Int):FlszZoneS (k+1) a0 a1=if (decide ((IntKind.i64.wrap (a1-(a0.length:Int)))<0))=true then some (-1) else some (IntKind.i64.wrap (a1-(a0.length:Int))):=by kernel_rfl
noncomputable def FlszSky (k:Nat) (a0:TSky) (a1:Int):Option (Int):=den E k 38 [.agg (avs sLSky a0),cI a1]
theorem elszSky (k:Nat) (a0:TSky) (a1:Int):FlszSky (k+1) a0 a1=(FlszSatS k a0.2.1 a1).bind fun p1=>if (decide (p1<0))=true then some (-1) else (FlszSiteS k a0.2.2.1 p1).bind fun p2=>if (decide (p2<0))=true then some (-1) else (FlszZoneS k a0.2.2.2.2.2.2.2.2.1 p2).bind fun p3=>if (decide (p3<0))=true then some (-1) else some p3:=by kernel_rfl
noncomputable def FlszStream (k:Nat) (a0:Int×Int×List Int) (a1:Int):Option (Int):=den E k 145 [.agg (avs z8 a0),cI a1]
theorem elszStream (k:Nat) (a0:Int×Int×List Int) (a1:Int):FlszStream (k+1) a0 a1=(FlszIntS k a0.2.2 a1).bind fun p1=>if (decide (p1<0))=true then some (-1) else some p1:=by kernel_rfl
noncomputable def FlszStreamS (k:Nat) (a0:List (Int×Int×List Int)) (a1:Int):Option (Int):=den E k 45 [.c (.l 180 z8 a0),cI a1]
abbrev xm1:Type:=(List (Int×Int×List Int))
abbrev jq:Type:=Int×Int
def StlszStreamS_0 (c0:xm1) (v0:jq):St:=⟨27,0,[(0,.c (.l 180 z8 c0)),(1,cI v0.1),(5,cI v0.2)],[]⟩
noncomputable def BlszStreamS_0 {R:Type} (k:Nat) (X0:jq→(Int×Int×List Int)→Int→Option R) (X1:jq→Option R) (c0:xm1) (rec:jq→Option R) (v0:jq):Option R:=if (decide (v0.2<(c0.length:Int)))=true then if 0≤v0.2 then ix c0 v0.2.toNat fun x1=>(FlszStream k x1 v0.1).bind fun p2=>if (decide (p2<0))=true then X0 v0 x1 p2 else rec (p2,(IntKind.i64.wrap (v0.2+1))) else none else X1 v0
noncomputable def LlszStreamS_0 {R:Type} (k:Nat) (X0:jq→(Int×Int×List Int)→Int→Option R) (X1:jq→Option R) (c:xm1):Nat→jq→Option R
 | 0,_=>none
 | n+1,v=>BlszStreamS_0 k X0 X1 c (LlszStreamS_0 k X0 X1 c n) v
def YlszStreamS_0_0 {R:Type} (K:Ex→St→Option R) (c0:xm1) (v0:jq) (x1:Int×Int×List Int) (p2:Int):Option R:=K .ret ⟨27,0,[(0,.c (.l 180 z8 c0)),(1,cI p2),(4,cI (-1)),(5,cI v0.2),(12,cI v0.2),(13,.c (.l 180 z8 c0)),(14,cI (c0.length:Int)),(15,cB (decide (v0.2<(c0.length:Int)))),(18,.c (.l 180 z8 c0)),(19,cI v0.2),(20,.c (.at_ (avs z8 x1))),(21,.agg (avs z8 x1)),(22,cI v0.1),(23,cI p2),(24,cI p2),(25,cB (decide (p2<0)))],[]⟩
def YlszStreamS_0_1 {R:Type} (K:Ex→St→Option R) (c0:xm1) (v0:jq):Option R:=K (.exit 0) ⟨27,0,[(0,.c (.l 180 z8 c0)),(1,cI v0.1),(5,cI v0.2),(12,cI v0.2),(13,.c (.l 180 z8 c0)),(14,cI (c0.length:Int)),(15,cB (decide (v0.2<(c0.length:Int))))],[]⟩
theorem llszStreamS_0 {R:Type} (k:Nat) (K:Ex→St→Option R) (c0:xm1):∀(n:Nat) (v:jq),z2 [0,0,1,5] (run E (den E k) (lv 45) k (j1 Tryz.f45 0)) n (StlszStreamS_0 c0 v) K=LlszStreamS_0 k (YlszStreamS_0_0 K c0) (YlszStreamS_0_1 K c0) c0 n v:=j4 (B:=BlszStreamS_0 k (YlszStreamS_0_0 K c0) (YlszStreamS_0_1 K c0) c0) (fun _=>rfl) (fun n v=>by kernel_rfl) (fun _=>rfl) (fun _ _=>rfl)
theorem mlszStreamS_0 (k:Nat) (a0:List (Int×Int×List Int)) (a1:Int):FlszStreamS (k+1) a0 a1=if (decide ((IntKind.i64.wrap (a1-(a0.length:Int)))<0))=true then some (-1) else z2 (R:=Int) [0,0,1,5] (run E (den E k) (lv 45) k (j1 Tryz.f45 0)) k (StlszStreamS_0 a0 ((IntKind.i64.wrap (a1-(a0.length:Int))),0)) (zb E (den E k) (lv 45) k (yd Tryz.f45) 0 [] (zd E (rs 45) Tryz.f45:Ex→St→Option (Int))):=by kernel_rfl
theorem elszStreamS (k:Nat) (a0:List (Int×Int×List Int)) (a1:Int):FlszStreamS (k+1) a0 a1=if (decide ((IntKind.i64.wrap (a1-(a0.length:Int)))<0))=true then some (-1) else LlszStreamS_0 k (fun (v0:I2) (x1:Int×Int×List Int) (p2:Int)=>some (-1)) (fun (v0:I2)=>some v0.1) a0 k ((IntKind.i64.wrap (a1-(a0.length:Int))),0):=by
 rw [mlszStreamS_0]
 simp only [llszStreamS_0]
 kernel_rfl
noncomputable def FlszWorld (k:Nat) (a0:xp) (a1:Int):Option (Int):=den E k 10 [.agg (avs yz a0),cI a1]
theorem elszWorld (k:Nat) (a0:xp) (a1:Int):FlszWorld (k+1) a0 a1=(FlszSky k a0.1 a1).bind fun p1=>if (decide (p1<0))=true then some (-1) else (FlszProgram k a0.2.1 p1).bind fun p2=>if (decide (p2<0))=true then some (-1) else (FlszLaw k a0.2.2.1 p2).bind fun p3=>if (decide (p3<0))=true then some (-1) else (FlszIntS k a0.2.2.2.1 p3).bind fun p4=>if (decide (p4<0))=true then some (-1) else (FlszBatteryS k a0.2.2.2.2.1 p4).bind fun p5=>if (decide (p5<0))=true then some (-1) else (FlszQueueS k a0.2.2.2.2.2.1 p5).bind fun p6=>if (decide (p6<0))=true then some (-1) else (FlszFlowS k a0.2.2.2.2.2.2.1 p6).bind fun p7=>if (decide (p7<0))=true then some (-1) else (FlszIntS k a0.2.2.2.2.2.2.2.1 p7).bind fun p8=>if (decide (p8<0))=true then some (-1) else (FlszStreamS k a0.2.2.2.2.2.2.2.2.1 p8).bind fun p9=>if (decide (p9<0))=true then some (-1) else (FlszFaultS k a0.2.2.2.2.2.2.2.2.2.1 p9).bind fun p10=>if (decide (p10<0))=true then some (-1) else (FlszPacketS k a0.2.2.2.2.2.2.2.2.2.2.2.2.1 p10).bind fun p11=>if (decide (p11<0))=true then some (-1) else (FlszSentS k a0.2.2.2.2.2.2.2.2.2.2.2.2.2 p11).bind fun p12=>if (decide (p12<0))=true then some (-1) else some p12:=by kernel_rfl
noncomputable def FltoBattery (k:Nat) (a0:I6):Option I6:=den E k 164 [.agg (avs sI6 a0)]
theorem eltoBattery (k:Nat) (a0:I6):FltoBattery (k+1) a0=some a0:=by kernel_rfl
noncomputable def FltoBatteryS (k:Nat) (a0:List I6):Option (List I6):=den E k 64 [.c (.l 211 sI6 a0)]
abbrev wo1:Type:=(List I6)
abbrev x01:Type:=Int×(List I6)
def StltoBatteryS_0 (c0:wo1) (v0:x01):St:=⟨23,1,[(0,.c (.l 211 sI6 c0)),(3,.c (.ref 0)),(4,cI v0.1)],[(0,.arr 159 sI6 v0.2)]⟩
noncomputable def BltoBatteryS_0 {R:Type} (k:Nat) (X0:x01→Option R) (c0:wo1) (rec:x01→Option R) (v0:x01):Option R:=if (decide (v0.1<(c0.length:Int)))=true then if 0≤v0.1 then ix c0 v0.1.toNat fun x1=>(FltoBattery k x1).bind fun p2=>if 0≤v0.1 then if v0.1<(v0.2.length:Int) then ix v0.2 v0.1.toNat fun y3=>rec ((IntKind.i64.wrap (v0.1+1)),(v0.2.set v0.1.toNat p2)) else none else none else none else X0 v0
noncomputable def LltoBatteryS_0 {R:Type} (k:Nat) (X0:x01→Option R) (c:wo1):Nat→x01→Option R
 | 0,_=>none
 | n+1,v=>BltoBatteryS_0 k X0 c (LltoBatteryS_0 k X0 c n) v
def YltoBatteryS_0_0 {R:Type} (K:Ex→St→Option R) (c0:wo1) (v0:x01):Option R:=K (.exit 0) ⟨23,1,[(0,.c (.l 211 sI6 c0)),(3,.c (.ref 0)),(4,cI v0.1),(8,cI v0.1),(9,.c (.l 211 sI6 c0)),(10,cI (c0.length:Int)),(11,cB (decide (v0.1<(c0.length:Int))))],[(0,.arr 159 sI6 v0.2)]⟩
theorem lltoBatteryS_0 {R:Type} (k:Nat) (K:Ex→St→Option R) (c0:wo1):∀(n:Nat) (v:x01),z2 [0,0,3,4] (run E (den E k) (lv 64) k (j1 Tryz.f64 0)) n (StltoBatteryS_0 c0 v) K=LltoBatteryS_0 k (YltoBatteryS_0_0 K c0) c0 n v:=j4 (B:=BltoBatteryS_0 k (YltoBatteryS_0_0 K c0) c0) (fun _=>rfl) (fun n v=>by kernel_rfl) (fun _=>rfl) (fun _ _=>rfl)
theorem mltoBatteryS_0 (k:Nat) (a0:List I6):FltoBatteryS (k+1) a0=if ((a0.length:Int)==(a0.length:Int))=true then if 0≤(a0.length:Int) then if 48*(a0.length:Int).toNat≤281474976710656 then z2 (R:=List I6) [0,0,3,4] (run E (den E k) (lv 64) k (j1 Tryz.f64 0)) k (StltoBatteryS_0 a0 (0,(List.replicate (a0.length:Int).toNat ((0,0,0,0,0,0):I6)))) (zb E (den E k) (lv 64) k (yd Tryz.f64) 0 [] (zd E (rs 64) Tryz.f64:Ex→St→Option (List I6))) else none else none else none:=by kernel_rfl
theorem eltoBatteryS (k:Nat) (a0:List I6):FltoBatteryS (k+1) a0=if ((a0.length:Int)==(a0.length:Int))=true then if 0≤(a0.length:Int) then if 48*(a0.length:Int).toNat≤281474976710656 then LltoBatteryS_0 k (fun (v0:Int×(List I6))=>some v0.2) a0 k (0,(List.replicate (a0.length:Int).toNat ((0,0,0,0,0,0):I6))) else none else none else none:=by
 rw [mltoBatteryS_0]
 simp only [lltoBatteryS_0]
 kernel_rfl
noncomputable def FltoFault (k:Nat) (a0:I4):Option I4:=den E k 135 [.agg (avs sI4 a0)]
theorem eltoFault (k:Nat) (a0:I4):FltoFault (k+1) a0=some a0:=by kernel_rfl
noncomputable def FltoFaultS (k:Nat) (a0:List I4):Option (List I4):=den E k 68 [.c (.l 81 sI4 a0)]
abbrev CltoFaultS_0:Type:=(List I4)
abbrev jd1:Type:=Int×(List I4)
def StltoFaultS_0 (c0:CltoFaultS_0) (v0:jd1):St:=⟨23,1,[(0,.c (.l 81 sI4 c0)),(3,.c (.ref 0)),(4,cI v0.1)],[(0,.arr 86 sI4 v0.2)]⟩
noncomputable def BltoFaultS_0 {R:Type} (k:Nat) (X0:jd1→Option R) (c0:CltoFaultS_0) (rec:jd1→Option R) (v0:jd1):Option R:=if (decide (v0.1<(c0.length:Int)))=true then if 0≤v0.1 then ix c0 v0.1.toNat fun x1=>(FltoFault k x1).bind fun p2=>if 0≤v0.1 then if v0.1<(v0.2.length:Int) then ix v0.2 v0.1.toNat fun y3=>rec ((IntKind.i64.wrap (v0.1+1)),(v0.2.set v0.1.toNat p2)) else none else none else none else X0 v0
noncomputable def LltoFaultS_0 {R:Type} (k:Nat) (X0:jd1→Option R) (c:CltoFaultS_0):Nat→jd1→Option R
 | 0,_=>none
 | n+1,v=>BltoFaultS_0 k X0 c (LltoFaultS_0 k X0 c n) v
def YltoFaultS_0_0 {R:Type} (K:Ex→St→Option R) (c0:CltoFaultS_0) (v0:jd1):Option R:=K (.exit 0) ⟨23,1,[(0,.c (.l 81 sI4 c0)),(3,.c (.ref 0)),(4,cI v0.1),(8,cI v0.1),(9,.c (.l 81 sI4 c0)),(10,cI (c0.length:Int)),(11,cB (decide (v0.1<(c0.length:Int))))],[(0,.arr 86 sI4 v0.2)]⟩
theorem lltoFaultS_0 {R:Type} (k:Nat) (K:Ex→St→Option R) (c0:CltoFaultS_0):∀(n:Nat) (v:jd1),z2 [0,0,3,4] (run E (den E k) (lv 68) k (j1 Tryz.f68 0)) n (StltoFaultS_0 c0 v) K=LltoFaultS_0 k (YltoFaultS_0_0 K c0) c0 n v:=j4 (B:=BltoFaultS_0 k (YltoFaultS_0_0 K c0) c0) (fun _=>rfl) (fun n v=>by kernel_rfl) (fun _=>rfl) (fun _ _=>rfl)
theorem mltoFaultS_0 (k:Nat) (a0:List I4):FltoFaultS (k+1) a0=if ((a0.length:Int)==(a0.length:Int))=true then if 0≤(a0.length:Int) then if 32*(a0.length:Int).toNat≤281474976710656 then z2 (R:=List I4) [0,0,3,4] (run E (den E k) (lv 68) k (j1 Tryz.f68 0)) k (StltoFaultS_0 a0 (0,(List.replicate (a0.length:Int).toNat ((0,0,0,0):I4)))) (zb E (den E k) (lv 68) k (yd Tryz.f68) 0 [] (zd E (rs 68) Tryz.f68:Ex→St→Option (List I4))) else none else none else none:=by kernel_rfl
theorem eltoFaultS (k:Nat) (a0:List I4):FltoFaultS (k+1) a0=if ((a0.length:Int)==(a0.length:Int))=true then if 0≤(a0.length:Int) then if 32*(a0.length:Int).toNat≤281474976710656 then LltoFaultS_0 k (fun (v0:Int×(List I4))=>some v0.2) a0 k (0,(List.replicate (a0.length:Int).toNat ((0,0,0,0):I4))) else none else none else none:=by
 rw [mltoFaultS_0]
 simp only [lltoFaultS_0]
 kernel_rfl
noncomputable def FltoFlow (k:Nat) (a0:I4):Option I4:=den E k 134 [.agg (avs sI4 a0)]
theorem eltoFlow (k:Nat) (a0:I4):FltoFlow (k+1) a0=some a0:=by kernel_rfl
noncomputable def FltoFlowS (k:Nat) (a0:List I4):Option (List I4):=den E k 66 [.c (.l 79 sI4 a0)]
abbrev CltoFlowS_0:Type:=(List I4)
abbrev yi1:Type:=Int×(List I4)
def StltoFlowS_0 (c0:CltoFlowS_0) (v0:yi1):St:=⟨23,1,[(0,.c (.l 79 sI4 c0)),(3,.c (.ref 0)),(4,cI v0.1)],[(0,.arr 85 sI4 v0.2)]⟩
noncomputable def BltoFlowS_0 {R:Type} (k:Nat) (X0:yi1→Option R) (c0:CltoFlowS_0) (rec:yi1→Option R) (v0:yi1):Option R:=if (decide (v0.1<(c0.length:Int)))=true then if 0≤v0.1 then ix c0 v0.1.toNat fun x1=>(FltoFlow k x1).bind fun p2=>if 0≤v0.1 then if v0.1<(v0.2.length:Int) then ix v0.2 v0.1.toNat fun y3=>rec ((IntKind.i64.wrap (v0.1+1)),(v0.2.set v0.1.toNat p2)) else none else none else none else X0 v0
noncomputable def LltoFlowS_0 {R:Type} (k:Nat) (X0:yi1→Option R) (c:CltoFlowS_0):Nat→yi1→Option R
 | 0,_=>none
 | n+1,v=>BltoFlowS_0 k X0 c (LltoFlowS_0 k X0 c n) v
def YltoFlowS_0_0 {R:Type} (K:Ex→St→Option R) (c0:CltoFlowS_0) (v0:yi1):Option R:=K (.exit 0) ⟨23,1,[(0,.c (.l 79 sI4 c0)),(3,.c (.ref 0)),(4,cI v0.1),(8,cI v0.1),(9,.c (.l 79 sI4 c0)),(10,cI (c0.length:Int)),(11,cB (decide (v0.1<(c0.length:Int))))],[(0,.arr 85 sI4 v0.2)]⟩
theorem lltoFlowS_0 {R:Type} (k:Nat) (K:Ex→St→Option R) (c0:CltoFlowS_0):∀(n:Nat) (v:yi1),z2 [0,0,3,4] (run E (den E k) (lv 66) k (j1 Tryz.f66 0)) n (StltoFlowS_0 c0 v) K=LltoFlowS_0 k (YltoFlowS_0_0 K c0) c0 n v:=j4 (B:=BltoFlowS_0 k (YltoFlowS_0_0 K c0) c0) (fun _=>rfl) (fun n v=>by kernel_rfl) (fun _=>rfl) (fun _ _=>rfl)
theorem mltoFlowS_0 (k:Nat) (a0:List I4):FltoFlowS (k+1) a0=if ((a0.length:Int)==(a0.length:Int))=true then if 0≤(a0.length:Int) then if 32*(a0.length:Int).toNat≤281474976710656 then z2 (R:=List I4) [0,0,3,4] (run E (den E k) (lv 66) k (j1 Tryz.f66 0)) k (StltoFlowS_0 a0 (0,(List.replicate (a0.length:Int).toNat ((0,0,0,0):I4)))) (zb E (den E k) (lv 66) k (yd Tryz.f66) 0 [] (zd E (rs 66) Tryz.f66:Ex→St→Option (List I4))) else none else none else none:=by kernel_rfl
theorem eltoFlowS (k:Nat) (a0:List I4):FltoFlowS (k+1) a0=if ((a0.length:Int)==(a0.length:Int))=true then if 0≤(a0.length:Int) then if 32*(a0.length:Int).toNat≤281474976710656 then LltoFlowS_0 k (fun (v0:Int×(List I4))=>some v0.2) a0 k (0,(List.replicate (a0.length:Int).toNat ((0,0,0,0):I4))) else none else none else none:=by
 rw [mltoFlowS_0]
 simp only [lltoFlowS_0]
 kernel_rfl
noncomputable def jf1 (k:Nat) (a0:List Int):Option (List Int):=den E k 63 [.c (.l 3 (.i .i64) a0)]
abbrev CltoIntS_0:Type:=(List Int)
abbrev zv1:Type:=Int×(List Int)
def StltoIntS_0 (c0:CltoIntS_0) (v0:zv1):St:=⟨22,1,[(0,.c (.l 3 (.i .i64) c0)),(3,.c (.ref 0)),(4,cI v0.1)],[(0,.arr 3 (.i .i64) v0.2)]⟩
noncomputable def BltoIntS_0 {R:Type} (k:Nat) (X0:zv1→Option R) (c0:CltoIntS_0) (rec:zv1→Option R) (v0:zv1):Option R:=if (decide (v0.1<(c0.length:Int)))=true then if 0≤v0.1 then ix c0 v0.1.toNat fun x1=>if 0≤v0.1 then if v0.1<(v0.2.length:Int) then ix v0.2 v0.1.toNat fun y2=>rec ((IntKind.i64.wrap (v0.1+1)),(v0.2.set v0.1.toNat x1)) else none else none else none else X0 v0
noncomputable def LltoIntS_0 {R:Type} (k:Nat) (X0:zv1→Option R) (c:CltoIntS_0):Nat→zv1→Option R
 | 0,_=>none
 | n+1,v=>BltoIntS_0 k X0 c (LltoIntS_0 k X0 c n) v
def YltoIntS_0_0 {R:Type} (K:Ex→St→Option R) (c0:CltoIntS_0) (v0:zv1):Option R:=K (.exit 0) ⟨22,1,[(0,.c (.l 3 (.i .i64) c0)),(3,.c (.ref 0)),(4,cI v0.1),(8,cI v0.1),(9,.c (.l 3 (.i .i64) c0)),(10,cI (c0.length:Int)),(11,cB (decide (v0.1<(c0.length:Int))))],[(0,.arr 3 (.i .i64) v0.2)]⟩
theorem lltoIntS_0 {R:Type} (k:Nat) (K:Ex→St→Option R) (c0:CltoIntS_0):∀(n:Nat) (v:zv1),z2 [0,0,3,4] (run E (den E k) (lv 63) k (j1 Tryz.f63 0)) n (StltoIntS_0 c0 v) K=LltoIntS_0 k (YltoIntS_0_0 K c0) c0 n v:=j4 (B:=BltoIntS_0 k (YltoIntS_0_0 K c0) c0) (fun _=>rfl) (fun n v=>by kernel_rfl) (fun _=>rfl) (fun _ _=>rfl)
theorem mltoIntS_0 (k:Nat) (a0:List Int):jf1 (k+1) a0=if ((a0.length:Int)==(a0.length:Int))=true then if 0≤(a0.length:Int) then if 8*(a0.length:Int).toNat≤281474976710656 then z2 (R:=List Int) [0,0,3,4] (run E (den E k) (lv 63) k (j1 Tryz.f63 0)) k (StltoIntS_0 a0 (0,(List.replicate (a0.length:Int).toNat (0:Int)))) (zb E (den E k) (lv 63) k (yd Tryz.f63) 0 [] (zd E (rs 63) Tryz.f63:Ex→St→Option (List Int))) else none else none else none:=by kernel_rfl
theorem eltoIntS (k:Nat) (a0:List Int):jf1 (k+1) a0=if ((a0.length:Int)==(a0.length:Int))=true then if 0≤(a0.length:Int) then if 8*(a0.length:Int).toNat≤281474976710656 then LltoIntS_0 k (fun (v0:Int×(List Int))=>some v0.2) a0 k (0,(List.replicate (a0.length:Int).toNat (0:Int))) else none else none else none:=by
 rw [mltoIntS_0]
 simp only [lltoIntS_0]
 kernel_rfl
noncomputable def FltoLaw (k:Nat) (a0:List Int):Option (List Int):=den E k 62 [.agg [.l 3 (.i .i64) a0]]
theorem eltoLaw (k:Nat) (a0:List Int):FltoLaw (k+1) a0=(jf1 k a0).bind fun p1=>some p1:=by kernel_rfl
noncomputable def FltoPacket (k:Nat) (a0:I6):Option I6:=den E k 167 [.agg (avs sI6 a0)]
theorem eltoPacket (k:Nat) (a0:I6):FltoPacket (k+1) a0=some a0:=by kernel_rfl
noncomputable def jq1 (k:Nat) (a0:List I6):Option (List I6):=den E k 69 [.c (.l 215 sI6 a0)]
abbrev jx1:Type:=(List I6)
abbrev y91:Type:=Int×(List I6)
def StltoPacketS_0 (c0:jx1) (v0:y91):St:=⟨23,1,[(0,.c (.l 215 sI6 c0)),(3,.c (.ref 0)),(4,cI v0.1)],[(0,.arr 66 sI6 v0.2)]⟩
noncomputable def BltoPacketS_0 {R:Type} (k:Nat) (X0:y91→Option R) (c0:jx1) (rec:y91→Option R) (v0:y91):Option R:=if (decide (v0.1<(c0.length:Int)))=true then if 0≤v0.1 then ix c0 v0.1.toNat fun x1=>(FltoPacket k x1).bind fun p2=>if 0≤v0.1 then if v0.1<(v0.2.length:Int) then ix v0.2 v0.1.toNat fun y3=>rec ((IntKind.i64.wrap (v0.1+1)),(v0.2.set v0.1.toNat p2)) else none else none else none else X0 v0
noncomputable def LltoPacketS_0 {R:Type} (k:Nat) (X0:y91→Option R) (c:jx1):Nat→y91→Option R
 | 0,_=>none
 | n+1,v=>BltoPacketS_0 k X0 c (LltoPacketS_0 k X0 c n) v
def YltoPacketS_0_0 {R:Type} (K:Ex→St→Option R) (c0:jx1) (v0:y91):Option R:=K (.exit 0) ⟨23,1,[(0,.c (.l 215 sI6 c0)),(3,.c (.ref 0)),(4,cI v0.1),(8,cI v0.1),(9,.c (.l 215 sI6 c0)),(10,cI (c0.length:Int)),(11,cB (decide (v0.1<(c0.length:Int))))],[(0,.arr 66 sI6 v0.2)]⟩
theorem lltoPacketS_0 {R:Type} (k:Nat) (K:Ex→St→Option R) (c0:jx1):∀(n:Nat) (v:y91),z2 [0,0,3,4] (run E (den E k) (lv 69) k (j1 Tryz.f69 0)) n (StltoPacketS_0 c0 v) K=LltoPacketS_0 k (YltoPacketS_0_0 K c0) c0 n v:=j4 (B:=BltoPacketS_0 k (YltoPacketS_0_0 K c0) c0) (fun _=>rfl) (fun n v=>by kernel_rfl) (fun _=>rfl) (fun _ _=>rfl)
theorem mltoPacketS_0 (k:Nat) (a0:List I6):jq1 (k+1) a0=if ((a0.length:Int)==(a0.length:Int))=true then if 0≤(a0.length:Int) then if 48*(a0.length:Int).toNat≤281474976710656 then z2 (R:=List I6) [0,0,3,4] (run E (den E k) (lv 69) k (j1 Tryz.f69 0)) k (StltoPacketS_0 a0 (0,(List.replicate (a0.length:Int).toNat ((0,0,0,0,0,0):I6)))) (zb E (den E k) (lv 69) k (yd Tryz.f69) 0 [] (zd E (rs 69) Tryz.f69:Ex→St→Option (List I6))) else none else none else none:=by kernel_rfl
theorem eltoPacketS (k:Nat) (a0:List I6):jq1 (k+1) a0=if ((a0.length:Int)==(a0.length:Int))=true then if 0≤(a0.length:Int) then if 48*(a0.length:Int).toNat≤281474976710656 then LltoPacketS_0 k (fun (v0:Int×(List I6))=>some v0.2) a0 k (0,(List.replicate (a0.length:Int).toNat ((0,0,0,0,0,0):I6))) else none else none else none:=by
 rw [mltoPacketS_0]
 simp only [lltoPacketS_0]
 kernel_rfl
noncomputable def FltoLink (k:Nat) (a0:I2):Option I2:=den E k 373 [.agg [vI a0.1,vI a0.2]]
theorem eltoLink (k:Nat) (a0:I2):FltoLink (k+1) a0=some a0:=by kernel_rfl
noncomputable def FltoLinkS (k:Nat) (a0:List I2):Option (List I2):=den E k 316 [.c (.l 357 sI2 a0)]
abbrev CltoLinkS_0:Type:=(List I2)
abbrev vi1:Type:=Int×(List I2)
def StltoLinkS_0 (c0:CltoLinkS_0) (v0:vi1):St:=⟨23,1,[(0,.c (.l 357 sI2 c0)),(3,.c (.ref 0)),(4,cI v0.1)],[(0,.arr 348 sI2 v0.2)]⟩
noncomputable def BltoLinkS_0 {R:Type} (k:Nat) (X0:vi1→Option R) (c0:CltoLinkS_0) (rec:vi1→Option R) (v0:vi1):Option R:=if (decide (v0.1<(c0.length:Int)))=true then if 0≤v0.1 then ix c0 v0.1.toNat fun x1=>(FltoLink k x1).bind fun p2=>if 0≤v0.1 then if v0.1<(v0.2.length:Int) then ix v0.2 v0.1.toNat fun y3=>rec ((IntKind.i64.wrap (v0.1+1)),(v0.2.set v0.1.toNat p2)) else none else none else none else X0 v0
noncomputable def LltoLinkS_0 {R:Type} (k:Nat) (X0:vi1→Option R) (c:CltoLinkS_0):Nat→vi1→Option R
 | 0,_=>none
 | n+1,v=>BltoLinkS_0 k X0 c (LltoLinkS_0 k X0 c n) v
def YltoLinkS_0_0 {R:Type} (K:Ex→St→Option R) (c0:CltoLinkS_0) (v0:vi1):Option R:=K (.exit 0) ⟨23,1,[(0,.c (.l 357 sI2 c0)),(3,.c (.ref 0)),(4,cI v0.1),(8,cI v0.1),(9,.c (.l 357 sI2 c0)),(10,cI (c0.length:Int)),(11,cB (decide (v0.1<(c0.length:Int))))],[(0,.arr 348 sI2 v0.2)]⟩
theorem lltoLinkS_0 {R:Type} (k:Nat) (K:Ex→St→Option R) (c0:CltoLinkS_0):∀(n:Nat) (v:vi1),z2 [0,0,3,4] (run E (den E k) (lv 316) k (j1 Tryz.f316 0)) n (StltoLinkS_0 c0 v) K=LltoLinkS_0 k (YltoLinkS_0_0 K c0) c0 n v:=j4 (B:=BltoLinkS_0 k (YltoLinkS_0_0 K c0) c0) (fun _=>rfl) (fun n v=>by kernel_rfl) (fun _=>rfl) (fun _ _=>rfl)
theorem mltoLinkS_0 (k:Nat) (a0:List I2):FltoLinkS (k+1) a0=if ((a0.length:Int)==(a0.length:Int))=true then if 0≤(a0.length:Int) then if 16*(a0.length:Int).toNat≤281474976710656 then z2 (R:=List I2) [0,0,3,4] (run E (den E k) (lv 316) k (j1 Tryz.f316 0)) k (StltoLinkS_0 a0 (0,(List.replicate (a0.length:Int).toNat ((0,0):I2)))) (zb E (den E k) (lv 316) k (yd Tryz.f316) 0 [] (zd E (rs 316) Tryz.f316:Ex→St→Option (List I2))) else none else none else none:=by kernel_rfl
theorem eltoLinkS (k:Nat) (a0:List I2):FltoLinkS (k+1) a0=if ((a0.length:Int)==(a0.length:Int))=true then if 0≤(a0.length:Int) then if 16*(a0.length:Int).toNat≤281474976710656 then LltoLinkS_0 k (fun (v0:Int×(List I2))=>some v0.2) a0 k (0,(List.replicate (a0.length:Int).toNat ((0,0):I2))) else none else none else none:=by
 rw [mltoLinkS_0]
 simp only [lltoLinkS_0]
 kernel_rfl
noncomputable def FltoSpan (k:Nat) (a0:I2):Option I2:=den E k 315 [.agg [vI a0.1,vI a0.2]]
theorem eltoSpan (k:Nat) (a0:I2):FltoSpan (k+1) a0=some a0:=by kernel_rfl
noncomputable def FltoTable (k:Nat) (a0:Int×(List Int)×List Int):Option (Int×(List Int)×List Int):=den E k 374 [.agg (avs y9 a0)]
theorem eltoTable (k:Nat) (a0:Int×(List Int)×List Int):FltoTable (k+1) a0=(jf1 k a0.2.1).bind fun p1=>(jf1 k a0.2.2).bind fun p2=>some (a0.1,p1,p2):=by kernel_rfl
noncomputable def FltoTableS (k:Nat) (a0:List (Int×(List Int)×List Int)):Option (List (Int×(List Int)×List Int)):=den E k 317 [.c (.l 355 y9 a0)]
abbrev CltoTableS_0:Type:=(List (Int×(List Int)×List Int))
abbrev zf1:Type:=Int×(List (Int×(List Int)×List Int))
def StltoTableS_0 (c0:CltoTableS_0) (v0:zf1):St:=⟨23,1,[(0,.c (.l 355 y9 c0)),(3,.c (.ref 0)),(4,cI v0.1)],[(0,.arr 220 y9 v0.2)]⟩
noncomputable def BltoTableS_0 {R:Type} (k:Nat) (X0:zf1→Option R) (c0:CltoTableS_0) (rec:zf1→Option R) (v0:zf1):Option R:=if (decide (v0.1<(c0.length:Int)))=true then if 0≤v0.1 then ix c0 v0.1.toNat fun x1=>(FltoTable k x1).bind fun p2=>if 0≤v0.1 then if v0.1<(v0.2.length:Int) then ix v0.2 v0.1.toNat fun y3=>rec ((IntKind.i64.wrap (v0.1+1)),(v0.2.set v0.1.toNat p2)) else none else none else none else X0 v0
noncomputable def LltoTableS_0 {R:Type} (k:Nat) (X0:zf1→Option R) (c:CltoTableS_0):Nat→zf1→Option R
 | 0,_=>none
 | n+1,v=>BltoTableS_0 k X0 c (LltoTableS_0 k X0 c n) v
def YltoTableS_0_0 {R:Type} (K:Ex→St→Option R) (c0:CltoTableS_0) (v0:zf1):Option R:=K (.exit 0) ⟨23,1,[(0,.c (.l 355 y9 c0)),(3,.c (.ref 0)),(4,cI v0.1),(8,cI v0.1),(9,.c (.l 355 y9 c0)),(10,cI (c0.length:Int)),(11,cB (decide (v0.1<(c0.length:Int))))],[(0,.arr 220 y9 v0.2)]⟩
theorem lltoTableS_0 {R:Type} (k:Nat) (K:Ex→St→Option R) (c0:CltoTableS_0):∀(n:Nat) (v:zf1),z2 [0,0,3,4] (run E (den E k) (lv 317) k (j1 Tryz.f317 0)) n (StltoTableS_0 c0 v) K=LltoTableS_0 k (YltoTableS_0_0 K c0) c0 n v:=j4 (B:=BltoTableS_0 k (YltoTableS_0_0 K c0) c0) (fun _=>rfl) (fun n v=>by kernel_rfl) (fun _=>rfl) (fun _ _=>rfl)
theorem mltoTableS_0 (k:Nat) (a0:List (Int×(List Int)×List Int)):FltoTableS (k+1) a0=if ((a0.length:Int)==(a0.length:Int))=true then if 0≤(a0.length:Int) then if 56*(a0.length:Int).toNat≤281474976710656 then z2 (R:=List (Int×(List Int)×List Int)) [0,0,3,4] (run E (den E k) (lv 317) k (j1 Tryz.f317 0)) k (StltoTableS_0 a0 (0,(List.replicate (a0.length:Int).toNat ((0,[],[]):Int×(List Int)×List Int)))) (zb E (den E k) (lv 317) k (yd Tryz.f317) 0 [] (zd E (rs 317) Tryz.f317:Ex→St→Option (List (Int×(List Int)×List Int)))) else none else none else none:=by kernel_rfl
theorem eltoTableS (k:Nat) (a0:List (Int×(List Int)×List Int)):FltoTableS (k+1) a0=if ((a0.length:Int)==(a0.length:Int))=true then if 0≤(a0.length:Int) then if 56*(a0.length:Int).toNat≤281474976710656 then LltoTableS_0 k (fun (v0:Int×(List (Int×(List Int)×List Int)))=>some v0.2) a0 k (0,(List.replicate (a0.length:Int).toNat ((0,[],[]):Int×(List Int)×List Int))) else none else none else none:=by
 rw [mltoTableS_0]
 simp only [lltoTableS_0]
 kernel_rfl
noncomputable def FltoPiece (k:Nat) (a0:zf):Option zf:=den E k 253 [.agg (avs xi a0)]
theorem eltoPiece (k:Nat) (a0:zf):FltoPiece (k+1) a0=(FltoSpan k a0.1).bind fun p1=>(FltoLinkS k a0.2.1).bind fun p2=>(FltoTableS k a0.2.2).bind fun p3=>some (p1,p2,p3):=by kernel_rfl
noncomputable def FltoPieceS (k:Nat) (a0:List zf):Option (List zf):=den E k 163 [.c (.l 270 xi a0)]
abbrev CltoPieceS_0:Type:=(List zf)
abbrev yf1:Type:=Int×(List zf)
def StltoPieceS_0 (c0:CltoPieceS_0) (v0:yf1):St:=⟨23,1,[(0,.c (.l 270 xi c0)),(3,.c (.ref 0)),(4,cI v0.1)],[(0,.arr 198 wk v0.2)]⟩
noncomputable def BltoPieceS_0 {R:Type} (k:Nat) (X0:yf1→Option R) (c0:CltoPieceS_0) (rec:yf1→Option R) (v0:yf1):Option R:=if (decide (v0.1<(c0.length:Int)))=true then if 0≤v0.1 then ix c0 v0.1.toNat fun x1=>(FltoPiece k x1).bind fun p2=>if 0≤v0.1 then if v0.1<(v0.2.length:Int) then ix v0.2 v0.1.toNat fun y3=>rec ((IntKind.i64.wrap (v0.1+1)),(v0.2.set v0.1.toNat p2)) else none else none else none else X0 v0
noncomputable def LltoPieceS_0 {R:Type} (k:Nat) (X0:yf1→Option R) (c:CltoPieceS_0):Nat→yf1→Option R
 | 0,_=>none
 | n+1,v=>BltoPieceS_0 k X0 c (LltoPieceS_0 k X0 c n) v
def YltoPieceS_0_0 {R:Type} (K:Ex→St→Option R) (c0:CltoPieceS_0) (v0:yf1):Option R:=K (.exit 0) ⟨23,1,[(0,.c (.l 270 xi c0)),(3,.c (.ref 0)),(4,cI v0.1),(8,cI v0.1),(9,.c (.l 270 xi c0)),(10,cI (c0.length:Int)),(11,cB (decide (v0.1<(c0.length:Int))))],[(0,.arr 198 wk v0.2)]⟩
theorem lltoPieceS_0 {R:Type} (k:Nat) (K:Ex→St→Option R) (c0:CltoPieceS_0):∀(n:Nat) (v:yf1),z2 [0,0,3,4] (run E (den E k) (lv 163) k (j1 Tryz.f163 0)) n (StltoPieceS_0 c0 v) K=LltoPieceS_0 k (YltoPieceS_0_0 K c0) c0 n v:=j4 (B:=BltoPieceS_0 k (YltoPieceS_0_0 K c0) c0) (fun _=>rfl) (fun n v=>by kernel_rfl) (fun _=>rfl) (fun _ _=>rfl)
theorem mltoPieceS_0 (k:Nat) (a0:List zf):FltoPieceS (k+1) a0=if ((a0.length:Int)==(a0.length:Int))=true then if 0≤(a0.length:Int) then if 64*(a0.length:Int).toNat≤281474976710656 then z2 (R:=List zf) [0,0,3,4] (run E (den E k) (lv 163) k (j1 Tryz.f163 0)) k (StltoPieceS_0 a0 (0,(List.replicate (a0.length:Int).toNat (((0,0),[],[]):zf)))) (zb E (den E k) (lv 163) k (yd Tryz.f163) 0 [] (zd E (rs 163) Tryz.f163:Ex→St→Option (List zf))) else none else none else none:=by kernel_rfl
theorem eltoPieceS (k:Nat) (a0:List zf):FltoPieceS (k+1) a0=if ((a0.length:Int)==(a0.length:Int))=true then if 0≤(a0.length:Int) then if 64*(a0.length:Int).toNat≤281474976710656 then LltoPieceS_0 k (fun (v0:Int×(List zf))=>some v0.2) a0 k (0,(List.replicate (a0.length:Int).toNat (((0,0),[],[]):zf))) else none else none else none:=by
 rw [mltoPieceS_0]
 simp only [lltoPieceS_0]
 kernel_rfl
noncomputable def FltoProgram (k:Nat) (a0:j2):Option j2:=den E k 61 [.agg (avs xy a0)]
theorem eltoProgram (k:Nat) (a0:j2):FltoProgram (k+1) a0=(FltoPieceS k a0.2.2.2).bind fun p1=>some (a0.1,a0.2.1,a0.2.2.1,p1):=by kernel_rfl
noncomputable def FltoQueue (k:Nat) (a0:List I6):Option (List I6):=den E k 165 [.agg [.l 215 sI6 a0]]
theorem eltoQueue (k:Nat) (a0:List I6):FltoQueue (k+1) a0=(jq1 k a0).bind fun p1=>some p1:=by kernel_rfl
noncomputable def FltoQueueS (k:Nat) (a0:List (List I6)):Option (List (List I6)):=den E k 65 [.c (.l 177 jj a0)]
abbrev CltoQueueS_0:Type:=(List (List I6))
abbrev ye1:Type:=Int×(List (List I6))
def StltoQueueS_0 (c0:CltoQueueS_0) (v0:ye1):St:=⟨23,1,[(0,.c (.l 177 jj c0)),(3,.c (.ref 0)),(4,cI v0.1)],[(0,.arr 140 x71 v0.2)]⟩
noncomputable def BltoQueueS_0 {R:Type} (k:Nat) (X0:ye1→Option R) (c0:CltoQueueS_0) (rec:ye1→Option R) (v0:ye1):Option R:=if (decide (v0.1<(c0.length:Int)))=true then if 0≤v0.1 then ix c0 v0.1.toNat fun x1=>(FltoQueue k x1).bind fun p2=>if 0≤v0.1 then if v0.1<(v0.2.length:Int) then ix v0.2 v0.1.toNat fun y3=>rec ((IntKind.i64.wrap (v0.1+1)),(v0.2.set v0.1.toNat p2)) else none else none else none else X0 v0
noncomputable def LltoQueueS_0 {R:Type} (k:Nat) (X0:ye1→Option R) (c:CltoQueueS_0):Nat→ye1→Option R
 | 0,_=>none
 | n+1,v=>BltoQueueS_0 k X0 c (LltoQueueS_0 k X0 c n) v
def YltoQueueS_0_0 {R:Type} (K:Ex→St→Option R) (c0:CltoQueueS_0) (v0:ye1):Option R:=K (.exit 0) ⟨23,1,[(0,.c (.l 177 jj c0)),(3,.c (.ref 0)),(4,cI v0.1),(8,cI v0.1),(9,.c (.l 177 jj c0)),(10,cI (c0.length:Int)),(11,cB (decide (v0.1<(c0.length:Int))))],[(0,.arr 140 x71 v0.2)]⟩
theorem lltoQueueS_0 {R:Type} (k:Nat) (K:Ex→St→Option R) (c0:CltoQueueS_0):∀(n:Nat) (v:ye1),z2 [0,0,3,4] (run E (den E k) (lv 65) k (j1 Tryz.f65 0)) n (StltoQueueS_0 c0 v) K=LltoQueueS_0 k (YltoQueueS_0_0 K c0) c0 n v:=j4 (B:=BltoQueueS_0 k (YltoQueueS_0_0 K c0) c0) (fun _=>rfl) (fun n v=>by kernel_rfl) (fun _=>rfl) (fun _ _=>rfl)
theorem mltoQueueS_0 (k:Nat) (a0:List (List I6)):FltoQueueS (k+1) a0=if ((a0.length:Int)==(a0.length:Int))=true then if 0≤(a0.length:Int) then if 24*(a0.length:Int).toNat≤281474976710656 then z2 (R:=List (List I6)) [0,0,3,4] (run E (den E k) (lv 65) k (j1 Tryz.f65 0)) k (StltoQueueS_0 a0 (0,(List.replicate (a0.length:Int).toNat ([]:List I6)))) (zb E (den E k) (lv 65) k (yd Tryz.f65) 0 [] (zd E (rs 65) Tryz.f65:Ex→St→Option (List (List I6)))) else none else none else none:=by kernel_rfl
theorem eltoQueueS (k:Nat) (a0:List (List I6)):FltoQueueS (k+1) a0=if ((a0.length:Int)==(a0.length:Int))=true then if 0≤(a0.length:Int) then if 24*(a0.length:Int).toNat≤281474976710656 then LltoQueueS_0 k (fun (v0:Int×(List (List I6)))=>some v0.2) a0 k (0,(List.replicate (a0.length:Int).toNat ([]:List I6))) else none else none else none:=by
 rw [mltoQueueS_0]
 simp only [lltoQueueS_0]
 kernel_rfl
noncomputable def FltoSent (k:Nat) (a0:I4):Option I4:=den E k 168 [.agg (avs sI4 a0)]
theorem eltoSent (k:Nat) (a0:I4):FltoSent (k+1) a0=some a0:=by kernel_rfl
noncomputable def FltoSentS (k:Nat) (a0:List I4):Option (List I4):=den E k 70 [.c (.l 217 sI4 a0)]
abbrev CltoSentS_0:Type:=(List I4)
abbrev jk1:Type:=Int×(List I4)
def StltoSentS_0 (c0:CltoSentS_0) (v0:jk1):St:=⟨23,1,[(0,.c (.l 217 sI4 c0)),(3,.c (.ref 0)),(4,cI v0.1)],[(0,.arr 146 sI4 v0.2)]⟩
noncomputable def BltoSentS_0 {R:Type} (k:Nat) (X0:jk1→Option R) (c0:CltoSentS_0) (rec:jk1→Option R) (v0:jk1):Option R:=if (decide (v0.1<(c0.length:Int)))=true then if 0≤v0.1 then ix c0 v0.1.toNat fun x1=>(FltoSent k x1).bind fun p2=>if 0≤v0.1 then if v0.1<(v0.2.length:Int) then ix v0.2 v0.1.toNat fun y3=>rec ((IntKind.i64.wrap (v0.1+1)),(v0.2.set v0.1.toNat p2)) else none else none else none else X0 v0
noncomputable def LltoSentS_0 {R:Type} (k:Nat) (X0:jk1→Option R) (c:CltoSentS_0):Nat→jk1→Option R
 | 0,_=>none
 | n+1,v=>BltoSentS_0 k X0 c (LltoSentS_0 k X0 c n) v
def YltoSentS_0_0 {R:Type} (K:Ex→St→Option R) (c0:CltoSentS_0) (v0:jk1):Option R:=K (.exit 0) ⟨23,1,[(0,.c (.l 217 sI4 c0)),(3,.c (.ref 0)),(4,cI v0.1),(8,cI v0.1),(9,.c (.l 217 sI4 c0)),(10,cI (c0.length:Int)),(11,cB (decide (v0.1<(c0.length:Int))))],[(0,.arr 146 sI4 v0.2)]⟩
theorem lltoSentS_0 {R:Type} (k:Nat) (K:Ex→St→Option R) (c0:CltoSentS_0):∀(n:Nat) (v:jk1),z2 [0,0,3,4] (run E (den E k) (lv 70) k (j1 Tryz.f70 0)) n (StltoSentS_0 c0 v) K=LltoSentS_0 k (YltoSentS_0_0 K c0) c0 n v:=j4 (B:=BltoSentS_0 k (YltoSentS_0_0 K c0) c0) (fun _=>rfl) (fun n v=>by kernel_rfl) (fun _=>rfl) (fun _ _=>rfl)
theorem mltoSentS_0 (k:Nat) (a0:List I4):FltoSentS (k+1) a0=if ((a0.length:Int)==(a0.length:Int))=true then if 0≤(a0.length:Int) then if 32*(a0.length:Int).toNat≤281474976710656 then z2 (R:=List I4) [0,0,3,4] (run E (den E k) (lv 70) k (j1 Tryz.f70 0)) k (StltoSentS_0 a0 (0,(List.replicate (a0.length:Int).toNat ((0,0,0,0):I4)))) (zb E (den E k) (lv 70) k (yd Tryz.f70) 0 [] (zd E (rs 70) Tryz.f70:Ex→St→Option (List I4))) else none else none else none:=by kernel_rfl
theorem eltoSentS (k:Nat) (a0:List I4):FltoSentS (k+1) a0=if ((a0.length:Int)==(a0.length:Int))=true then if 0≤(a0.length:Int) then if 32*(a0.length:Int).toNat≤281474976710656 then LltoSentS_0 k (fun (v0:Int×(List I4))=>some v0.2) a0 k (0,(List.replicate (a0.length:Int).toNat ((0,0,0,0):I4))) else none else none else none:=by
 rw [mltoSentS_0]
 simp only [lltoSentS_0]
 kernel_rfl
noncomputable def FltoSat (k:Nat) (a0:I4):Option I4:=den E k 250 [.agg (avs sI4 a0)]
theorem eltoSat (k:Nat) (a0:I4):FltoSat (k+1) a0=some a0:=by kernel_rfl
noncomputable def FltoSatS (k:Nat) (a0:List I4):Option (List I4):=den E k 160 [.c (.l 273 sI4 a0)]
abbrev CltoSatS_0:Type:=(List I4)
abbrev yu1:Type:=Int×(List I4)
def StltoSatS_0 (c0:CltoSatS_0) (v0:yu1):St:=⟨23,1,[(0,.c (.l 273 sI4 c0)),(3,.c (.ref 0)),(4,cI v0.1)],[(0,.arr 186 sI4 v0.2)]⟩
noncomputable def BltoSatS_0 {R:Type} (k:Nat) (X0:yu1→Option R) (c0:CltoSatS_0) (rec:yu1→Option R) (v0:yu1):Option R:=if (decide (v0.1<(c0.length:Int)))=true then if 0≤v0.1 then ix c0 v0.1.toNat fun x1=>(FltoSat k x1).bind fun p2=>if 0≤v0.1 then if v0.1<(v0.2.length:Int) then ix v0.2 v0.1.toNat fun y3=>rec ((IntKind.i64.wrap (v0.1+1)),(v0.2.set v0.1.toNat p2)) else none else none else none else X0 v0
noncomputable def LltoSatS_0 {R:Type} (k:Nat) (X0:yu1→Option R) (c:CltoSatS_0):Nat→yu1→Option R
 | 0,_=>none
 | n+1,v=>BltoSatS_0 k X0 c (LltoSatS_0 k X0 c n) v
def YltoSatS_0_0 {R:Type} (K:Ex→St→Option R) (c0:CltoSatS_0) (v0:yu1):Option R:=K (.exit 0) ⟨23,1,[(0,.c (.l 273 sI4 c0)),(3,.c (.ref 0)),(4,cI v0.1),(8,cI v0.1),(9,.c (.l 273 sI4 c0)),(10,cI (c0.length:Int)),(11,cB (decide (v0.1<(c0.length:Int))))],[(0,.arr 186 sI4 v0.2)]⟩
theorem lltoSatS_0 {R:Type} (k:Nat) (K:Ex→St→Option R) (c0:CltoSatS_0):∀(n:Nat) (v:yu1),z2 [0,0,3,4] (run E (den E k) (lv 160) k (j1 Tryz.f160 0)) n (StltoSatS_0 c0 v) K=LltoSatS_0 k (YltoSatS_0_0 K c0) c0 n v:=j4 (B:=BltoSatS_0 k (YltoSatS_0_0 K c0) c0) (fun _=>rfl) (fun n v=>by kernel_rfl) (fun _=>rfl) (fun _ _=>rfl)
theorem mltoSatS_0 (k:Nat) (a0:List I4):FltoSatS (k+1) a0=if ((a0.length:Int)==(a0.length:Int))=true then if 0≤(a0.length:Int) then if 32*(a0.length:Int).toNat≤281474976710656 then z2 (R:=List I4) [0,0,3,4] (run E (den E k) (lv 160) k (j1 Tryz.f160 0)) k (StltoSatS_0 a0 (0,(List.replicate (a0.length:Int).toNat ((0,0,0,0):I4)))) (zb E (den E k) (lv 160) k (yd Tryz.f160) 0 [] (zd E (rs 160) Tryz.f160:Ex→St→Option (List I4))) else none else none else none:=by kernel_rfl
theorem eltoSatS (k:Nat) (a0:List I4):FltoSatS (k+1) a0=if ((a0.length:Int)==(a0.length:Int))=true then if 0≤(a0.length:Int) then if 32*(a0.length:Int).toNat≤281474976710656 then LltoSatS_0 k (fun (v0:Int×(List I4))=>some v0.2) a0 k (0,(List.replicate (a0.length:Int).toNat ((0,0,0,0):I4))) else none else none else none:=by
 rw [mltoSatS_0]
 simp only [lltoSatS_0]
 kernel_rfl
noncomputable def FltoSite (k:Nat) (a0:I3):Option I3:=den E k 251 [.agg (avs sI3 a0)]
theorem eltoSite (k:Nat) (a0:I3):FltoSite (k+1) a0=some a0:=by kernel_rfl
noncomputable def FltoSiteS (k:Nat) (a0:List I3):Option (List I3):=den E k 161 [.c (.l 275 sI3 a0)]
abbrev CltoSiteS_0:Type:=(List I3)
abbrev zl1:Type:=Int×(List I3)
def StltoSiteS_0 (c0:CltoSiteS_0) (v0:zl1):St:=⟨23,1,[(0,.c (.l 275 sI3 c0)),(3,.c (.ref 0)),(4,cI v0.1)],[(0,.arr 188 sI3 v0.2)]⟩
noncomputable def BltoSiteS_0 {R:Type} (k:Nat) (X0:zl1→Option R) (c0:CltoSiteS_0) (rec:zl1→Option R) (v0:zl1):Option R:=if (decide (v0.1<(c0.length:Int)))=true then if 0≤v0.1 then ix c0 v0.1.toNat fun x1=>(FltoSite k x1).bind fun p2=>if 0≤v0.1 then if v0.1<(v0.2.length:Int) then ix v0.2 v0.1.toNat fun y3=>rec ((IntKind.i64.wrap (v0.1+1)),(v0.2.set v0.1.toNat p2)) else none else none else none else X0 v0
noncomputable def LltoSiteS_0 {R:Type} (k:Nat) (X0:zl1→Option R) (c:CltoSiteS_0):Nat→zl1→Option R
 | 0,_=>none
 | n+1,v=>BltoSiteS_0 k X0 c (LltoSiteS_0 k X0 c n) v
def YltoSiteS_0_0 {R:Type} (K:Ex→St→Option R) (c0:CltoSiteS_0) (v0:zl1):Option R:=K (.exit 0) ⟨23,1,[(0,.c (.l 275 sI3 c0)),(3,.c (.ref 0)),(4,cI v0.1),(8,cI v0.1),(9,.c (.l 275 sI3 c0)),(10,cI (c0.length:Int)),(11,cB (decide (v0.1<(c0.length:Int))))],[(0,.arr 188 sI3 v0.2)]⟩
theorem lltoSiteS_0 {R:Type} (k:Nat) (K:Ex→St→Option R) (c0:CltoSiteS_0):∀(n:Nat) (v:zl1),z2 [0,0,3,4] (run E (den E k) (lv 161) k (j1 Tryz.f161 0)) n (StltoSiteS_0 c0 v) K=LltoSiteS_0 k (YltoSiteS_0_0 K c0) c0 n v:=j4 (B:=BltoSiteS_0 k (YltoSiteS_0_0 K c0) c0) (fun _=>rfl) (fun n v=>by kernel_rfl) (fun _=>rfl) (fun _ _=>rfl)
theorem mltoSiteS_0 (k:Nat) (a0:List I3):FltoSiteS (k+1) a0=if ((a0.length:Int)==(a0.length:Int))=true then if 0≤(a0.length:Int) then if 24*(a0.length:Int).toNat≤281474976710656 then z2 (R:=List I3) [0,0,3,4] (run E (den E k) (lv 161) k (j1 Tryz.f161 0)) k (StltoSiteS_0 a0 (0,(List.replicate (a0.length:Int).toNat ((0,0,0):I3)))) (zb E (den E k) (lv 161) k (yd Tryz.f161) 0 [] (zd E (rs 161) Tryz.f161:Ex→St→Option (List I3))) else none else none else none:=by kernel_rfl
theorem eltoSiteS (k:Nat) (a0:List I3):FltoSiteS (k+1) a0=if ((a0.length:Int)==(a0.length:Int))=true then if 0≤(a0.length:Int) then if 24*(a0.length:Int).toNat≤281474976710656 then LltoSiteS_0 k (fun (v0:Int×(List I3))=>some v0.2) a0 k (0,(List.replicate (a0.length:Int).toNat ((0,0,0):I3))) else none else none else none:=by
 rw [mltoSiteS_0]
 simp only [lltoSiteS_0]
 kernel_rfl
noncomputable def FltoArc (k:Nat) (a0:I2):Option I2:=den E k 314 [.agg [vI a0.1,vI a0.2]]
theorem eltoArc (k:Nat) (a0:I2):FltoArc (k+1) a0=some a0:=by kernel_rfl
noncomputable def FltoZone (k:Nat) (a0:I3):Option I3:=den E k 252 [.agg (avs sI3 a0)]
theorem eltoZone (k:Nat) (a0:I3):FltoZone (k+1) a0=(FltoArc k a0.2).bind fun p1=>some (a0.1,p1):=by kernel_rfl
noncomputable def FltoZoneS (k:Nat) (a0:List I3):Option (List I3):=den E k 162 [.c (.l 279 sZone a0)]
abbrev CltoZoneS_0:Type:=(List I3)
abbrev xi1:Type:=Int×(List I3)
def StltoZoneS_0 (c0:CltoZoneS_0) (v0:xi1):St:=⟨23,1,[(0,.c (.l 279 sZone c0)),(3,.c (.ref 0)),(4,cI v0.1)],[(0,.arr 193 sZone v0.2)]⟩
noncomputable def BltoZoneS_0 {R:Type} (k:Nat) (X0:xi1→Option R) (c0:CltoZoneS_0) (rec:xi1→Option R) (v0:xi1):Option R:=if (decide (v0.1<(c0.length:Int)))=true then if 0≤v0.1 then ix c0 v0.1.toNat fun x1=>(FltoZone k x1).bind fun p2=>if 0≤v0.1 then if v0.1<(v0.2.length:Int) then ix v0.2 v0.1.toNat fun y3=>rec ((IntKind.i64.wrap (v0.1+1)),(v0.2.set v0.1.toNat p2)) else none else none else none else X0 v0
noncomputable def LltoZoneS_0 {R:Type} (k:Nat) (X0:xi1→Option R) (c:CltoZoneS_0):Nat→xi1→Option R
 | 0,_=>none
 | n+1,v=>BltoZoneS_0 k X0 c (LltoZoneS_0 k X0 c n) v
def YltoZoneS_0_0 {R:Type} (K:Ex→St→Option R) (c0:CltoZoneS_0) (v0:xi1):Option R:=K (.exit 0) ⟨23,1,[(0,.c (.l 279 sZone c0)),(3,.c (.ref 0)),(4,cI v0.1),(8,cI v0.1),(9,.c (.l 279 sZone c0)),(10,cI (c0.length:Int)),(11,cB (decide (v0.1<(c0.length:Int))))],[(0,.arr 193 sZone v0.2)]⟩
theorem lltoZoneS_0 {R:Type} (k:Nat) (K:Ex→St→Option R) (c0:CltoZoneS_0):∀(n:Nat) (v:xi1),z2 [0,0,3,4] (run E (den E k) (lv 162) k (j1 Tryz.f162 0)) n (StltoZoneS_0 c0 v) K=LltoZoneS_0 k (YltoZoneS_0_0 K c0) c0 n v:=j4 (B:=BltoZoneS_0 k (YltoZoneS_0_0 K c0) c0) (fun _=>rfl) (fun n v=>by kernel_rfl) (fun _=>rfl) (fun _ _=>rfl)
theorem mltoZoneS_0 (k:Nat) (a0:List I3):FltoZoneS (k+1) a0=if ((a0.length:Int)==(a0.length:Int))=true then if 0≤(a0.length:Int) then if 24*(a0.length:Int).toNat≤281474976710656 then z2 (R:=List I3) [0,0,3,4] (run E (den E k) (lv 162) k (j1 Tryz.f162 0)) k (StltoZoneS_0 a0 (0,(List.replicate (a0.length:Int).toNat ((0,(0,0)):I3)))) (zb E (den E k) (lv 162) k (yd Tryz.f162) 0 [] (zd E (rs 162) Tryz.f162:Ex→St→Option (List I3))) else none else none else none:=by kernel_rfl
theorem eltoZoneS (k:Nat) (a0:List I3):FltoZoneS (k+1) a0=if ((a0.length:Int)==(a0.length:Int))=true then if 0≤(a0.length:Int) then if 24*(a0.length:Int).toNat≤281474976710656 then LltoZoneS_0 k (fun (v0:Int×(List I3))=>some v0.2) a0 k (0,(List.replicate (a0.length:Int).toNat ((0,(0,0)):I3))) else none else none else none:=by
 rw [mltoZoneS_0]
 simp only [lltoZoneS_0]
 kernel_rfl
noncomputable def FltoSky (k:Nat) (a0:TSky):Option TSky:=den E k 60 [.agg (avs sLSky a0)]
theorem eltoSky (k:Nat) (a0:TSky):FltoSky (k+1) a0=(FltoSatS k a0.2.1).bind fun p1=>(FltoSiteS k a0.2.2.1).bind fun p2=>(FltoZoneS k a0.2.2.2.2.2.2.2.2.1).bind fun p3=>some (a0.1,p1,p2,a0.2.2.2.1,a0.2.2.2.2.1,a0.2.2.2.2.2.1,a0.2.2.2.2.2.2.1,a0.2.2.2.2.2.2.2.1,p3,a0.2.2.2.2.2.2.2.2.2):=by kernel_rfl
noncomputable def FltoStream (k:Nat) (a0:Int×Int×List Int):Option (Int×Int×List Int):=den E k 166 [.agg (avs z8 a0)]
theorem eltoStream (k:Nat) (a0:Int×Int×List Int):FltoStream (k+1) a0=(jf1 k a0.2.2).bind fun p1=>some (a0.1,a0.2.1,p1):=by kernel_rfl
noncomputable def FltoStreamS (k:Nat) (a0:List (Int×Int×List Int)):Option (List (Int×Int×List Int)):=den E k 67 [.c (.l 180 z8 a0)]
abbrev xw1:Type:=(List (Int×Int×List Int))
abbrev y71:Type:=Int×(List (Int×Int×List Int))
def StltoStreamS_0 (c0:xw1) (v0:y71):St:=⟨23,1,[(0,.c (.l 180 z8 c0)),(3,.c (.ref 0)),(4,cI v0.1)],[(0,.arr 205 z8 v0.2)]⟩
noncomputable def BltoStreamS_0 {R:Type} (k:Nat) (X0:y71→Option R) (c0:xw1) (rec:y71→Option R) (v0:y71):Option R:=if (decide (v0.1<(c0.length:Int)))=true then if 0≤v0.1 then ix c0 v0.1.toNat fun x1=>(FltoStream k x1).bind fun p2=>if 0≤v0.1 then if v0.1<(v0.2.length:Int) then ix v0.2 v0.1.toNat fun y3=>rec ((IntKind.i64.wrap (v0.1+1)),(v0.2.set v0.1.toNat p2)) else none else none else none else X0 v0
noncomputable def LltoStreamS_0 {R:Type} (k:Nat) (X0:y71→Option R) (c:xw1):Nat→y71→Option R
 | 0,_=>none
 | n+1,v=>BltoStreamS_0 k X0 c (LltoStreamS_0 k X0 c n) v
def YltoStreamS_0_0 {R:Type} (K:Ex→St→Option R) (c0:xw1) (v0:y71):Option R:=K (.exit 0) ⟨23,1,[(0,.c (.l 180 z8 c0)),(3,.c (.ref 0)),(4,cI v0.1),(8,cI v0.1),(9,.c (.l 180 z8 c0)),(10,cI (c0.length:Int)),(11,cB (decide (v0.1<(c0.length:Int))))],[(0,.arr 205 z8 v0.2)]⟩
theorem lltoStreamS_0 {R:Type} (k:Nat) (K:Ex→St→Option R) (c0:xw1):∀(n:Nat) (v:y71),z2 [0,0,3,4] (run E (den E k) (lv 67) k (j1 Tryz.f67 0)) n (StltoStreamS_0 c0 v) K=LltoStreamS_0 k (YltoStreamS_0_0 K c0) c0 n v:=j4 (B:=BltoStreamS_0 k (YltoStreamS_0_0 K c0) c0) (fun _=>rfl) (fun n v=>by kernel_rfl) (fun _=>rfl) (fun _ _=>rfl)
theorem mltoStreamS_0 (k:Nat) (a0:List (Int×Int×List Int)):FltoStreamS (k+1) a0=if ((a0.length:Int)==(a0.length:Int))=true then if 0≤(a0.length:Int) then if 40*(a0.length:Int).toNat≤281474976710656 then z2 (R:=List (Int×Int×List Int)) [0,0,3,4] (run E (den E k) (lv 67) k (j1 Tryz.f67 0)) k (StltoStreamS_0 a0 (0,(List.replicate (a0.length:Int).toNat ((0,0,[]):Int×Int×List Int)))) (zb E (den E k) (lv 67) k (yd Tryz.f67) 0 [] (zd E (rs 67) Tryz.f67:Ex→St→Option (List (Int×Int×List Int)))) else none else none else none:=by kernel_rfl
theorem eltoStreamS (k:Nat) (a0:List (Int×Int×List Int)):FltoStreamS (k+1) a0=if ((a0.length:Int)==(a0.length:Int))=true then if 0≤(a0.length:Int) then if 40*(a0.length:Int).toNat≤281474976710656 then LltoStreamS_0 k (fun (v0:Int×(List (Int×Int×List Int)))=>some v0.2) a0 k (0,(List.replicate (a0.length:Int).toNat ((0,0,[]):Int×Int×List Int))) else none else none else none:=by
 rw [mltoStreamS_0]
 simp only [lltoStreamS_0]
 kernel_rfl
noncomputable def FltoWorld (k:Nat) (a0:xp):Option xp:=den E k 12 [.agg (avs yz a0)]
theorem eltoWorld (k:Nat) (a0:xp):FltoWorld (k+1) a0=(FltoSky k a0.1).bind fun p1=>(FltoProgram k a0.2.1).bind fun p2=>(FltoLaw k a0.2.2.1).bind fun p3=>(jf1 k a0.2.2.2.1).bind fun p4=>(FltoBatteryS k a0.2.2.2.2.1).bind fun p5=>(FltoQueueS k a0.2.2.2.2.2.1).bind fun p6=>(FltoFlowS k a0.2.2.2.2.2.2.1).bind fun p7=>(jf1 k a0.2.2.2.2.2.2.2.1).bind fun p8=>(FltoStreamS k a0.2.2.2.2.2.2.2.2.1).bind fun p9=>(FltoFaultS k a0.2.2.2.2.2.2.2.2.2.1).bind fun p10=>(jq1 k a0.2.2.2.2.2.2.2.2.2.2.2.2.1).bind fun p11=>(FltoSentS k a0.2.2.2.2.2.2.2.2.2.2.2.2.2).bind fun p12=>some (p1,p2,p3,p4,p5,p6,p7,p8,p9,p10,a0.2.2.2.2.2.2.2.2.2.2.1,a0.2.2.2.2.2.2.2.2.2.2.2.1,p11,p12):=by kernel_rfl
noncomputable def FsIsSpan (k:Nat) (a0:I2):Option (Bool):=den E k 146 [.agg [vI a0.1,vI a0.2]]
theorem esIsSpan (k:Nat) (a0:I2):FsIsSpan (k+1) a0=if ((decide (a0.1≥0))==true)=true then if ((decide (a0.2≤1000))==true)=true then some (decide (a0.1<a0.2)) else some false else some false:=by kernel_rfl
noncomputable def FsInSpan (k:Nat) (a0:I2) (a1:Int):Option (Bool):=den E k 220 [.agg [vI a0.1,vI a0.2],cI a1]
theorem esInSpan (k:Nat) (a0:I2) (a1:Int):FsInSpan (k+1) a0 a1=(FsIsSpan k a0).bind fun p1=>if (p1==true)=true then if ((decide (a0.1≤a1))==true)=true then some (decide (a1<a0.2)) else some false else some false:=by kernel_rfl
noncomputable def Fsl31Now (k:Nat) (a0:I4) (a1:Int):Option (Bool):=den E k 266 [.agg (avs sI4 a0),cI a1]
theorem esl31Now (k:Nat) (a0:I4) (a1:Int):Fsl31Now (k+1) a0 a1=(FsInSpan k a0.2.2 a1).bind fun p1=>some p1:=by kernel_rfl
noncomputable def FsIsDown (k:Nat) (a0:List I4) (a1:Int) (a2:Int):Option (Bool):=den E k 196 [.c (.l 86 sI4 a0),cI a1,cI a2]
abbrev CsIsDown_0:Type:=(List I4)×Int×Int
abbrev ja1:Type:=Int
def StsIsDown_0 (c0:CsIsDown_0) (v0:ja1):St:=⟨37,0,[(0,.c (.l 86 sI4 c0.1)),(1,cI c0.2.1),(2,cI c0.2.2),(7,cI v0)],[]⟩
noncomputable def BsIsDown_0 {R:Type} (k:Nat) (X0:ja1→I4→I4→I4→Bool→Option R) (X1:ja1→Option R) (c0:CsIsDown_0) (rec:ja1→Option R) (v0:ja1):Option R:=if (decide (v0<(c0.1.length:Int)))=true then if 0≤v0 then ix c0.1 v0.toNat fun x1=>if ((x1.1==c0.2.1)==true)=true then if 0≤v0 then ix c0.1 v0.toNat fun x2=>if ((x2.2.1== -1)==true)=true then if 0≤v0 then ix c0.1 v0.toNat fun x3=>(Fsl31Now k x3 c0.2.2).bind fun p4=>if p4=true then X0 v0 x1 x2 x3 p4 else rec (IntKind.i64.wrap (v0+1)) else none else rec (IntKind.i64.wrap (v0+1)) else none else rec (IntKind.i64.wrap (v0+1)) else none else X1 v0
noncomputable def LsIsDown_0 {R:Type} (k:Nat) (X0:ja1→I4→I4→I4→Bool→Option R) (X1:ja1→Option R) (c:CsIsDown_0):Nat→ja1→Option R
 | 0,_=>none
 | n+1,v=>BsIsDown_0 k X0 X1 c (LsIsDown_0 k X0 X1 c n) v
def YsIsDown_0_0 {R:Type} (K:Ex→St→Option R) (c0:CsIsDown_0) (v0:ja1) (x1:I4) (x2:I4) (x3:I4) (p4:Bool):Option R:=K .ret ⟨37,0,[(0,.c (.l 86 sI4 c0.1)),(1,cI c0.2.1),(2,cI c0.2.2),(6,cB true),(7,cI v0),(8,cI v0),(9,.c (.l 86 sI4 c0.1)),(10,cI (c0.1.length:Int)),(11,cB (decide (v0<(c0.1.length:Int)))),(14,.c (.l 86 sI4 c0.1)),(15,cI v0),(16,.c (.at_ (avs sI4 x1))),(17,.c (.at_ (avs sI4 x1))),(18,cI x1.1),(19,cI c0.2.1),(20,cB (x1.1==c0.2.1)),(21,cB true),(22,.c (.l 86 sI4 c0.1)),(23,cI v0),(24,.c (.at_ (avs sI4 x2))),(25,.c (.at_ (avs sI3 x2.2))),(26,cI x2.2.1),(27,cB (x2.2.1== -1)),(28,cB (x2.2.1== -1)),(29,cB true),(30,.c (.l 86 sI4 c0.1)),(31,cI v0),(32,.c (.at_ (avs sI4 x3))),(33,.agg (avs sI4 x3)),(34,cI c0.2.2),(35,cB p4),(36,cB p4)],[]⟩
def YsIsDown_0_1 {R:Type} (K:Ex→St→Option R) (c0:CsIsDown_0) (v0:ja1):Option R:=K (.exit 0) ⟨37,0,[(0,.c (.l 86 sI4 c0.1)),(1,cI c0.2.1),(2,cI c0.2.2),(7,cI v0),(8,cI v0),(9,.c (.l 86 sI4 c0.1)),(10,cI (c0.1.length:Int)),(11,cB (decide (v0<(c0.1.length:Int))))],[]⟩
theorem lsIsDown_0 {R:Type} (k:Nat) (K:Ex→St→Option R) (c0:CsIsDown_0):∀(n:Nat) (v:ja1),z2 [0,0,1,2,7] (run E (den E k) (lv 196) k (j1 Tryz.f196 0)) n (StsIsDown_0 c0 v) K=LsIsDown_0 k (YsIsDown_0_0 K c0) (YsIsDown_0_1 K c0) c0 n v:=j4 (B:=BsIsDown_0 k (YsIsDown_0_0 K c0) (YsIsDown_0_1 K c0) c0) (fun _=>rfl) (fun n v=>by kernel_rfl) (fun _=>rfl) (fun _ _=>rfl)
theorem msIsDown_0 (k:Nat) (a0:List I4) (a1:Int) (a2:Int):FsIsDown (k+1) a0 a1 a2=z2 (R:=Bool) [0,0,1,2,7] (run E (den E k) (lv 196) k (j1 Tryz.f196 0)) k (StsIsDown_0 (a0,a1,a2) 0) (zb E (den E k) (lv 196) k (yd Tryz.f196) 0 [] (zd E (rs 196) Tryz.f196:Ex→St→Option (Bool))):=by kernel_rfl
theorem esIsDown (k:Nat) (a0:List I4) (a1:Int) (a2:Int):FsIsDown (k+1) a0 a1 a2=LsIsDown_0 k (fun (v0:Int) (x1:I4) (x2:I4) (x3:I4) (p4:Bool)=>some true) (fun (v0:Int)=>some false) (a0,a1,a2) k 0:=by
 rw [msIsDown_0]
 simp only [lsIsDown_0]
 kernel_rfl
noncomputable def wl (k:Nat) (a0:Int) (a1:Int) (a2:Int):Option (Bool):=den E k 55 [cI a0,cI a1,cI a2]
theorem esl1In (k:Nat) (a0:Int) (a1:Int) (a2:Int):wl (k+1) a0 a1 a2=if ((decide (a0≥a1))==true)=true then some (decide (a0≤a2)) else some false:=by kernel_rfl
noncomputable def Fsl22Rates (k:Nat) (a0:I6):Option (Bool):=den E k 249 [.agg (avs sI6 a0)]
theorem esl22Rates (k:Nat) (a0:I6):Fsl22Rates (k+1) a0=(wl k a0.2.2.2.1 0 100).bind fun p1=>if (p1==true)=true then (wl k a0.2.2.2.2.2 0 100).bind fun p2=>some p2 else some false:=by kernel_rfl
noncomputable def FsIsBattery (k:Nat) (a0:I6):Option (Bool):=den E k 152 [.agg (avs sI6 a0)]
theorem esIsBattery (k:Nat) (a0:I6):FsIsBattery (k+1) a0=(Fsl22Rates k a0).bind fun p1=>if (p1==true)=true then (wl k a0.2.2.2.2.1 0 100).bind fun p2=>if (p2==true)=true then (wl k a0.2.1 0 10000).bind fun p3=>if (p3==true)=true then (wl k a0.2.2.1 0 a0.2.1).bind fun p4=>if (p4==true)=true then (wl k a0.1 a0.2.2.1 a0.2.1).bind fun p5=>some p5 else some false else some false else some false else some false:=by kernel_rfl
noncomputable def FsMaySend (k:Nat) (a0:I6) (a1:Int):Option (Bool):=den E k 197 [.agg (avs sI6 a0),cI a1]
theorem esMaySend (k:Nat) (a0:I6) (a1:Int):FsMaySend (k+1) a0 a1=(FsIsBattery k a0).bind fun p1=>if (p1==true)=true then (wl k a1 0 10000).bind fun p2=>if (p2==true)=true then some (decide ((IntKind.i64.wrap (a0.1-a0.2.2.2.2.1))≥(IntKind.i64.wrap (a0.2.2.1+a1)))) else some false else some false:=by kernel_rfl
noncomputable def FsMod (k:Nat) (a0:Int) (a1:Int):Option (Int):=den E k 408 [cI a0,cI a1]
theorem esMod (k:Nat) (a0:Int) (a1:Int):FsMod (k+1) a0 a1=(wl k a1 1 1000000000000).bind fun p1=>if (!p1)=true then some 0 else if a1=0 then none else if a1=0 then none else some (((IntKind.i64.wrap (((a0).tmod a1)+a1))).tmod a1):=by kernel_rfl
noncomputable def wy (k:Nat) (a0:Int):Option (Int):=den E k 392 [cI a0]
theorem esAngleOf (k:Nat) (a0:Int):wy (k+1) a0=(FsMod k a0 360).bind fun p1=>some p1:=by kernel_rfl
noncomputable def FsMin (k:Nat) (a0:Int) (a1:Int):Option (Int):=den E k 98 [cI a0,cI a1]
theorem esMin (k:Nat) (a0:Int) (a1:Int):FsMin (k+1) a0 a1=if (decide (a1<a0))=true then some a1 else some a0:=by kernel_rfl
noncomputable def FsGapOf (k:Nat) (a0:Int) (a1:Int):Option (Int):=den E k 355 [cI a0,cI a1]
theorem esGapOf (k:Nat) (a0:Int) (a1:Int):FsGapOf (k+1) a0 a1=(wy k a0).bind fun p1=>(wy k a1).bind fun p2=>(wy k (IntKind.i64.wrap (p1-p2))).bind fun p3=>(FsMin k p3 (IntKind.i64.wrap (360-p3))).bind fun p4=>some p4:=by kernel_rfl
noncomputable def FsMiddleOf (k:Nat) (a0:I2):Option (Int):=den E k 356 [.agg [vI a0.1,vI a0.2]]
theorem esMiddleOf (k:Nat) (a0:I2):FsMiddleOf (k+1) a0=(wl k a0.2 0 359).bind fun p1=>if (!p1)=true then (wy k a0.1).bind fun p2=>some p2 else (wy k a0.1).bind fun p3=>(wy k (IntKind.i64.wrap (p3+(IntKind.i64.wrap ((a0.2).tdiv 2))))).bind fun p4=>some p4:=by kernel_rfl
noncomputable def FsNodesOf (k:Nat) (a0:TSky):Option (Int):=den E k 53 [.agg (avs sSky a0)]
noncomputable def FsIsSite (k:Nat) (a0:TSky) (a1:Int):Option (Bool):=den E k 155 [.agg (avs sSky a0),cI a1]
noncomputable def Fsl6Speed (k:Nat) (a0:Int):Option (Int):=den E k 407 [cI a0]
theorem esl6Speed (k:Nat) (a0:Int):Fsl6Speed (k+1) a0=(wl k a0 (-60) 60).bind fun p1=>if p1=true then some a0 else some 0:=by kernel_rfl
noncomputable def FsPlaceAt (k:Nat) (a0:I4) (a1:Int):Option (Int):=den E k 391 [.agg (avs sI4 a0),cI a1]
theorem esPlaceAt (k:Nat) (a0:I4) (a1:Int):FsPlaceAt (k+1) a0 a1=(wl k a1 0 1000).bind fun p1=>if (!p1)=true then (wy k a0.2.1).bind fun p2=>(Fsl6Speed k a0.2.2.1).bind fun p3=>(wy k (IntKind.i64.wrap (p2+(IntKind.i64.wrap (p3*0))))).bind fun p4=>some p4 else (wy k a0.2.1).bind fun p5=>(Fsl6Speed k a0.2.2.1).bind fun p6=>(wy k (IntKind.i64.wrap (p5+(IntKind.i64.wrap (p6*a1))))).bind fun p7=>some p7:=by kernel_rfl
noncomputable def FsWidenArc (k:Nat) (a0:I2) (a1:Int):Option I2:=den E k 406 [.agg [vI a0.1,vI a0.2],cI a1]
theorem esWidenArc (k:Nat) (a0:I2) (a1:Int):FsWidenArc (k+1) a0 a1=(wl k a1 0 360).bind fun p1=>if ((!p1)==false)=true then (wl k a0.2 0 359).bind fun p2=>if (!p2)=true then (wy k a0.1).bind fun p3=>some (p3,a0.2) else (wy k a0.1).bind fun p4=>(wy k (IntKind.i64.wrap (p4-a1))).bind fun p5=>(FsMin k 359 (IntKind.i64.wrap (a0.2+(IntKind.i64.wrap (2*a1))))).bind fun p6=>some (p5,p6) else (wy k a0.1).bind fun p7=>some (p7,a0.2):=by kernel_rfl
noncomputable def FsPlacesAt (k:Nat) (a0:I4) (a1:Int):Option I2:=den E k 390 [.agg (avs sI4 a0),cI a1]
theorem esPlacesAt (k:Nat) (a0:I4) (a1:Int):FsPlacesAt (k+1) a0 a1=(FsPlaceAt k a0 a1).bind fun p1=>(FsWidenArc k (p1,0) a0.2.2.2).bind fun p2=>some p2:=by kernel_rfl
noncomputable def FsNodeAt (k:Nat) (a0:TSky) (a1:Int) (a2:Int):Option I2:=den E k 354 [.agg (avs sSky a0),cI a1,cI a2]
theorem esNodeAt (k:Nat) (a0:TSky) (a1:Int) (a2:Int):FsNodeAt (k+1) a0 a1 a2=(wl k a1 0 (IntKind.i64.wrap ((a0.2.1.length:Int)-1))).bind fun p1=>if p1=true then if 0≤a1 then ix a0.2.1 a1.toNat fun x2=>(FsPlacesAt k x2 a2).bind fun p3=>some p3 else none else (FsIsSite k a0 a1).bind fun p4=>if (!p4)=true then some (0,0) else if 0≤(IntKind.i64.wrap (a1-(a0.2.1.length:Int))) then ix a0.2.2.1 ((IntKind.i64.wrap (a1-(a0.2.1.length:Int))).toNat) fun x5=>(FsPlaceAt k (0,x5.2.1,x5.2.2,0) a2).bind fun p6=>some (p6,0) else none:=by kernel_rfl
noncomputable def FsSunAt (k:Nat) (a0:TSky) (a1:Int):Option (Int):=den E k 357 [.agg (avs sSky a0),cI a1]
theorem esSunAt (k:Nat) (a0:TSky) (a1:Int):FsSunAt (k+1) a0 a1=(FsPlaceAt k (0,0,a0.2.2.2.2.2.2.1,0) a1).bind fun p1=>some p1:=by kernel_rfl
noncomputable def FsShadowAt (k:Nat) (a0:TSky) (a1:Int) (a2:Int):Option (Int):=den E k 288 [.agg (avs sSky a0),cI a1,cI a2]
theorem esShadowAt (k:Nat) (a0:TSky) (a1:Int) (a2:Int):FsShadowAt (k+1) a0 a1 a2=(wl k a1 0 (IntKind.i64.wrap ((a0.2.1.length:Int)-1))).bind fun p1=>if (!p1)=true then some 0 else (FsNodeAt k a0 a1 a2).bind fun p2=>(FsMiddleOf k p2).bind fun p3=>(FsSunAt k a0 a2).bind fun p4=>(FsGapOf k p3 (IntKind.i64.wrap (p4+180))).bind fun p5=>if (decide ((IntKind.i64.wrap (p5-(IntKind.i64.wrap ((p2.2).tdiv 2))))>a0.2.2.2.2.2.2.2.1))=true then some 0 else if (decide ((IntKind.i64.wrap (p5+(IntKind.i64.wrap ((p2.2).tdiv 2))))≤a0.2.2.2.2.2.2.2.1))=true then some 2 else some 1:=by kernel_rfl
noncomputable def Fsl4Put (k:Nat) (a0:List I2) (a1:Int):Option (List I2):=den E k 289 [.c (.l 183 sI2 a0),cI a1]
theorem esl4Put (k:Nat) (a0:List I2) (a1:Int):Fsl4Put (k+1) a0 a1=if ((decide ((a0.length:Int)>0))==true)=true then if 0≤(IntKind.i64.wrap ((a0.length:Int)-1)) then if (IntKind.i64.wrap ((a0.length:Int)-1))<(a0.length:Int) then ix a0 ((IntKind.i64.wrap ((a0.length:Int)-1)).toNat) fun x1=>if (x1.2==a1)=true then if 0≤(IntKind.i64.wrap ((a0.length:Int)-1)) then if (IntKind.i64.wrap ((a0.length:Int)-1))<(a0.length:Int) then ix a0 ((IntKind.i64.wrap ((a0.length:Int)-1)).toNat) fun y2=>some (a0.set ((IntKind.i64.wrap ((a0.length:Int)-1)).toNat) (y2.1,(IntKind.i64.wrap (a1+1)))) else none else none else if (a0.length+([(a1,(IntKind.i64.wrap (a1+1)))]).length)*16≤140737488355328 then some (a0++[(a1,(IntKind.i64.wrap (a1+1)))]) else none else none else none else if (a0.length+([(a1,(IntKind.i64.wrap (a1+1)))]).length)*16≤140737488355328 then some (a0++[(a1,(IntKind.i64.wrap (a1+1)))]) else none:=by kernel_rfl
noncomputable def FsMax (k:Nat) (a0:Int) (a1:Int):Option (Int):=den E k 219 [cI a0,cI a1]
theorem esMax (k:Nat) (a0:Int) (a1:Int):FsMax (k+1) a0 a1=if (decide (a1>a0))=true then some a1 else some a0:=by kernel_rfl
noncomputable def Fsl8Ticks (k:Nat) (a0:Int) (a1:Int):Option I2:=den E k 287 [cI a0,cI a1]
theorem esl8Ticks (k:Nat) (a0:Int) (a1:Int):Fsl8Ticks (k+1) a0 a1=(FsMax k 0 a0).bind fun p1=>(FsMin k 1000 p1).bind fun p2=>(FsMin k 1000 a1).bind fun p3=>(FsMax k 0 p3).bind fun p4=>some (p2,p4):=by kernel_rfl
noncomputable def FsLitSpans (k:Nat) (a0:TSky) (a1:Int) (a2:Int) (a3:Int):Option (List I2):=den E k 221 [.agg (avs sSky a0),cI a1,cI a2,cI a3]
abbrev CsLitSpans_0:Type:=Int×Int×TSky
abbrev ve1:Type:=Int×(List I2)
def StsLitSpans_0 (c0:CsLitSpans_0) (v0:ve1):St:=⟨35,2,[(1,cI c0.1),(4,cP 0),(9,.c (.ref 1)),(11,cI c0.2.1),(12,cI v0.1)],[(0,.var (avs sSky c0.2.2)),(1,.arr 183 sI2 v0.2)]⟩
noncomputable def BsLitSpans_0 {R:Type} (k:Nat) (X0:ve1→Option R) (c0:CsLitSpans_0) (rec:ve1→Option R) (v0:ve1):Option R:=if (decide (v0.1<c0.2.1))=true then (FsShadowAt k c0.2.2 c0.1 v0.1).bind fun p2=>if (p2==0)=true then (Fsl4Put k v0.2 v0.1).bind fun p3=>rec ((IntKind.i64.wrap (v0.1+1)),p3) else rec ((IntKind.i64.wrap (v0.1+1)),v0.2) else X0 v0
noncomputable def LsLitSpans_0 {R:Type} (k:Nat) (X0:ve1→Option R) (c:CsLitSpans_0):Nat→ve1→Option R
 | 0,_=>none
 | n+1,v=>BsLitSpans_0 k X0 c (LsLitSpans_0 k X0 c n) v
def YsLitSpans_0_0 {R:Type} (K:Ex→St→Option R) (c0:CsLitSpans_0) (v0:ve1):Option R:=K (.exit 0) ⟨35,2,[(1,cI c0.1),(4,cP 0),(9,.c (.ref 1)),(11,cI c0.2.1),(12,cI v0.1),(21,cI v0.1),(22,cI c0.2.1),(23,cB (decide (v0.1<c0.2.1)))],[(0,.var (avs sSky c0.2.2)),(1,.arr 183 sI2 v0.2)]⟩
theorem lsLitSpans_0 {R:Type} (k:Nat) (K:Ex→St→Option R) (c0:CsLitSpans_0):∀(n:Nat) (v:ve1),z2 [0,1,4,9,11,12] (run E (den E k) (lv 221) k (j1 Tryz.f221 0)) n (StsLitSpans_0 c0 v) K=LsLitSpans_0 k (YsLitSpans_0_0 K c0) c0 n v:=j4 (B:=BsLitSpans_0 k (YsLitSpans_0_0 K c0) c0) (fun _=>rfl) (fun n v=>by kernel_rfl) (fun _=>rfl) (fun _ _=>rfl)
theorem msLitSpans_0 (k:Nat) (a0:TSky) (a1:Int) (a2:Int) (a3:Int):FsLitSpans (k+1) a0 a1 a2 a3=(Fsl8Ticks k a2 a3).bind fun p1=>z2 (R:=List I2) [0,1,4,9,11,12] (run E (den E k) (lv 221) k (j1 Tryz.f221 0)) k (StsLitSpans_0 (a1,p1.2,a0) (p1.1,[])) (zb E (den E k) (lv 221) k (yd Tryz.f221) 0 [] (zd E (rs 221) Tryz.f221:Ex→St→Option (List I2))):=by kernel_rfl
theorem esLitSpans (k:Nat) (a0:TSky) (a1:Int) (a2:Int) (a3:Int):FsLitSpans (k+1) a0 a1 a2 a3=(Fsl8Ticks k a2 a3).bind fun p1=>LsLitSpans_0 k (fun (v0:Int×(List I2))=>some v0.2) (a1,p1.2,a0) k (p1.1,[]):=by
 rw [msLitSpans_0]
 simp only [lsLitSpans_0]
 kernel_rfl
noncomputable def FsLitOf (k:Nat) (a0:xp) (a1:Int):Option (List I2):=den E k 114 [.agg (avs y51 a0),cI a1]
theorem esLitOf (k:Nat) (a0:xp) (a1:Int):FsLitOf (k+1) a0 a1=(FsLitSpans k a0.1 a1 0 a0.2.2.2.2.2.2.2.2.2.2.2.1).bind fun p1=>some p1:=by kernel_rfl
noncomputable def FsInSpans (k:Nat) (a0:List I2) (a1:Int):Option (Bool):=den E k 113 [.c (.l 183 sI2 a0),cI a1]
abbrev CsInSpans_0:Type:=(List I2)×Int
abbrev y31:Type:=Int
def StsInSpans_0 (c0:CsInSpans_0) (v0:y31):St:=⟨18,0,[(0,.c (.l 183 sI2 c0.1)),(1,cI c0.2),(5,cI v0)],[]⟩
noncomputable def BsInSpans_0 {R:Type} (k:Nat) (X0:y31→I2→Bool→Option R) (X1:y31→Option R) (c0:CsInSpans_0) (rec:y31→Option R) (v0:y31):Option R:=if (decide (v0<(c0.1.length:Int)))=true then if 0≤v0 then ix c0.1 v0.toNat fun x1=>(FsInSpan k x1 c0.2).bind fun p2=>if p2=true then X0 v0 x1 p2 else rec (IntKind.i64.wrap (v0+1)) else none else X1 v0
noncomputable def LsInSpans_0 {R:Type} (k:Nat) (X0:y31→I2→Bool→Option R) (X1:y31→Option R) (c:CsInSpans_0):Nat→y31→Option R
 | 0,_=>none
 | n+1,v=>BsInSpans_0 k X0 X1 c (LsInSpans_0 k X0 X1 c n) v
def YsInSpans_0_0 {R:Type} (K:Ex→St→Option R) (c0:CsInSpans_0) (v0:y31) (x1:I2) (p2:Bool):Option R:=K .ret ⟨18,0,[(0,.c (.l 183 sI2 c0.1)),(1,cI c0.2),(4,cB true),(5,cI v0),(6,cI v0),(7,.c (.l 183 sI2 c0.1)),(8,cI (c0.1.length:Int)),(9,cB (decide (v0<(c0.1.length:Int)))),(12,.c (.l 183 sI2 c0.1)),(13,cI v0),(14,.c (.at_ [vI x1.1,vI x1.2])),(15,.agg [vI x1.1,vI x1.2]),(16,cI c0.2),(17,cB p2)],[]⟩
def YsInSpans_0_1 {R:Type} (K:Ex→St→Option R) (c0:CsInSpans_0) (v0:y31):Option R:=K (.exit 0) ⟨18,0,[(0,.c (.l 183 sI2 c0.1)),(1,cI c0.2),(5,cI v0),(6,cI v0),(7,.c (.l 183 sI2 c0.1)),(8,cI (c0.1.length:Int)),(9,cB (decide (v0<(c0.1.length:Int))))],[]⟩
theorem lsInSpans_0 {R:Type} (k:Nat) (K:Ex→St→Option R) (c0:CsInSpans_0):∀(n:Nat) (v:y31),z2 [0,0,1,5] (run E (den E k) (lv 113) k (j1 Tryz.f113 0)) n (StsInSpans_0 c0 v) K=LsInSpans_0 k (YsInSpans_0_0 K c0) (YsInSpans_0_1 K c0) c0 n v:=j4 (B:=BsInSpans_0 k (YsInSpans_0_0 K c0) (YsInSpans_0_1 K c0) c0) (fun _=>rfl) (fun n v=>by kernel_rfl) (fun _=>rfl) (fun _ _=>rfl)
theorem msInSpans_0 (k:Nat) (a0:List I2) (a1:Int):FsInSpans (k+1) a0 a1=z2 (R:=Bool) [0,0,1,5] (run E (den E k) (lv 113) k (j1 Tryz.f113 0)) k (StsInSpans_0 (a0,a1) 0) (zb E (den E k) (lv 113) k (yd Tryz.f113) 0 [] (zd E (rs 113) Tryz.f113:Ex→St→Option (Bool))):=by kernel_rfl
theorem esInSpans (k:Nat) (a0:List I2) (a1:Int):FsInSpans (k+1) a0 a1=LsInSpans_0 k (fun (v0:Int) (x1:I2) (p2:Bool)=>some true) (fun (v0:Int)=>some false) (a0,a1) k 0:=by
 rw [msInSpans_0]
 simp only [lsInSpans_0]
 kernel_rfl
noncomputable def FsNeedAt (k:Nat) (a0:I6) (a1:List I2) (a2:Int) (a3:Int):Option (Int):=den E k 153 [.agg (avs sI6 a0),.c (.l 183 sI2 a1),cI a2,cI a3]
abbrev CsNeedAt_0:Type:=(List I2)×Int×I6
abbrev wu1:Type:=Int×Int
def StsNeedAt_0 (c0:CsNeedAt_0) (v0:wu1):St:=⟨49,1,[(1,.c (.l 183 sI2 c0.1)),(2,cI c0.2.1),(4,cP 0),(9,cI v0.1),(10,cI v0.2)],[(0,.var (avs sI6 c0.2.2))]⟩
noncomputable def BsNeedAt_0 {R:Type} (k:Nat) (X0:wu1→Option R) (c0:CsNeedAt_0) (rec:wu1→Option R) (v0:wu1):Option R:=if (decide (v0.2≥c0.2.1))=true then (FsInSpans k c0.1 v0.2).bind fun p2=>if p2=true then (FsMax k 0 (IntKind.i64.wrap ((IntKind.i64.wrap (v0.1+c0.2.2.2.2.2.1))-c0.2.2.2.2.2.2.2))).bind fun p3=>rec (p3,(IntKind.i64.wrap (v0.2-1))) else (FsMax k 0 (IntKind.i64.wrap (v0.1+c0.2.2.2.2.2.1))).bind fun p4=>rec (p4,(IntKind.i64.wrap (v0.2-1))) else X0 v0
noncomputable def LsNeedAt_0 {R:Type} (k:Nat) (X0:wu1→Option R) (c:CsNeedAt_0):Nat→wu1→Option R
 | 0,_=>none
 | n+1,v=>BsNeedAt_0 k X0 c (LsNeedAt_0 k X0 c n) v
def YsNeedAt_0_0 {R:Type} (K:Ex→St→Option R) (c0:CsNeedAt_0) (v0:wu1):Option R:=K (.exit 0) ⟨49,1,[(1,.c (.l 183 sI2 c0.1)),(2,cI c0.2.1),(4,cP 0),(9,cI v0.1),(10,cI v0.2),(30,cI v0.2),(31,cI c0.2.1),(32,cB (decide (v0.2≥c0.2.1)))],[(0,.var (avs sI6 c0.2.2))]⟩
theorem lsNeedAt_0 {R:Type} (k:Nat) (K:Ex→St→Option R) (c0:CsNeedAt_0):∀(n:Nat) (v:wu1),z2 [0,1,2,4,9,10] (run E (den E k) (lv 153) k (j1 Tryz.f153 0)) n (StsNeedAt_0 c0 v) K=LsNeedAt_0 k (YsNeedAt_0_0 K c0) c0 n v:=j4 (B:=BsNeedAt_0 k (YsNeedAt_0_0 K c0) c0) (fun _=>rfl) (fun n v=>by kernel_rfl) (fun _=>rfl) (fun _ _=>rfl)
theorem msNeedAt_0 (k:Nat) (a0:I6) (a1:List I2) (a2:Int) (a3:Int):FsNeedAt (k+1) a0 a1 a2 a3=(Fsl22Rates k a0).bind fun p1=>if ((!p1)==false)=true then if ((decide (a2<0))==false)=true then if ((decide (a3>1000))==false)=true then if (decide (a3≤a2))=true then some 0 else z2 (R:=Int) [0,1,2,4,9,10] (run E (den E k) (lv 153) k (j1 Tryz.f153 0)) k (StsNeedAt_0 (a1,a2,a0) (0,(IntKind.i64.wrap (a3-1)))) (zb E (den E k) (lv 153) k (yd Tryz.f153) 0 [] (zd E (rs 153) Tryz.f153:Ex→St→Option (Int))) else some 0 else some 0 else some 0:=by kernel_rfl
theorem esNeedAt (k:Nat) (a0:I6) (a1:List I2) (a2:Int) (a3:Int):FsNeedAt (k+1) a0 a1 a2 a3=(Fsl22Rates k a0).bind fun p1=>if ((!p1)==false)=true then if ((decide (a2<0))==false)=true then if ((decide (a3>1000))==false)=true then if (decide (a3≤a2))=true then some 0 else LsNeedAt_0 k (fun (v0:I2)=>some v0.1) (a1,a2,a0) k (0,(IntKind.i64.wrap (a3-1))) else some 0 else some 0 else some 0:=by
 rw [msNeedAt_0]
 simp only [lsNeedAt_0]
 kernel_rfl
noncomputable def FsNeedNow (k:Nat) (a0:xp) (a1:Int):Option (Int):=den E k 198 [.agg (avs y51 a0),cI a1]
theorem esNeedNow (k:Nat) (a0:xp) (a1:Int):FsNeedNow (k+1) a0 a1=(wl k a1 0 (IntKind.i64.wrap ((a0.2.2.2.2.1.length:Int)-1))).bind fun p1=>if (!p1)=true then some 0 else if 0≤a1 then ix a0.2.2.2.2.1 a1.toNat fun x2=>(FsLitOf k a0 a1).bind fun p3=>(FsNeedAt k x2 p3 a0.2.2.2.2.2.2.2.2.2.2.1 a0.2.2.2.2.2.2.2.2.2.2.2.1).bind fun p4=>some p4 else none:=by kernel_rfl
noncomputable def FsCanSend (k:Nat) (a0:xp) (a1:Int):Option (Bool):=den E k 91 [.agg (avs y51 a0),cI a1]
theorem esCanSend (k:Nat) (a0:xp) (a1:Int):FsCanSend (k+1) a0 a1=if ((decide (a1<0))==false)=true then if ((decide (a1≥a0.2.1.1))==false)=true then (FsIsDown k a0.2.2.2.2.2.2.2.2.2.1 a1 a0.2.2.2.2.2.2.2.2.2.2.1).bind fun p1=>if p1=true then some false else if (decide (a1≥a0.2.1.2.1))=true then some true else if ((decide (a1<(a0.2.2.2.2.1.length:Int)))==true)=true then if 0≤a1 then ix a0.2.2.2.2.1 a1.toNat fun x2=>(FsNeedNow k a0 a1).bind fun p3=>(FsMaySend k x2 p3).bind fun p4=>some p4 else none else some false else some false else some false:=by kernel_rfl
noncomputable def FsIsCut (k:Nat) (a0:List I4) (a1:Int) (a2:Int) (a3:Int):Option (Bool):=den E k 340 [.c (.l 86 sI4 a0),cI a1,cI a2,cI a3]
abbrev CsIsCut_0:Type:=(List I4)×Int×Int×Int
abbrev zw:Type:=Int
def StsIsCut_0 (c0:CsIsCut_0) (v0:zw):St:=⟨68,0,[(0,.c (.l 86 sI4 c0.1)),(1,cI c0.2.1),(2,cI c0.2.2.1),(3,cI c0.2.2.2),(9,cI v0)],[]⟩
noncomputable def BsIsCut_0 {R:Type} (k:Nat) (X0:zw→I4→I4→I4→I4→I4→Bool→Option R) (X1:zw→I4→I4→I4→Bool→Option R) (X2:zw→I4→I4→I4→I4→Bool→Option R) (X3:zw→Option R) (c0:CsIsCut_0) (rec:zw→Option R) (v0:zw):Option R:=if (decide (v0<(c0.1.length:Int)))=true then if 0≤v0 then ix c0.1 v0.toNat fun x1=>if ((x1.1==c0.2.1)==true)=true then if 0≤v0 then ix c0.1 v0.toNat fun x2=>if ((x2.2.1==c0.2.2.1)==false)=true then if 0≤v0 then ix c0.1 v0.toNat fun x3=>if ((x3.1==c0.2.2.1)==true)=true then if 0≤v0 then ix c0.1 v0.toNat fun x4=>if ((x4.2.1==c0.2.1)==true)=true then if 0≤v0 then ix c0.1 v0.toNat fun x5=>(Fsl31Now k x5 c0.2.2.2).bind fun p6=>if p6=true then X0 v0 x1 x2 x3 x4 x5 p6 else rec (IntKind.i64.wrap (v0+1)) else none else rec (IntKind.i64.wrap (v0+1)) else none else rec (IntKind.i64.wrap (v0+1)) else none else if 0≤v0 then ix c0.1 v0.toNat fun x7=>(Fsl31Now k x7 c0.2.2.2).bind fun p8=>if p8=true then X1 v0 x1 x2 x7 p8 else rec (IntKind.i64.wrap (v0+1)) else none else none else if 0≤v0 then ix c0.1 v0.toNat fun x9=>if ((x9.1==c0.2.2.1)==true)=true then if 0≤v0 then ix c0.1 v0.toNat fun x10=>if ((x10.2.1==c0.2.1)==true)=true then if 0≤v0 then ix c0.1 v0.toNat fun x11=>(Fsl31Now k x11 c0.2.2.2).bind fun p12=>if p12=true then X2 v0 x1 x9 x10 x11 p12 else rec (IntKind.i64.wrap (v0+1)) else none else rec (IntKind.i64.wrap (v0+1)) else none else rec (IntKind.i64.wrap (v0+1)) else none else none else X3 v0
noncomputable def LsIsCut_0 {R:Type} (k:Nat) (X0:zw→I4→I4→I4→I4→I4→Bool→Option R) (X1:zw→I4→I4→I4→Bool→Option R) (X2:zw→I4→I4→I4→I4→Bool→Option R) (X3:zw→Option R) (c:CsIsCut_0):Nat→zw→Option R
 | 0,_=>none
 | n+1,v=>BsIsCut_0 k X0 X1 X2 X3 c (LsIsCut_0 k X0 X1 X2 X3 c n) v
def YsIsCut_0_0 {R:Type} (K:Ex→St→Option R) (c0:CsIsCut_0) (v0:zw) (x1:I4) (x2:I4) (x3:I4) (x4:I4) (x5:I4) (p6:Bool):Option R:=K .ret ⟨68,0,[(0,.c (.l 86 sI4 c0.1)),(1,cI c0.2.1),(2,cI c0.2.2.1),(3,cI c0.2.2.2),(8,cB true),(9,cI v0),(10,cI v0),(11,.c (.l 86 sI4 c0.1)),(12,cI (c0.1.length:Int)),(13,cB (decide (v0<(c0.1.length:Int)))),(16,.c (.l 86 sI4 c0.1)),(17,cI v0),(18,.c (.at_ (avs sI4 x1))),(19,.c (.at_ (avs sI4 x1))),(20,cI x1.1),(21,cI c0.2.1),(22,cB (x1.1==c0.2.1)),(23,cB true),(24,.c (.l 86 sI4 c0.1)),(25,cI v0),(26,.c (.at_ (avs sI4 x2))),(27,.c (.at_ (avs sI3 x2.2))),(28,cI x2.2.1),(29,cI c0.2.2.1),(30,cB (x2.2.1==c0.2.2.1)),(31,cB (x2.2.1==c0.2.2.1)),(32,cB false),(33,.c (.l 86 sI4 c0.1)),(34,cI v0),(35,.c (.at_ (avs sI4 x3))),(36,.c (.at_ (avs sI4 x3))),(37,cI x3.1),(38,cI c0.2.2.1),(39,cB (x3.1==c0.2.2.1)),(40,cB true),(41,.c (.l 86 sI4 c0.1)),(42,cI v0),(43,.c (.at_ (avs sI4 x4))),(44,.c (.at_ (avs sI3 x4.2))),(45,cI x4.2.1),(46,cI c0.2.1),(47,cB (x4.2.1==c0.2.1)),(48,cB (x4.2.1==c0.2.1)),(49,cB (x4.2.1==c0.2.1)),(50,cB true),(51,.c (.l 86 sI4 c0.1)),(52,cI v0),(53,.c (.at_ (avs sI4 x5))),(54,.agg (avs sI4 x5)),(55,cI c0.2.2.2),(56,cB p6),(57,cB p6)],[]⟩
def YsIsCut_0_1 {R:Type} (K:Ex→St→Option R) (c0:CsIsCut_0) (v0:zw) (x1:I4) (x2:I4) (x7:I4) (p8:Bool):Option R:=K .ret ⟨68,0,[(0,.c (.l 86 sI4 c0.1)),(1,cI c0.2.1),(2,cI c0.2.2.1),(3,cI c0.2.2.2),(8,cB true),(9,cI v0),(10,cI v0),(11,.c (.l 86 sI4 c0.1)),(12,cI (c0.1.length:Int)),(13,cB (decide (v0<(c0.1.length:Int)))),(16,.c (.l 86 sI4 c0.1)),(17,cI v0),(18,.c (.at_ (avs sI4 x1))),(19,.c (.at_ (avs sI4 x1))),(20,cI x1.1),(21,cI c0.2.1),(22,cB (x1.1==c0.2.1)),(23,cB true),(24,.c (.l 86 sI4 c0.1)),(25,cI v0),(26,.c (.at_ (avs sI4 x2))),(27,.c (.at_ (avs sI3 x2.2))),(28,cI x2.2.1),(29,cI c0.2.2.1),(30,cB (x2.2.1==c0.2.2.1)),(31,cB (x2.2.1==c0.2.2.1)),(32,cB true),(33,.tup []),(34,.tup []),(35,.tup []),(36,.tup []),(37,.tup []),(38,.tup []),(39,.tup []),(40,.tup []),(41,.tup []),(42,.tup []),(43,.tup []),(44,.tup []),(45,.tup []),(46,.tup []),(47,.tup []),(48,.tup []),(49,cB true),(50,cB true),(51,.c (.l 86 sI4 c0.1)),(52,cI v0),(53,.c (.at_ (avs sI4 x7))),(54,.agg (avs sI4 x7)),(55,cI c0.2.2.2),(56,cB p8),(57,cB p8)],[]⟩
def YsIsCut_0_2 {R:Type} (K:Ex→St→Option R) (c0:CsIsCut_0) (v0:zw) (x1:I4) (x9:I4) (x10:I4) (x11:I4) (p12:Bool):Option R:=K .ret ⟨68,0,[(0,.c (.l 86 sI4 c0.1)),(1,cI c0.2.1),(2,cI c0.2.2.1),(3,cI c0.2.2.2),(8,cB true),(9,cI v0),(10,cI v0),(11,.c (.l 86 sI4 c0.1)),(12,cI (c0.1.length:Int)),(13,cB (decide (v0<(c0.1.length:Int)))),(16,.c (.l 86 sI4 c0.1)),(17,cI v0),(18,.c (.at_ (avs sI4 x1))),(19,.c (.at_ (avs sI4 x1))),(20,cI x1.1),(21,cI c0.2.1),(22,cB (x1.1==c0.2.1)),(23,cB false),(24,.tup []),(25,.tup []),(26,.tup []),(27,.tup []),(28,.tup []),(29,.tup []),(30,.tup []),(31,cB false),(32,cB false),(33,.c (.l 86 sI4 c0.1)),(34,cI v0),(35,.c (.at_ (avs sI4 x9))),(36,.c (.at_ (avs sI4 x9))),(37,cI x9.1),(38,cI c0.2.2.1),(39,cB (x9.1==c0.2.2.1)),(40,cB true),(41,.c (.l 86 sI4 c0.1)),(42,cI v0),(43,.c (.at_ (avs sI4 x10))),(44,.c (.at_ (avs sI3 x10.2))),(45,cI x10.2.1),(46,cI c0.2.1),(47,cB (x10.2.1==c0.2.1)),(48,cB (x10.2.1==c0.2.1)),(49,cB (x10.2.1==c0.2.1)),(50,cB true),(51,.c (.l 86 sI4 c0.1)),(52,cI v0),(53,.c (.at_ (avs sI4 x11))),(54,.agg (avs sI4 x11)),(55,cI c0.2.2.2),(56,cB p12),(57,cB p12)],[]⟩
def YsIsCut_0_3 {R:Type} (K:Ex→St→Option R) (c0:CsIsCut_0) (v0:zw):Option R:=K (.exit 0) ⟨68,0,[(0,.c (.l 86 sI4 c0.1)),(1,cI c0.2.1),(2,cI c0.2.2.1),(3,cI c0.2.2.2),(9,cI v0),(10,cI v0),(11,.c (.l 86 sI4 c0.1)),(12,cI (c0.1.length:Int)),(13,cB (decide (v0<(c0.1.length:Int))))],[]⟩
theorem lsIsCut_0 {R:Type} (k:Nat) (K:Ex→St→Option R) (c0:CsIsCut_0):∀(n:Nat) (v:zw),z2 [0,0,1,2,3,9] (run E (den E k) (lv 340) k (j1 Tryz.f340 0)) n (StsIsCut_0 c0 v) K=LsIsCut_0 k (YsIsCut_0_0 K c0) (YsIsCut_0_1 K c0) (YsIsCut_0_2 K c0) (YsIsCut_0_3 K c0) c0 n v:=j4 (B:=BsIsCut_0 k (YsIsCut_0_0 K c0) (YsIsCut_0_1 K c0) (YsIsCut_0_2 K c0) (YsIsCut_0_3 K c0) c0) (fun _=>rfl) (fun n v=>by kernel_rfl) (fun _=>rfl) (fun _ _=>rfl)
theorem msIsCut_0 (k:Nat) (a0:List I4) (a1:Int) (a2:Int) (a3:Int):FsIsCut (k+1) a0 a1 a2 a3=z2 (R:=Bool) [0,0,1,2,3,9] (run E (den E k) (lv 340) k (j1 Tryz.f340 0)) k (StsIsCut_0 (a0,a1,a2,a3) 0) (zb E (den E k) (lv 340) k (yd Tryz.f340) 0 [] (zd E (rs 340) Tryz.f340:Ex→St→Option (Bool))):=by kernel_rfl
theorem esIsCut (k:Nat) (a0:List I4) (a1:Int) (a2:Int) (a3:Int):FsIsCut (k+1) a0 a1 a2 a3=LsIsCut_0 k (fun (v0:Int) (x1:I4) (x2:I4) (x3:I4) (x4:I4) (x5:I4) (p6:Bool)=>some true) (fun (v0:Int) (x1:I4) (x2:I4) (x7:I4) (p8:Bool)=>some true) (fun (v0:Int) (x1:I4) (x9:I4) (x10:I4) (x11:I4) (p12:Bool)=>some true) (fun (v0:Int)=>(FsIsDown k a0 a1 a3).bind fun p1=>if (p1==false)=true then (FsIsDown k a0 a2 a3).bind fun p2=>some p2 else some true) (a0,a1,a2,a3) k 0:=by
 rw [msIsCut_0]
 simp only [lsIsCut_0]
 kernel_rfl
noncomputable def FsDeadFor (k:Nat) (a0:List I4) (a1:Int) (a2:Int) (a3:Int):Option (List Int):=den E k 273 [.c (.l 86 sI4 a0),cI a1,cI a2,cI a3]
abbrev CsDeadFor_0:Type:=(List I4)×Int×Int×Int
abbrev wj1:Type:=Int×(List Int)
def StsDeadFor_0 (c0:CsDeadFor_0) (v0:wj1):St:=⟨36,1,[(0,.c (.l 86 sI4 c0.1)),(1,cI c0.2.1),(2,cI c0.2.2.1),(3,cI c0.2.2.2),(9,.c (.ref 0)),(10,cI v0.1)],[(0,.arr 3 (.i .i64) v0.2)]⟩
noncomputable def BsDeadFor_0 {R:Type} (k:Nat) (X0:wj1→Option R) (c0:CsDeadFor_0) (rec:wj1→Option R) (v0:wj1):Option R:=if (decide (v0.1<c0.2.2.2))=true then if ((v0.1 !=c0.2.1)==true)=true then (FsIsCut k c0.1 c0.2.1 v0.1 c0.2.2.1).bind fun p2=>if p2=true then if (v0.2.length+([v0.1]).length)*8≤140737488355328 then rec ((IntKind.i64.wrap (v0.1+1)),(v0.2++[v0.1])) else none else rec ((IntKind.i64.wrap (v0.1+1)),v0.2) else rec ((IntKind.i64.wrap (v0.1+1)),v0.2) else X0 v0
noncomputable def LsDeadFor_0 {R:Type} (k:Nat) (X0:wj1→Option R) (c:CsDeadFor_0):Nat→wj1→Option R
 | 0,_=>none
 | n+1,v=>BsDeadFor_0 k X0 c (LsDeadFor_0 k X0 c n) v
def YsDeadFor_0_0 {R:Type} (K:Ex→St→Option R) (c0:CsDeadFor_0) (v0:wj1):Option R:=K (.exit 0) ⟨36,1,[(0,.c (.l 86 sI4 c0.1)),(1,cI c0.2.1),(2,cI c0.2.2.1),(3,cI c0.2.2.2),(9,.c (.ref 0)),(10,cI v0.1),(16,cI v0.1),(17,cI c0.2.2.2),(18,cB (decide (v0.1<c0.2.2.2)))],[(0,.arr 3 (.i .i64) v0.2)]⟩
theorem lsDeadFor_0 {R:Type} (k:Nat) (K:Ex→St→Option R) (c0:CsDeadFor_0):∀(n:Nat) (v:wj1),z2 [0,0,1,2,3,9,10] (run E (den E k) (lv 273) k (j1 Tryz.f273 0)) n (StsDeadFor_0 c0 v) K=LsDeadFor_0 k (YsDeadFor_0_0 K c0) c0 n v:=j4 (B:=BsDeadFor_0 k (YsDeadFor_0_0 K c0) c0) (fun _=>rfl) (fun n v=>by kernel_rfl) (fun _=>rfl) (fun _ _=>rfl)
theorem msDeadFor_0 (k:Nat) (a0:List I4) (a1:Int) (a2:Int) (a3:Int):FsDeadFor (k+1) a0 a1 a2 a3=(wl k a3 1 12).bind fun p1=>if (!p1)=true then some ([]) else z2 (R:=List Int) [0,0,1,2,3,9,10] (run E (den E k) (lv 273) k (j1 Tryz.f273 0)) k (StsDeadFor_0 (a0,a1,a2,a3) (0,[])) (zb E (den E k) (lv 273) k (yd Tryz.f273) 0 [] (zd E (rs 273) Tryz.f273:Ex→St→Option (List Int))):=by kernel_rfl
theorem esDeadFor (k:Nat) (a0:List I4) (a1:Int) (a2:Int) (a3:Int):FsDeadFor (k+1) a0 a1 a2 a3=(wl k a3 1 12).bind fun p1=>if (!p1)=true then some ([]) else LsDeadFor_0 k (fun (v0:Int×(List Int))=>some v0.2) (a0,a1,a2,a3) k (0,[]):=by
 rw [msDeadFor_0]
 simp only [lsDeadFor_0]
 kernel_rfl
noncomputable def FsDeadNow (k:Nat) (a0:xp) (a1:Int):Option (List Int):=den E k 200 [.agg (avs y51 a0),cI a1]
theorem esDeadNow (k:Nat) (a0:xp) (a1:Int):FsDeadNow (k+1) a0 a1=(FsDeadFor k a0.2.2.2.2.2.2.2.2.2.1 a1 a0.2.2.2.2.2.2.2.2.2.2.1 a0.2.1.1).bind fun p1=>some p1:=by kernel_rfl
noncomputable def FsHasLink (k:Nat) (a0:j2) (a1:Int) (a2:Int) (a3:Int):Option (Bool):=den E k 341 [.agg (avs z7 a0),cI a1,cI a2,cI a3]
abbrev zs1:Type:=Int×Int×(List I2)
abbrev vq:Type:=Int
def StsHasLink_0 (c0:zs1) (v0:vq):St:=⟨48,0,[(2,cI c0.1),(3,cI c0.2.1),(9,.c (.l 348 sI2 c0.2.2)),(10,cI v0)],[]⟩
noncomputable def BsHasLink_0 {R:Type} (k:Nat) (X0:vq→I2→I2→Option R) (X1:vq→I2→Option R) (X2:vq→Option R) (c0:zs1) (rec:vq→Option R) (v0:vq):Option R:=if (decide (v0<(c0.2.2.length:Int)))=true then if 0≤v0 then ix c0.2.2 v0.toNat fun x3=>if ((eqT sI2 x3 (c0.1,c0.2.1))==false)=true then if 0≤v0 then ix c0.2.2 v0.toNat fun x4=>if (eqT sI2 x4 (c0.2.1,c0.1))=true then X0 v0 x3 x4 else rec (IntKind.i64.wrap (v0+1)) else none else X1 v0 x3 else none else X2 v0
noncomputable def LsHasLink_0 {R:Type} (k:Nat) (X0:vq→I2→I2→Option R) (X1:vq→I2→Option R) (X2:vq→Option R) (c:zs1):Nat→vq→Option R
 | 0,_=>none
 | n+1,v=>BsHasLink_0 k X0 X1 X2 c (LsHasLink_0 k X0 X1 X2 c n) v
def YsHasLink_0_0 {R:Type} (K:Ex→St→Option R) (c0:zs1) (v0:vq) (x3:I2) (x4:I2):Option R:=K .ret ⟨48,0,[(2,cI c0.1),(3,cI c0.2.1),(8,cB true),(9,.c (.l 348 sI2 c0.2.2)),(10,cI v0),(24,cI v0),(25,.c (.l 348 sI2 c0.2.2)),(26,cI (c0.2.2.length:Int)),(27,cB (decide (v0<(c0.2.2.length:Int)))),(30,.c (.l 348 sI2 c0.2.2)),(31,cI v0),(32,.c (.at_ [vI x3.1,vI x3.2])),(33,.agg [vI x3.1,vI x3.2]),(34,cI c0.1),(35,cI c0.2.1),(36,.agg [vI c0.1,vI c0.2.1]),(37,cB (eqT sI2 x3 (c0.1,c0.2.1))),(38,cB false),(39,.c (.l 348 sI2 c0.2.2)),(40,cI v0),(41,.c (.at_ [vI x4.1,vI x4.2])),(42,.agg [vI x4.1,vI x4.2]),(43,cI c0.2.1),(44,cI c0.1),(45,.agg [vI c0.2.1,vI c0.1]),(46,cB (eqT sI2 x4 (c0.2.1,c0.1))),(47,cB (eqT sI2 x4 (c0.2.1,c0.1)))],[]⟩
def YsHasLink_0_1 {R:Type} (K:Ex→St→Option R) (c0:zs1) (v0:vq) (x3:I2):Option R:=K .ret ⟨48,0,[(2,cI c0.1),(3,cI c0.2.1),(8,cB true),(9,.c (.l 348 sI2 c0.2.2)),(10,cI v0),(24,cI v0),(25,.c (.l 348 sI2 c0.2.2)),(26,cI (c0.2.2.length:Int)),(27,cB (decide (v0<(c0.2.2.length:Int)))),(30,.c (.l 348 sI2 c0.2.2)),(31,cI v0),(32,.c (.at_ [vI x3.1,vI x3.2])),(33,.agg [vI x3.1,vI x3.2]),(34,cI c0.1),(35,cI c0.2.1),(36,.agg [vI c0.1,vI c0.2.1]),(37,cB (eqT sI2 x3 (c0.1,c0.2.1))),(38,cB true),(39,.tup []),(40,.tup []),(41,.tup []),(42,.tup []),(43,.tup []),(44,.tup []),(45,.tup []),(46,.tup []),(47,cB true)],[]⟩
def YsHasLink_0_2 {R:Type} (K:Ex→St→Option R) (c0:zs1) (v0:vq):Option R:=K (.exit 0) ⟨48,0,[(2,cI c0.1),(3,cI c0.2.1),(9,.c (.l 348 sI2 c0.2.2)),(10,cI v0),(24,cI v0),(25,.c (.l 348 sI2 c0.2.2)),(26,cI (c0.2.2.length:Int)),(27,cB (decide (v0<(c0.2.2.length:Int))))],[]⟩
theorem lsHasLink_0 {R:Type} (k:Nat) (K:Ex→St→Option R) (c0:zs1):∀(n:Nat) (v:vq),z2 [0,2,3,9,10] (run E (den E k) (lv 341) k (j1 Tryz.f341 0)) n (StsHasLink_0 c0 v) K=LsHasLink_0 k (YsHasLink_0_0 K c0) (YsHasLink_0_1 K c0) (YsHasLink_0_2 K c0) c0 n v:=j4 (B:=BsHasLink_0 k (YsHasLink_0_0 K c0) (YsHasLink_0_1 K c0) (YsHasLink_0_2 K c0) c0) (fun _=>rfl) (fun n v=>by kernel_rfl) (fun _=>rfl) (fun _ _=>rfl)
theorem msHasLink_0 (k:Nat) (a0:j2) (a1:Int) (a2:Int) (a3:Int):FsHasLink (k+1) a0 a1 a2 a3=(wl k a1 0 (IntKind.i64.wrap ((a0.2.2.2.length:Int)-1))).bind fun p1=>if (!p1)=true then some false else if 0≤a1 then ix a0.2.2.2 a1.toNat fun x2=>z2 (R:=Bool) [0,2,3,9,10] (run E (den E k) (lv 341) k (j1 Tryz.f341 0)) k (StsHasLink_0 (a2,a3,x2.2.1) 0) (zb E (den E k) (lv 341) k (yd Tryz.f341) 0 [] (zd E (rs 341) Tryz.f341:Ex→St→Option (Bool))) else none:=by kernel_rfl
theorem esHasLink (k:Nat) (a0:j2) (a1:Int) (a2:Int) (a3:Int):FsHasLink (k+1) a0 a1 a2 a3=(wl k a1 0 (IntKind.i64.wrap ((a0.2.2.2.length:Int)-1))).bind fun p1=>if (!p1)=true then some false else if 0≤a1 then ix a0.2.2.2 a1.toNat fun x2=>LsHasLink_0 k (fun (v0:Int) (x3:I2) (x4:I2)=>some true) (fun (v0:Int) (x3:I2)=>some true) (fun (v0:Int)=>some false) (a2,a3,x2.2.1) k 0 else none:=by
 rw [msHasLink_0]
 simp only [lsHasLink_0]
 kernel_rfl
noncomputable def FsPieceAt (k:Nat) (a0:j2) (a1:Int):Option (Int):=den E k 269 [.agg (avs z7 a0),cI a1]
abbrev CsPieceAt_0:Type:=Int×j2
abbrev w31:Type:=Int
def StsPieceAt_0 (c0:CsPieceAt_0) (v0:w31):St:=⟨22,1,[(1,cI c0.1),(2,cP 0),(5,cI v0)],[(0,.var (avs z7 c0.2))]⟩
noncomputable def BsPieceAt_0 {R:Type} (k:Nat) (X0:w31→zf→Bool→Option R) (X1:w31→Option R) (c0:CsPieceAt_0) (rec:w31→Option R) (v0:w31):Option R:=if (decide (v0<(c0.2.2.2.2.length:Int)))=true then if 0≤v0 then ix c0.2.2.2.2 v0.toNat fun x1=>(FsInSpan k x1.1 c0.1).bind fun p2=>if p2=true then X0 v0 x1 p2 else rec (IntKind.i64.wrap (v0+1)) else none else X1 v0
noncomputable def LsPieceAt_0 {R:Type} (k:Nat) (X0:w31→zf→Bool→Option R) (X1:w31→Option R) (c:CsPieceAt_0):Nat→w31→Option R
 | 0,_=>none
 | n+1,v=>BsPieceAt_0 k X0 X1 c (LsPieceAt_0 k X0 X1 c n) v
def YsPieceAt_0_0 {R:Type} (K:Ex→St→Option R) (c0:CsPieceAt_0) (v0:w31) (x1:zf) (p2:Bool):Option R:=K .ret ⟨22,1,[(1,cI c0.1),(2,cP 0),(4,cI v0),(5,cI v0),(6,cI v0),(7,.c (.ptr 0 3)),(8,.c (.l 198 wk c0.2.2.2.2)),(9,cI (c0.2.2.2.2.length:Int)),(10,cB (decide (v0<(c0.2.2.2.2.length:Int)))),(13,.c (.ptr 0 3)),(14,.c (.l 198 wk c0.2.2.2.2)),(15,cI v0),(16,.c (.at_ (avs wk x1))),(17,.c (.at_ (avs wk x1))),(18,.agg [vI x1.1.1,vI x1.1.2]),(19,cI c0.1),(20,cB p2),(21,cI v0)],[(0,.var (avs z7 c0.2))]⟩
def YsPieceAt_0_1 {R:Type} (K:Ex→St→Option R) (c0:CsPieceAt_0) (v0:w31):Option R:=K (.exit 0) ⟨22,1,[(1,cI c0.1),(2,cP 0),(5,cI v0),(6,cI v0),(7,.c (.ptr 0 3)),(8,.c (.l 198 wk c0.2.2.2.2)),(9,cI (c0.2.2.2.2.length:Int)),(10,cB (decide (v0<(c0.2.2.2.2.length:Int))))],[(0,.var (avs z7 c0.2))]⟩
theorem lsPieceAt_0 {R:Type} (k:Nat) (K:Ex→St→Option R) (c0:CsPieceAt_0):∀(n:Nat) (v:w31),z2 [0,1,2,5] (run E (den E k) (lv 269) k (j1 Tryz.f269 0)) n (StsPieceAt_0 c0 v) K=LsPieceAt_0 k (YsPieceAt_0_0 K c0) (YsPieceAt_0_1 K c0) c0 n v:=j4 (B:=BsPieceAt_0 k (YsPieceAt_0_0 K c0) (YsPieceAt_0_1 K c0) c0) (fun _=>rfl) (fun n v=>by kernel_rfl) (fun _=>rfl) (fun _ _=>rfl)
theorem msPieceAt_0 (k:Nat) (a0:j2) (a1:Int):FsPieceAt (k+1) a0 a1=z2 (R:=Int) [0,1,2,5] (run E (den E k) (lv 269) k (j1 Tryz.f269 0)) k (StsPieceAt_0 (a1,a0) 0) (zb E (den E k) (lv 269) k (yd Tryz.f269) 0 [] (zd E (rs 269) Tryz.f269:Ex→St→Option (Int))):=by kernel_rfl
theorem esPieceAt (k:Nat) (a0:j2) (a1:Int):FsPieceAt (k+1) a0 a1=LsPieceAt_0 k (fun (v0:Int) (x1:zf) (p2:Bool)=>some v0) (fun (v0:Int)=>some (-1)) (a1,a0) k 0:=by
 rw [msPieceAt_0]
 simp only [lsPieceAt_0]
 kernel_rfl
noncomputable def FsIsLinked (k:Nat) (a0:j2) (a1:Int) (a2:Int) (a3:Int):Option (Bool):=den E k 274 [.agg (avs z7 a0),cI a1,cI a2,cI a3]
theorem esIsLinked (k:Nat) (a0:j2) (a1:Int) (a2:Int) (a3:Int):FsIsLinked (k+1) a0 a1 a2 a3=(FsPieceAt k a0 a3).bind fun p1=>(FsHasLink k a0 p1 a1 a2).bind fun p2=>some p2:=by kernel_rfl
noncomputable def FsMayUse (k:Nat) (a0:j2) (a1:Int) (a2:Int) (a3:Int):Option (Bool):=den E k 201 [.agg (avs z7 a0),cI a1,cI a2,cI a3]
abbrev CsMayUse_0:Type:=Int×Int×Int×j2
abbrev zd1:Type:=Int
def StsMayUse_0 (c0:CsMayUse_0) (v0:zd1):St:=⟨37,1,[(1,cI c0.1),(2,cI c0.2.1),(3,cI c0.2.2.1),(4,cP 0),(9,cI v0)],[(0,.var (avs z7 c0.2.2.2))]⟩
noncomputable def BsMayUse_0 {R:Type} (k:Nat) (X0:zd1→Bool→Option R) (X1:zd1→Option R) (c0:CsMayUse_0) (rec:zd1→Option R) (v0:zd1):Option R:=if (decide (v0≤(IntKind.i64.wrap (c0.2.2.1+c0.2.2.2.2.2.1))))=true then (FsIsLinked k c0.2.2.2 c0.1 c0.2.1 v0).bind fun p3=>if (!p3)=true then X0 v0 p3 else rec (IntKind.i64.wrap (v0+1)) else X1 v0
noncomputable def LsMayUse_0 {R:Type} (k:Nat) (X0:zd1→Bool→Option R) (X1:zd1→Option R) (c:CsMayUse_0):Nat→zd1→Option R
 | 0,_=>none
 | n+1,v=>BsMayUse_0 k X0 X1 c (LsMayUse_0 k X0 X1 c n) v
def YsMayUse_0_0 {R:Type} (K:Ex→St→Option R) (c0:CsMayUse_0) (v0:zd1) (p3:Bool):Option R:=K .ret ⟨37,1,[(1,cI c0.1),(2,cI c0.2.1),(3,cI c0.2.2.1),(4,cP 0),(8,cB false),(9,cI v0),(23,cI v0),(24,cI c0.2.2.1),(25,.c (.ptr 0 2)),(26,cI c0.2.2.2.2.2.1),(27,cI (IntKind.i64.wrap (c0.2.2.1+c0.2.2.2.2.2.1))),(28,cB (decide (v0≤(IntKind.i64.wrap (c0.2.2.1+c0.2.2.2.2.2.1))))),(31,.agg (avs z7 c0.2.2.2)),(32,cI c0.1),(33,cI c0.2.1),(34,cI v0),(35,cB p3),(36,cB (!p3))],[(0,.var (avs z7 c0.2.2.2))]⟩
def YsMayUse_0_1 {R:Type} (K:Ex→St→Option R) (c0:CsMayUse_0) (v0:zd1):Option R:=K (.exit 0) ⟨37,1,[(1,cI c0.1),(2,cI c0.2.1),(3,cI c0.2.2.1),(4,cP 0),(9,cI v0),(23,cI v0),(24,cI c0.2.2.1),(25,.c (.ptr 0 2)),(26,cI c0.2.2.2.2.2.1),(27,cI (IntKind.i64.wrap (c0.2.2.1+c0.2.2.2.2.2.1))),(28,cB (decide (v0≤(IntKind.i64.wrap (c0.2.2.1+c0.2.2.2.2.2.1)))))],[(0,.var (avs z7 c0.2.2.2))]⟩
theorem lsMayUse_0 {R:Type} (k:Nat) (K:Ex→St→Option R) (c0:CsMayUse_0):∀(n:Nat) (v:zd1),z2 [0,1,2,3,4,9] (run E (den E k) (lv 201) k (j1 Tryz.f201 0)) n (StsMayUse_0 c0 v) K=LsMayUse_0 k (YsMayUse_0_0 K c0) (YsMayUse_0_1 K c0) c0 n v:=j4 (B:=BsMayUse_0 k (YsMayUse_0_0 K c0) (YsMayUse_0_1 K c0) c0) (fun _=>rfl) (fun n v=>by kernel_rfl) (fun _=>rfl) (fun _ _=>rfl)
theorem msMayUse_0 (k:Nat) (a0:j2) (a1:Int) (a2:Int) (a3:Int):FsMayUse (k+1) a0 a1 a2 a3=(wl k a0.2.2.1 0 5).bind fun p1=>if ((!p1)==false)=true then (wl k a3 0 1000).bind fun p2=>if (!p2)=true then some false else z2 (R:=Bool) [0,1,2,3,4,9] (run E (den E k) (lv 201) k (j1 Tryz.f201 0)) k (StsMayUse_0 (a1,a2,a3,a0) (IntKind.i64.wrap (a3-a0.2.2.1))) (zb E (den E k) (lv 201) k (yd Tryz.f201) 0 [] (zd E (rs 201) Tryz.f201:Ex→St→Option (Bool))) else some false:=by kernel_rfl
theorem esMayUse (k:Nat) (a0:j2) (a1:Int) (a2:Int) (a3:Int):FsMayUse (k+1) a0 a1 a2 a3=(wl k a0.2.2.1 0 5).bind fun p1=>if ((!p1)==false)=true then (wl k a3 0 1000).bind fun p2=>if (!p2)=true then some false else LsMayUse_0 k (fun (v0:Int) (p3:Bool)=>some false) (fun (v0:Int)=>some true) (a1,a2,a3,a0) k (IntKind.i64.wrap (a3-a0.2.2.1)) else some false:=by
 rw [msMayUse_0]
 simp only [lsMayUse_0]
 kernel_rfl
noncomputable def wy1 (k:Nat) (a0:List I2) (a1:Int):Option (List Int):=den E k 339 [.c (.l 348 sI2 a0),cI a1]
abbrev x41:Type:=(List I2)×Int×Int×Int×(List Int)
abbrev vj:Type:=Int
def StsNeighborsIn_1 (c1:x41) (v1:vj):St:=⟨79,1,[(0,.c (.l 348 sI2 c1.1)),(1,cI c1.2.1),(5,.c (.ref 0)),(6,cI c1.2.2.1),(7,cI c1.2.2.2.1),(8,cI v1)],[(0,.arr 3 (.i .i64) c1.2.2.2.2)]⟩
noncomputable def BsNeighborsIn_1 {R:Type} (k:Nat) (X0:vj→Int→Option R) (X1:vj→Option R) (c1:x41) (rec:vj→Option R) (v1:vj):Option R:=if ((decide (v1<(c1.2.2.2.2.length:Int)))==true)=true then if 0≤v1 then if v1<(c1.2.2.2.2.length:Int) then ix c1.2.2.2.2 v1.toNat fun x3=>if (decide (x3<c1.2.2.2.1))=true then rec (IntKind.i64.wrap (v1+1)) else X0 v1 x3 else none else none else X1 v1
noncomputable def j31 {R:Type} (k:Nat) (X0:vj→Int→Option R) (X1:vj→Option R) (c:x41):Nat→vj→Option R
 | 0,_=>none
 | n+1,v=>BsNeighborsIn_1 k X0 X1 c (j31 k X0 X1 c n) v
def YsNeighborsIn_1_0 {R:Type} (K:Ex→St→Option R) (c1:x41) (v1:vj) (x3:Int):Option R:=K (.exit 2) ⟨79,1,[(0,.c (.l 348 sI2 c1.1)),(1,cI c1.2.1),(5,.c (.ref 0)),(6,cI c1.2.2.1),(7,cI c1.2.2.2.1),(8,cI v1),(40,cI v1),(41,.c (.ref 0)),(42,cI (c1.2.2.2.2.length:Int)),(43,cB (decide (v1<(c1.2.2.2.2.length:Int)))),(44,cB true),(45,.c (.ref 0)),(46,cI v1),(47,.c (.el 0 1 v1.toNat 0)),(48,cI x3),(49,cI c1.2.2.2.1),(50,cB (decide (x3<c1.2.2.2.1))),(51,cB (decide (x3<c1.2.2.2.1)))],[(0,.arr 3 (.i .i64) c1.2.2.2.2)]⟩
def YsNeighborsIn_1_1 {R:Type} (K:Ex→St→Option R) (c1:x41) (v1:vj):Option R:=K (.exit 2) ⟨79,1,[(0,.c (.l 348 sI2 c1.1)),(1,cI c1.2.1),(5,.c (.ref 0)),(6,cI c1.2.2.1),(7,cI c1.2.2.2.1),(8,cI v1),(40,cI v1),(41,.c (.ref 0)),(42,cI (c1.2.2.2.2.length:Int)),(43,cB (decide (v1<(c1.2.2.2.2.length:Int)))),(44,cB false),(45,.tup []),(46,.tup []),(47,.tup []),(48,.tup []),(49,.tup []),(50,.tup []),(51,cB false)],[(0,.arr 3 (.i .i64) c1.2.2.2.2)]⟩
theorem lsNeighborsIn_1 {R:Type} (k:Nat) (K:Ex→St→Option R) (c1:x41):∀(n:Nat) (v:vj),z2 [0,0,1,5,6,7,8] (run E (den E k) (lv 339) k (j1 Tryz.f339 1)) n (StsNeighborsIn_1 c1 v) K=j31 k (YsNeighborsIn_1_0 K c1) (YsNeighborsIn_1_1 K c1) c1 n v:=j4 (B:=BsNeighborsIn_1 k (YsNeighborsIn_1_0 K c1) (YsNeighborsIn_1_1 K c1) c1) (fun _=>rfl) (fun n v=>by kernel_rfl) (fun _=>rfl) (fun _ _=>rfl)
abbrev w21:Type:=(List I2)×Int
abbrev yn:Type:=Int×(List Int)
def z71 (c0:w21) (v0:yn):St:=⟨79,1,[(0,.c (.l 348 sI2 c0.1)),(1,cI c0.2),(5,.c (.ref 0)),(6,cI v0.1)],[(0,.arr 3 (.i .i64) v0.2)]⟩
noncomputable def BsNeighborsIn_0 {R:Type} (k:Nat) (X0:yn→Option R) (c0:w21) (rec:yn→Option R) (v0:yn):Option R:=if (decide (v0.1<(c0.1.length:Int)))=true then if 0≤v0.1 then ix c0.1 v0.1.toNat fun x1=>if (x1.1==c0.2)=true then if 0≤v0.1 then ix c0.1 v0.1.toNat fun x2=>j31 k (fun (v1:Int) (x3:Int)=>if ((v1==(v0.2.length:Int))==false)=true then if 0≤v1 then if v1<(v0.2.length:Int) then ix v0.2 v1.toNat fun x3=>if (x3 !=x2.2)=true then if 0≤v1 then if v1≤(v0.2.length:Int) then if (0+((v0.2.take v1.toNat).drop ((0:Int).toNat)).length)*8≤140737488355328 then if (((v0.2.take v1.toNat).drop ((0:Int).toNat)).length+([x2.2]).length)*8≤140737488355328 then if 0≤v1 then if v1≤(v0.2.length:Int) then if (v0.2.length:Int)≤(v0.2.length:Int) then if ((((v0.2.take v1.toNat).drop ((0:Int).toNat))++[x2.2]).length+((v0.2.take ((v0.2.length:Int).toNat)).drop v1.toNat).length)*8≤140737488355328 then rec ((IntKind.i64.wrap (v0.1+1)),((((v0.2.take v1.toNat).drop ((0:Int).toNat))++[x2.2])++((v0.2.take ((v0.2.length:Int).toNat)).drop v1.toNat))) else none else none else none else none else none else none else none else none else rec ((IntKind.i64.wrap (v0.1+1)),v0.2) else none else none else if 0≤v1 then if v1≤(v0.2.length:Int) then if (0+((v0.2.take v1.toNat).drop ((0:Int).toNat)).length)*8≤140737488355328 then if (((v0.2.take v1.toNat).drop ((0:Int).toNat)).length+([x2.2]).length)*8≤140737488355328 then if 0≤v1 then if v1≤(v0.2.length:Int) then if (v0.2.length:Int)≤(v0.2.length:Int) then if ((((v0.2.take v1.toNat).drop ((0:Int).toNat))++[x2.2]).length+((v0.2.take ((v0.2.length:Int).toNat)).drop v1.toNat).length)*8≤140737488355328 then rec ((IntKind.i64.wrap (v0.1+1)),((((v0.2.take v1.toNat).drop ((0:Int).toNat))++[x2.2])++((v0.2.take ((v0.2.length:Int).toNat)).drop v1.toNat))) else none else none else none else none else none else none else none else none) (fun (v1:Int)=>if ((v1==(v0.2.length:Int))==false)=true then if 0≤v1 then if v1<(v0.2.length:Int) then ix v0.2 v1.toNat fun x4=>if (x4 !=x2.2)=true then if 0≤v1 then if v1≤(v0.2.length:Int) then if (0+((v0.2.take v1.toNat).drop ((0:Int).toNat)).length)*8≤140737488355328 then if (((v0.2.take v1.toNat).drop ((0:Int).toNat)).length+([x2.2]).length)*8≤140737488355328 then if 0≤v1 then if v1≤(v0.2.length:Int) then if (v0.2.length:Int)≤(v0.2.length:Int) then if ((((v0.2.take v1.toNat).drop ((0:Int).toNat))++[x2.2]).length+((v0.2.take ((v0.2.length:Int).toNat)).drop v1.toNat).length)*8≤140737488355328 then rec ((IntKind.i64.wrap (v0.1+1)),((((v0.2.take v1.toNat).drop ((0:Int).toNat))++[x2.2])++((v0.2.take ((v0.2.length:Int).toNat)).drop v1.toNat))) else none else none else none else none else none else none else none else none else rec ((IntKind.i64.wrap (v0.1+1)),v0.2) else none else none else if 0≤v1 then if v1≤(v0.2.length:Int) then if (0+((v0.2.take v1.toNat).drop ((0:Int).toNat)).length)*8≤140737488355328 then if (((v0.2.take v1.toNat).drop ((0:Int).toNat)).length+([x2.2]).length)*8≤140737488355328 then if 0≤v1 then if v1≤(v0.2.length:Int) then if (v0.2.length:Int)≤(v0.2.length:Int) then if ((((v0.2.take v1.toNat).drop ((0:Int).toNat))++[x2.2]).length+((v0.2.take ((v0.2.length:Int).toNat)).drop v1.toNat).length)*8≤140737488355328 then rec ((IntKind.i64.wrap (v0.1+1)),((((v0.2.take v1.toNat).drop ((0:Int).toNat))++[x2.2])++((v0.2.take ((v0.2.length:Int).toNat)).drop v1.toNat))) else none else none else none else none else none else none else none else none) (c0.1,c0.2,v0.1,x2.2,v0.2) k 0 else none else if 0≤v0.1 then ix c0.1 v0.1.toNat fun x5=>if (x5.2==c0.2)=true then if 0≤v0.1 then ix c0.1 v0.1.toNat fun x6=>j31 k (fun (v1:Int) (x3:Int)=>if ((v1==(v0.2.length:Int))==false)=true then if 0≤v1 then if v1<(v0.2.length:Int) then ix v0.2 v1.toNat fun x7=>if (x7 !=x6.1)=true then if 0≤v1 then if v1≤(v0.2.length:Int) then if (0+((v0.2.take v1.toNat).drop ((0:Int).toNat)).length)*8≤140737488355328 then if (((v0.2.take v1.toNat).drop ((0:Int).toNat)).length+([x6.1]).length)*8≤140737488355328 then if 0≤v1 then if v1≤(v0.2.length:Int) then if (v0.2.length:Int)≤(v0.2.length:Int) then if ((((v0.2.take v1.toNat).drop ((0:Int).toNat))++[x6.1]).length+((v0.2.take ((v0.2.length:Int).toNat)).drop v1.toNat).length)*8≤140737488355328 then rec ((IntKind.i64.wrap (v0.1+1)),((((v0.2.take v1.toNat).drop ((0:Int).toNat))++[x6.1])++((v0.2.take ((v0.2.length:Int).toNat)).drop v1.toNat))) else none else none else none else none else none else none else none else none else rec ((IntKind.i64.wrap (v0.1+1)),v0.2) else none else none else if 0≤v1 then if v1≤(v0.2.length:Int) then if (0+((v0.2.take v1.toNat).drop ((0:Int).toNat)).length)*8≤140737488355328 then if (((v0.2.take v1.toNat).drop ((0:Int).toNat)).length+([x6.1]).length)*8≤140737488355328 then if 0≤v1 then if v1≤(v0.2.length:Int) then if (v0.2.length:Int)≤(v0.2.length:Int) then if ((((v0.2.take v1.toNat).drop ((0:Int).toNat))++[x6.1]).length+((v0.2.take ((v0.2.length:Int).toNat)).drop v1.toNat).length)*8≤140737488355328 then rec ((IntKind.i64.wrap (v0.1+1)),((((v0.2.take v1.toNat).drop ((0:Int).toNat))++[x6.1])++((v0.2.take ((v0.2.length:Int).toNat)).drop v1.toNat))) else none else none else none else none else none else none else none else none) (fun (v1:Int)=>if ((v1==(v0.2.length:Int))==false)=true then if 0≤v1 then if v1<(v0.2.length:Int) then ix v0.2 v1.toNat fun x8=>if (x8 !=x6.1)=true then if 0≤v1 then if v1≤(v0.2.length:Int) then if (0+((v0.2.take v1.toNat).drop ((0:Int).toNat)).length)*8≤140737488355328 then if (((v0.2.take v1.toNat).drop ((0:Int).toNat)).length+([x6.1]).length)*8≤140737488355328 then if 0≤v1 then if v1≤(v0.2.length:Int) then if (v0.2.length:Int)≤(v0.2.length:Int) then if ((((v0.2.take v1.toNat).drop ((0:Int).toNat))++[x6.1]).length+((v0.2.take ((v0.2.length:Int).toNat)).drop v1.toNat).length)*8≤140737488355328 then rec ((IntKind.i64.wrap (v0.1+1)),((((v0.2.take v1.toNat).drop ((0:Int).toNat))++[x6.1])++((v0.2.take ((v0.2.length:Int).toNat)).drop v1.toNat))) else none else none else none else none else none else none else none else none else rec ((IntKind.i64.wrap (v0.1+1)),v0.2) else none else none else if 0≤v1 then if v1≤(v0.2.length:Int) then if (0+((v0.2.take v1.toNat).drop ((0:Int).toNat)).length)*8≤140737488355328 then if (((v0.2.take v1.toNat).drop ((0:Int).toNat)).length+([x6.1]).length)*8≤140737488355328 then if 0≤v1 then if v1≤(v0.2.length:Int) then if (v0.2.length:Int)≤(v0.2.length:Int) then if ((((v0.2.take v1.toNat).drop ((0:Int).toNat))++[x6.1]).length+((v0.2.take ((v0.2.length:Int).toNat)).drop v1.toNat).length)*8≤140737488355328 then rec ((IntKind.i64.wrap (v0.1+1)),((((v0.2.take v1.toNat).drop ((0:Int).toNat))++[x6.1])++((v0.2.take ((v0.2.length:Int).toNat)).drop v1.toNat))) else none else none else none else none else none else none else none else none) (c0.1,c0.2,v0.1,x6.1,v0.2) k 0 else none else rec ((IntKind.i64.wrap (v0.1+1)),v0.2) else none else none else X0 v0
noncomputable def zc1 {R:Type} (k:Nat) (X0:yn→Option R) (c:w21):Nat→yn→Option R
 | 0,_=>none
 | n+1,v=>BsNeighborsIn_0 k X0 c (zc1 k X0 c n) v
def YsNeighborsIn_0_0 {R:Type} (K:Ex→St→Option R) (c0:w21) (v0:yn):Option R:=K (.exit 0) ⟨79,1,[(0,.c (.l 348 sI2 c0.1)),(1,cI c0.2),(5,.c (.ref 0)),(6,cI v0.1),(10,cI v0.1),(11,.c (.l 348 sI2 c0.1)),(12,cI (c0.1.length:Int)),(13,cB (decide (v0.1<(c0.1.length:Int))))],[(0,.arr 3 (.i .i64) v0.2)]⟩
theorem bmsNeighborsIn_0_0 {R:Type} (k n:Nat) (K:Ex→St→Option R) (c0:w21) (v0:yn):z2 [0,0,1,5,6] (run E (den E k) (lv 339) k (j1 Tryz.f339 0)) (n+1) (z71 c0 v0) K=if (decide (v0.1<(c0.1.length:Int)))=true then if 0≤v0.1 then ix c0.1 v0.1.toNat fun x1=>if (x1.1==c0.2)=true then if 0≤v0.1 then ix c0.1 v0.1.toNat fun x2=>z2 [0,0,1,5,6,7,8] (run E (den E k) (lv 339) k (j1 Tryz.f339 1)) k (StsNeighborsIn_1 (c0.1,c0.2,v0.1,x2.2,v0.2) 0) (zb E (den E k) (lv 339) k (.loop (j1 Tryz.f339 0)) (1-0) [(n,[0,0,1,5,6])] K) else none else if 0≤v0.1 then ix c0.1 v0.1.toNat fun x4=>if (x4.2==c0.2)=true then if 0≤v0.1 then ix c0.1 v0.1.toNat fun x5=>z2 [0,0,1,5,6,7,8] (run E (den E k) (lv 339) k (j1 Tryz.f339 1)) k (StsNeighborsIn_1 (c0.1,c0.2,v0.1,x5.1,v0.2) 0) (zb E (den E k) (lv 339) k (.loop (j1 Tryz.f339 0)) (1-0) [(n,[0,0,1,5,6])] K) else none else z2 [0,0,1,5,6] (run E (den E k) (lv 339) k (j1 Tryz.f339 0)) n (z71 c0 ((IntKind.i64.wrap (v0.1+1)),v0.2)) K else none else none else K (.exit 0) ⟨79,1,[(0,.c (.l 348 sI2 c0.1)),(1,cI c0.2),(5,.c (.ref 0)),(6,cI v0.1),(10,cI v0.1),(11,.c (.l 348 sI2 c0.1)),(12,cI (c0.1.length:Int)),(13,cB (decide (v0.1<(c0.1.length:Int))))],[(0,.arr 3 (.i .i64) v0.2)]⟩:=by kernel_rfl
theorem bsNeighborsIn_0 {R:Type} (k n:Nat) (K:Ex→St→Option R) (c0:w21) (v:yn):z2 [0,0,1,5,6] (run E (den E k) (lv 339) k (j1 Tryz.f339 0)) (n+1) (z71 c0 v) K=BsNeighborsIn_0 k (YsNeighborsIn_0_0 K c0) c0 (fun v=>z2 [0,0,1,5,6] (run E (den E k) (lv 339) k (j1 Tryz.f339 0)) n (z71 c0 v) K) v:=by
 rw [bmsNeighborsIn_0_0]
 simp only [lsNeighborsIn_1]
 kernel_rfl
theorem lsNeighborsIn_0 {R:Type} (k:Nat) (K:Ex→St→Option R) (c0:w21):∀(n:Nat) (v:yn),z2 [0,0,1,5,6] (run E (den E k) (lv 339) k (j1 Tryz.f339 0)) n (z71 c0 v) K=zc1 k (YsNeighborsIn_0_0 K c0) c0 n v:=j4 (B:=BsNeighborsIn_0 k (YsNeighborsIn_0_0 K c0) c0) (fun _=>rfl) (fun n v=>bsNeighborsIn_0 k n K c0 v) (fun _=>rfl) (fun _ _=>rfl)
theorem msNeighborsIn_0 (k:Nat) (a0:List I2) (a1:Int):wy1 (k+1) a0 a1=z2 (R:=List Int) [0,0,1,5,6] (run E (den E k) (lv 339) k (j1 Tryz.f339 0)) k (z71 (a0,a1) (0,[])) (zb E (den E k) (lv 339) k (yd Tryz.f339) 0 [] (zd E (rs 339) Tryz.f339:Ex→St→Option (List Int))):=by kernel_rfl
theorem esNeighborsIn (k:Nat) (a0:List I2) (a1:Int):wy1 (k+1) a0 a1=zc1 k (fun (v0:Int×(List Int))=>some v0.2) (a0,a1) k (0,[]):=by
 rw [msNeighborsIn_0]
 simp only [lsNeighborsIn_0]
 kernel_rfl
noncomputable def FsAltsOf (k:Nat) (a0:Int×(List Int)×List Int) (a1:List I2) (a2:Int) (a3:Int):Option (List Int):=den E k 272 [.agg (avs y9 a0),.c (.l 348 sI2 a1),cI a2,cI a3]
abbrev CsAltsOf_1:Type:=Int×Int×Int×Int×(Int×(List Int)×List Int)×(List Int)×(List Int)
abbrev z11:Type:=Int
def StsAltsOf_1 (c1:CsAltsOf_1) (v1:z11):St:=⟨128,3,[(2,cI c1.1),(3,cI c1.2.1),(4,cP 0),(9,.c (.ref 1)),(10,.c (.ref 2)),(11,cI c1.2.2.1),(12,cI c1.2.2.2.1),(13,cI v1)],[(0,.var (avs y9 c1.2.2.2.2.1)),(1,.arr 3 (.i .i64) c1.2.2.2.2.2.1),(2,.arr 3 (.i .i64) c1.2.2.2.2.2.2)]⟩
noncomputable def BsAltsOf_1 {R:Type} (k:Nat) (X0:z11→Int→Int→Int→Option R) (X1:z11→Option R) (c1:CsAltsOf_1) (rec:z11→Option R) (v1:z11):Option R:=if ((decide (v1<(c1.2.2.2.2.2.1.length:Int)))==true)=true then if 0≤v1 then if v1<(c1.2.2.2.2.2.1.length:Int) then ix c1.2.2.2.2.2.1 v1.toNat fun x10=>if 0≤x10 then ix c1.2.2.2.2.1.2.1 x10.toNat fun x11=>if 0≤c1.2.2.2.1 then ix c1.2.2.2.2.1.2.1 c1.2.2.2.1.toNat fun x12=>if (decide (x11≤x12))=true then rec (IntKind.i64.wrap (v1+1)) else X0 v1 x10 x11 x12 else none else none else none else none else X1 v1
noncomputable def vu1 {R:Type} (k:Nat) (X0:z11→Int→Int→Int→Option R) (X1:z11→Option R) (c:CsAltsOf_1):Nat→z11→Option R
 | 0,_=>none
 | n+1,v=>BsAltsOf_1 k X0 X1 c (vu1 k X0 X1 c n) v
def YsAltsOf_1_0 {R:Type} (K:Ex→St→Option R) (c1:CsAltsOf_1) (v1:z11) (x10:Int) (x11:Int) (x12:Int):Option R:=K (.exit 2) ⟨128,3,[(2,cI c1.1),(3,cI c1.2.1),(4,cP 0),(9,.c (.ref 1)),(10,.c (.ref 2)),(11,cI c1.2.2.1),(12,cI c1.2.2.2.1),(13,cI v1),(93,cI v1),(94,.c (.ref 1)),(95,cI (c1.2.2.2.2.2.1.length:Int)),(96,cB (decide (v1<(c1.2.2.2.2.2.1.length:Int)))),(97,cB true),(98,.c (.ptr 0 1)),(99,.c (.l 3 (.i .i64) c1.2.2.2.2.1.2.1)),(100,.c (.ref 1)),(101,cI v1),(102,.c (.el 1 1 v1.toNat 0)),(103,cI x10),(104,.c (.at_ [vI x11])),(105,cI x11),(106,.c (.ptr 0 1)),(107,.c (.l 3 (.i .i64) c1.2.2.2.2.1.2.1)),(108,cI c1.2.2.2.1),(109,.c (.at_ [vI x12])),(110,cI x12),(111,cB (decide (x11≤x12))),(112,cB (decide (x11≤x12)))],[(0,.var (avs y9 c1.2.2.2.2.1)),(1,.arr 3 (.i .i64) c1.2.2.2.2.2.1),(2,.arr 3 (.i .i64) c1.2.2.2.2.2.2)]⟩
def YsAltsOf_1_1 {R:Type} (K:Ex→St→Option R) (c1:CsAltsOf_1) (v1:z11):Option R:=K (.exit 2) ⟨128,3,[(2,cI c1.1),(3,cI c1.2.1),(4,cP 0),(9,.c (.ref 1)),(10,.c (.ref 2)),(11,cI c1.2.2.1),(12,cI c1.2.2.2.1),(13,cI v1),(93,cI v1),(94,.c (.ref 1)),(95,cI (c1.2.2.2.2.2.1.length:Int)),(96,cB (decide (v1<(c1.2.2.2.2.2.1.length:Int)))),(97,cB false),(98,.tup []),(99,.tup []),(100,.tup []),(101,.tup []),(102,.tup []),(103,.tup []),(104,.tup []),(105,.tup []),(106,.tup []),(107,.tup []),(108,.tup []),(109,.tup []),(110,.tup []),(111,.tup []),(112,cB false)],[(0,.var (avs y9 c1.2.2.2.2.1)),(1,.arr 3 (.i .i64) c1.2.2.2.2.2.1),(2,.arr 3 (.i .i64) c1.2.2.2.2.2.2)]⟩
theorem lsAltsOf_1 {R:Type} (k:Nat) (K:Ex→St→Option R) (c1:CsAltsOf_1):∀(n:Nat) (v:z11),z2 [0,2,3,4,9,10,11,12,13] (run E (den E k) (lv 272) k (j1 Tryz.f272 1)) n (StsAltsOf_1 c1 v) K=vu1 k (YsAltsOf_1_0 K c1) (YsAltsOf_1_1 K c1) c1 n v:=j4 (B:=BsAltsOf_1 k (YsAltsOf_1_0 K c1) (YsAltsOf_1_1 K c1) c1) (fun _=>rfl) (fun n v=>by kernel_rfl) (fun _=>rfl) (fun _ _=>rfl)
abbrev CsAltsOf_0:Type:=Int×Int×(Int×(List Int)×List Int)×(List Int)
abbrev zh1:Type:=Int×(List Int)
def xu (c0:CsAltsOf_0) (v0:zh1):St:=⟨128,3,[(2,cI c0.1),(3,cI c0.2.1),(4,cP 0),(9,.c (.ref 1)),(10,.c (.ref 2)),(11,cI v0.1)],[(0,.var (avs y9 c0.2.2.1)),(1,.arr 3 (.i .i64) v0.2),(2,.arr 3 (.i .i64) c0.2.2.2)]⟩
noncomputable def BsAltsOf_0 {R:Type} (k:Nat) (X0:zh1→Option R) (c0:CsAltsOf_0) (rec:zh1→Option R) (v0:zh1):Option R:=if (decide (v0.1<(c0.2.2.2.length:Int)))=true then if 0≤v0.1 then if v0.1<(c0.2.2.2.length:Int) then ix c0.2.2.2 v0.1.toNat fun x4=>if 0≤c0.2.1 then ix c0.2.2.1.2.2 c0.2.1.toNat fun x5=>if ((x4==x5)==false)=true then if ((decide (x4≥c0.1))==true)=true then if ((x4 !=c0.2.2.1.1)==false)=true then (wl k x4 0 (IntKind.i64.wrap ((c0.2.2.1.2.1.length:Int)-1))).bind fun p6=>if ((!p6)==false)=true then if 0≤x4 then ix c0.2.2.1.2.1 x4.toNat fun x7=>if ((decide (x7<0))==false)=true then if 0≤x4 then ix c0.2.2.1.2.1 x4.toNat fun x8=>if 0≤c0.2.1 then ix c0.2.2.1.2.1 c0.2.1.toNat fun x9=>if (decide (x8≥x9))=true then rec ((IntKind.i64.wrap (v0.1+1)),v0.2) else vu1 k (fun (v1:Int) (x10:Int) (x11:Int) (x12:Int)=>if 0≤v1 then if v1≤(v0.2.length:Int) then if (0+((v0.2.take v1.toNat).drop ((0:Int).toNat)).length)*8≤140737488355328 then if (((v0.2.take v1.toNat).drop ((0:Int).toNat)).length+([x4]).length)*8≤140737488355328 then if 0≤v1 then if v1≤(v0.2.length:Int) then if (v0.2.length:Int)≤(v0.2.length:Int) then if ((((v0.2.take v1.toNat).drop ((0:Int).toNat))++[x4]).length+((v0.2.take ((v0.2.length:Int).toNat)).drop v1.toNat).length)*8≤140737488355328 then rec ((IntKind.i64.wrap (v0.1+1)),((((v0.2.take v1.toNat).drop ((0:Int).toNat))++[x4])++((v0.2.take ((v0.2.length:Int).toNat)).drop v1.toNat))) else none else none else none else none else none else none else none else none) (fun (v1:Int)=>if 0≤v1 then if v1≤(v0.2.length:Int) then if (0+((v0.2.take v1.toNat).drop ((0:Int).toNat)).length)*8≤140737488355328 then if (((v0.2.take v1.toNat).drop ((0:Int).toNat)).length+([x4]).length)*8≤140737488355328 then if 0≤v1 then if v1≤(v0.2.length:Int) then if (v0.2.length:Int)≤(v0.2.length:Int) then if ((((v0.2.take v1.toNat).drop ((0:Int).toNat))++[x4]).length+((v0.2.take ((v0.2.length:Int).toNat)).drop v1.toNat).length)*8≤140737488355328 then rec ((IntKind.i64.wrap (v0.1+1)),((((v0.2.take v1.toNat).drop ((0:Int).toNat))++[x4])++((v0.2.take ((v0.2.length:Int).toNat)).drop v1.toNat))) else none else none else none else none else none else none else none else none) (c0.1,c0.2.1,v0.1,x4,c0.2.2.1,v0.2,c0.2.2.2) k 0 else none else none else rec ((IntKind.i64.wrap (v0.1+1)),v0.2) else none else rec ((IntKind.i64.wrap (v0.1+1)),v0.2) else rec ((IntKind.i64.wrap (v0.1+1)),v0.2) else (wl k x4 0 (IntKind.i64.wrap ((c0.2.2.1.2.1.length:Int)-1))).bind fun p10=>if ((!p10)==false)=true then if 0≤x4 then ix c0.2.2.1.2.1 x4.toNat fun x11=>if ((decide (x11<0))==false)=true then if 0≤x4 then ix c0.2.2.1.2.1 x4.toNat fun x12=>if 0≤c0.2.1 then ix c0.2.2.1.2.1 c0.2.1.toNat fun x13=>if (decide (x12≥x13))=true then rec ((IntKind.i64.wrap (v0.1+1)),v0.2) else vu1 k (fun (v1:Int) (x10:Int) (x11:Int) (x12:Int)=>if 0≤v1 then if v1≤(v0.2.length:Int) then if (0+((v0.2.take v1.toNat).drop ((0:Int).toNat)).length)*8≤140737488355328 then if (((v0.2.take v1.toNat).drop ((0:Int).toNat)).length+([x4]).length)*8≤140737488355328 then if 0≤v1 then if v1≤(v0.2.length:Int) then if (v0.2.length:Int)≤(v0.2.length:Int) then if ((((v0.2.take v1.toNat).drop ((0:Int).toNat))++[x4]).length+((v0.2.take ((v0.2.length:Int).toNat)).drop v1.toNat).length)*8≤140737488355328 then rec ((IntKind.i64.wrap (v0.1+1)),((((v0.2.take v1.toNat).drop ((0:Int).toNat))++[x4])++((v0.2.take ((v0.2.length:Int).toNat)).drop v1.toNat))) else none else none else none else none else none else none else none else none) (fun (v1:Int)=>if 0≤v1 then if v1≤(v0.2.length:Int) then if (0+((v0.2.take v1.toNat).drop ((0:Int).toNat)).length)*8≤140737488355328 then if (((v0.2.take v1.toNat).drop ((0:Int).toNat)).length+([x4]).length)*8≤140737488355328 then if 0≤v1 then if v1≤(v0.2.length:Int) then if (v0.2.length:Int)≤(v0.2.length:Int) then if ((((v0.2.take v1.toNat).drop ((0:Int).toNat))++[x4]).length+((v0.2.take ((v0.2.length:Int).toNat)).drop v1.toNat).length)*8≤140737488355328 then rec ((IntKind.i64.wrap (v0.1+1)),((((v0.2.take v1.toNat).drop ((0:Int).toNat))++[x4])++((v0.2.take ((v0.2.length:Int).toNat)).drop v1.toNat))) else none else none else none else none else none else none else none else none) (c0.1,c0.2.1,v0.1,x4,c0.2.2.1,v0.2,c0.2.2.2) k 0 else none else none else rec ((IntKind.i64.wrap (v0.1+1)),v0.2) else none else rec ((IntKind.i64.wrap (v0.1+1)),v0.2) else rec ((IntKind.i64.wrap (v0.1+1)),v0.2) else none else none else none else X0 v0
noncomputable def yd1 {R:Type} (k:Nat) (X0:zh1→Option R) (c:CsAltsOf_0):Nat→zh1→Option R
 | 0,_=>none
 | n+1,v=>BsAltsOf_0 k X0 c (yd1 k X0 c n) v
def YsAltsOf_0_0 {R:Type} (K:Ex→St→Option R) (c0:CsAltsOf_0) (v0:zh1):Option R:=K (.exit 0) ⟨128,3,[(2,cI c0.1),(3,cI c0.2.1),(4,cP 0),(9,.c (.ref 1)),(10,.c (.ref 2)),(11,cI v0.1),(35,cI v0.1),(36,.c (.ref 2)),(37,cI (c0.2.2.2.length:Int)),(38,cB (decide (v0.1<(c0.2.2.2.length:Int))))],[(0,.var (avs y9 c0.2.2.1)),(1,.arr 3 (.i .i64) v0.2),(2,.arr 3 (.i .i64) c0.2.2.2)]⟩
theorem bmsAltsOf_0_0 {R:Type} (k n:Nat) (K:Ex→St→Option R) (c0:CsAltsOf_0) (v0:zh1):z2 [0,2,3,4,9,10,11] (run E (den E k) (lv 272) k (j1 Tryz.f272 0)) (n+1) (xu c0 v0) K=if (decide (v0.1<(c0.2.2.2.length:Int)))=true then if 0≤v0.1 then if v0.1<(c0.2.2.2.length:Int) then ix c0.2.2.2 v0.1.toNat fun x4=>if 0≤c0.2.1 then ix c0.2.2.1.2.2 c0.2.1.toNat fun x5=>if ((x4==x5)==false)=true then if ((decide (x4≥c0.1))==true)=true then if ((x4 !=c0.2.2.1.1)==false)=true then (wl k x4 0 (IntKind.i64.wrap ((c0.2.2.1.2.1.length:Int)-1))).bind fun p6=>if ((!p6)==false)=true then if 0≤x4 then ix c0.2.2.1.2.1 x4.toNat fun x7=>if ((decide (x7<0))==false)=true then if 0≤x4 then ix c0.2.2.1.2.1 x4.toNat fun x8=>if 0≤c0.2.1 then ix c0.2.2.1.2.1 c0.2.1.toNat fun x9=>if (decide (x8≥x9))=true then z2 [0,2,3,4,9,10,11] (run E (den E k) (lv 272) k (j1 Tryz.f272 0)) n (xu c0 ((IntKind.i64.wrap (v0.1+1)),v0.2)) K else z2 [0,2,3,4,9,10,11,12,13] (run E (den E k) (lv 272) k (j1 Tryz.f272 1)) k (StsAltsOf_1 (c0.1,c0.2.1,v0.1,x4,c0.2.2.1,v0.2,c0.2.2.2) 0) (zb E (den E k) (lv 272) k (.loop (j1 Tryz.f272 0)) (1-0) [(n,[0,2,3,4,9,10,11])] K) else none else none else z2 [0,2,3,4,9,10,11] (run E (den E k) (lv 272) k (j1 Tryz.f272 0)) n (xu c0 ((IntKind.i64.wrap (v0.1+1)),v0.2)) K else none else z2 [0,2,3,4,9,10,11] (run E (den E k) (lv 272) k (j1 Tryz.f272 0)) n (xu c0 ((IntKind.i64.wrap (v0.1+1)),v0.2)) K else z2 [0,2,3,4,9,10,11] (run E (den E k) (lv 272) k (j1 Tryz.f272 0)) n (xu c0 ((IntKind.i64.wrap (v0.1+1)),v0.2)) K else (wl k x4 0 (IntKind.i64.wrap ((c0.2.2.1.2.1.length:Int)-1))).bind fun p13=>if ((!p13)==false)=true then if 0≤x4 then ix c0.2.2.1.2.1 x4.toNat fun x14=>if ((decide (x14<0))==false)=true then if 0≤x4 then ix c0.2.2.1.2.1 x4.toNat fun x15=>if 0≤c0.2.1 then ix c0.2.2.1.2.1 c0.2.1.toNat fun x16=>if (decide (x15≥x16))=true then z2 [0,2,3,4,9,10,11] (run E (den E k) (lv 272) k (j1 Tryz.f272 0)) n (xu c0 ((IntKind.i64.wrap (v0.1+1)),v0.2)) K else z2 [0,2,3,4,9,10,11,12,13] (run E (den E k) (lv 272) k (j1 Tryz.f272 1)) k (StsAltsOf_1 (c0.1,c0.2.1,v0.1,x4,c0.2.2.1,v0.2,c0.2.2.2) 0) (zb E (den E k) (lv 272) k (.loop (j1 Tryz.f272 0)) (1-0) [(n,[0,2,3,4,9,10,11])] K) else none else none else z2 [0,2,3,4,9,10,11] (run E (den E k) (lv 272) k (j1 Tryz.f272 0)) n (xu c0 ((IntKind.i64.wrap (v0.1+1)),v0.2)) K else none else z2 [0,2,3,4,9,10,11] (run E (den E k) (lv 272) k (j1 Tryz.f272 0)) n (xu c0 ((IntKind.i64.wrap (v0.1+1)),v0.2)) K else z2 [0,2,3,4,9,10,11] (run E (den E k) (lv 272) k (j1 Tryz.f272 0)) n (xu c0 ((IntKind.i64.wrap (v0.1+1)),v0.2)) K else none else none else none else K (.exit 0) ⟨128,3,[(2,cI c0.1),(3,cI c0.2.1),(4,cP 0),(9,.c (.ref 1)),(10,.c (.ref 2)),(11,cI v0.1),(35,cI v0.1),(36,.c (.ref 2)),(37,cI (c0.2.2.2.length:Int)),(38,cB (decide (v0.1<(c0.2.2.2.length:Int))))],[(0,.var (avs y9 c0.2.2.1)),(1,.arr 3 (.i .i64) v0.2),(2,.arr 3 (.i .i64) c0.2.2.2)]⟩:=by kernel_rfl
theorem bsAltsOf_0 {R:Type} (k n:Nat) (K:Ex→St→Option R) (c0:CsAltsOf_0) (v:zh1):z2 [0,2,3,4,9,10,11] (run E (den E k) (lv 272) k (j1 Tryz.f272 0)) (n+1) (xu c0 v) K=BsAltsOf_0 k (YsAltsOf_0_0 K c0) c0 (fun v=>z2 [0,2,3,4,9,10,11] (run E (den E k) (lv 272) k (j1 Tryz.f272 0)) n (xu c0 v) K) v:=by
 rw [bmsAltsOf_0_0]
 simp only [lsAltsOf_1]
 kernel_rfl
theorem lsAltsOf_0 {R:Type} (k:Nat) (K:Ex→St→Option R) (c0:CsAltsOf_0):∀(n:Nat) (v:zh1),z2 [0,2,3,4,9,10,11] (run E (den E k) (lv 272) k (j1 Tryz.f272 0)) n (xu c0 v) K=yd1 k (YsAltsOf_0_0 K c0) c0 n v:=j4 (B:=BsAltsOf_0 k (YsAltsOf_0_0 K c0) c0) (fun _=>rfl) (fun n v=>bsAltsOf_0 k n K c0 v) (fun _=>rfl) (fun _ _=>rfl)
theorem msAltsOf_0 (k:Nat) (a0:Int×(List Int)×List Int) (a1:List I2) (a2:Int) (a3:Int):FsAltsOf (k+1) a0 a1 a2 a3=(wl k a3 0 (IntKind.i64.wrap ((a0.2.1.length:Int)-1))).bind fun p1=>if ((!p1)==false)=true then (wl k a3 0 (IntKind.i64.wrap ((a0.2.2.length:Int)-1))).bind fun p2=>if (!p2)=true then some ([]) else (wy1 k a1 a3).bind fun p3=>z2 (R:=List Int) [0,2,3,4,9,10,11] (run E (den E k) (lv 272) k (j1 Tryz.f272 0)) k (xu (a2,a3,a0,p3) (0,[])) (zb E (den E k) (lv 272) k (yd Tryz.f272) 0 [] (zd E (rs 272) Tryz.f272:Ex→St→Option (List Int))) else some ([]):=by kernel_rfl
theorem esAltsOf (k:Nat) (a0:Int×(List Int)×List Int) (a1:List I2) (a2:Int) (a3:Int):FsAltsOf (k+1) a0 a1 a2 a3=(wl k a3 0 (IntKind.i64.wrap ((a0.2.1.length:Int)-1))).bind fun p1=>if ((!p1)==false)=true then (wl k a3 0 (IntKind.i64.wrap ((a0.2.2.length:Int)-1))).bind fun p2=>if (!p2)=true then some ([]) else (wy1 k a1 a3).bind fun p3=>yd1 k (fun (v0:Int×(List Int))=>some v0.2) (a2,a3,a0,p3) k (0,[]) else some ([]):=by
 rw [msAltsOf_0]
 simp only [lsAltsOf_0]
 kernel_rfl
noncomputable def FsPiecesIn (k:Nat) (a0:j2) (a1:Int) (a2:Int):Option (List Int):=den E k 338 [.agg (avs z7 a0),cI a1,cI a2]
abbrev CsPiecesIn_0:Type:=Int×Int×j2
abbrev we1:Type:=Int×(List Int)
def StsPiecesIn_0 (c0:CsPiecesIn_0) (v0:we1):St:=⟨48,2,[(1,cI c0.1),(2,cI c0.2.1),(3,cP 0),(7,.c (.ref 1)),(8,cI v0.1)],[(0,.var (avs z7 c0.2.2)),(1,.arr 3 (.i .i64) v0.2)]⟩
noncomputable def BsPiecesIn_0 {R:Type} (k:Nat) (X0:we1→Option R) (c0:CsPiecesIn_0) (rec:we1→Option R) (v0:we1):Option R:=if (decide (v0.1<(c0.2.2.2.2.2.length:Int)))=true then if 0≤v0.1 then ix c0.2.2.2.2.2 v0.1.toNat fun x1=>(FsIsSpan k x1.1).bind fun p2=>if (p2==true)=true then if ((decide (c0.1≤c0.2.1))==true)=true then if ((decide (x1.1.1≤c0.2.1))==true)=true then if (decide (c0.1<x1.1.2))=true then if (v0.2.length+([v0.1]).length)*8≤140737488355328 then rec ((IntKind.i64.wrap (v0.1+1)),(v0.2++[v0.1])) else none else rec ((IntKind.i64.wrap (v0.1+1)),v0.2) else rec ((IntKind.i64.wrap (v0.1+1)),v0.2) else rec ((IntKind.i64.wrap (v0.1+1)),v0.2) else rec ((IntKind.i64.wrap (v0.1+1)),v0.2) else none else X0 v0
noncomputable def LsPiecesIn_0 {R:Type} (k:Nat) (X0:we1→Option R) (c:CsPiecesIn_0):Nat→we1→Option R
 | 0,_=>none
 | n+1,v=>BsPiecesIn_0 k X0 c (LsPiecesIn_0 k X0 c n) v
def YsPiecesIn_0_0 {R:Type} (K:Ex→St→Option R) (c0:CsPiecesIn_0) (v0:we1):Option R:=K (.exit 0) ⟨48,2,[(1,cI c0.1),(2,cI c0.2.1),(3,cP 0),(7,.c (.ref 1)),(8,cI v0.1),(11,cI v0.1),(12,.c (.ptr 0 3)),(13,.c (.l 198 wk c0.2.2.2.2.2)),(14,cI (c0.2.2.2.2.2.length:Int)),(15,cB (decide (v0.1<(c0.2.2.2.2.2.length:Int))))],[(0,.var (avs z7 c0.2.2)),(1,.arr 3 (.i .i64) v0.2)]⟩
theorem lsPiecesIn_0 {R:Type} (k:Nat) (K:Ex→St→Option R) (c0:CsPiecesIn_0):∀(n:Nat) (v:we1),z2 [0,1,2,3,7,8] (run E (den E k) (lv 338) k (j1 Tryz.f338 0)) n (StsPiecesIn_0 c0 v) K=LsPiecesIn_0 k (YsPiecesIn_0_0 K c0) c0 n v:=j4 (B:=BsPiecesIn_0 k (YsPiecesIn_0_0 K c0) c0) (fun _=>rfl) (fun n v=>by kernel_rfl) (fun _=>rfl) (fun _ _=>rfl)
theorem msPiecesIn_0 (k:Nat) (a0:j2) (a1:Int) (a2:Int):FsPiecesIn (k+1) a0 a1 a2=z2 (R:=List Int) [0,1,2,3,7,8] (run E (den E k) (lv 338) k (j1 Tryz.f338 0)) k (StsPiecesIn_0 (a1,a2,a0) (0,[])) (zb E (den E k) (lv 338) k (yd Tryz.f338) 0 [] (zd E (rs 338) Tryz.f338:Ex→St→Option (List Int))):=by kernel_rfl
theorem esPiecesIn (k:Nat) (a0:j2) (a1:Int) (a2:Int):FsPiecesIn (k+1) a0 a1 a2=LsPiecesIn_0 k (fun (v0:Int×(List Int))=>some v0.2) (a1,a2,a0) k (0,[]):=by
 rw [msPiecesIn_0]
 simp only [lsPiecesIn_0]
 kernel_rfl
noncomputable def Fsl15Copy (k:Nat) (a0:Int×(List Int)×List Int):Option (Int×(List Int)×List Int):=den E k 286 [.agg (avs y9 a0)]
theorem esl15Copy (k:Nat) (a0:Int×(List Int)×List Int):Fsl15Copy (k+1) a0=if (0+a0.2.1.length)*8≤140737488355328 then if (0+a0.2.2.length)*8≤140737488355328 then some a0 else none else none:=by kernel_rfl
noncomputable def FsTableIn (k:Nat) (a0:j2) (a1:Int) (a2:Int):Option ((Int×(List Int)×List Int)×Bool):=den E k 270 [.agg (avs z7 a0),cI a1,cI a2]
theorem esTableIn (k:Nat) (a0:j2) (a1:Int) (a2:Int):FsTableIn (k+1) a0 a1 a2=(wl k a1 0 (IntKind.i64.wrap ((a0.2.2.2.length:Int)-1))).bind fun p1=>if ((!p1)==false)=true then if 0≤a1 then ix a0.2.2.2 a1.toNat fun x2=>(wl k a2 0 (IntKind.i64.wrap ((x2.2.2.length:Int)-1))).bind fun p3=>if (!p3)=true then some ((0,[],[]),false) else if 0≤a1 then ix a0.2.2.2 a1.toNat fun x4=>if 0≤a2 then ix x4.2.2 a2.toNat fun x5=>(Fsl15Copy k x5).bind fun p6=>some (p6,true) else none else none else none else some ((0,[],[]),false):=by kernel_rfl
noncomputable def wx1 (k:Nat) (a0:List Int) (a1:Int):Option (Bool):=den E k 268 [.c (.l 3 (.i .i64) a0),cI a1]
abbrev Csl15Has_0:Type:=(List Int)×Int
abbrev wd1:Type:=Int
def Stsl15Has_0 (c0:Csl15Has_0) (v0:wd1):St:=⟨18,0,[(0,.c (.l 3 (.i .i64) c0.1)),(1,cI c0.2),(5,cI v0)],[]⟩
noncomputable def Bsl15Has_0 {R:Type} (k:Nat) (X0:wd1→Int→Option R) (X1:wd1→Option R) (c0:Csl15Has_0) (rec:wd1→Option R) (v0:wd1):Option R:=if (decide (v0<(c0.1.length:Int)))=true then if 0≤v0 then ix c0.1 v0.toNat fun x1=>if (x1==c0.2)=true then X0 v0 x1 else rec (IntKind.i64.wrap (v0+1)) else none else X1 v0
noncomputable def Lsl15Has_0 {R:Type} (k:Nat) (X0:wd1→Int→Option R) (X1:wd1→Option R) (c:Csl15Has_0):Nat→wd1→Option R
 | 0,_=>none
 | n+1,v=>Bsl15Has_0 k X0 X1 c (Lsl15Has_0 k X0 X1 c n) v
def Ysl15Has_0_0 {R:Type} (K:Ex→St→Option R) (c0:Csl15Has_0) (v0:wd1) (x1:Int):Option R:=K .ret ⟨18,0,[(0,.c (.l 3 (.i .i64) c0.1)),(1,cI c0.2),(4,cB true),(5,cI v0),(6,cI v0),(7,.c (.l 3 (.i .i64) c0.1)),(8,cI (c0.1.length:Int)),(9,cB (decide (v0<(c0.1.length:Int)))),(12,.c (.l 3 (.i .i64) c0.1)),(13,cI v0),(14,.c (.at_ [vI x1])),(15,cI x1),(16,cI c0.2),(17,cB (x1==c0.2))],[]⟩
def Ysl15Has_0_1 {R:Type} (K:Ex→St→Option R) (c0:Csl15Has_0) (v0:wd1):Option R:=K (.exit 0) ⟨18,0,[(0,.c (.l 3 (.i .i64) c0.1)),(1,cI c0.2),(5,cI v0),(6,cI v0),(7,.c (.l 3 (.i .i64) c0.1)),(8,cI (c0.1.length:Int)),(9,cB (decide (v0<(c0.1.length:Int))))],[]⟩
theorem lsl15Has_0 {R:Type} (k:Nat) (K:Ex→St→Option R) (c0:Csl15Has_0):∀(n:Nat) (v:wd1),z2 [0,0,1,5] (run E (den E k) (lv 268) k (j1 Tryz.f268 0)) n (Stsl15Has_0 c0 v) K=Lsl15Has_0 k (Ysl15Has_0_0 K c0) (Ysl15Has_0_1 K c0) c0 n v:=j4 (B:=Bsl15Has_0 k (Ysl15Has_0_0 K c0) (Ysl15Has_0_1 K c0) c0) (fun _=>rfl) (fun n v=>by kernel_rfl) (fun _=>rfl) (fun _ _=>rfl)
theorem msl15Has_0 (k:Nat) (a0:List Int) (a1:Int):wx1 (k+1) a0 a1=z2 (R:=Bool) [0,0,1,5] (run E (den E k) (lv 268) k (j1 Tryz.f268 0)) k (Stsl15Has_0 (a0,a1) 0) (zb E (den E k) (lv 268) k (yd Tryz.f268) 0 [] (zd E (rs 268) Tryz.f268:Ex→St→Option (Bool))):=by kernel_rfl
theorem esl15Has (k:Nat) (a0:List Int) (a1:Int):wx1 (k+1) a0 a1=Lsl15Has_0 k (fun (v0:Int) (x1:Int)=>some true) (fun (v0:Int)=>some false) (a0,a1) k 0:=by
 rw [msl15Has_0]
 simp only [lsl15Has_0]
 kernel_rfl
noncomputable def Fsl18Size (k:Nat) (a0:List (List Int)):Option (Int):=den E k 401 [.c (.l 30 (.l 3 (.i .i64)) a0)]
abbrev Csl18Size_0:Type:=(List (List Int))
abbrev vk1:Type:=Int×Int
def Stsl18Size_0 (c0:Csl18Size_0) (v0:vk1):St:=⟨19,0,[(0,.c (.l 30 (.l 3 (.i .i64)) c0)),(3,cI v0.1),(4,cI v0.2)],[]⟩
noncomputable def Bsl18Size_0 {R:Type} (k:Nat) (X0:vk1→Option R) (c0:Csl18Size_0) (rec:vk1→Option R) (v0:vk1):Option R:=if (decide (v0.2<(c0.length:Int)))=true then if 0≤v0.2 then ix c0 v0.2.toNat fun x1=>(FsMax k v0.1 (x1.length:Int)).bind fun p2=>rec (p2,(IntKind.i64.wrap (v0.2+1))) else none else X0 v0
noncomputable def Lsl18Size_0 {R:Type} (k:Nat) (X0:vk1→Option R) (c:Csl18Size_0):Nat→vk1→Option R
 | 0,_=>none
 | n+1,v=>Bsl18Size_0 k X0 c (Lsl18Size_0 k X0 c n) v
def Ysl18Size_0_0 {R:Type} (K:Ex→St→Option R) (c0:Csl18Size_0) (v0:vk1):Option R:=K (.exit 0) ⟨19,0,[(0,.c (.l 30 (.l 3 (.i .i64)) c0)),(3,cI v0.1),(4,cI v0.2),(5,cI v0.2),(6,.c (.l 30 (.l 3 (.i .i64)) c0)),(7,cI (c0.length:Int)),(8,cB (decide (v0.2<(c0.length:Int))))],[]⟩
theorem lsl18Size_0 {R:Type} (k:Nat) (K:Ex→St→Option R) (c0:Csl18Size_0):∀(n:Nat) (v:vk1),z2 [0,0,3,4] (run E (den E k) (lv 401) k (j1 Tryz.f401 0)) n (Stsl18Size_0 c0 v) K=Lsl18Size_0 k (Ysl18Size_0_0 K c0) c0 n v:=j4 (B:=Bsl18Size_0 k (Ysl18Size_0_0 K c0) c0) (fun _=>rfl) (fun n v=>by kernel_rfl) (fun _=>rfl) (fun _ _=>rfl)
theorem msl18Size_0 (k:Nat) (a0:List (List Int)):Fsl18Size (k+1) a0=z2 (R:=Int) [0,0,3,4] (run E (den E k) (lv 401) k (j1 Tryz.f401 0)) k (Stsl18Size_0 a0 (0,0)) (zb E (den E k) (lv 401) k (yd Tryz.f401) 0 [] (zd E (rs 401) Tryz.f401:Ex→St→Option (Int))):=by kernel_rfl
theorem esl18Size (k:Nat) (a0:List (List Int)):Fsl18Size (k+1) a0=Lsl18Size_0 k (fun (v0:I2)=>some v0.1) a0 k (0,0):=by
 rw [msl18Size_0]
 simp only [lsl18Size_0]
 kernel_rfl
noncomputable def Fsl18Steps (k:Nat) (a0:List (List Int)) (a1:Int) (a2:Int):Option (List Int):=den E k 402 [.c (.l 30 (.l 3 (.i .i64)) a0),cI a1,cI a2]
abbrev Csl18Steps_0:Type:=(List (List Int))×Int×Int
abbrev xe1:Type:=Int×(List Int)
def Stsl18Steps_0 (c0:Csl18Steps_0) (v0:xe1):St:=⟨58,1,[(0,.c (.l 30 (.l 3 (.i .i64)) c0.1)),(1,cI c0.2.1),(2,cI c0.2.2),(7,.c (.ref 0)),(8,cI v0.1)],[(0,.arr 3 (.i .i64) v0.2)]⟩
noncomputable def Bsl18Steps_0 {R:Type} (k:Nat) (X0:xe1→Option R) (c0:Csl18Steps_0) (rec:xe1→Option R) (v0:xe1):Option R:=if (decide (v0.1<(c0.1.length:Int)))=true then if 0≤v0.1 then ix c0.1 v0.1.toNat fun x1=>if ((decide (c0.2.2<(x1.length:Int)))==true)=true then if 0≤v0.1 then ix c0.1 v0.1.toNat fun x2=>if 0≤c0.2.2 then ix x2 c0.2.2.toNat fun x3=>(wl k x3 0 (IntKind.i64.wrap (c0.2.1-1))).bind fun p4=>if (p4==true)=true then if 0≤v0.1 then ix c0.1 v0.1.toNat fun x5=>if 0≤c0.2.2 then ix x5 c0.2.2.toNat fun x6=>(wx1 k v0.2 x6).bind fun p7=>if (!p7)=true then if 0≤v0.1 then ix c0.1 v0.1.toNat fun x8=>if 0≤c0.2.2 then ix x8 c0.2.2.toNat fun x9=>if (v0.2.length+([x9]).length)*8≤140737488355328 then rec ((IntKind.i64.wrap (v0.1+1)),(v0.2++[x9])) else none else none else none else rec ((IntKind.i64.wrap (v0.1+1)),v0.2) else none else none else rec ((IntKind.i64.wrap (v0.1+1)),v0.2) else none else none else rec ((IntKind.i64.wrap (v0.1+1)),v0.2) else none else X0 v0
noncomputable def Lsl18Steps_0 {R:Type} (k:Nat) (X0:xe1→Option R) (c:Csl18Steps_0):Nat→xe1→Option R
 | 0,_=>none
 | n+1,v=>Bsl18Steps_0 k X0 c (Lsl18Steps_0 k X0 c n) v
def Ysl18Steps_0_0 {R:Type} (K:Ex→St→Option R) (c0:Csl18Steps_0) (v0:xe1):Option R:=K (.exit 0) ⟨58,1,[(0,.c (.l 30 (.l 3 (.i .i64)) c0.1)),(1,cI c0.2.1),(2,cI c0.2.2),(7,.c (.ref 0)),(8,cI v0.1),(10,cI v0.1),(11,.c (.l 30 (.l 3 (.i .i64)) c0.1)),(12,cI (c0.1.length:Int)),(13,cB (decide (v0.1<(c0.1.length:Int))))],[(0,.arr 3 (.i .i64) v0.2)]⟩
theorem lsl18Steps_0 {R:Type} (k:Nat) (K:Ex→St→Option R) (c0:Csl18Steps_0):∀(n:Nat) (v:xe1),z2 [0,0,1,2,7,8] (run E (den E k) (lv 402) k (j1 Tryz.f402 0)) n (Stsl18Steps_0 c0 v) K=Lsl18Steps_0 k (Ysl18Steps_0_0 K c0) c0 n v:=j4 (B:=Bsl18Steps_0 k (Ysl18Steps_0_0 K c0) c0) (fun _=>rfl) (fun n v=>by kernel_rfl) (fun _=>rfl) (fun _ _=>rfl)
theorem msl18Steps_0 (k:Nat) (a0:List (List Int)) (a1:Int) (a2:Int):Fsl18Steps (k+1) a0 a1 a2=z2 (R:=List Int) [0,0,1,2,7,8] (run E (den E k) (lv 402) k (j1 Tryz.f402 0)) k (Stsl18Steps_0 (a0,a1,a2) (0,[])) (zb E (den E k) (lv 402) k (yd Tryz.f402) 0 [] (zd E (rs 402) Tryz.f402:Ex→St→Option (List Int))):=by kernel_rfl
theorem esl18Steps (k:Nat) (a0:List (List Int)) (a1:Int) (a2:Int):Fsl18Steps (k+1) a0 a1 a2=Lsl18Steps_0 k (fun (v0:Int×(List Int))=>some v0.2) (a0,a1,a2) k (0,[]):=by
 rw [msl18Steps_0]
 simp only [lsl18Steps_0]
 kernel_rfl
noncomputable def vp (k:Nat) (a0:List (List Int)):Option (Bool):=den E k 384 [.c (.l 30 (.l 3 (.i .i64)) a0)]
abbrev v61:Type:=(List (List Int))×Int×Int×Int×(List Int)
abbrev vn:Type:=Int×(List Int)
def StsUnionHasLoop_2 (c2:v61) (v2:vn):St:=⟨59,2,[(0,.c (.l 30 (.l 3 (.i .i64)) c2.1)),(3,cI c2.2.1),(4,cI c2.2.2.1),(5,.c (.ref 0)),(6,cI c2.2.2.2.1),(7,.c (.ref 1)),(8,cI v2.1)],[(0,.arr 3 (.i .i64) v2.2),(1,.arr 3 (.i .i64) c2.2.2.2.2)]⟩
noncomputable def BsUnionHasLoop_2 {R:Type} (k:Nat) (X0:vn→Option R) (c2:v61) (rec:vn→Option R) (v2:vn):Option R:=if (decide (v2.1<(c2.2.2.2.2.length:Int)))=true then if 0≤v2.1 then if v2.1<(c2.2.2.2.2.length:Int) then ix c2.2.2.2.2 v2.1.toNat fun x6=>(wx1 k v2.2 x6).bind fun p7=>if (!p7)=true then if 0≤v2.1 then if v2.1<(c2.2.2.2.2.length:Int) then ix c2.2.2.2.2 v2.1.toNat fun x8=>if (v2.2.length+([x8]).length)*8≤140737488355328 then rec ((IntKind.i64.wrap (v2.1+1)),(v2.2++[x8])) else none else none else none else rec ((IntKind.i64.wrap (v2.1+1)),v2.2) else none else none else X0 v2
noncomputable def xp1 {R:Type} (k:Nat) (X0:vn→Option R) (c:v61):Nat→vn→Option R
 | 0,_=>none
 | n+1,v=>BsUnionHasLoop_2 k X0 c (xp1 k X0 c n) v
def YsUnionHasLoop_2_0 {R:Type} (K:Ex→St→Option R) (c2:v61) (v2:vn):Option R:=K (.exit 4) ⟨59,2,[(0,.c (.l 30 (.l 3 (.i .i64)) c2.1)),(3,cI c2.2.1),(4,cI c2.2.2.1),(5,.c (.ref 0)),(6,cI c2.2.2.2.1),(7,.c (.ref 1)),(8,cI v2.1),(39,cI v2.1),(40,.c (.ref 1)),(41,cI (c2.2.2.2.2.length:Int)),(42,cB (decide (v2.1<(c2.2.2.2.2.length:Int))))],[(0,.arr 3 (.i .i64) v2.2),(1,.arr 3 (.i .i64) c2.2.2.2.2)]⟩
theorem lsUnionHasLoop_2 {R:Type} (k:Nat) (K:Ex→St→Option R) (c2:v61):∀(n:Nat) (v:vn),z2 [0,0,3,4,5,6,7,8] (run E (den E k) (lv 384) k (j1 Tryz.f384 2)) n (StsUnionHasLoop_2 c2 v) K=xp1 k (YsUnionHasLoop_2_0 K c2) c2 n v:=j4 (B:=BsUnionHasLoop_2 k (YsUnionHasLoop_2_0 K c2) c2) (fun _=>rfl) (fun n v=>by kernel_rfl) (fun _=>rfl) (fun _ _=>rfl)
abbrev zt:Type:=(List (List Int))×Int×Int
abbrev jh:Type:=Int×(List Int)
def xc1 (c1:zt) (v1:jh):St:=⟨59,1,[(0,.c (.l 30 (.l 3 (.i .i64)) c1.1)),(3,cI c1.2.1),(4,cI c1.2.2),(5,.c (.ref 0)),(6,cI v1.1)],[(0,.arr 3 (.i .i64) v1.2)]⟩
noncomputable def BsUnionHasLoop_1 {R:Type} (k:Nat) (X0:jh→Int→Option R) (X1:jh→Option R) (c1:zt) (rec:jh→Option R) (v1:jh):Option R:=if (decide (v1.1<(v1.2.length:Int)))=true then if 0≤v1.1 then if v1.1<(v1.2.length:Int) then ix v1.2 v1.1.toNat fun x3=>if (x3==c1.2.2)=true then X0 v1 x3 else if 0≤v1.1 then if v1.1<(v1.2.length:Int) then ix v1.2 v1.1.toNat fun x4=>(Fsl18Steps k c1.1 c1.2.1 x4).bind fun p5=>xp1 k (fun (v2:Int×(List Int))=>rec ((IntKind.i64.wrap (v1.1+1)),v2.2)) (c1.1,c1.2.1,c1.2.2,v1.1,p5) k (0,v1.2) else none else none else none else none else X1 v1
noncomputable def js {R:Type} (k:Nat) (X0:jh→Int→Option R) (X1:jh→Option R) (c:zt):Nat→jh→Option R
 | 0,_=>none
 | n+1,v=>BsUnionHasLoop_1 k X0 X1 c (js k X0 X1 c n) v
def YsUnionHasLoop_1_0 {R:Type} (K:Ex→St→Option R) (c1:zt) (v1:jh) (x3:Int):Option R:=K .ret ⟨59,1,[(0,.c (.l 30 (.l 3 (.i .i64)) c1.1)),(2,cB true),(3,cI c1.2.1),(4,cI c1.2.2),(5,.c (.ref 0)),(6,cI v1.1),(20,cI v1.1),(21,.c (.ref 0)),(22,cI (v1.2.length:Int)),(23,cB (decide (v1.1<(v1.2.length:Int)))),(26,.c (.ref 0)),(27,cI v1.1),(28,.c (.el 0 1 v1.1.toNat 0)),(29,cI x3),(30,cI c1.2.2),(31,cB (x3==c1.2.2))],[(0,.arr 3 (.i .i64) v1.2)]⟩
def YsUnionHasLoop_1_1 {R:Type} (K:Ex→St→Option R) (c1:zt) (v1:jh):Option R:=K (.exit 2) ⟨59,1,[(0,.c (.l 30 (.l 3 (.i .i64)) c1.1)),(3,cI c1.2.1),(4,cI c1.2.2),(5,.c (.ref 0)),(6,cI v1.1),(20,cI v1.1),(21,.c (.ref 0)),(22,cI (v1.2.length:Int)),(23,cB (decide (v1.1<(v1.2.length:Int))))],[(0,.arr 3 (.i .i64) v1.2)]⟩
theorem bmsUnionHasLoop_1_0 {R:Type} (k n:Nat) (K:Ex→St→Option R) (c1:zt) (v1:jh):z2 [0,0,3,4,5,6] (run E (den E k) (lv 384) k (j1 Tryz.f384 1)) (n+1) (xc1 c1 v1) K=if (decide (v1.1<(v1.2.length:Int)))=true then if 0≤v1.1 then if v1.1<(v1.2.length:Int) then ix v1.2 v1.1.toNat fun x3=>if (x3==c1.2.2)=true then K .ret ⟨59,1,[(0,.c (.l 30 (.l 3 (.i .i64)) c1.1)),(2,cB true),(3,cI c1.2.1),(4,cI c1.2.2),(5,.c (.ref 0)),(6,cI v1.1),(20,cI v1.1),(21,.c (.ref 0)),(22,cI (v1.2.length:Int)),(23,cB (decide (v1.1<(v1.2.length:Int)))),(26,.c (.ref 0)),(27,cI v1.1),(28,.c (.el 0 1 v1.1.toNat 0)),(29,cI x3),(30,cI c1.2.2),(31,cB (x3==c1.2.2))],[(0,.arr 3 (.i .i64) v1.2)]⟩ else if 0≤v1.1 then if v1.1<(v1.2.length:Int) then ix v1.2 v1.1.toNat fun x4=>(Fsl18Steps k c1.1 c1.2.1 x4).bind fun p5=>z2 [0,0,3,4,5,6,7,8] (run E (den E k) (lv 384) k (j1 Tryz.f384 2)) k (StsUnionHasLoop_2 (c1.1,c1.2.1,c1.2.2,v1.1,p5) (0,v1.2)) (zb E (den E k) (lv 384) k (.loop (j1 Tryz.f384 1)) (2-1) [(n,[0,0,3,4,5,6])] K) else none else none else none else none else K (.exit 2) ⟨59,1,[(0,.c (.l 30 (.l 3 (.i .i64)) c1.1)),(3,cI c1.2.1),(4,cI c1.2.2),(5,.c (.ref 0)),(6,cI v1.1),(20,cI v1.1),(21,.c (.ref 0)),(22,cI (v1.2.length:Int)),(23,cB (decide (v1.1<(v1.2.length:Int))))],[(0,.arr 3 (.i .i64) v1.2)]⟩:=by kernel_rfl
theorem bsUnionHasLoop_1 {R:Type} (k n:Nat) (K:Ex→St→Option R) (c1:zt) (v:jh):z2 [0,0,3,4,5,6] (run E (den E k) (lv 384) k (j1 Tryz.f384 1)) (n+1) (xc1 c1 v) K=BsUnionHasLoop_1 k (YsUnionHasLoop_1_0 K c1) (YsUnionHasLoop_1_1 K c1) c1 (fun v=>z2 [0,0,3,4,5,6] (run E (den E k) (lv 384) k (j1 Tryz.f384 1)) n (xc1 c1 v) K) v:=by
 rw [bmsUnionHasLoop_1_0]
 simp only [lsUnionHasLoop_2]
 kernel_rfl
theorem lsUnionHasLoop_1 {R:Type} (k:Nat) (K:Ex→St→Option R) (c1:zt):∀(n:Nat) (v:jh),z2 [0,0,3,4,5,6] (run E (den E k) (lv 384) k (j1 Tryz.f384 1)) n (xc1 c1 v) K=js k (YsUnionHasLoop_1_0 K c1) (YsUnionHasLoop_1_1 K c1) c1 n v:=j4 (B:=BsUnionHasLoop_1 k (YsUnionHasLoop_1_0 K c1) (YsUnionHasLoop_1_1 K c1) c1) (fun _=>rfl) (fun n v=>bsUnionHasLoop_1 k n K c1 v) (fun _=>rfl) (fun _ _=>rfl)
abbrev yt:Type:=(List (List Int))×Int
abbrev yi:Type:=Int
def zb1 (c0:yt) (v0:yi):St:=⟨59,0,[(0,.c (.l 30 (.l 3 (.i .i64)) c0.1)),(3,cI c0.2),(4,cI v0)],[]⟩
noncomputable def BsUnionHasLoop_0 {R:Type} (k:Nat) (X0:yi→(List Int)→(Int×(List Int))→Int→Option R) (X1:yi→Option R) (c0:yt) (rec:yi→Option R) (v0:yi):Option R:=if (decide (v0<c0.2))=true then (Fsl18Steps k c0.1 c0.2 v0).bind fun p2=>js k (fun (v1:Int×(List Int)) (x3:Int)=>X0 v0 p2 v1 x3) (fun (v1:Int×(List Int))=>rec (IntKind.i64.wrap (v0+1))) (c0.1,c0.2,v0) k (0,p2) else X1 v0
noncomputable def wg1 {R:Type} (k:Nat) (X0:yi→(List Int)→(Int×(List Int))→Int→Option R) (X1:yi→Option R) (c:yt):Nat→yi→Option R
 | 0,_=>none
 | n+1,v=>BsUnionHasLoop_0 k X0 X1 c (wg1 k X0 X1 c n) v
def zx1 {R:Type} (K:Ex→St→Option R) (c0:yt) (v0:yi) (p2:List Int) (v1:Int×(List Int)) (x3:Int):Option R:=K .ret ⟨59,1,[(0,.c (.l 30 (.l 3 (.i .i64)) c0.1)),(2,cB true),(3,cI c0.2),(4,cI v0),(5,.c (.ref 0)),(6,cI v1.1),(20,cI v1.1),(21,.c (.ref 0)),(22,cI (v1.2.length:Int)),(23,cB (decide (v1.1<(v1.2.length:Int)))),(26,.c (.ref 0)),(27,cI v1.1),(28,.c (.el 0 1 v1.1.toNat 0)),(29,cI x3),(30,cI v0),(31,cB (x3==v0))],[(0,.arr 3 (.i .i64) v1.2)]⟩
def jw1 {R:Type} (K:Ex→St→Option R) (c0:yt) (v0:yi):Option R:=K (.exit 0) ⟨59,0,[(0,.c (.l 30 (.l 3 (.i .i64)) c0.1)),(3,cI c0.2),(4,cI v0),(11,cI v0),(12,cI c0.2),(13,cB (decide (v0<c0.2)))],[]⟩
theorem bmsUnionHasLoop_0_0 {R:Type} (k n:Nat) (K:Ex→St→Option R) (c0:yt) (v0:yi):z2 [0,0,3,4] (run E (den E k) (lv 384) k (j1 Tryz.f384 0)) (n+1) (zb1 c0 v0) K=if (decide (v0<c0.2))=true then (Fsl18Steps k c0.1 c0.2 v0).bind fun p2=>z2 [0,0,3,4,5,6] (run E (den E k) (lv 384) k (j1 Tryz.f384 1)) k (xc1 (c0.1,c0.2,v0) (0,p2)) (zb E (den E k) (lv 384) k (.loop (j1 Tryz.f384 0)) (1-0) [(n,[0,0,3,4])] K) else K (.exit 0) ⟨59,0,[(0,.c (.l 30 (.l 3 (.i .i64)) c0.1)),(3,cI c0.2),(4,cI v0),(11,cI v0),(12,cI c0.2),(13,cB (decide (v0<c0.2)))],[]⟩:=by kernel_rfl
theorem bsUnionHasLoop_0 {R:Type} (k n:Nat) (K:Ex→St→Option R) (c0:yt) (v:yi):z2 [0,0,3,4] (run E (den E k) (lv 384) k (j1 Tryz.f384 0)) (n+1) (zb1 c0 v) K=BsUnionHasLoop_0 k (zx1 K c0) (jw1 K c0) c0 (fun v=>z2 [0,0,3,4] (run E (den E k) (lv 384) k (j1 Tryz.f384 0)) n (zb1 c0 v) K) v:=by
 rw [bmsUnionHasLoop_0_0]
 simp only [lsUnionHasLoop_1]
 kernel_rfl
theorem lsUnionHasLoop_0 {R:Type} (k:Nat) (K:Ex→St→Option R) (c0:yt):∀(n:Nat) (v:yi),z2 [0,0,3,4] (run E (den E k) (lv 384) k (j1 Tryz.f384 0)) n (zb1 c0 v) K=wg1 k (zx1 K c0) (jw1 K c0) c0 n v:=j4 (B:=BsUnionHasLoop_0 k (zx1 K c0) (jw1 K c0) c0) (fun _=>rfl) (fun n v=>bsUnionHasLoop_0 k n K c0 v) (fun _=>rfl) (fun _ _=>rfl)
theorem msUnionHasLoop_0 (k:Nat) (a0:List (List Int)):vp (k+1) a0=(Fsl18Size k a0).bind fun p1=>z2 (R:=Bool) [0,0,3,4] (run E (den E k) (lv 384) k (j1 Tryz.f384 0)) k (zb1 (a0,p1) 0) (zb E (den E k) (lv 384) k (yd Tryz.f384) 0 [] (zd E (rs 384) Tryz.f384:Ex→St→Option (Bool))):=by kernel_rfl
theorem esUnionHasLoop (k:Nat) (a0:List (List Int)):vp (k+1) a0=(Fsl18Size k a0).bind fun p1=>wg1 k (fun (v0:Int) (p2:List Int) (v1:Int×(List Int)) (x3:Int)=>some true) (fun (v0:Int)=>some false) (a0,p1) k 0:=by
 rw [msUnionHasLoop_0]
 simp only [lsUnionHasLoop_0]
 kernel_rfl
noncomputable def FsIsSafeMix (k:Nat) (a0:j2) (a1:Int) (a2:Int) (a3:Int):Option (Bool):=den E k 336 [.agg (avs z7 a0),cI a1,cI a2,cI a3]
abbrev xy1:Type:=Int×j2×(List Int)
abbrev y81:Type:=Int×(List (List Int))
def StsIsSafeMix_0 (c0:xy1) (v0:y81):St:=⟨44,3,[(1,cI c0.1),(4,cP 0),(9,.c (.ref 1)),(10,.c (.ref 2)),(11,cI v0.1)],[(0,.var (avs z7 c0.2.1)),(1,.arr 30 (.l 3 (.i .i64)) v0.2),(2,.arr 3 (.i .i64) c0.2.2)]⟩
noncomputable def BsIsSafeMix_0 {R:Type} (k:Nat) (X0:y81→Option R) (c0:xy1) (rec:y81→Option R) (v0:y81):Option R:=if (decide (v0.1<(c0.2.2.length:Int)))=true then if 0≤v0.1 then if v0.1<(c0.2.2.length:Int) then ix c0.2.2 v0.1.toNat fun x2=>(FsTableIn k c0.2.1 x2 c0.1).bind fun p3=>if p3.2=true then if (v0.2.length+([p3.1.2.2]).length)*24≤140737488355328 then rec ((IntKind.i64.wrap (v0.1+1)),(v0.2++[p3.1.2.2])) else none else rec ((IntKind.i64.wrap (v0.1+1)),v0.2) else none else none else X0 v0
noncomputable def LsIsSafeMix_0 {R:Type} (k:Nat) (X0:y81→Option R) (c:xy1):Nat→y81→Option R
 | 0,_=>none
 | n+1,v=>BsIsSafeMix_0 k X0 c (LsIsSafeMix_0 k X0 c n) v
def YsIsSafeMix_0_0 {R:Type} (K:Ex→St→Option R) (c0:xy1) (v0:y81):Option R:=K (.exit 0) ⟨44,3,[(1,cI c0.1),(4,cP 0),(9,.c (.ref 1)),(10,.c (.ref 2)),(11,cI v0.1),(19,cI v0.1),(20,.c (.ref 2)),(21,cI (c0.2.2.length:Int)),(22,cB (decide (v0.1<(c0.2.2.length:Int))))],[(0,.var (avs z7 c0.2.1)),(1,.arr 30 (.l 3 (.i .i64)) v0.2),(2,.arr 3 (.i .i64) c0.2.2)]⟩
theorem lsIsSafeMix_0 {R:Type} (k:Nat) (K:Ex→St→Option R) (c0:xy1):∀(n:Nat) (v:y81),z2 [0,1,4,9,10,11] (run E (den E k) (lv 336) k (j1 Tryz.f336 0)) n (StsIsSafeMix_0 c0 v) K=LsIsSafeMix_0 k (YsIsSafeMix_0_0 K c0) c0 n v:=j4 (B:=BsIsSafeMix_0 k (YsIsSafeMix_0_0 K c0) c0) (fun _=>rfl) (fun n v=>by kernel_rfl) (fun _=>rfl) (fun _ _=>rfl)
theorem msIsSafeMix_0 (k:Nat) (a0:j2) (a1:Int) (a2:Int) (a3:Int):FsIsSafeMix (k+1) a0 a1 a2 a3=(FsPiecesIn k a0 a2 a3).bind fun p1=>z2 (R:=Bool) [0,1,4,9,10,11] (run E (den E k) (lv 336) k (j1 Tryz.f336 0)) k (StsIsSafeMix_0 (a1,a0,p1) (0,[])) (zb E (den E k) (lv 336) k (yd Tryz.f336) 0 [] (zd E (rs 336) Tryz.f336:Ex→St→Option (Bool))):=by kernel_rfl
theorem esIsSafeMix (k:Nat) (a0:j2) (a1:Int) (a2:Int) (a3:Int):FsIsSafeMix (k+1) a0 a1 a2 a3=(FsPiecesIn k a0 a2 a3).bind fun p1=>LsIsSafeMix_0 k (fun (v0:Int×(List (List Int)))=>(vp k v0.2).bind fun p2=>some (!p2)) (a1,a0,p1) k (0,[]):=by
 rw [msIsSafeMix_0]
 simp only [lsIsSafeMix_0]
 kernel_rfl
noncomputable def Fsl19Next (k:Nat) (a0:j2) (a1:Int) (a2:Int) (a3:Int):Option (Int):=den E k 337 [.agg (avs z7 a0),cI a1,cI a2,cI a3]
theorem esl19Next (k:Nat) (a0:j2) (a1:Int) (a2:Int) (a3:Int):Fsl19Next (k+1) a0 a1 a2 a3=(FsPieceAt k a0 a3).bind fun p1=>(FsTableIn k a0 p1 a2).bind fun p2=>if ((!p2.2)==false)=true then (wl k a1 0 (IntKind.i64.wrap ((p2.1.2.2.length:Int)-1))).bind fun p3=>if (!p3)=true then some (-1) else if 0≤a1 then if a1<(p2.1.2.2.length:Int) then ix p2.1.2.2 a1.toNat fun x4=>some x4 else none else none else some (-1):=by kernel_rfl
noncomputable def FsHopAt (k:Nat) (a0:j2) (a1:Int) (a2:Int) (a3:Int):Option (Int):=den E k 267 [.agg (avs z7 a0),cI a1,cI a2,cI a3]
theorem esHopAt (k:Nat) (a0:j2) (a1:Int) (a2:Int) (a3:Int):FsHopAt (k+1) a0 a1 a2 a3=(wl k a0.2.2.1 0 5).bind fun p1=>if ((!p1)==false)=true then (wl k a3 0 1000).bind fun p2=>if ((!p2)==false)=true then (FsIsSafeMix k a0 a2 (IntKind.i64.wrap (a3-(IntKind.i64.wrap (2*a0.2.2.1)))) (IntKind.i64.wrap (a3+(IntKind.i64.wrap (2*a0.2.2.1))))).bind fun p3=>if (!p3)=true then some (-1) else (Fsl19Next k a0 a1 a2 a3).bind fun p4=>some p4 else some (-1) else some (-1):=by kernel_rfl
noncomputable def FsIsCalm (k:Nat) (a0:j2) (a1:Int):Option (Bool):=den E k 271 [.agg (avs z7 a0),cI a1]
theorem esIsCalm (k:Nat) (a0:j2) (a1:Int):FsIsCalm (k+1) a0 a1=(wl k a0.2.2.1 0 5).bind fun p1=>if (p1==true)=true then (wl k a1 0 1000).bind fun p2=>if (p2==true)=true then (FsPiecesIn k a0 (IntKind.i64.wrap (a1-(IntKind.i64.wrap (2*a0.2.2.1)))) (IntKind.i64.wrap (a1+(IntKind.i64.wrap (2*a0.2.2.1))))).bind fun p3=>some ((p3.length:Int)==1) else some false else some false:=by kernel_rfl
noncomputable def FsRepairHop (k:Nat) (a0:j2) (a1:Int) (a2:Int) (a3:Int) (a4:List Int):Option (Int):=den E k 199 [.agg (avs z7 a0),cI a1,cI a2,cI a3,.c (.l 3 (.i .i64) a4)]
abbrev wn1:Type:=(List Int)×(List Int)
abbrev yr:Type:=Int
def StsRepairHop_0 (c0:wn1) (v0:yr):St:=⟨77,1,[(4,.c (.l 3 (.i .i64) c0.1)),(15,.c (.ref 0)),(16,cI v0)],[(0,.arr 3 (.i .i64) c0.2)]⟩
noncomputable def BsRepairHop_0 {R:Type} (k:Nat) (X0:yr→Int→Bool→Int→Option R) (X1:yr→Option R) (c0:wn1) (rec:yr→Option R) (v0:yr):Option R:=if (decide (v0<(c0.2.length:Int)))=true then if 0≤v0 then if v0<(c0.2.length:Int) then ix c0.2 v0.toNat fun x8=>(wx1 k c0.1 x8).bind fun p9=>if (!p9)=true then if 0≤v0 then if v0<(c0.2.length:Int) then ix c0.2 v0.toNat fun x10=>X0 v0 x8 p9 x10 else none else none else rec (IntKind.i64.wrap (v0+1)) else none else none else X1 v0
noncomputable def zn1 {R:Type} (k:Nat) (X0:yr→Int→Bool→Int→Option R) (X1:yr→Option R) (c:wn1):Nat→yr→Option R
 | 0,_=>none
 | n+1,v=>BsRepairHop_0 k X0 X1 c (zn1 k X0 X1 c n) v
def YsRepairHop_0_0 {R:Type} (K:Ex→St→Option R) (c0:wn1) (v0:yr) (x8:Int) (p9:Bool) (x10:Int):Option R:=K .ret ⟨77,1,[(4,.c (.l 3 (.i .i64) c0.1)),(10,cI x10),(15,.c (.ref 0)),(16,cI v0),(60,cI v0),(61,.c (.ref 0)),(62,cI (c0.2.length:Int)),(63,cB (decide (v0<(c0.2.length:Int)))),(66,.c (.l 3 (.i .i64) c0.1)),(67,.c (.ref 0)),(68,cI v0),(69,.c (.el 0 1 v0.toNat 0)),(70,cI x8),(71,cB p9),(72,cB (!p9)),(73,.c (.ref 0)),(74,cI v0),(75,.c (.el 0 1 v0.toNat 0)),(76,cI x10)],[(0,.arr 3 (.i .i64) c0.2)]⟩
def YsRepairHop_0_1 {R:Type} (K:Ex→St→Option R) (c0:wn1) (v0:yr):Option R:=K (.exit 0) ⟨77,1,[(4,.c (.l 3 (.i .i64) c0.1)),(15,.c (.ref 0)),(16,cI v0),(60,cI v0),(61,.c (.ref 0)),(62,cI (c0.2.length:Int)),(63,cB (decide (v0<(c0.2.length:Int))))],[(0,.arr 3 (.i .i64) c0.2)]⟩
theorem lsRepairHop_0 {R:Type} (k:Nat) (K:Ex→St→Option R) (c0:wn1):∀(n:Nat) (v:yr),z2 [0,4,15,16] (run E (den E k) (lv 199) k (j1 Tryz.f199 0)) n (StsRepairHop_0 c0 v) K=zn1 k (YsRepairHop_0_0 K c0) (YsRepairHop_0_1 K c0) c0 n v:=j4 (B:=BsRepairHop_0 k (YsRepairHop_0_0 K c0) (YsRepairHop_0_1 K c0) c0) (fun _=>rfl) (fun n v=>by kernel_rfl) (fun _=>rfl) (fun _ _=>rfl)
theorem msRepairHop_0 (k:Nat) (a0:j2) (a1:Int) (a2:Int) (a3:Int) (a4:List Int):FsRepairHop (k+1) a0 a1 a2 a3 a4=(FsHopAt k a0 a1 a2 a3).bind fun p1=>(wx1 k a4 p1).bind fun p2=>if (!p2)=true then some p1 else (FsPieceAt k a0 a3).bind fun p3=>(FsTableIn k a0 p3 a2).bind fun p4=>if ((decide (p1<0))==false)=true then if ((!p4.2)==false)=true then (FsIsCalm k a0 a3).bind fun p5=>if (!p5)=true then some (-1) else if 0≤p3 then ix a0.2.2.2 p3.toNat fun x6=>(FsAltsOf k p4.1 x6.2.1 a0.2.1 a1).bind fun p7=>z2 (R:=Int) [0,4,15,16] (run E (den E k) (lv 199) k (j1 Tryz.f199 0)) k (StsRepairHop_0 (a4,p7) 0) (zb E (den E k) (lv 199) k (yd Tryz.f199) 0 [] (zd E (rs 199) Tryz.f199:Ex→St→Option (Int))) else none else some (-1) else some (-1):=by kernel_rfl
theorem esRepairHop (k:Nat) (a0:j2) (a1:Int) (a2:Int) (a3:Int) (a4:List Int):FsRepairHop (k+1) a0 a1 a2 a3 a4=(FsHopAt k a0 a1 a2 a3).bind fun p1=>(wx1 k a4 p1).bind fun p2=>if (!p2)=true then some p1 else (FsPieceAt k a0 a3).bind fun p3=>(FsTableIn k a0 p3 a2).bind fun p4=>if ((decide (p1<0))==false)=true then if ((!p4.2)==false)=true then (FsIsCalm k a0 a3).bind fun p5=>if (!p5)=true then some (-1) else if 0≤p3 then ix a0.2.2.2 p3.toNat fun x6=>(FsAltsOf k p4.1 x6.2.1 a0.2.1 a1).bind fun p7=>zn1 k (fun (v0:Int) (x8:Int) (p9:Bool) (x10:Int)=>some x10) (fun (v0:Int)=>some (-1)) (a4,p7) k 0 else none else some (-1) else some (-1):=by
 rw [msRepairHop_0]
 simp only [lsRepairHop_0]
 kernel_rfl
noncomputable def FsHopFor (k:Nat) (a0:xp) (a1:Int) (a2:Int):Option (Int):=den E k 93 [.agg (avs y51 a0),cI a1,cI a2]
theorem esHopFor (k:Nat) (a0:xp) (a1:Int) (a2:Int):FsHopFor (k+1) a0 a1 a2=(wl k a1 0 (IntKind.i64.wrap ((a0.2.2.2.1.length:Int)-1))).bind fun p1=>if ((!p1)==false)=true then (wl k a0.2.2.2.2.2.2.2.2.2.2.1 0 1000).bind fun p2=>if ((!p2)==false)=true then if 0≤a1 then ix a0.2.2.2.1 a1.toNat fun x3=>(wl k x3 (-5) 5).bind fun p4=>if (!p4)=true then some (-1) else if 0≤a1 then ix a0.2.2.2.1 a1.toNat fun x5=>(FsDeadNow k a0 a1).bind fun p6=>(FsRepairHop k a0.2.1 a1 a2 (IntKind.i64.wrap (a0.2.2.2.2.2.2.2.2.2.2.1+x5)) p6).bind fun p7=>if ((decide (p7<0))==false)=true then (FsMayUse k a0.2.1 a1 p7 (IntKind.i64.wrap (a0.2.2.2.2.2.2.2.2.2.2.1+x5))).bind fun p8=>if (!p8)=true then some (-1) else some p7 else some (-1) else none else none else some (-1) else some (-1):=by kernel_rfl
noncomputable def FsOrderOf (k:Nat) (a0:List I6):Option (List Int):=den E k 92 [.agg [.l 66 sI6 a0]]
abbrev CsOrderOf_1:Type:=Int×(List I6)
abbrev xj1:Type:=Int×(List Int)
def StsOrderOf_1 (c1:CsOrderOf_1) (v1:xj1):St:=⟨44,2,[(1,cP 0),(3,.c (.ref 1)),(4,cI c1.1),(5,cI v1.1)],[(0,.var [.l 66 sI6 c1.2]),(1,.arr 3 (.i .i64) v1.2)]⟩
noncomputable def BsOrderOf_1 {R:Type} (k:Nat) (X0:xj1→Option R) (c1:CsOrderOf_1) (rec:xj1→Option R) (v1:xj1):Option R:=if (decide (v1.1<(c1.2.length:Int)))=true then if 0≤v1.1 then ix c1.2 v1.1.toNat fun x1=>if (x1.2.2.2.2.2 !=1)=true then if (v1.2.length+([v1.1]).length)*8≤140737488355328 then rec ((IntKind.i64.wrap (v1.1+1)),(v1.2++[v1.1])) else none else rec ((IntKind.i64.wrap (v1.1+1)),v1.2) else none else X0 v1
noncomputable def vq1 {R:Type} (k:Nat) (X0:xj1→Option R) (c:CsOrderOf_1):Nat→xj1→Option R
 | 0,_=>none
 | n+1,v=>BsOrderOf_1 k X0 c (vq1 k X0 c n) v
def YsOrderOf_1_0 {R:Type} (K:Ex→St→Option R) (c1:CsOrderOf_1) (v1:xj1):Option R:=K (.exit 2) ⟨44,2,[(1,cP 0),(3,.c (.ref 1)),(4,cI c1.1),(5,cI v1.1),(25,cI v1.1),(26,cP 0),(27,.c (.l 66 sI6 c1.2)),(28,cI (c1.2.length:Int)),(29,cB (decide (v1.1<(c1.2.length:Int))))],[(0,.var [.l 66 sI6 c1.2]),(1,.arr 3 (.i .i64) v1.2)]⟩
theorem lsOrderOf_1 {R:Type} (k:Nat) (K:Ex→St→Option R) (c1:CsOrderOf_1):∀(n:Nat) (v:xj1),z2 [0,1,3,4,5] (run E (den E k) (lv 92) k (j1 Tryz.f92 1)) n (StsOrderOf_1 c1 v) K=vq1 k (YsOrderOf_1_0 K c1) c1 n v:=j4 (B:=BsOrderOf_1 k (YsOrderOf_1_0 K c1) c1) (fun _=>rfl) (fun n v=>by kernel_rfl) (fun _=>rfl) (fun _ _=>rfl)
abbrev CsOrderOf_0:Type:=(List I6)
abbrev ji1:Type:=Int×(List Int)
def StsOrderOf_0 (c0:CsOrderOf_0) (v0:ji1):St:=⟨44,2,[(1,cP 0),(3,.c (.ref 1)),(4,cI v0.1)],[(0,.var [.l 66 sI6 c0]),(1,.arr 3 (.i .i64) v0.2)]⟩
noncomputable def BsOrderOf_0 {R:Type} (k:Nat) (X0:ji1→Option R) (c0:CsOrderOf_0) (rec:ji1→Option R) (v0:ji1):Option R:=if (decide (v0.1<(c0.length:Int)))=true then if 0≤v0.1 then ix c0 v0.1.toNat fun x1=>if (x1.2.2.2.2.2==1)=true then if (v0.2.length+([v0.1]).length)*8≤140737488355328 then rec ((IntKind.i64.wrap (v0.1+1)),(v0.2++[v0.1])) else none else rec ((IntKind.i64.wrap (v0.1+1)),v0.2) else none else X0 v0
noncomputable def LsOrderOf_0 {R:Type} (k:Nat) (X0:ji1→Option R) (c:CsOrderOf_0):Nat→ji1→Option R
 | 0,_=>none
 | n+1,v=>BsOrderOf_0 k X0 c (LsOrderOf_0 k X0 c n) v
def YsOrderOf_0_0 {R:Type} (K:Ex→St→Option R) (c0:CsOrderOf_0) (v0:ji1):Option R:=K (.exit 0) ⟨44,2,[(1,cP 0),(3,.c (.ref 1)),(4,cI v0.1),(7,cI v0.1),(8,cP 0),(9,.c (.l 66 sI6 c0)),(10,cI (c0.length:Int)),(11,cB (decide (v0.1<(c0.length:Int))))],[(0,.var [.l 66 sI6 c0]),(1,.arr 3 (.i .i64) v0.2)]⟩
theorem lsOrderOf_0 {R:Type} (k:Nat) (K:Ex→St→Option R) (c0:CsOrderOf_0):∀(n:Nat) (v:ji1),z2 [0,1,3,4] (run E (den E k) (lv 92) k (j1 Tryz.f92 0)) n (StsOrderOf_0 c0 v) K=LsOrderOf_0 k (YsOrderOf_0_0 K c0) c0 n v:=j4 (B:=BsOrderOf_0 k (YsOrderOf_0_0 K c0) c0) (fun _=>rfl) (fun n v=>by kernel_rfl) (fun _=>rfl) (fun _ _=>rfl)
theorem msOrderOf_0 (k:Nat) (a0:List I6):FsOrderOf (k+1) a0=z2 (R:=List Int) [0,1,3,4] (run E (den E k) (lv 92) k (j1 Tryz.f92 0)) k (StsOrderOf_0 a0 (0,[])) (zb E (den E k) (lv 92) k (yd Tryz.f92) 0 [] (zd E (rs 92) Tryz.f92:Ex→St→Option (List Int))):=by kernel_rfl
theorem msOrderOf_1 (k:Nat) (a0:List I6):FsOrderOf (k+1) a0=LsOrderOf_0 k (fun (v0:Int×(List Int))=>z2 (R:=List Int) [0,1,3,4,5] (run E (den E k) (lv 92) k (j1 Tryz.f92 1)) k (StsOrderOf_1 (v0.1,a0) (0,v0.2)) (zb E (den E k) (lv 92) k (yd Tryz.f92) 1 [] (zd E (rs 92) Tryz.f92:Ex→St→Option (List Int)))) a0 k (0,[]):=by 
 rw [msOrderOf_0]
 simp only [lsOrderOf_0]
 kernel_rfl
theorem esOrderOf (k:Nat) (a0:List I6):FsOrderOf (k+1) a0=LsOrderOf_0 k (fun (v0:Int×(List Int))=>vq1 k (fun (v1:Int×(List Int))=>some v1.2) (v0.1,a0) k (0,v0.2)) a0 k (0,[]):=by
 rw [msOrderOf_1]
 simp only [lsOrderOf_1]
 kernel_rfl
noncomputable def FsChoiceFor (k:Nat) (a0:xp) (a1:Int):Option (I6×Int×Bool):=den E k 15 [.agg (avs y51 a0),cI a1]
abbrev xl1:Type:=Int×xp×Int×Int×Int×Int×Int×Int×(List I6)×(List Int)
abbrev wr:Type:=Int
def StsChoiceFor_0 (c0:xl1) (v0:wr):St:=⟨55,4,[(1,cI c0.1),(2,cP 0),(4,cP 1),(7,cP 2),(8,.c (.ref 3)),(9,cI v0)],[(0,.var (avs y51 c0.2.1)),(1,.var [vI c0.2.2.1,vI c0.2.2.2.1,vI c0.2.2.2.2.1,vI c0.2.2.2.2.2.1,vI c0.2.2.2.2.2.2.1,vI c0.2.2.2.2.2.2.2.1]),(2,.var [.l 66 sI6 c0.2.2.2.2.2.2.2.2.1]),(3,.arr 3 (.i .i64) c0.2.2.2.2.2.2.2.2.2)]⟩
noncomputable def BsChoiceFor_0 {R:Type} (k:Nat) (X0:wr→Int→I6→Int→Option R) (X1:wr→Option R) (c0:xl1) (rec:wr→Option R) (v0:wr):Option R:=if (decide (v0<(c0.2.2.2.2.2.2.2.2.2.length:Int)))=true then if 0≤v0 then if v0<(c0.2.2.2.2.2.2.2.2.2.length:Int) then ix c0.2.2.2.2.2.2.2.2.2 v0.toNat fun x4=>if 0≤x4 then ix c0.2.2.2.2.2.2.2.2.1 x4.toNat fun x5=>(FsHopFor k c0.2.1 c0.1 x5.2.2.2.2.1).bind fun p6=>if (decide (p6≥0))=true then X0 v0 x4 x5 p6 else rec (IntKind.i64.wrap (v0+1)) else none else none else none else X1 v0
noncomputable def yy1 {R:Type} (k:Nat) (X0:wr→Int→I6→Int→Option R) (X1:wr→Option R) (c:xl1):Nat→wr→Option R
 | 0,_=>none
 | n+1,v=>BsChoiceFor_0 k X0 X1 c (yy1 k X0 X1 c n) v
def YsChoiceFor_0_0 {R:Type} (K:Ex→St→Option R) (c0:xl1) (v0:wr) (x4:Int) (x5:I6) (p6:Int):Option R:=K .ret ⟨55,5,[(1,cI c0.1),(2,cP 0),(4,cP 1),(5,cI p6),(6,cB true),(7,cP 2),(8,.c (.ref 3)),(9,cI v0),(10,cP 4),(11,cI p6),(31,cI v0),(32,.c (.ref 3)),(33,cI (c0.2.2.2.2.2.2.2.2.2.length:Int)),(34,cB (decide (v0<(c0.2.2.2.2.2.2.2.2.2.length:Int)))),(37,cP 2),(38,.c (.l 66 sI6 c0.2.2.2.2.2.2.2.2.1)),(39,.c (.ref 3)),(40,cI v0),(41,.c (.el 3 1 v0.toNat 0)),(42,cI x4),(43,.c (.at_ (avs sI6 x5))),(44,.agg (avs sI6 x5)),(45,.agg (avs y51 c0.2.1)),(46,cI c0.1),(47,.c (.ptr 4 4)),(48,cI x5.2.2.2.2.1),(49,cI p6),(50,cI p6),(51,cB (decide (p6≥0))),(52,.agg (avs sI6 x5)),(53,cI p6)],[(0,.var (avs y51 c0.2.1)),(1,.var (avs sI6 x5)),(2,.var [.l 66 sI6 c0.2.2.2.2.2.2.2.2.1]),(3,.arr 3 (.i .i64) c0.2.2.2.2.2.2.2.2.2),(4,.var (avs sI6 x5))]⟩
def YsChoiceFor_0_1 {R:Type} (K:Ex→St→Option R) (c0:xl1) (v0:wr):Option R:=K (.exit 0) ⟨55,4,[(1,cI c0.1),(2,cP 0),(4,cP 1),(7,cP 2),(8,.c (.ref 3)),(9,cI v0),(31,cI v0),(32,.c (.ref 3)),(33,cI (c0.2.2.2.2.2.2.2.2.2.length:Int)),(34,cB (decide (v0<(c0.2.2.2.2.2.2.2.2.2.length:Int))))],[(0,.var (avs y51 c0.2.1)),(1,.var [vI c0.2.2.1,vI c0.2.2.2.1,vI c0.2.2.2.2.1,vI c0.2.2.2.2.2.1,vI c0.2.2.2.2.2.2.1,vI c0.2.2.2.2.2.2.2.1]),(2,.var [.l 66 sI6 c0.2.2.2.2.2.2.2.2.1]),(3,.arr 3 (.i .i64) c0.2.2.2.2.2.2.2.2.2)]⟩
theorem lsChoiceFor_0 {R:Type} (k:Nat) (K:Ex→St→Option R) (c0:xl1):∀(n:Nat) (v:wr),z2 [0,1,2,4,7,8,9] (run E (den E k) (lv 15) k (j1 Tryz.f15 0)) n (StsChoiceFor_0 c0 v) K=yy1 k (YsChoiceFor_0_0 K c0) (YsChoiceFor_0_1 K c0) c0 n v:=j4 (B:=BsChoiceFor_0 k (YsChoiceFor_0_0 K c0) (YsChoiceFor_0_1 K c0) c0) (fun _=>rfl) (fun n v=>by kernel_rfl) (fun _=>rfl) (fun _ _=>rfl)
theorem msChoiceFor_0 (k:Nat) (a0:xp) (a1:Int):FsChoiceFor (k+1) a0 a1=(FsCanSend k a0 a1).bind fun p1=>if ((!p1)==false)=true then if (decide (a1≥(a0.2.2.2.2.2.1.length:Int)))=true then some ((0,0,0,0,0,0),-1,false) else if 0≤a1 then ix a0.2.2.2.2.2.1 a1.toNat fun x2=>(FsOrderOf k x2).bind fun p3=>z2 (R:=I6×Int×Bool) [0,1,2,4,7,8,9] (run E (den E k) (lv 15) k (j1 Tryz.f15 0)) k (StsChoiceFor_0 (a1,a0,0,0,0,0,0,0,x2,p3) 0) (zb E (den E k) (lv 15) k (yd Tryz.f15) 0 [] (zd E (rs 15) Tryz.f15:Ex→St→Option (I6×Int×Bool))) else none else some ((0,0,0,0,0,0),-1,false):=by kernel_rfl
theorem esChoiceFor (k:Nat) (a0:xp) (a1:Int):FsChoiceFor (k+1) a0 a1=(FsCanSend k a0 a1).bind fun p1=>if ((!p1)==false)=true then if (decide (a1≥(a0.2.2.2.2.2.1.length:Int)))=true then some ((0,0,0,0,0,0),-1,false) else if 0≤a1 then ix a0.2.2.2.2.2.1 a1.toNat fun x2=>(FsOrderOf k x2).bind fun p3=>yy1 k (fun (v0:Int) (x4:Int) (x5:I6) (p6:Int)=>some (x5,p6,true)) (fun (v0:Int)=>some ((0,0,0,0,0,0),-1,false)) (a1,a0,0,0,0,0,0,0,x2,p3) k 0 else none else some ((0,0,0,0,0,0),-1,false):=by
 rw [msChoiceFor_0]
 simp only [lsChoiceFor_0]
 kernel_rfl
noncomputable def FlFnExactChoiceFor (k:Nat) (a0:xp) (a1:Int):Option (Bool):=den E k 4 [.agg (avs yz a0),cI a1]
theorem elFnExactChoiceFor (k:Nat) (a0:xp) (a1:Int):FlFnExactChoiceFor (k+1) a0 a1=(FlszWorld k a0 1048576).bind fun p1=>if (decide (p1<0))=true then some true else (FltoWorld k a0).bind fun p2=>(FsChoiceFor k p2 a1).bind fun p3=>(FltoWorld k a0).bind fun p4=>(FiChoiceFor k p4 a1).bind fun p5=>(FleqPacket k p5.1 p3.1).bind fun p6=>if ((!p6)==false)=true then if ((p5.2.1 !=p3.2.1)==false)=true then if (!(p5.2.2==p3.2.2))=true then some false else (FltoWorld k a0).bind fun p7=>(FleqWorld k p4 p7).bind fun p8=>if (!p8)=true then some false else some true else some false else some false:=by kernel_rfl
end Go.Proofs.YtkgjmgaccfmhpaaGreat.World
