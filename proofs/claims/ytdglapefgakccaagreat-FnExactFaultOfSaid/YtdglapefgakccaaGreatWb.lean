/- The equations of the functions that a law reaches, part 2. No condition. -/
import Derived.Test.YtdglapefgakccaaGreatWa
set_option linter.unusedSimpArgs false
set_option linter.unusedVariables false
namespace Go.Proofs.YtdglapefgakccaaGreat.World
open Go Go.V Go.Proofs
open Go.IntKind (i64 u64)
variable {R:Type}
set_option maxRecDepth 100000
set_option maxHeartbeats 4000000
noncomputable def FsIsQuiet (k:Nat) (a0:TWorld):Option (Bool):=den E k 112 [.agg (avs sWorld a0)]
abbrev CsIsQuiet_0:=TWorld
abbrev VsIsQuiet_0:=Int
def StsIsQuiet_0:CsIsQuiet_0->VsIsQuiet_0->St
 | a,b=>⟨33,1,[(1,cP 0),(3,cI b)],[(0,.var (avs sWorld a))]⟩
noncomputable def BsIsQuiet_0 {R:Type} (k:Nat) (X0:VsIsQuiet_0->I4->Bool->Bool->Option R) (X1:VsIsQuiet_0->I4->Bool->Option R) (X2:VsIsQuiet_0->Option R) (c0:CsIsQuiet_0) (rec:VsIsQuiet_0->Option R) (v0:VsIsQuiet_0):Option R:=if (decide (v0<(c0.2.2.2.2.2.2.2.2.2.2.2.2.2.length:Int)))=true then if 0<=v0 then ix c0.2.2.2.2.2.2.2.2.2.2.2.2.2 v0.toNat fun x1=>(FsMayDisturb k c0.1 x1.2.1 x1.1).bind fun p2=>if (p2==false)=true then (FsMayDisturb k c0.1 x1.2.2.1 x1.1).bind fun p3=>if p3=true then X0 v0 x1 p2 p3 else rec (i64.wrap (v0+1)) else X1 v0 x1 p2 else none else X2 v0
noncomputable def LsIsQuiet_0 {R:Type} (k:Nat) (X0:VsIsQuiet_0->I4->Bool->Bool->Option R) (X1:VsIsQuiet_0->I4->Bool->Option R) (X2:VsIsQuiet_0->Option R) (c:CsIsQuiet_0):Nat->VsIsQuiet_0->Option R
 | 0,_=>none
 | n+1,v=>BsIsQuiet_0 k X0 X1 X2 c (LsIsQuiet_0 k X0 X1 X2 c n) v
noncomputable def fsIsQuiet_0 {R:Type} (k:Nat) (K:Ex->St->Option R) (c:CsIsQuiet_0):=lpf E k 112 Tryz.f112 0 [0,1,3] (StsIsQuiet_0 c) K
theorem qsIsQuiet_0 (k:Nat) (K:Ex->St->Option R) (X0 X1 X2 c) (h:QL (fsIsQuiet_0 k K c) (BsIsQuiet_0 k X0 X1 X2 c)) (v):LsIsQuiet_0 k X0 X1 X2 c k v=fsIsQuiet_0 k K c k v:=lq h (fun _ _=>rfl) (fun _=>rfl) (fun _=>rfl) k v
noncomputable def NsIsQuiet:Ex->St->Option (Bool):=finish E (rs 112) Tryz.f112
theorem esIsQuiet (k:Nat) (a0):FsIsQuiet (k+1) a0=LsIsQuiet_0 k (fun (v0:Int) x1 p2 p3=>some false) (fun (v0:Int) x1 p2=>some false) (fun (v0:Int)=>some true) a0 k 0:=by
 simp (disch:=(refine QL.mk fun n0 v=> ?_;kernel_rfl)) only [↓qsIsQuiet_0 k (kon0 E k 112 Tryz.f112 0 NsIsQuiet)]
 kernel_rfl
noncomputable def FsIsFault (k:Nat) (a0:I4) (a1:Int):Option (Bool):=den E k 205 [.agg (avs sI4 a0),cI a1]
theorem esIsFault (k:Nat) (a0 a1):FsIsFault (k+1) a0 a1=if ((decide (a0.1>=0))==true)=true then if ((decide (a0.1<a1))==true)=true then if ((decide (a0.2.1>=-1))==true)=true then if ((decide (a0.2.1<a1))==true)=true then if ((a0.1 !=a0.2.1)==true)=true then (FsIsSpan k a0.2.2).bind fun p1=>some p1 else some false else some false else some false else some false else some false:=by kernel_rfl
noncomputable def FsIsLaw (k:Nat) (a0:List Int) (a1:TProgram):Option (Bool):=den E k 52 [.agg [.l 3 (.i .i64) a0],.agg (avs sProgram a1)]
abbrev CsIsLaw_0:=(List Int)×TProgram
abbrev VsIsLaw_0:=Int
def StsIsLaw_0:CsIsLaw_0->VsIsLaw_0->St
 | (a,b),c=>⟨43,2,[(2,cP 0),(3,cP 1),(5,cI c)],[(0,.var [.l 3 (.i .i64) a]),(1,.var (avs sProgram b))]⟩
noncomputable def BsIsLaw_0 {R:Type} (k:Nat) (X0:VsIsLaw_0->Int->Int->Option R) (X1:VsIsLaw_0->Int->Option R) (X2:VsIsLaw_0->Int->Option R) (X3:VsIsLaw_0->Option R) (c0:CsIsLaw_0) (rec:VsIsLaw_0->Option R) (v0:VsIsLaw_0):Option R:=if (decide (v0<(c0.1.length:Int)))=true then if 0<=v0 then ix c0.1 v0.toNat fun x1=>if ((decide (x1<c0.2.2.1))==false)=true then if ((decide (x1>=c0.2.1))==false)=true then if ((decide (v0>0))==true)=true then if 0<=(i64.wrap (v0-1)) then ix c0.1 ((i64.wrap (v0-1)).toNat) fun x2=>if (decide (x2>=x1))=true then X0 v0 x1 x2 else rec (i64.wrap (v0+1)) else none else rec (i64.wrap (v0+1)) else X1 v0 x1 else X2 v0 x1 else none else X3 v0
noncomputable def LsIsLaw_0 {R:Type} (k:Nat) (X0:VsIsLaw_0->Int->Int->Option R) (X1:VsIsLaw_0->Int->Option R) (X2:VsIsLaw_0->Int->Option R) (X3:VsIsLaw_0->Option R) (c:CsIsLaw_0):Nat->VsIsLaw_0->Option R
 | 0,_=>none
 | n+1,v=>BsIsLaw_0 k X0 X1 X2 X3 c (LsIsLaw_0 k X0 X1 X2 X3 c n) v
noncomputable def fsIsLaw_0 {R:Type} (k:Nat) (K:Ex->St->Option R) (c:CsIsLaw_0):=lpf E k 52 Tryz.f52 0 [0,2,3,5] (StsIsLaw_0 c) K
theorem qsIsLaw_0 (k:Nat) (K:Ex->St->Option R) (X0 X1 X2 X3 c) (h:QL (fsIsLaw_0 k K c) (BsIsLaw_0 k X0 X1 X2 X3 c)) (v):LsIsLaw_0 k X0 X1 X2 X3 c k v=fsIsLaw_0 k K c k v:=lq h (fun _ _=>rfl) (fun _=>rfl) (fun _=>rfl) k v
noncomputable def NsIsLaw:Ex->St->Option (Bool):=finish E (rs 52) Tryz.f52
theorem esIsLaw (k:Nat) (a0 a1):FsIsLaw (k+1) a0 a1=LsIsLaw_0 k (fun (v0:Int) (x1:Int) (x2:Int)=>some false) (fun (v0:Int) (x1:Int)=>some false) (fun (v0:Int) (x1:Int)=>some false) (fun (v0:Int)=>some true) (a0,a1) k 0:=by
 simp (disch:=(refine QL.mk fun n0 v=> ?_;kernel_rfl)) only [↓qsIsLaw_0 k (kon0 E k 52 Tryz.f52 0 NsIsLaw)]
 kernel_rfl
noncomputable def Fsl17Frame (k:Nat) (a0:Int) (a1:Int) (a2:Int):Option (Bool):=den E k 156 [cI a0,cI a1,cI a2]
theorem esl17Frame (k:Nat) (a0 a1 a2):Fsl17Frame (k+1) a0 a1 a2=(Fsl1In k a0 1 12).bind fun p1=>if (p1==true)=true then (Fsl1In k a1 0 a0).bind fun p2=>if (p2==true)=true then (Fsl1In k a2 0 5).bind fun p3=>some p3 else some false else some false:=by kernel_rfl
noncomputable def FsEqualInts (k:Nat) (a0:List Int) (a1:List Int):Option (Bool):=den E k 438 [.c (.l 3 (.i .i64) a0),.c (.l 3 (.i .i64) a1)]
abbrev CsEqualInts_0:=(List Int)×(List Int)
abbrev VsEqualInts_0:=Int
def StsEqualInts_0:CsEqualInts_0->VsEqualInts_0->St
 | (a,b),d=>⟨26,0,[(0,.c (.l 3 (.i .i64) a)),(1,.c (.l 3 (.i .i64) b)),(5,cI d)],[]⟩
noncomputable def BsEqualInts_0 {R:Type} (k:Nat) (X0:VsEqualInts_0->Int->Int->Option R) (X1:VsEqualInts_0->Option R) (c0:CsEqualInts_0) (rec:VsEqualInts_0->Option R) (v0:VsEqualInts_0):Option R:=if (decide (v0<(c0.1.length:Int)))=true then if 0<=v0 then ix c0.1 v0.toNat fun x1=>if 0<=v0 then ix c0.2 v0.toNat fun x2=>if (x1 !=x2)=true then X0 v0 x1 x2 else rec (i64.wrap (v0+1)) else none else none else X1 v0
noncomputable def LsEqualInts_0 {R:Type} (k:Nat) (X0:VsEqualInts_0->Int->Int->Option R) (X1:VsEqualInts_0->Option R) (c:CsEqualInts_0):Nat->VsEqualInts_0->Option R
 | 0,_=>none
 | n+1,v=>BsEqualInts_0 k X0 X1 c (LsEqualInts_0 k X0 X1 c n) v
noncomputable def fsEqualInts_0 {R:Type} (k:Nat) (K:Ex->St->Option R) (c:CsEqualInts_0):=lpf E k 438 Tryz.f438 0 [0,0,1,5] (StsEqualInts_0 c) K
theorem qsEqualInts_0 (k:Nat) (K:Ex->St->Option R) (X0 X1 c) (h:QL (fsEqualInts_0 k K c) (BsEqualInts_0 k X0 X1 c)) (v):LsEqualInts_0 k X0 X1 c k v=fsEqualInts_0 k K c k v:=lq h (fun _ _=>rfl) (fun _=>rfl) (fun _=>rfl) k v
noncomputable def NsEqualInts:Ex->St->Option (Bool):=finish E (rs 438) Tryz.f438
theorem esEqualInts (k:Nat) (a0 a1):FsEqualInts (k+1) a0 a1=if ((a0.length:Int) !=(a1.length:Int))=true then some false else LsEqualInts_0 k (fun (v0:Int) (x1:Int) (x2:Int)=>some false) (fun (v0:Int)=>some true) (a0,a1) k 0:=by
 simp (disch:=(refine QL.mk fun n0 v=> ?_;kernel_rfl)) only [↓qsEqualInts_0 k (kon0 E k 438 Tryz.f438 0 NsEqualInts)]
 kernel_rfl
noncomputable def FsEqualTables (k:Nat) (a0:Int×(List Int)×List Int) (a1:Int×(List Int)×List Int):Option (Bool):=den E k 380 [.agg (avs sTable a0),.agg (avs sTable a1)]
theorem esEqualTables (k:Nat) (a0 a1):FsEqualTables (k+1) a0 a1=if ((a0.1==a1.1)==true)=true then (FsEqualInts k a0.2.1 a1.2.1).bind fun p1=>if (p1==true)=true then (FsEqualInts k a0.2.2 a1.2.2).bind fun p2=>some p2 else some false else some false:=by kernel_rfl
noncomputable def FsNeighborsIn (k:Nat) (a0:List I2) (a1:Int):Option (List Int):=den E k 418 [.c (.l 288 sI2 a0),cI a1]
abbrev CsNeighborsIn_1:=(List I2)×Int×Int×Int×(List Int)
abbrev VsNeighborsIn_1:=Int
def StsNeighborsIn_1:CsNeighborsIn_1->VsNeighborsIn_1->St
 | (a,b,d,e,f),g=>⟨79,1,[(0,.c (.l 288 sI2 a)),(1,cI b),(5,.c (.ref 0)),(6,cI d),(7,cI e),(8,cI g)],[(0,.arr 3 (.i .i64) f)]⟩
noncomputable def BsNeighborsIn_1 {R:Type} (k:Nat) (X0:VsNeighborsIn_1->Int->Option R) (X1:VsNeighborsIn_1->Option R) (c1:CsNeighborsIn_1) (rec:VsNeighborsIn_1->Option R) (v1:VsNeighborsIn_1):Option R:=if ((decide (v1<(c1.2.2.2.2.length:Int)))==true)=true then if 0<=v1 then if v1<(c1.2.2.2.2.length:Int) then ix c1.2.2.2.2 v1.toNat fun x3=>if (decide (x3<c1.2.2.2.1))=true then rec (i64.wrap (v1+1)) else X0 v1 x3 else none else none else X1 v1
noncomputable def LsNeighborsIn_1 {R:Type} (k:Nat) (X0:VsNeighborsIn_1->Int->Option R) (X1:VsNeighborsIn_1->Option R) (c:CsNeighborsIn_1):Nat->VsNeighborsIn_1->Option R
 | 0,_=>none
 | n+1,v=>BsNeighborsIn_1 k X0 X1 c (LsNeighborsIn_1 k X0 X1 c n) v
noncomputable def fsNeighborsIn_1 {R:Type} (k:Nat) (K:Ex->St->Option R) (c:CsNeighborsIn_1):=lpf E k 418 Tryz.f418 1 [0,0,1,5,6,7,8] (StsNeighborsIn_1 c) K
theorem qsNeighborsIn_1 (k:Nat) (K:Ex->St->Option R) (X0 X1 c) (h:QL (fsNeighborsIn_1 k K c) (BsNeighborsIn_1 k X0 X1 c)) (v):LsNeighborsIn_1 k X0 X1 c k v=fsNeighborsIn_1 k K c k v:=lq h (fun _ _=>rfl) (fun _=>rfl) (fun _=>rfl) k v
abbrev CsNeighborsIn_0:=(List I2)×Int
abbrev VsNeighborsIn_0:=Int×(List Int)
def StsNeighborsIn_0:CsNeighborsIn_0->VsNeighborsIn_0->St
 | (a,b),(d,e)=>⟨79,1,[(0,.c (.l 288 sI2 a)),(1,cI b),(5,.c (.ref 0)),(6,cI d)],[(0,.arr 3 (.i .i64) e)]⟩
noncomputable def BsNeighborsIn_0 {R:Type} (k:Nat) (X0:VsNeighborsIn_0->Option R) (c0:CsNeighborsIn_0) (rec:VsNeighborsIn_0->Option R) (v0:VsNeighborsIn_0):Option R:=if (decide (v0.1<(c0.1.length:Int)))=true then if 0<=v0.1 then ix c0.1 v0.1.toNat fun x1=>if (x1.1==c0.2)=true then if 0<=v0.1 then ix c0.1 v0.1.toNat fun x2=>LsNeighborsIn_1 k (fun (v1:Int) (x3:Int)=>if ((v1==(v0.2.length:Int))==false)=true then if 0<=v1 then if v1<(v0.2.length:Int) then ix v0.2 v1.toNat fun x4=>if (x4 !=x2.2)=true then if 0<=v1 then if v1<=(v0.2.length:Int) then if (0+((v0.2.take v1.toNat).drop ((0:Int).toNat)).length)*8<=140737488355328 then if (((v0.2.take v1.toNat).drop ((0:Int).toNat)).length+([x2.2]).length)*8<=140737488355328 then if 0<=v1 then if v1<=(v0.2.length:Int) then if (v0.2.length:Int)<=(v0.2.length:Int) then if ((((v0.2.take v1.toNat).drop ((0:Int).toNat))++[x2.2]).length+((v0.2.take ((v0.2.length:Int).toNat)).drop v1.toNat).length)*8<=140737488355328 then rec ((i64.wrap (v0.1+1)),((((v0.2.take v1.toNat).drop ((0:Int).toNat))++[x2.2])++((v0.2.take ((v0.2.length:Int).toNat)).drop v1.toNat))) else none else none else none else none else none else none else none else none else rec ((i64.wrap (v0.1+1)),v0.2) else none else none else if 0<=v1 then if v1<=(v0.2.length:Int) then if (0+((v0.2.take v1.toNat).drop ((0:Int).toNat)).length)*8<=140737488355328 then if (((v0.2.take v1.toNat).drop ((0:Int).toNat)).length+([x2.2]).length)*8<=140737488355328 then if 0<=v1 then if v1<=(v0.2.length:Int) then if (v0.2.length:Int)<=(v0.2.length:Int) then if ((((v0.2.take v1.toNat).drop ((0:Int).toNat))++[x2.2]).length+((v0.2.take ((v0.2.length:Int).toNat)).drop v1.toNat).length)*8<=140737488355328 then rec ((i64.wrap (v0.1+1)),((((v0.2.take v1.toNat).drop ((0:Int).toNat))++[x2.2])++((v0.2.take ((v0.2.length:Int).toNat)).drop v1.toNat))) else none else none else none else none else none else none else none else none) (fun (v1:Int)=>if ((v1==(v0.2.length:Int))==false)=true then if 0<=v1 then if v1<(v0.2.length:Int) then ix v0.2 v1.toNat fun x5=>if (x5 !=x2.2)=true then if 0<=v1 then if v1<=(v0.2.length:Int) then if (0+((v0.2.take v1.toNat).drop ((0:Int).toNat)).length)*8<=140737488355328 then if (((v0.2.take v1.toNat).drop ((0:Int).toNat)).length+([x2.2]).length)*8<=140737488355328 then if 0<=v1 then if v1<=(v0.2.length:Int) then if (v0.2.length:Int)<=(v0.2.length:Int) then if ((((v0.2.take v1.toNat).drop ((0:Int).toNat))++[x2.2]).length+((v0.2.take ((v0.2.length:Int).toNat)).drop v1.toNat).length)*8<=140737488355328 then rec ((i64.wrap (v0.1+1)),((((v0.2.take v1.toNat).drop ((0:Int).toNat))++[x2.2])++((v0.2.take ((v0.2.length:Int).toNat)).drop v1.toNat))) else none else none else none else none else none else none else none else none else rec ((i64.wrap (v0.1+1)),v0.2) else none else none else if 0<=v1 then if v1<=(v0.2.length:Int) then if (0+((v0.2.take v1.toNat).drop ((0:Int).toNat)).length)*8<=140737488355328 then if (((v0.2.take v1.toNat).drop ((0:Int).toNat)).length+([x2.2]).length)*8<=140737488355328 then if 0<=v1 then if v1<=(v0.2.length:Int) then if (v0.2.length:Int)<=(v0.2.length:Int) then if ((((v0.2.take v1.toNat).drop ((0:Int).toNat))++[x2.2]).length+((v0.2.take ((v0.2.length:Int).toNat)).drop v1.toNat).length)*8<=140737488355328 then rec ((i64.wrap (v0.1+1)),((((v0.2.take v1.toNat).drop ((0:Int).toNat))++[x2.2])++((v0.2.take ((v0.2.length:Int).toNat)).drop v1.toNat))) else none else none else none else none else none else none else none else none) (c0.1,c0.2,v0.1,x2.2,v0.2) k 0 else none else if 0<=v0.1 then ix c0.1 v0.1.toNat fun x6=>if (x6.2==c0.2)=true then if 0<=v0.1 then ix c0.1 v0.1.toNat fun x7=>LsNeighborsIn_1 k (fun (v1:Int) (x3:Int)=>if ((v1==(v0.2.length:Int))==false)=true then if 0<=v1 then if v1<(v0.2.length:Int) then ix v0.2 v1.toNat fun x8=>if (x8 !=x7.1)=true then if 0<=v1 then if v1<=(v0.2.length:Int) then if (0+((v0.2.take v1.toNat).drop ((0:Int).toNat)).length)*8<=140737488355328 then if (((v0.2.take v1.toNat).drop ((0:Int).toNat)).length+([x7.1]).length)*8<=140737488355328 then if 0<=v1 then if v1<=(v0.2.length:Int) then if (v0.2.length:Int)<=(v0.2.length:Int) then if ((((v0.2.take v1.toNat).drop ((0:Int).toNat))++[x7.1]).length+((v0.2.take ((v0.2.length:Int).toNat)).drop v1.toNat).length)*8<=140737488355328 then rec ((i64.wrap (v0.1+1)),((((v0.2.take v1.toNat).drop ((0:Int).toNat))++[x7.1])++((v0.2.take ((v0.2.length:Int).toNat)).drop v1.toNat))) else none else none else none else none else none else none else none else none else rec ((i64.wrap (v0.1+1)),v0.2) else none else none else if 0<=v1 then if v1<=(v0.2.length:Int) then if (0+((v0.2.take v1.toNat).drop ((0:Int).toNat)).length)*8<=140737488355328 then if (((v0.2.take v1.toNat).drop ((0:Int).toNat)).length+([x7.1]).length)*8<=140737488355328 then if 0<=v1 then if v1<=(v0.2.length:Int) then if (v0.2.length:Int)<=(v0.2.length:Int) then if ((((v0.2.take v1.toNat).drop ((0:Int).toNat))++[x7.1]).length+((v0.2.take ((v0.2.length:Int).toNat)).drop v1.toNat).length)*8<=140737488355328 then rec ((i64.wrap (v0.1+1)),((((v0.2.take v1.toNat).drop ((0:Int).toNat))++[x7.1])++((v0.2.take ((v0.2.length:Int).toNat)).drop v1.toNat))) else none else none else none else none else none else none else none else none) (fun (v1:Int)=>if ((v1==(v0.2.length:Int))==false)=true then if 0<=v1 then if v1<(v0.2.length:Int) then ix v0.2 v1.toNat fun x9=>if (x9 !=x7.1)=true then if 0<=v1 then if v1<=(v0.2.length:Int) then if (0+((v0.2.take v1.toNat).drop ((0:Int).toNat)).length)*8<=140737488355328 then if (((v0.2.take v1.toNat).drop ((0:Int).toNat)).length+([x7.1]).length)*8<=140737488355328 then if 0<=v1 then if v1<=(v0.2.length:Int) then if (v0.2.length:Int)<=(v0.2.length:Int) then if ((((v0.2.take v1.toNat).drop ((0:Int).toNat))++[x7.1]).length+((v0.2.take ((v0.2.length:Int).toNat)).drop v1.toNat).length)*8<=140737488355328 then rec ((i64.wrap (v0.1+1)),((((v0.2.take v1.toNat).drop ((0:Int).toNat))++[x7.1])++((v0.2.take ((v0.2.length:Int).toNat)).drop v1.toNat))) else none else none else none else none else none else none else none else none else rec ((i64.wrap (v0.1+1)),v0.2) else none else none else if 0<=v1 then if v1<=(v0.2.length:Int) then if (0+((v0.2.take v1.toNat).drop ((0:Int).toNat)).length)*8<=140737488355328 then if (((v0.2.take v1.toNat).drop ((0:Int).toNat)).length+([x7.1]).length)*8<=140737488355328 then if 0<=v1 then if v1<=(v0.2.length:Int) then if (v0.2.length:Int)<=(v0.2.length:Int) then if ((((v0.2.take v1.toNat).drop ((0:Int).toNat))++[x7.1]).length+((v0.2.take ((v0.2.length:Int).toNat)).drop v1.toNat).length)*8<=140737488355328 then rec ((i64.wrap (v0.1+1)),((((v0.2.take v1.toNat).drop ((0:Int).toNat))++[x7.1])++((v0.2.take ((v0.2.length:Int).toNat)).drop v1.toNat))) else none else none else none else none else none else none else none else none) (c0.1,c0.2,v0.1,x7.1,v0.2) k 0 else none else rec ((i64.wrap (v0.1+1)),v0.2) else none else none else X0 v0
noncomputable def LsNeighborsIn_0 {R:Type} (k:Nat) (X0:VsNeighborsIn_0->Option R) (c:CsNeighborsIn_0):Nat->VsNeighborsIn_0->Option R
 | 0,_=>none
 | n+1,v=>BsNeighborsIn_0 k X0 c (LsNeighborsIn_0 k X0 c n) v
noncomputable def fsNeighborsIn_0 {R:Type} (k:Nat) (K:Ex->St->Option R) (c:CsNeighborsIn_0):=lpf E k 418 Tryz.f418 0 [0,0,1,5,6] (StsNeighborsIn_0 c) K
theorem qsNeighborsIn_0 (k:Nat) (K:Ex->St->Option R) (X0 c) (h:QL (fsNeighborsIn_0 k K c) (BsNeighborsIn_0 k X0 c)) (v):LsNeighborsIn_0 k X0 c k v=fsNeighborsIn_0 k K c k v:=lq h (fun _ _=>rfl) (fun _=>rfl) (fun _=>rfl) k v
noncomputable def NsNeighborsIn:Ex->St->Option (List Int):=finish E (rs 418) Tryz.f418
theorem esNeighborsIn (k:Nat) (a0 a1):FsNeighborsIn (k+1) a0 a1=LsNeighborsIn_0 k (fun v0=>some v0.2) (a0,a1) k (0,[]):=by
 simp (maxSteps:=9999999) (disch:=(refine QL.mk fun n0 v=> ?_;unfold BsNeighborsIn_0;simp (maxSteps:=9999999) (disch:=(refine QL.mk fun n1 v=> ?_;kernel_rfl)) only [↓qsNeighborsIn_1 (R:=List Int) k (kon1 E k 418 Tryz.f418 0 1 n0 [0,0,1,5,6] (kon0 E k 418 Tryz.f418 0 NsNeighborsIn))];kernel_rfl)) only [↓qsNeighborsIn_0 (R:=List Int) k (kon0 E k 418 Tryz.f418 0 NsNeighborsIn)]
 kernel_rfl
noncomputable def Fsl14Ok (k:Nat) (a0:Int) (a1:Int):Option (Bool):=den E k 417 [cI a0,cI a1]
theorem esl14Ok (k:Nat) (a0 a1):Fsl14Ok (k+1) a0 a1=(Fsl1In k a0 1 12).bind fun p1=>if (p1==true)=true then (Fsl1In k a1 0 (i64.wrap (a0-1))).bind fun p2=>some p2 else some false:=by kernel_rfl
noncomputable def FsDistancesTo (k:Nat) (a0:List I2) (a1:Int) (a2:Int) (a3:Int):Option (List Int):=den E k 353 [.c (.l 288 sI2 a0),cI a1,cI a2,cI a3]
abbrev CsDistancesTo_2:=(List I2)×Int×Int×Int×Int×Int×Int×(List Int)
abbrev VsDistancesTo_2:=Int×(List Int)×(List Int)
def StsDistancesTo_2:CsDistancesTo_2->VsDistancesTo_2->St
 | (a,b,d,e,f,g,h,j),(k,m,n)=>⟨98,3,[(0,.c (.l 288 sI2 a)),(1,cI b),(2,cI d),(3,cI e),(9,.c (.ref 0)),(10,cI f),(11,.c (.ref 1)),(12,cI g),(13,cI h),(14,.c (.ref 2)),(15,cI k)],[(0,.arr 3 (.i .i64) m),(1,.arr 3 (.i .i64) n),(2,.arr 3 (.i .i64) j)]⟩
noncomputable def BsDistancesTo_2 {R:Type} (k:Nat) (X0:VsDistancesTo_2->Option R) (c2:CsDistancesTo_2) (rec:VsDistancesTo_2->Option R) (v2:VsDistancesTo_2):Option R:=if (decide (v2.1<(c2.2.2.2.2.2.2.2.length:Int)))=true then if 0<=v2.1 then if v2.1<(c2.2.2.2.2.2.2.2.length:Int) then ix c2.2.2.2.2.2.2.2 v2.1.toNat fun x5=>(Fsl1In k x5 0 (i64.wrap (c2.2.1-1))).bind fun p6=>if (p6==true)=true then if 0<=v2.1 then if v2.1<(c2.2.2.2.2.2.2.2.length:Int) then ix c2.2.2.2.2.2.2.2 v2.1.toNat fun x7=>if 0<=x7 then if x7<(v2.2.1.length:Int) then ix v2.2.1 x7.toNat fun x8=>if (decide (x8<0))=true then if 0<=v2.1 then if v2.1<(c2.2.2.2.2.2.2.2.length:Int) then ix c2.2.2.2.2.2.2.2 v2.1.toNat fun x9=>if 0<=c2.2.2.2.2.2.2.1 then if c2.2.2.2.2.2.2.1<(v2.2.1.length:Int) then ix v2.2.1 c2.2.2.2.2.2.2.1.toNat fun x10=>if 0<=x9 then if x9<(v2.2.1.length:Int) then ix v2.2.1 x9.toNat fun y11=>if 0<=v2.1 then if v2.1<(c2.2.2.2.2.2.2.2.length:Int) then ix c2.2.2.2.2.2.2.2 v2.1.toNat fun x12=>if (v2.2.2.length+([x12]).length)*8<=140737488355328 then rec ((i64.wrap (v2.1+1)),(v2.2.1.set x9.toNat (i64.wrap (x10+1))),(v2.2.2++[x12])) else none else none else none else none else none else none else none else none else none else rec ((i64.wrap (v2.1+1)),v2.2.1,v2.2.2) else none else none else none else none else rec ((i64.wrap (v2.1+1)),v2.2.1,v2.2.2) else none else none else X0 v2
noncomputable def LsDistancesTo_2 {R:Type} (k:Nat) (X0:VsDistancesTo_2->Option R) (c:CsDistancesTo_2):Nat->VsDistancesTo_2->Option R
 | 0,_=>none
 | n+1,v=>BsDistancesTo_2 k X0 c (LsDistancesTo_2 k X0 c n) v
noncomputable def fsDistancesTo_2 {R:Type} (k:Nat) (K:Ex->St->Option R) (c:CsDistancesTo_2):=lpf E k 353 Tryz.f353 2 [0,0,1,2,3,9,10,11,12,13,14,15] (StsDistancesTo_2 c) K
theorem qsDistancesTo_2 (k:Nat) (K:Ex->St->Option R) (X0 c) (h:QL (fsDistancesTo_2 k K c) (BsDistancesTo_2 k X0 c)) (v):LsDistancesTo_2 k X0 c k v=fsDistancesTo_2 k K c k v:=lq h (fun _ _=>rfl) (fun _=>rfl) (fun _=>rfl) k v
abbrev CsDistancesTo_1:=(List I2)×Int×Int×Int×Int
abbrev VsDistancesTo_1:=Int×(List Int)×(List Int)
def StsDistancesTo_1:CsDistancesTo_1->VsDistancesTo_1->St
 | (a,b,d,e,f),(g,h,j)=>⟨98,2,[(0,.c (.l 288 sI2 a)),(1,cI b),(2,cI d),(3,cI e),(9,.c (.ref 0)),(10,cI f),(11,.c (.ref 1)),(12,cI g)],[(0,.arr 3 (.i .i64) h),(1,.arr 3 (.i .i64) j)]⟩
noncomputable def BsDistancesTo_1 {R:Type} (k:Nat) (X0:VsDistancesTo_1->Option R) (c1:CsDistancesTo_1) (rec:VsDistancesTo_1->Option R) (v1:VsDistancesTo_1):Option R:=if (decide (v1.1<(v1.2.2.length:Int)))=true then if 0<=v1.1 then if v1.1<(v1.2.2.length:Int) then ix v1.2.2 v1.1.toNat fun x3=>if ((x3 !=c1.2.2.2.1)==true)=true then if (decide (x3>=c1.2.2.1))=true then rec ((i64.wrap (v1.1+1)),v1.2.1,v1.2.2) else (FsNeighborsIn k c1.1 x3).bind fun p4=>LsDistancesTo_2 k (fun v2=>rec ((i64.wrap (v1.1+1)),v2.2.1,v2.2.2)) (c1.1,c1.2.1,c1.2.2.1,c1.2.2.2.1,c1.2.2.2.2,v1.1,x3,p4) k (0,v1.2.1,v1.2.2) else (FsNeighborsIn k c1.1 x3).bind fun p13=>LsDistancesTo_2 k (fun v2=>rec ((i64.wrap (v1.1+1)),v2.2.1,v2.2.2)) (c1.1,c1.2.1,c1.2.2.1,c1.2.2.2.1,c1.2.2.2.2,v1.1,x3,p13) k (0,v1.2.1,v1.2.2) else none else none else X0 v1
noncomputable def LsDistancesTo_1 {R:Type} (k:Nat) (X0:VsDistancesTo_1->Option R) (c:CsDistancesTo_1):Nat->VsDistancesTo_1->Option R
 | 0,_=>none
 | n+1,v=>BsDistancesTo_1 k X0 c (LsDistancesTo_1 k X0 c n) v
noncomputable def fsDistancesTo_1 {R:Type} (k:Nat) (K:Ex->St->Option R) (c:CsDistancesTo_1):=lpf E k 353 Tryz.f353 1 [0,0,1,2,3,9,10,11,12] (StsDistancesTo_1 c) K
theorem qsDistancesTo_1 (k:Nat) (K:Ex->St->Option R) (X0 c) (h:QL (fsDistancesTo_1 k K c) (BsDistancesTo_1 k X0 c)) (v):LsDistancesTo_1 k X0 c k v=fsDistancesTo_1 k K c k v:=lq h (fun _ _=>rfl) (fun _=>rfl) (fun _=>rfl) k v
abbrev CsDistancesTo_0:=(List I2)×Int×Int×Int
abbrev VsDistancesTo_0:=Int×(List Int)
def StsDistancesTo_0:CsDistancesTo_0->VsDistancesTo_0->St
 | (a,b,d,e),(f,g)=>⟨98,1,[(0,.c (.l 288 sI2 a)),(1,cI b),(2,cI d),(3,cI e),(9,.c (.ref 0)),(10,cI f)],[(0,.arr 3 (.i .i64) g)]⟩
noncomputable def BsDistancesTo_0 {R:Type} (k:Nat) (X0:VsDistancesTo_0->Option R) (c0:CsDistancesTo_0) (rec:VsDistancesTo_0->Option R) (v0:VsDistancesTo_0):Option R:=if (decide (v0.1<c0.2.1))=true then if (v0.2.length+([-1]).length)*8<=140737488355328 then rec ((i64.wrap (v0.1+1)),(v0.2++[-1])) else none else X0 v0
noncomputable def LsDistancesTo_0 {R:Type} (k:Nat) (X0:VsDistancesTo_0->Option R) (c:CsDistancesTo_0):Nat->VsDistancesTo_0->Option R
 | 0,_=>none
 | n+1,v=>BsDistancesTo_0 k X0 c (LsDistancesTo_0 k X0 c n) v
noncomputable def fsDistancesTo_0 {R:Type} (k:Nat) (K:Ex->St->Option R) (c:CsDistancesTo_0):=lpf E k 353 Tryz.f353 0 [0,0,1,2,3,9,10] (StsDistancesTo_0 c) K
theorem qsDistancesTo_0 (k:Nat) (K:Ex->St->Option R) (X0 c) (h:QL (fsDistancesTo_0 k K c) (BsDistancesTo_0 k X0 c)) (v):LsDistancesTo_0 k X0 c k v=fsDistancesTo_0 k K c k v:=lq h (fun _ _=>rfl) (fun _=>rfl) (fun _=>rfl) k v
noncomputable def NsDistancesTo:Ex->St->Option (List Int):=finish E (rs 353) Tryz.f353
theorem esDistancesTo (k:Nat) (a0 a1 a2 a3):FsDistancesTo (k+1) a0 a1 a2 a3=(Fsl14Ok k a1 a3).bind fun p1=>if (!p1)=true then some ([]) else LsDistancesTo_0 k (fun v0=>if 0<=a3 then if a3<(v0.2.length:Int) then ix v0.2 a3.toNat fun y2=>LsDistancesTo_1 k (fun v1=>some v1.2.1) (a0,a1,a2,a3,v0.1) k (0,(v0.2.set a3.toNat 0),[a3]) else none else none) (a0,a1,a2,a3) k (0,[]):=by
 simp (maxSteps:=9999999) (disch:=(refine QL.mk fun n0 v=> ?_;unfold BsDistancesTo_0;simp (maxSteps:=9999999) (disch:=(refine QL.mk fun n1 v=> ?_;unfold BsDistancesTo_1;simp (maxSteps:=9999999) (disch:=(refine QL.mk fun n2 v=> ?_;kernel_rfl)) only [↓qsDistancesTo_2 (R:=List Int) k (kon1 E k 353 Tryz.f353 1 1 n1 [0,0,1,2,3,9,10,11,12] (kon0 E k 353 Tryz.f353 1 NsDistancesTo))];kernel_rfl)) only [↓qsDistancesTo_1 (R:=List Int) k (kon0 E k 353 Tryz.f353 1 NsDistancesTo)];kernel_rfl)) only [↓qsDistancesTo_0 (R:=List Int) k (kon0 E k 353 Tryz.f353 0 NsDistancesTo)]
 kernel_rfl
noncomputable def FsNextTo (k:Nat) (a0:List I2) (a1:Int) (a2:Int) (a3:Int):Option (List Int):=den E k 354 [.c (.l 288 sI2 a0),cI a1,cI a2,cI a3]
abbrev CsNextTo_1:=(List I2)×Int×Int×Int×Int×(List Int)×(List Int)×(List Int)
abbrev VsNextTo_1:=Int×Int
def StsNextTo_1:CsNextTo_1->VsNextTo_1->St
 | (a,b,d,e,f,g,h,j),(k,m)=>⟨84,3,[(0,.c (.l 288 sI2 a)),(1,cI b),(2,cI d),(3,cI e),(9,.c (.ref 0)),(10,.c (.ref 1)),(11,cI f),(12,cI k),(13,.c (.ref 2)),(14,cI m)],[(0,.arr 3 (.i .i64) g),(1,.arr 3 (.i .i64) h),(2,.arr 3 (.i .i64) j)]⟩
noncomputable def BsNextTo_1 {R:Type} (k:Nat) (X0:VsNextTo_1->Int->Option R) (X1:VsNextTo_1->Int->Option R) (X2:VsNextTo_1->Option R) (c1:CsNextTo_1) (rec:VsNextTo_1->Option R) (v1:VsNextTo_1):Option R:=if ((decide (v1.2<(c1.2.2.2.2.2.2.2.length:Int)))==true)=true then if 0<=c1.2.2.2.2.1 then if c1.2.2.2.2.1<(c1.2.2.2.2.2.2.1.length:Int) then ix c1.2.2.2.2.2.2.1 c1.2.2.2.2.1.toNat fun x3=>if ((decide (x3>0))==true)=true then if (decide (v1.1<0))=true then if 0<=v1.2 then if v1.2<(c1.2.2.2.2.2.2.2.length:Int) then ix c1.2.2.2.2.2.2.2 v1.2.toNat fun x4=>(Fsl1In k x4 0 (i64.wrap (c1.2.1-1))).bind fun p5=>if (p5==true)=true then if ((decide (x4<c1.2.2.1))==false)=true then if ((x4==c1.2.2.2.1)==true)=true then if 0<=x4 then if x4<(c1.2.2.2.2.2.2.1.length:Int) then ix c1.2.2.2.2.2.2.1 x4.toNat fun x6=>if 0<=c1.2.2.2.2.1 then if c1.2.2.2.2.1<(c1.2.2.2.2.2.2.1.length:Int) then ix c1.2.2.2.2.2.2.1 c1.2.2.2.2.1.toNat fun x7=>if (x6==(i64.wrap (x7-1)))=true then rec (x4,(i64.wrap (v1.2+1))) else rec (v1.1,(i64.wrap (v1.2+1))) else none else none else none else none else rec (v1.1,(i64.wrap (v1.2+1))) else if 0<=x4 then if x4<(c1.2.2.2.2.2.2.1.length:Int) then ix c1.2.2.2.2.2.2.1 x4.toNat fun x8=>if 0<=c1.2.2.2.2.1 then if c1.2.2.2.2.1<(c1.2.2.2.2.2.2.1.length:Int) then ix c1.2.2.2.2.2.2.1 c1.2.2.2.2.1.toNat fun x9=>if (x8==(i64.wrap (x9-1)))=true then rec (x4,(i64.wrap (v1.2+1))) else rec (v1.1,(i64.wrap (v1.2+1))) else none else none else none else none else rec (v1.1,(i64.wrap (v1.2+1))) else none else none else X0 v1 x3 else X1 v1 x3 else none else none else X2 v1
noncomputable def LsNextTo_1 {R:Type} (k:Nat) (X0:VsNextTo_1->Int->Option R) (X1:VsNextTo_1->Int->Option R) (X2:VsNextTo_1->Option R) (c:CsNextTo_1):Nat->VsNextTo_1->Option R
 | 0,_=>none
 | n+1,v=>BsNextTo_1 k X0 X1 X2 c (LsNextTo_1 k X0 X1 X2 c n) v
noncomputable def fsNextTo_1 {R:Type} (k:Nat) (K:Ex->St->Option R) (c:CsNextTo_1):=lpf E k 354 Tryz.f354 1 [0,0,1,2,3,9,10,11,12,13,14] (StsNextTo_1 c) K
theorem qsNextTo_1 (k:Nat) (K:Ex->St->Option R) (X0 X1 X2 c) (h:QL (fsNextTo_1 k K c) (BsNextTo_1 k X0 X1 X2 c)) (v):LsNextTo_1 k X0 X1 X2 c k v=fsNextTo_1 k K c k v:=lq h (fun _ _=>rfl) (fun _=>rfl) (fun _=>rfl) k v
abbrev CsNextTo_0:=(List I2)×Int×Int×Int×(List Int)
abbrev VsNextTo_0:=Int×(List Int)
def StsNextTo_0:CsNextTo_0->VsNextTo_0->St
 | (a,b,d,e,f),(g,h)=>⟨84,2,[(0,.c (.l 288 sI2 a)),(1,cI b),(2,cI d),(3,cI e),(9,.c (.ref 0)),(10,.c (.ref 1)),(11,cI g)],[(0,.arr 3 (.i .i64) h),(1,.arr 3 (.i .i64) f)]⟩
noncomputable def BsNextTo_0 {R:Type} (k:Nat) (X0:VsNextTo_0->Option R) (c0:CsNextTo_0) (rec:VsNextTo_0->Option R) (v0:VsNextTo_0):Option R:=if (decide (v0.1<(c0.2.2.2.2.length:Int)))=true then (FsNeighborsIn k c0.1 v0.1).bind fun p2=>LsNextTo_1 k (fun v1 (x3:Int)=>if (v0.2.length+([v1.1]).length)*8<=140737488355328 then rec ((i64.wrap (v0.1+1)),(v0.2++[v1.1])) else none) (fun v1 (x3:Int)=>if (v0.2.length+([v1.1]).length)*8<=140737488355328 then rec ((i64.wrap (v0.1+1)),(v0.2++[v1.1])) else none) (fun v1=>if (v0.2.length+([v1.1]).length)*8<=140737488355328 then rec ((i64.wrap (v0.1+1)),(v0.2++[v1.1])) else none) (c0.1,c0.2.1,c0.2.2.1,c0.2.2.2.1,v0.1,v0.2,c0.2.2.2.2,p2) k (-1,0) else X0 v0
noncomputable def LsNextTo_0 {R:Type} (k:Nat) (X0:VsNextTo_0->Option R) (c:CsNextTo_0):Nat->VsNextTo_0->Option R
 | 0,_=>none
 | n+1,v=>BsNextTo_0 k X0 c (LsNextTo_0 k X0 c n) v
noncomputable def fsNextTo_0 {R:Type} (k:Nat) (K:Ex->St->Option R) (c:CsNextTo_0):=lpf E k 354 Tryz.f354 0 [0,0,1,2,3,9,10,11] (StsNextTo_0 c) K
theorem qsNextTo_0 (k:Nat) (K:Ex->St->Option R) (X0 c) (h:QL (fsNextTo_0 k K c) (BsNextTo_0 k X0 c)) (v):LsNextTo_0 k X0 c k v=fsNextTo_0 k K c k v:=lq h (fun _ _=>rfl) (fun _=>rfl) (fun _=>rfl) k v
noncomputable def NsNextTo:Ex->St->Option (List Int):=finish E (rs 354) Tryz.f354
theorem esNextTo (k:Nat) (a0 a1 a2 a3):FsNextTo (k+1) a0 a1 a2 a3=(FsDistancesTo k a0 a1 a2 a3).bind fun p1=>LsNextTo_0 k (fun v0=>some v0.2) (a0,a1,a2,a3,p1) k (0,[]):=by
 simp (maxSteps:=9999999) (disch:=(refine QL.mk fun n0 v=> ?_;unfold BsNextTo_0;simp (maxSteps:=9999999) (disch:=(refine QL.mk fun n1 v=> ?_;kernel_rfl)) only [↓qsNextTo_1 (R:=List Int) k (kon1 E k 354 Tryz.f354 0 1 n0 [0,0,1,2,3,9,10,11] (kon0 E k 354 Tryz.f354 0 NsNextTo))];kernel_rfl)) only [↓qsNextTo_0 (R:=List Int) k (kon0 E k 354 Tryz.f354 0 NsNextTo)]
 kernel_rfl
noncomputable def FsTableOf (k:Nat) (a0:List I2) (a1:Int) (a2:Int) (a3:Int):Option (Int×(List Int)×List Int):=den E k 272 [.c (.l 288 sI2 a0),cI a1,cI a2,cI a3]
theorem esTableOf (k:Nat) (a0 a1 a2 a3):FsTableOf (k+1) a0 a1 a2 a3=(FsDistancesTo k a0 a1 a2 a3).bind fun p1=>(FsNextTo k a0 a1 a2 a3).bind fun p2=>some (a3,p1,p2):=by kernel_rfl
noncomputable def Fsl17Piece (k:Nat) (a0:TProgram) (a1:TPiece):Option (Bool):=den E k 305 [.agg (avs sProgram a0),.agg (avs sPiece a1)]
abbrev Csl17Piece_0:=TProgram×TPiece
abbrev Vsl17Piece_0:=Int
def Stsl17Piece_0:Csl17Piece_0->Vsl17Piece_0->St
 | (a,b),c=>⟨39,2,[(2,cP 0),(3,cP 1),(5,cI c)],[(0,.var (avs sProgram a)),(1,.var (avs sPiece b))]⟩
noncomputable def Bsl17Piece_0 {R:Type} (k:Nat) (X0:Vsl17Piece_0->(Int×(List Int)×List Int)->(Int×(List Int)×List Int)->Bool->Option R) (X1:Vsl17Piece_0->Option R) (c0:Csl17Piece_0) (rec:Vsl17Piece_0->Option R) (v0:Vsl17Piece_0):Option R:=if (decide (v0<c0.1.1))=true then if 0<=v0 then ix c0.2.2.2 v0.toNat fun x2=>(FsTableOf k c0.2.2.1 c0.1.1 c0.1.2.1 v0).bind fun p3=>(FsEqualTables k x2 p3).bind fun p4=>if (!p4)=true then X0 v0 x2 p3 p4 else rec (i64.wrap (v0+1)) else none else X1 v0
noncomputable def Lsl17Piece_0 {R:Type} (k:Nat) (X0:Vsl17Piece_0->(Int×(List Int)×List Int)->(Int×(List Int)×List Int)->Bool->Option R) (X1:Vsl17Piece_0->Option R) (c:Csl17Piece_0):Nat->Vsl17Piece_0->Option R
 | 0,_=>none
 | n+1,v=>Bsl17Piece_0 k X0 X1 c (Lsl17Piece_0 k X0 X1 c n) v
noncomputable def fsl17Piece_0 {R:Type} (k:Nat) (K:Ex->St->Option R) (c:Csl17Piece_0):=lpf E k 305 Tryz.f305 0 [0,2,3,5] (Stsl17Piece_0 c) K
theorem qsl17Piece_0 (k:Nat) (K:Ex->St->Option R) (X0 X1 c) (h:QL (fsl17Piece_0 k K c) (Bsl17Piece_0 k X0 X1 c)) (v):Lsl17Piece_0 k X0 X1 c k v=fsl17Piece_0 k K c k v:=lq h (fun _ _=>rfl) (fun _=>rfl) (fun _=>rfl) k v
noncomputable def Nsl17Piece:Ex->St->Option (Bool):=finish E (rs 305) Tryz.f305
theorem esl17Piece (k:Nat) (a0 a1):Fsl17Piece (k+1) a0 a1=if (((a1.2.2.length:Int) !=a0.1)==false)=true then (FsIsSpan k a1.1).bind fun p1=>if (!p1)=true then some false else Lsl17Piece_0 k (fun (v0:Int) x2 p3 p4=>some false) (fun (v0:Int)=>some true) (a0,a1) k 0 else some false:=by
 simp (disch:=(refine QL.mk fun n0 v=> ?_;kernel_rfl)) only [↓qsl17Piece_0 k (kon0 E k 305 Tryz.f305 0 Nsl17Piece)]
 kernel_rfl
noncomputable def FsIsProgram (k:Nat) (a0:TProgram):Option (Bool):=den E k 206 [.agg (avs sProgram a0)]
abbrev CsIsProgram_0:=TProgram
abbrev VsIsProgram_0:=Int
def StsIsProgram_0:CsIsProgram_0->VsIsProgram_0->St
 | a,b=>⟨56,1,[(1,cP 0),(3,cI b)],[(0,.var (avs sProgram a))]⟩
noncomputable def BsIsProgram_0 {R:Type} (k:Nat) (X0:VsIsProgram_0->TPiece->Bool->TPiece->TPiece->Option R) (X1:VsIsProgram_0->TPiece->Bool->Option R) (X2:VsIsProgram_0->Option R) (c0:CsIsProgram_0) (rec:VsIsProgram_0->Option R) (v0:VsIsProgram_0):Option R:=if (decide (v0<(c0.2.2.2.length:Int)))=true then if 0<=v0 then ix c0.2.2.2 v0.toNat fun x3=>(Fsl17Piece k c0 x3).bind fun p4=>if ((!p4)==false)=true then if ((decide (v0>0))==true)=true then if 0<=(i64.wrap (v0-1)) then ix c0.2.2.2 ((i64.wrap (v0-1)).toNat) fun x5=>if 0<=v0 then ix c0.2.2.2 v0.toNat fun x6=>if (x5.1.2 !=x6.1.1)=true then X0 v0 x3 p4 x5 x6 else rec (i64.wrap (v0+1)) else none else none else rec (i64.wrap (v0+1)) else X1 v0 x3 p4 else none else X2 v0
noncomputable def LsIsProgram_0 {R:Type} (k:Nat) (X0:VsIsProgram_0->TPiece->Bool->TPiece->TPiece->Option R) (X1:VsIsProgram_0->TPiece->Bool->Option R) (X2:VsIsProgram_0->Option R) (c:CsIsProgram_0):Nat->VsIsProgram_0->Option R
 | 0,_=>none
 | n+1,v=>BsIsProgram_0 k X0 X1 X2 c (LsIsProgram_0 k X0 X1 X2 c n) v
noncomputable def fsIsProgram_0 {R:Type} (k:Nat) (K:Ex->St->Option R) (c:CsIsProgram_0):=lpf E k 206 Tryz.f206 0 [0,1,3] (StsIsProgram_0 c) K
theorem qsIsProgram_0 (k:Nat) (K:Ex->St->Option R) (X0 X1 X2 c) (h:QL (fsIsProgram_0 k K c) (BsIsProgram_0 k X0 X1 X2 c)) (v):LsIsProgram_0 k X0 X1 X2 c k v=fsIsProgram_0 k K c k v:=lq h (fun _ _=>rfl) (fun _=>rfl) (fun _=>rfl) k v
noncomputable def NsIsProgram:Ex->St->Option (Bool):=finish E (rs 206) Tryz.f206
theorem esIsProgram (k:Nat) (a0):FsIsProgram (k+1) a0=(Fsl17Frame k a0.1 a0.2.1 a0.2.2.1).bind fun p1=>if ((!p1)==false)=true then (Fsl1In k (a0.2.2.2.length:Int) 1 40).bind fun p2=>if (!p2)=true then some false else LsIsProgram_0 k (fun (v0:Int) x3 p4 x5 x6=>some false) (fun (v0:Int) x3 p4=>some false) (fun (v0:Int)=>some true) a0 k 0 else some false:=by
 simp (disch:=(refine QL.mk fun n0 v=> ?_;kernel_rfl)) only [↓qsIsProgram_0 k (kon0 E k 206 Tryz.f206 0 NsIsProgram)]
 kernel_rfl
noncomputable def FsIsSat (k:Nat) (a0:I4) (a1:Int):Option (Bool):=den E k 153 [.agg (avs sI4 a0),cI a1]
theorem esIsSat (k:Nat) (a0 a1):FsIsSat (k+1) a0 a1=if ((decide (a0.1>=0))==true)=true then if ((decide (a0.1<a1))==true)=true then (Fsl1In k a0.2.1 0 359).bind fun p1=>if (p1==true)=true then (Fsl1In k a0.2.2.1 (-60) 60).bind fun p2=>if (p2==true)=true then (Fsl1In k a0.2.2.2 0 20).bind fun p3=>some p3 else some false else some false else some false else some false:=by kernel_rfl
noncomputable def Fsl7Half (k:Nat) (a0:Int):Option (Bool):=den E k 155 [cI a0]
theorem esl7Half (k:Nat) (a0):Fsl7Half (k+1) a0=(Fsl1In k a0 0 180).bind fun p1=>some p1:=by kernel_rfl
noncomputable def Fsl7Turn (k:Nat) (a0:Int):Option (Bool):=den E k 154 [cI a0]
theorem esl7Turn (k:Nat) (a0):Fsl7Turn (k+1) a0=(Fsl1In k a0 (-60) 60).bind fun p1=>some p1:=by kernel_rfl
noncomputable def FsIsSky (k:Nat) (a0:TSky):Option (Bool):=den E k 46 [.agg (avs sSky a0)]
abbrev CsIsSky_2:=Int×Int×TSky
abbrev VsIsSky_2:=Int
def StsIsSky_2:CsIsSky_2->VsIsSky_2->St
 | (a,b,c),d=>⟨138,1,[(1,cP 0),(3,cI a),(4,cI b),(6,cI d)],[(0,.var (avs sSky c))]⟩
noncomputable def BsIsSky_2 {R:Type} (k:Nat) (X0:VsIsSky_2->I3->Bool->Option R) (X1:VsIsSky_2->I3->Option R) (X2:VsIsSky_2->I3->Option R) (X3:VsIsSky_2->Option R) (c2:CsIsSky_2) (rec:VsIsSky_2->Option R) (v2:VsIsSky_2):Option R:=if (decide (v2<(c2.2.2.2.2.2.2.2.2.2.2.1.length:Int)))=true then if 0<=v2 then ix c2.2.2.2.2.2.2.2.2.2.2.1 v2.toNat fun x6=>if ((decide (x6.1<0))==false)=true then if ((decide (x6.1>=c2.2.2.1))==false)=true then (Fsl1In k x6.2.2 0 359).bind fun p7=>if (!p7)=true then X0 v2 x6 p7 else rec (i64.wrap (v2+1)) else X1 v2 x6 else X2 v2 x6 else none else X3 v2
noncomputable def LsIsSky_2 {R:Type} (k:Nat) (X0:VsIsSky_2->I3->Bool->Option R) (X1:VsIsSky_2->I3->Option R) (X2:VsIsSky_2->I3->Option R) (X3:VsIsSky_2->Option R) (c:CsIsSky_2):Nat->VsIsSky_2->Option R
 | 0,_=>none
 | n+1,v=>BsIsSky_2 k X0 X1 X2 X3 c (LsIsSky_2 k X0 X1 X2 X3 c n) v
noncomputable def fsIsSky_2 {R:Type} (k:Nat) (K:Ex->St->Option R) (c:CsIsSky_2):=lpf E k 46 Tryz.f46 2 [0,1,3,4,6] (StsIsSky_2 c) K
theorem qsIsSky_2 (k:Nat) (K:Ex->St->Option R) (X0 X1 X2 X3 c) (h:QL (fsIsSky_2 k K c) (BsIsSky_2 k X0 X1 X2 X3 c)) (v):LsIsSky_2 k X0 X1 X2 X3 c k v=fsIsSky_2 k K c k v:=lq h (fun _ _=>rfl) (fun _=>rfl) (fun _=>rfl) k v
abbrev CsIsSky_1:=Int×TSky
abbrev VsIsSky_1:=Int
def StsIsSky_1:CsIsSky_1->VsIsSky_1->St
 | (a,b),c=>⟨138,1,[(1,cP 0),(3,cI a),(4,cI c)],[(0,.var (avs sSky b))]⟩
noncomputable def BsIsSky_1 {R:Type} (k:Nat) (X0:VsIsSky_1->I3->Bool->Bool->Option R) (X1:VsIsSky_1->I3->Bool->Option R) (X2:VsIsSky_1->I3->Option R) (X3:VsIsSky_1->I3->Option R) (X4:VsIsSky_1->Option R) (c1:CsIsSky_1) (rec:VsIsSky_1->Option R) (v1:VsIsSky_1):Option R:=if (decide (v1<(c1.2.2.2.1.length:Int)))=true then if 0<=v1 then ix c1.2.2.2.1 v1.toNat fun x3=>if ((decide (x3.1<0))==false)=true then if ((decide (x3.1>=c1.2.1))==false)=true then (Fsl1In k x3.2.1 0 359).bind fun p4=>if ((!p4)==false)=true then (Fsl7Turn k x3.2.2).bind fun p5=>if (!p5)=true then X0 v1 x3 p4 p5 else rec (i64.wrap (v1+1)) else X1 v1 x3 p4 else X2 v1 x3 else X3 v1 x3 else none else X4 v1
noncomputable def LsIsSky_1 {R:Type} (k:Nat) (X0:VsIsSky_1->I3->Bool->Bool->Option R) (X1:VsIsSky_1->I3->Bool->Option R) (X2:VsIsSky_1->I3->Option R) (X3:VsIsSky_1->I3->Option R) (X4:VsIsSky_1->Option R) (c:CsIsSky_1):Nat->VsIsSky_1->Option R
 | 0,_=>none
 | n+1,v=>BsIsSky_1 k X0 X1 X2 X3 X4 c (LsIsSky_1 k X0 X1 X2 X3 X4 c n) v
noncomputable def fsIsSky_1 {R:Type} (k:Nat) (K:Ex->St->Option R) (c:CsIsSky_1):=lpf E k 46 Tryz.f46 1 [0,1,3,4] (StsIsSky_1 c) K
theorem qsIsSky_1 (k:Nat) (K:Ex->St->Option R) (X0 X1 X2 X3 X4 c) (h:QL (fsIsSky_1 k K c) (BsIsSky_1 k X0 X1 X2 X3 X4 c)) (v):LsIsSky_1 k X0 X1 X2 X3 X4 c k v=fsIsSky_1 k K c k v:=lq h (fun _ _=>rfl) (fun _=>rfl) (fun _=>rfl) k v
abbrev CsIsSky_0:=TSky
abbrev VsIsSky_0:=Int
def StsIsSky_0:CsIsSky_0->VsIsSky_0->St
 | a,b=>⟨138,1,[(1,cP 0),(3,cI b)],[(0,.var (avs sSky a))]⟩
noncomputable def BsIsSky_0 {R:Type} (k:Nat) (X0:VsIsSky_0->I4->Bool->Option R) (X1:VsIsSky_0->Option R) (c0:CsIsSky_0) (rec:VsIsSky_0->Option R) (v0:VsIsSky_0):Option R:=if (decide (v0<(c0.2.1.length:Int)))=true then if 0<=v0 then ix c0.2.1 v0.toNat fun x1=>(FsIsSat k x1 c0.1).bind fun p2=>if (!p2)=true then X0 v0 x1 p2 else rec (i64.wrap (v0+1)) else none else X1 v0
noncomputable def LsIsSky_0 {R:Type} (k:Nat) (X0:VsIsSky_0->I4->Bool->Option R) (X1:VsIsSky_0->Option R) (c:CsIsSky_0):Nat->VsIsSky_0->Option R
 | 0,_=>none
 | n+1,v=>BsIsSky_0 k X0 X1 c (LsIsSky_0 k X0 X1 c n) v
noncomputable def fsIsSky_0 {R:Type} (k:Nat) (K:Ex->St->Option R) (c:CsIsSky_0):=lpf E k 46 Tryz.f46 0 [0,1,3] (StsIsSky_0 c) K
theorem qsIsSky_0 (k:Nat) (K:Ex->St->Option R) (X0 X1 c) (h:QL (fsIsSky_0 k K c) (BsIsSky_0 k X0 X1 c)) (v):LsIsSky_0 k X0 X1 c k v=fsIsSky_0 k K c k v:=lq h (fun _ _=>rfl) (fun _=>rfl) (fun _=>rfl) k v
noncomputable def NsIsSky:Ex->St->Option (Bool):=finish E (rs 46) Tryz.f46
theorem esIsSky (k:Nat) (a0):FsIsSky (k+1) a0=LsIsSky_0 k (fun (v0:Int) x1 p2=>some false) (fun (v0:Int)=>LsIsSky_1 k (fun (v1:Int) x3 p4 p5=>some false) (fun (v1:Int) x3 p4=>some false) (fun (v1:Int) x3=>some false) (fun (v1:Int) x3=>some false) (fun (v1:Int)=>LsIsSky_2 k (fun (v2:Int) x6 p7=>some false) (fun (v2:Int) x6=>some false) (fun (v2:Int) x6=>some false) (fun (v2:Int)=>(Fsl1In k a0.1 1 4).bind fun p8=>if ((!p8)==false)=true then (Fsl1In k (a0.2.1.length:Int) 1 8).bind fun p9=>if ((!p9)==false)=true then if ((decide ((a0.2.2.1.length:Int)>4))==false)=true then if (decide ((a0.2.2.2.2.2.2.2.2.1.length:Int)>4))=true then some false else (Fsl7Half k a0.2.2.2.1).bind fun p10=>if (p10==true)=true then (Fsl7Half k a0.2.2.2.2.1).bind fun p11=>if (p11==true)=true then (Fsl7Half k a0.2.2.2.2.2.1).bind fun p12=>if (p12==true)=true then (Fsl7Half k a0.2.2.2.2.2.2.2.1).bind fun p13=>if (p13==true)=true then (Fsl7Turn k a0.2.2.2.2.2.2.1).bind fun p14=>if (p14==true)=true then (Fsl1In k a0.2.2.2.2.2.2.2.2.2 0 20).bind fun p15=>some p15 else some false else some false else some false else some false else some false else some false else some false else some false) (v0,v1,a0) k 0) (v0,a0) k 0) a0 k 0:=by
 simp (maxSteps:=9999999) (disch:=(refine QL.mk fun n0 v=> ?_;unfold BsIsSky_0;simp (maxSteps:=9999999) (disch:=(refine QL.mk fun n1 v=> ?_;unfold BsIsSky_1;simp (maxSteps:=9999999) (disch:=(refine QL.mk fun n2 v=> ?_;kernel_rfl)) only [↓qsIsSky_2 (R:=Bool) k (kon0 E k 46 Tryz.f46 2 NsIsSky)];kernel_rfl)) only [↓qsIsSky_1 (R:=Bool) k (kon0 E k 46 Tryz.f46 1 NsIsSky)];kernel_rfl)) only [↓qsIsSky_0 (R:=Bool) k (kon0 E k 46 Tryz.f46 0 NsIsSky)]
 kernel_rfl
noncomputable def Fsl22Rates (k:Nat) (a0:I6):Option (Bool):=den E k 275 [.agg (avs sI6 a0)]
theorem esl22Rates (k:Nat) (a0):Fsl22Rates (k+1) a0=(Fsl1In k a0.2.2.2.1 0 100).bind fun p1=>if (p1==true)=true then (Fsl1In k a0.2.2.2.2.2 0 100).bind fun p2=>some p2 else some false:=by kernel_rfl
noncomputable def FsIsBattery (k:Nat) (a0:I6):Option (Bool):=den E k 162 [.agg (avs sI6 a0)]
theorem esIsBattery (k:Nat) (a0):FsIsBattery (k+1) a0=(Fsl22Rates k a0).bind fun p1=>if (p1==true)=true then (Fsl1In k a0.2.2.2.2.1 0 100).bind fun p2=>if (p2==true)=true then (Fsl1In k a0.2.1 0 10000).bind fun p3=>if (p3==true)=true then (Fsl1In k a0.2.2.1 0 a0.2.1).bind fun p4=>if (p4==true)=true then (Fsl1In k a0.1 a0.2.2.1 a0.2.1).bind fun p5=>some p5 else some false else some false else some false else some false:=by kernel_rfl
noncomputable def FsGapOf (k:Nat) (a0:Int) (a1:Int):Option (Int):=den E k 277 [cI a0,cI a1]
theorem esGapOf (k:Nat) (a0 a1):FsGapOf (k+1) a0 a1=(FsAngleOf k a0).bind fun p1=>(FsAngleOf k a1).bind fun p2=>(FsAngleOf k (i64.wrap (p1-p2))).bind fun p3=>(FsMin k p3 (i64.wrap (360-p3))).bind fun p4=>some p4:=by kernel_rfl
noncomputable def FsMiddleOf (k:Nat) (a0:I2):Option (Int):=den E k 278 [.agg [vI a0.1,vI a0.2]]
theorem esMiddleOf (k:Nat) (a0):FsMiddleOf (k+1) a0=(Fsl1In k a0.2 0 359).bind fun p1=>if (!p1)=true then (FsAngleOf k a0.1).bind fun p2=>some p2 else (FsAngleOf k a0.1).bind fun p3=>(FsAngleOf k (i64.wrap (p3+(i64.wrap ((a0.2).tdiv 2))))).bind fun p4=>some p4:=by kernel_rfl
noncomputable def FsSunAt (k:Nat) (a0:TSky) (a1:Int):Option (Int):=den E k 279 [.agg (avs sSky a0),cI a1]
theorem esSunAt (k:Nat) (a0 a1):FsSunAt (k+1) a0 a1=(FsPlaceAt k (0,0,a0.2.2.2.2.2.2.1,0) a1).bind fun p1=>some p1:=by kernel_rfl
noncomputable def FsShadowAt (k:Nat) (a0:TSky) (a1:Int) (a2:Int):Option (Int):=den E k 165 [.agg (avs sSky a0),cI a1,cI a2]
theorem esShadowAt (k:Nat) (a0 a1 a2):FsShadowAt (k+1) a0 a1 a2=(Fsl1In k a1 0 (i64.wrap ((a0.2.1.length:Int)-1))).bind fun p1=>if (!p1)=true then some 0 else (FsNodeAt k a0 a1 a2).bind fun p2=>(FsMiddleOf k p2).bind fun p3=>(FsSunAt k a0 a2).bind fun p4=>(FsGapOf k p3 (i64.wrap (p4+180))).bind fun p5=>if (decide ((i64.wrap (p5-(i64.wrap ((p2.2).tdiv 2))))>a0.2.2.2.2.2.2.2.1))=true then some 0 else if (decide ((i64.wrap (p5+(i64.wrap ((p2.2).tdiv 2))))<=a0.2.2.2.2.2.2.2.1))=true then some 2 else some 1:=by kernel_rfl
noncomputable def Fsl4Put (k:Nat) (a0:List I2) (a1:Int):Option (List I2):=den E k 166 [.c (.l 194 sI2 a0),cI a1]
theorem esl4Put (k:Nat) (a0 a1):Fsl4Put (k+1) a0 a1=if ((decide ((a0.length:Int)>0))==true)=true then if 0<=(i64.wrap ((a0.length:Int)-1)) then if (i64.wrap ((a0.length:Int)-1))<(a0.length:Int) then ix a0 ((i64.wrap ((a0.length:Int)-1)).toNat) fun x1=>if (x1.2==a1)=true then if 0<=(i64.wrap ((a0.length:Int)-1)) then if (i64.wrap ((a0.length:Int)-1))<(a0.length:Int) then ix a0 ((i64.wrap ((a0.length:Int)-1)).toNat) fun y2=>some (a0.set ((i64.wrap ((a0.length:Int)-1)).toNat) (y2.1,(i64.wrap (a1+1)))) else none else none else if (a0.length+([(a1,(i64.wrap (a1+1)))]).length)*16<=140737488355328 then some (a0++[(a1,(i64.wrap (a1+1)))]) else none else none else none else if (a0.length+([(a1,(i64.wrap (a1+1)))]).length)*16<=140737488355328 then some (a0++[(a1,(i64.wrap (a1+1)))]) else none:=by kernel_rfl
noncomputable def Fsl8Ticks (k:Nat) (a0:Int) (a1:Int):Option I2:=den E k 164 [cI a0,cI a1]
theorem esl8Ticks (k:Nat) (a0 a1):Fsl8Ticks (k+1) a0 a1=(FsMax k 0 a0).bind fun p1=>(FsMin k 1000 p1).bind fun p2=>(FsMin k 1000 a1).bind fun p3=>(FsMax k 0 p3).bind fun p4=>some (p2,p4):=by kernel_rfl
noncomputable def FsLitSpans (k:Nat) (a0:TSky) (a1:Int) (a2:Int) (a3:Int):Option (List I2):=den E k 55 [.agg (avs sSky a0),cI a1,cI a2,cI a3]
abbrev CsLitSpans_0:=Int×Int×TSky
abbrev VsLitSpans_0:=Int×(List I2)
def StsLitSpans_0:CsLitSpans_0->VsLitSpans_0->St
 | (a,b,d),(e,f)=>⟨35,2,[(1,cI a),(4,cP 0),(9,.c (.ref 1)),(11,cI b),(12,cI e)],[(0,.var (avs sSky d)),(1,.arr 194 sI2 f)]⟩
noncomputable def BsLitSpans_0 {R:Type} (k:Nat) (X0:VsLitSpans_0->Option R) (c0:CsLitSpans_0) (rec:VsLitSpans_0->Option R) (v0:VsLitSpans_0):Option R:=if (decide (v0.1<c0.2.1))=true then (FsShadowAt k c0.2.2 c0.1 v0.1).bind fun p2=>if (p2==0)=true then (Fsl4Put k v0.2 v0.1).bind fun p3=>rec ((i64.wrap (v0.1+1)),p3) else rec ((i64.wrap (v0.1+1)),v0.2) else X0 v0
noncomputable def LsLitSpans_0 {R:Type} (k:Nat) (X0:VsLitSpans_0->Option R) (c:CsLitSpans_0):Nat->VsLitSpans_0->Option R
 | 0,_=>none
 | n+1,v=>BsLitSpans_0 k X0 c (LsLitSpans_0 k X0 c n) v
noncomputable def fsLitSpans_0 {R:Type} (k:Nat) (K:Ex->St->Option R) (c:CsLitSpans_0):=lpf E k 55 Tryz.f55 0 [0,1,4,9,11,12] (StsLitSpans_0 c) K
theorem qsLitSpans_0 (k:Nat) (K:Ex->St->Option R) (X0 c) (h:QL (fsLitSpans_0 k K c) (BsLitSpans_0 k X0 c)) (v):LsLitSpans_0 k X0 c k v=fsLitSpans_0 k K c k v:=lq h (fun _ _=>rfl) (fun _=>rfl) (fun _=>rfl) k v
noncomputable def NsLitSpans:Ex->St->Option (List I2):=finish E (rs 55) Tryz.f55
theorem esLitSpans (k:Nat) (a0 a1 a2 a3):FsLitSpans (k+1) a0 a1 a2 a3=(Fsl8Ticks k a2 a3).bind fun p1=>LsLitSpans_0 k (fun v0=>some v0.2) (a1,p1.2,a0) k (p1.1,[]):=by
 simp (disch:=(refine QL.mk fun n0 v=> ?_;kernel_rfl)) only [↓qsLitSpans_0 k (kon0 E k 55 Tryz.f55 0 NsLitSpans)]
 kernel_rfl
noncomputable def FsLitOf (k:Nat) (a0:TWorld) (a1:Int):Option (List I2):=den E k 136 [.agg (avs sWorld a0),cI a1]
theorem esLitOf (k:Nat) (a0 a1):FsLitOf (k+1) a0 a1=(FsLitSpans k a0.1 a1 0 a0.2.2.2.2.2.2.2.2.2.2.2.1).bind fun p1=>some p1:=by kernel_rfl
noncomputable def FsInSpans (k:Nat) (a0:List I2) (a1:Int):Option (Bool):=den E k 135 [.c (.l 194 sI2 a0),cI a1]
abbrev CsInSpans_0:=(List I2)×Int
abbrev VsInSpans_0:=Int
def StsInSpans_0:CsInSpans_0->VsInSpans_0->St
 | (a,b),d=>⟨18,0,[(0,.c (.l 194 sI2 a)),(1,cI b),(5,cI d)],[]⟩
noncomputable def BsInSpans_0 {R:Type} (k:Nat) (X0:VsInSpans_0->I2->Bool->Option R) (X1:VsInSpans_0->Option R) (c0:CsInSpans_0) (rec:VsInSpans_0->Option R) (v0:VsInSpans_0):Option R:=if (decide (v0<(c0.1.length:Int)))=true then if 0<=v0 then ix c0.1 v0.toNat fun x1=>(FsInSpan k x1 c0.2).bind fun p2=>if p2=true then X0 v0 x1 p2 else rec (i64.wrap (v0+1)) else none else X1 v0
noncomputable def LsInSpans_0 {R:Type} (k:Nat) (X0:VsInSpans_0->I2->Bool->Option R) (X1:VsInSpans_0->Option R) (c:CsInSpans_0):Nat->VsInSpans_0->Option R
 | 0,_=>none
 | n+1,v=>BsInSpans_0 k X0 X1 c (LsInSpans_0 k X0 X1 c n) v
noncomputable def fsInSpans_0 {R:Type} (k:Nat) (K:Ex->St->Option R) (c:CsInSpans_0):=lpf E k 135 Tryz.f135 0 [0,0,1,5] (StsInSpans_0 c) K
theorem qsInSpans_0 (k:Nat) (K:Ex->St->Option R) (X0 X1 c) (h:QL (fsInSpans_0 k K c) (BsInSpans_0 k X0 X1 c)) (v):LsInSpans_0 k X0 X1 c k v=fsInSpans_0 k K c k v:=lq h (fun _ _=>rfl) (fun _=>rfl) (fun _=>rfl) k v
noncomputable def NsInSpans:Ex->St->Option (Bool):=finish E (rs 135) Tryz.f135
theorem esInSpans (k:Nat) (a0 a1):FsInSpans (k+1) a0 a1=LsInSpans_0 k (fun (v0:Int) x1 p2=>some true) (fun (v0:Int)=>some false) (a0,a1) k 0:=by
 simp (disch:=(refine QL.mk fun n0 v=> ?_;kernel_rfl)) only [↓qsInSpans_0 k (kon0 E k 135 Tryz.f135 0 NsInSpans)]
 kernel_rfl
noncomputable def FsNeedAt (k:Nat) (a0:I6) (a1:List I2) (a2:Int) (a3:Int):Option (Int):=den E k 163 [.agg (avs sI6 a0),.c (.l 194 sI2 a1),cI a2,cI a3]
abbrev CsNeedAt_0:=(List I2)×Int×I6
abbrev VsNeedAt_0:=Int×Int
def StsNeedAt_0:CsNeedAt_0->VsNeedAt_0->St
 | (a,b,d),(e,f)=>⟨49,1,[(1,.c (.l 194 sI2 a)),(2,cI b),(4,cP 0),(9,cI e),(10,cI f)],[(0,.var (avs sI6 d))]⟩
noncomputable def BsNeedAt_0 {R:Type} (k:Nat) (X0:VsNeedAt_0->Option R) (c0:CsNeedAt_0) (rec:VsNeedAt_0->Option R) (v0:VsNeedAt_0):Option R:=if (decide (v0.2>=c0.2.1))=true then (FsInSpans k c0.1 v0.2).bind fun p2=>if p2=true then (FsMax k 0 (i64.wrap ((i64.wrap (v0.1+c0.2.2.2.2.2.1))-c0.2.2.2.2.2.2.2))).bind fun p3=>rec (p3,(i64.wrap (v0.2-1))) else (FsMax k 0 (i64.wrap (v0.1+c0.2.2.2.2.2.1))).bind fun p4=>rec (p4,(i64.wrap (v0.2-1))) else X0 v0
noncomputable def LsNeedAt_0 {R:Type} (k:Nat) (X0:VsNeedAt_0->Option R) (c:CsNeedAt_0):Nat->VsNeedAt_0->Option R
 | 0,_=>none
 | n+1,v=>BsNeedAt_0 k X0 c (LsNeedAt_0 k X0 c n) v
noncomputable def fsNeedAt_0 {R:Type} (k:Nat) (K:Ex->St->Option R) (c:CsNeedAt_0):=lpf E k 163 Tryz.f163 0 [0,1,2,4,9,10] (StsNeedAt_0 c) K
theorem qsNeedAt_0 (k:Nat) (K:Ex->St->Option R) (X0 c) (h:QL (fsNeedAt_0 k K c) (BsNeedAt_0 k X0 c)) (v):LsNeedAt_0 k X0 c k v=fsNeedAt_0 k K c k v:=lq h (fun _ _=>rfl) (fun _=>rfl) (fun _=>rfl) k v
noncomputable def NsNeedAt:Ex->St->Option (Int):=finish E (rs 163) Tryz.f163
theorem esNeedAt (k:Nat) (a0 a1 a2 a3):FsNeedAt (k+1) a0 a1 a2 a3=(Fsl22Rates k a0).bind fun p1=>if ((!p1)==false)=true then if ((decide (a2<0))==false)=true then if ((decide (a3>1000))==false)=true then if (decide (a3<=a2))=true then some 0 else LsNeedAt_0 k (fun v0=>some v0.1) (a1,a2,a0) k (0,(i64.wrap (a3-1))) else some 0 else some 0 else some 0:=by
 simp (disch:=(refine QL.mk fun n0 v=> ?_;kernel_rfl)) only [↓qsNeedAt_0 k (kon0 E k 163 Tryz.f163 0 NsNeedAt)]
 kernel_rfl
noncomputable def Fsl33Batteries (k:Nat) (a0:TWorld):Option (Bool):=den E k 207 [.agg (avs sWorld a0)]
abbrev Csl33Batteries_0:=TWorld
abbrev Vsl33Batteries_0:=Int
def Stsl33Batteries_0:Csl33Batteries_0->Vsl33Batteries_0->St
 | a,b=>⟨45,1,[(1,cP 0),(3,cI b)],[(0,.var (avs sWorld a))]⟩
noncomputable def Bsl33Batteries_0 {R:Type} (k:Nat) (X0:Vsl33Batteries_0->I6->Bool->(List I2)->Int->Option R) (X1:Vsl33Batteries_0->I6->Bool->Option R) (X2:Vsl33Batteries_0->Option R) (c0:Csl33Batteries_0) (rec:Vsl33Batteries_0->Option R) (v0:Vsl33Batteries_0):Option R:=if (decide (v0<(c0.2.2.2.2.1.length:Int)))=true then if 0<=v0 then ix c0.2.2.2.2.1 v0.toNat fun x1=>(FsIsBattery k x1).bind fun p2=>if ((!p2)==false)=true then (FsLitOf k c0 v0).bind fun p3=>(FsNeedAt k x1 p3 c0.2.2.2.2.2.2.2.2.2.2.1 c0.2.2.2.2.2.2.2.2.2.2.2.1).bind fun p4=>if (decide (x1.1<(i64.wrap (x1.2.2.1+p4))))=true then X0 v0 x1 p2 p3 p4 else rec (i64.wrap (v0+1)) else X1 v0 x1 p2 else none else X2 v0
noncomputable def Lsl33Batteries_0 {R:Type} (k:Nat) (X0:Vsl33Batteries_0->I6->Bool->(List I2)->Int->Option R) (X1:Vsl33Batteries_0->I6->Bool->Option R) (X2:Vsl33Batteries_0->Option R) (c:Csl33Batteries_0):Nat->Vsl33Batteries_0->Option R
 | 0,_=>none
 | n+1,v=>Bsl33Batteries_0 k X0 X1 X2 c (Lsl33Batteries_0 k X0 X1 X2 c n) v
noncomputable def fsl33Batteries_0 {R:Type} (k:Nat) (K:Ex->St->Option R) (c:Csl33Batteries_0):=lpf E k 207 Tryz.f207 0 [0,1,3] (Stsl33Batteries_0 c) K
theorem qsl33Batteries_0 (k:Nat) (K:Ex->St->Option R) (X0 X1 X2 c) (h:QL (fsl33Batteries_0 k K c) (Bsl33Batteries_0 k X0 X1 X2 c)) (v):Lsl33Batteries_0 k X0 X1 X2 c k v=fsl33Batteries_0 k K c k v:=lq h (fun _ _=>rfl) (fun _=>rfl) (fun _=>rfl) k v
noncomputable def Nsl33Batteries:Ex->St->Option (Bool):=finish E (rs 207) Tryz.f207
theorem esl33Batteries (k:Nat) (a0):Fsl33Batteries (k+1) a0=Lsl33Batteries_0 k (fun (v0:Int) x1 p2 p3 (p4:Int)=>some false) (fun (v0:Int) x1 p2=>some false) (fun (v0:Int)=>some ((a0.2.2.2.2.1.length:Int)==(a0.1.2.1.length:Int))) a0 k 0:=by
 simp (disch:=(refine QL.mk fun n0 v=> ?_;kernel_rfl)) only [↓qsl33Batteries_0 k (kon0 E k 207 Tryz.f207 0 Nsl33Batteries)]
 kernel_rfl
noncomputable def FsIsFlow (k:Nat) (a0:I4) (a1:Int):Option (Bool):=den E k 306 [.agg (avs sI4 a0),cI a1]
theorem esIsFlow (k:Nat) (a0 a1):FsIsFlow (k+1) a0 a1=(Fsl1In k a0.1 0 9999).bind fun p1=>if (p1==true)=true then if ((decide (a0.2.1>=0))==true)=true then if ((decide (a0.2.1<a1))==true)=true then if ((decide (a0.2.2.1>=0))==true)=true then if ((decide (a0.2.2.1<a1))==true)=true then if ((a0.2.1 !=a0.2.2.1)==true)=true then (Fsl1In k a0.2.2.2 0 1).bind fun p2=>some p2 else some false else some false else some false else some false else some false else some false:=by kernel_rfl
noncomputable def FsIsStream (k:Nat) (a0:Int×Int×List Int):Option (Bool):=den E k 307 [.agg (avs sStream a0)]
abbrev CsIsStream_0:=(Int×Int×List Int)
abbrev VsIsStream_0:=Int
def StsIsStream_0:CsIsStream_0->VsIsStream_0->St
 | a,b=>⟨59,1,[(1,cP 0),(3,cI b)],[(0,.var (avs sStream a))]⟩
noncomputable def BsIsStream_0 {R:Type} (k:Nat) (X0:VsIsStream_0->Int->Int->Int->Int->Option R) (X1:VsIsStream_0->Int->Int->Option R) (X2:VsIsStream_0->Int->Option R) (X3:VsIsStream_0->Option R) (c0:CsIsStream_0) (rec:VsIsStream_0->Option R) (v0:VsIsStream_0):Option R:=if (decide (v0<(c0.2.2.length:Int)))=true then if 0<=v0 then ix c0.2.2 v0.toNat fun x1=>if ((decide (x1<=c0.2.1))==false)=true then if 0<=v0 then ix c0.2.2 v0.toNat fun x2=>if ((decide (x2>9999))==false)=true then if ((decide (v0>0))==true)=true then if 0<=(i64.wrap (v0-1)) then ix c0.2.2 ((i64.wrap (v0-1)).toNat) fun x3=>if 0<=v0 then ix c0.2.2 v0.toNat fun x4=>if (decide (x3>=x4))=true then X0 v0 x1 x2 x3 x4 else rec (i64.wrap (v0+1)) else none else none else rec (i64.wrap (v0+1)) else X1 v0 x1 x2 else none else X2 v0 x1 else none else X3 v0
noncomputable def LsIsStream_0 {R:Type} (k:Nat) (X0:VsIsStream_0->Int->Int->Int->Int->Option R) (X1:VsIsStream_0->Int->Int->Option R) (X2:VsIsStream_0->Int->Option R) (X3:VsIsStream_0->Option R) (c:CsIsStream_0):Nat->VsIsStream_0->Option R
 | 0,_=>none
 | n+1,v=>BsIsStream_0 k X0 X1 X2 X3 c (LsIsStream_0 k X0 X1 X2 X3 c n) v
noncomputable def fsIsStream_0 {R:Type} (k:Nat) (K:Ex->St->Option R) (c:CsIsStream_0):=lpf E k 307 Tryz.f307 0 [0,1,3] (StsIsStream_0 c) K
theorem qsIsStream_0 (k:Nat) (K:Ex->St->Option R) (X0 X1 X2 X3 c) (h:QL (fsIsStream_0 k K c) (BsIsStream_0 k X0 X1 X2 X3 c)) (v):LsIsStream_0 k X0 X1 X2 X3 c k v=fsIsStream_0 k K c k v:=lq h (fun _ _=>rfl) (fun _=>rfl) (fun _=>rfl) k v
noncomputable def NsIsStream:Ex->St->Option (Bool):=finish E (rs 307) Tryz.f307
theorem esIsStream (k:Nat) (a0):FsIsStream (k+1) a0=LsIsStream_0 k (fun (v0:Int) (x1:Int) (x2:Int) (x3:Int) (x4:Int)=>some false) (fun (v0:Int) (x1:Int) (x2:Int)=>some false) (fun (v0:Int) (x1:Int)=>some false) (fun (v0:Int)=>(Fsl1In k a0.1 0 10000).bind fun p5=>if (p5==true)=true then (Fsl1In k a0.2.1 0 10000).bind fun p6=>if (p6==true)=true then some (decide ((a0.2.2.length:Int)<=20)) else some false else some false) a0 k 0:=by
 simp (disch:=(refine QL.mk fun n0 v=> ?_;kernel_rfl)) only [↓qsIsStream_0 k (kon0 E k 307 Tryz.f307 0 NsIsStream)]
 kernel_rfl
noncomputable def Fsl33Flow (k:Nat) (a0:TWorld) (a1:Int):Option (Int):=den E k 241 [.agg (avs sWorld a0),cI a1]
abbrev Csl33Flow_0:=Int×TWorld
abbrev Vsl33Flow_0:=Int
def Stsl33Flow_0:Csl33Flow_0->Vsl33Flow_0->St
 | (a,b),c=>⟨22,1,[(1,cI a),(2,cP 0),(5,cI c)],[(0,.var (avs sWorld b))]⟩
noncomputable def Bsl33Flow_0 {R:Type} (k:Nat) (X0:Vsl33Flow_0->I4->Option R) (X1:Vsl33Flow_0->Option R) (c0:Csl33Flow_0) (rec:Vsl33Flow_0->Option R) (v0:Vsl33Flow_0):Option R:=if (decide (v0<(c0.2.2.2.2.2.2.2.1.length:Int)))=true then if 0<=v0 then ix c0.2.2.2.2.2.2.2.1 v0.toNat fun x1=>if (x1.1==c0.1)=true then X0 v0 x1 else rec (i64.wrap (v0+1)) else none else X1 v0
noncomputable def Lsl33Flow_0 {R:Type} (k:Nat) (X0:Vsl33Flow_0->I4->Option R) (X1:Vsl33Flow_0->Option R) (c:Csl33Flow_0):Nat->Vsl33Flow_0->Option R
 | 0,_=>none
 | n+1,v=>Bsl33Flow_0 k X0 X1 c (Lsl33Flow_0 k X0 X1 c n) v
noncomputable def fsl33Flow_0 {R:Type} (k:Nat) (K:Ex->St->Option R) (c:Csl33Flow_0):=lpf E k 241 Tryz.f241 0 [0,1,2,5] (Stsl33Flow_0 c) K
theorem qsl33Flow_0 (k:Nat) (K:Ex->St->Option R) (X0 X1 c) (h:QL (fsl33Flow_0 k K c) (Bsl33Flow_0 k X0 X1 c)) (v):Lsl33Flow_0 k X0 X1 c k v=fsl33Flow_0 k K c k v:=lq h (fun _ _=>rfl) (fun _=>rfl) (fun _=>rfl) k v
noncomputable def Nsl33Flow:Ex->St->Option (Int):=finish E (rs 241) Tryz.f241
theorem esl33Flow (k:Nat) (a0 a1):Fsl33Flow (k+1) a0 a1=Lsl33Flow_0 k (fun (v0:Int) x1=>some v0) (fun (v0:Int)=>some (-1)) (a1,a0) k 0:=by
 simp (disch:=(refine QL.mk fun n0 v=> ?_;kernel_rfl)) only [↓qsl33Flow_0 k (kon0 E k 241 Tryz.f241 0 Nsl33Flow)]
 kernel_rfl
noncomputable def Fsl33Flows (k:Nat) (a0:TWorld):Option (Bool):=den E k 209 [.agg (avs sWorld a0)]
abbrev Csl33Flows_0:=TWorld
abbrev Vsl33Flows_0:=Int
def Stsl33Flows_0:Csl33Flows_0->Vsl33Flows_0->St
 | a,b=>⟨79,1,[(1,cP 0),(3,cI b)],[(0,.var (avs sWorld a))]⟩
noncomputable def Bsl33Flows_0 {R:Type} (k:Nat) (X0:Vsl33Flows_0->I4->Bool->I4->Int->(Int×Int×List Int)->Bool->(Int×Int×List Int)->I4->Option R) (X1:Vsl33Flows_0->I4->Bool->I4->Int->(Int×Int×List Int)->Bool->Option R) (X2:Vsl33Flows_0->I4->Bool->I4->Int->Option R) (X3:Vsl33Flows_0->I4->Bool->Option R) (X4:Vsl33Flows_0->Option R) (c0:Csl33Flows_0) (rec:Vsl33Flows_0->Option R) (v0:Vsl33Flows_0):Option R:=if (decide (v0<(c0.2.2.2.2.2.2.1.length:Int)))=true then if 0<=v0 then ix c0.2.2.2.2.2.2.1 v0.toNat fun x1=>(FsIsFlow k x1 c0.2.1.1).bind fun p2=>if ((!p2)==false)=true then if 0<=v0 then ix c0.2.2.2.2.2.2.1 v0.toNat fun x3=>(Fsl33Flow k c0 x3.1).bind fun p4=>if ((decide (p4<v0))==false)=true then if 0<=v0 then ix c0.2.2.2.2.2.2.2.2.1 v0.toNat fun x5=>(FsIsStream k x5).bind fun p6=>if ((!p6)==false)=true then if 0<=v0 then ix c0.2.2.2.2.2.2.2.2.1 v0.toNat fun x7=>if 0<=v0 then ix c0.2.2.2.2.2.2.1 v0.toNat fun x8=>if (x7.1 !=x8.1)=true then X0 v0 x1 p2 x3 p4 x5 p6 x7 x8 else rec (i64.wrap (v0+1)) else none else none else X1 v0 x1 p2 x3 p4 x5 p6 else none else X2 v0 x1 p2 x3 p4 else none else X3 v0 x1 p2 else none else X4 v0
noncomputable def Lsl33Flows_0 {R:Type} (k:Nat) (X0:Vsl33Flows_0->I4->Bool->I4->Int->(Int×Int×List Int)->Bool->(Int×Int×List Int)->I4->Option R) (X1:Vsl33Flows_0->I4->Bool->I4->Int->(Int×Int×List Int)->Bool->Option R) (X2:Vsl33Flows_0->I4->Bool->I4->Int->Option R) (X3:Vsl33Flows_0->I4->Bool->Option R) (X4:Vsl33Flows_0->Option R) (c:Csl33Flows_0):Nat->Vsl33Flows_0->Option R
 | 0,_=>none
 | n+1,v=>Bsl33Flows_0 k X0 X1 X2 X3 X4 c (Lsl33Flows_0 k X0 X1 X2 X3 X4 c n) v
noncomputable def fsl33Flows_0 {R:Type} (k:Nat) (K:Ex->St->Option R) (c:Csl33Flows_0):=lpf E k 209 Tryz.f209 0 [0,1,3] (Stsl33Flows_0 c) K
theorem qsl33Flows_0 (k:Nat) (K:Ex->St->Option R) (X0 X1 X2 X3 X4 c) (h:QL (fsl33Flows_0 k K c) (Bsl33Flows_0 k X0 X1 X2 X3 X4 c)) (v):Lsl33Flows_0 k X0 X1 X2 X3 X4 c k v=fsl33Flows_0 k K c k v:=lq h (fun _ _=>rfl) (fun _=>rfl) (fun _=>rfl) k v
noncomputable def Nsl33Flows:Ex->St->Option (Bool):=finish E (rs 209) Tryz.f209
theorem esl33Flows (k:Nat) (a0):Fsl33Flows (k+1) a0=if ((decide ((a0.2.2.2.2.2.2.1.length:Int)>8))==false)=true then if (((a0.2.2.2.2.2.2.2.1.length:Int) !=(a0.2.2.2.2.2.2.1.length:Int))==false)=true then if ((a0.2.2.2.2.2.2.2.2.1.length:Int) !=(a0.2.2.2.2.2.2.1.length:Int))=true then some false else Lsl33Flows_0 k (fun (v0:Int) x1 p2 x3 (p4:Int) x5 p6 x7 x8=>some false) (fun (v0:Int) x1 p2 x3 (p4:Int) x5 p6=>some false) (fun (v0:Int) x1 p2 x3 (p4:Int)=>some false) (fun (v0:Int) x1 p2=>some false) (fun (v0:Int)=>some true) a0 k 0 else some false else some false:=by
 simp (disch:=(refine QL.mk fun n0 v=> ?_;kernel_rfl)) only [↓qsl33Flows_0 k (kon0 E k 209 Tryz.f209 0 Nsl33Flows)]
 kernel_rfl
noncomputable def FsPacketPlaces (k:Nat) (a0:TWorld) (a1:Int):Option (Int):=den E k 308 [.agg (avs sWorld a0),cI a1]
abbrev CsPacketPlaces_2:=Int×Int×TWorld
abbrev VsPacketPlaces_2:=Int×Int
def StsPacketPlaces_2:CsPacketPlaces_2->VsPacketPlaces_2->St
 | (a,b,c),(d,e)=>⟨59,1,[(1,cI a),(2,cP 0),(5,cI d),(6,cI b),(8,cI e)],[(0,.var (avs sWorld c))]⟩
noncomputable def BsPacketPlaces_2 {R:Type} (k:Nat) (X0:VsPacketPlaces_2->Option R) (c2:CsPacketPlaces_2) (rec:VsPacketPlaces_2->Option R) (v2:VsPacketPlaces_2):Option R:=if (decide (v2.2<(c2.2.2.2.2.2.2.2.2.2.2.2.2.2.2.1.length:Int)))=true then if 0<=v2.2 then ix c2.2.2.2.2.2.2.2.2.2.2.2.2.2.2.1 v2.2.toNat fun x4=>if (x4.1==c2.1)=true then rec ((i64.wrap (v2.1+1)),(i64.wrap (v2.2+1))) else rec (v2.1,(i64.wrap (v2.2+1))) else none else X0 v2
noncomputable def LsPacketPlaces_2 {R:Type} (k:Nat) (X0:VsPacketPlaces_2->Option R) (c:CsPacketPlaces_2):Nat->VsPacketPlaces_2->Option R
 | 0,_=>none
 | n+1,v=>BsPacketPlaces_2 k X0 c (LsPacketPlaces_2 k X0 c n) v
noncomputable def fsPacketPlaces_2 {R:Type} (k:Nat) (K:Ex->St->Option R) (c:CsPacketPlaces_2):=lpf E k 308 Tryz.f308 2 [0,1,2,5,6,8] (StsPacketPlaces_2 c) K
theorem qsPacketPlaces_2 (k:Nat) (K:Ex->St->Option R) (X0 c) (h:QL (fsPacketPlaces_2 k K c) (BsPacketPlaces_2 k X0 c)) (v):LsPacketPlaces_2 k X0 c k v=fsPacketPlaces_2 k K c k v:=lq h (fun _ _=>rfl) (fun _=>rfl) (fun _=>rfl) k v
abbrev CsPacketPlaces_1:=Int×Int×TWorld
abbrev VsPacketPlaces_1:=Int×Int
def StsPacketPlaces_1:CsPacketPlaces_1->VsPacketPlaces_1->St
 | (a,b,c),(d,e)=>⟨59,1,[(1,cI a),(2,cP 0),(5,cI d),(6,cI b),(7,cI e)],[(0,.var (avs sWorld c))]⟩
noncomputable def BsPacketPlaces_1 {R:Type} (k:Nat) (X0:VsPacketPlaces_1->(List I6)->Option R) (c1:CsPacketPlaces_1) (rec:VsPacketPlaces_1->Option R) (v1:VsPacketPlaces_1):Option R:=if 0<=c1.2.1 then ix c1.2.2.2.2.2.2.2.1 c1.2.1.toNat fun x1=>if (decide (v1.2<(x1.length:Int)))=true then if 0<=c1.2.1 then ix c1.2.2.2.2.2.2.2.1 c1.2.1.toNat fun x2=>if 0<=v1.2 then ix x2 v1.2.toNat fun x3=>if (x3.1==c1.1)=true then rec ((i64.wrap (v1.1+1)),(i64.wrap (v1.2+1))) else rec (v1.1,(i64.wrap (v1.2+1))) else none else none else X0 v1 x1 else none
noncomputable def LsPacketPlaces_1 {R:Type} (k:Nat) (X0:VsPacketPlaces_1->(List I6)->Option R) (c:CsPacketPlaces_1):Nat->VsPacketPlaces_1->Option R
 | 0,_=>none
 | n+1,v=>BsPacketPlaces_1 k X0 c (LsPacketPlaces_1 k X0 c n) v
noncomputable def fsPacketPlaces_1 {R:Type} (k:Nat) (K:Ex->St->Option R) (c:CsPacketPlaces_1):=lpf E k 308 Tryz.f308 1 [0,1,2,5,6,7] (StsPacketPlaces_1 c) K
theorem qsPacketPlaces_1 (k:Nat) (K:Ex->St->Option R) (X0 c) (h:QL (fsPacketPlaces_1 k K c) (BsPacketPlaces_1 k X0 c)) (v):LsPacketPlaces_1 k X0 c k v=fsPacketPlaces_1 k K c k v:=lq h (fun _ _=>rfl) (fun _=>rfl) (fun _=>rfl) k v
abbrev CsPacketPlaces_0:=Int×TWorld
abbrev VsPacketPlaces_0:=Int×Int
def StsPacketPlaces_0:CsPacketPlaces_0->VsPacketPlaces_0->St
 | (a,b),(c,d)=>⟨59,1,[(1,cI a),(2,cP 0),(5,cI c),(6,cI d)],[(0,.var (avs sWorld b))]⟩
noncomputable def BsPacketPlaces_0 {R:Type} (k:Nat) (X0:VsPacketPlaces_0->Option R) (c0:CsPacketPlaces_0) (rec:VsPacketPlaces_0->Option R) (v0:VsPacketPlaces_0):Option R:=if (decide (v0.2<(c0.2.2.2.2.2.2.1.length:Int)))=true then LsPacketPlaces_1 k (fun v1 x1=>rec (v1.1,(i64.wrap (v0.2+1)))) (c0.1,v0.2,c0.2) k (v0.1,0) else X0 v0
noncomputable def LsPacketPlaces_0 {R:Type} (k:Nat) (X0:VsPacketPlaces_0->Option R) (c:CsPacketPlaces_0):Nat->VsPacketPlaces_0->Option R
 | 0,_=>none
 | n+1,v=>BsPacketPlaces_0 k X0 c (LsPacketPlaces_0 k X0 c n) v
noncomputable def fsPacketPlaces_0 {R:Type} (k:Nat) (K:Ex->St->Option R) (c:CsPacketPlaces_0):=lpf E k 308 Tryz.f308 0 [0,1,2,5,6] (StsPacketPlaces_0 c) K
theorem qsPacketPlaces_0 (k:Nat) (K:Ex->St->Option R) (X0 c) (h:QL (fsPacketPlaces_0 k K c) (BsPacketPlaces_0 k X0 c)) (v):LsPacketPlaces_0 k X0 c k v=fsPacketPlaces_0 k K c k v:=lq h (fun _ _=>rfl) (fun _=>rfl) (fun _=>rfl) k v
noncomputable def NsPacketPlaces:Ex->St->Option (Int):=finish E (rs 308) Tryz.f308
theorem esPacketPlaces (k:Nat) (a0 a1):FsPacketPlaces (k+1) a0 a1=LsPacketPlaces_0 k (fun v0=>LsPacketPlaces_2 k (fun v2=>some v2.1) (a1,v0.2,a0) k (v0.1,0)) (a1,a0) k (0,0):=by
 simp (maxSteps:=9999999) (disch:=(refine QL.mk fun n0 v=> ?_;unfold BsPacketPlaces_0;simp (maxSteps:=9999999) (disch:=(refine QL.mk fun n1 v=> ?_;kernel_rfl)) only [↓qsPacketPlaces_2 (R:=Int) k (kon0 E k 308 Tryz.f308 2 NsPacketPlaces),↓qsPacketPlaces_1 (R:=Int) k (kon1 E k 308 Tryz.f308 0 1 n0 [0,1,2,5,6] (kon0 E k 308 Tryz.f308 0 NsPacketPlaces))];kernel_rfl)) only [↓qsPacketPlaces_0 (R:=Int) k (kon0 E k 308 Tryz.f308 0 NsPacketPlaces)]
 kernel_rfl
noncomputable def Fsl33Packets (k:Nat) (a0:TWorld):Option (Bool):=den E k 210 [.agg (avs sWorld a0)]
abbrev Csl33Packets_2:=Int×Int×Int×Int×TWorld
abbrev Vsl33Packets_2:=Int
def Stsl33Packets_2:Csl33Packets_2->Vsl33Packets_2->St
 | (a,b,c,d,e),f=>⟨60,1,[(1,cP 0),(3,cI a),(4,cI b),(5,cI c),(6,cI d),(7,cI f)],[(0,.var (avs sWorld e))]⟩
noncomputable def Bsl33Packets_2 {R:Type} (k:Nat) (X0:Vsl33Packets_2->Int->Option R) (X1:Vsl33Packets_2->Option R) (c2:Csl33Packets_2) (rec:Vsl33Packets_2->Option R) (v2:Vsl33Packets_2):Option R:=if (decide (v2<c2.1))=true then (FsPacketPlaces k c2.2.2.2.2 v2).bind fun p5=>if (p5 !=1)=true then X0 v2 p5 else rec (i64.wrap (v2+1)) else X1 v2
noncomputable def Lsl33Packets_2 {R:Type} (k:Nat) (X0:Vsl33Packets_2->Int->Option R) (X1:Vsl33Packets_2->Option R) (c:Csl33Packets_2):Nat->Vsl33Packets_2->Option R
 | 0,_=>none
 | n+1,v=>Bsl33Packets_2 k X0 X1 c (Lsl33Packets_2 k X0 X1 c n) v
noncomputable def fsl33Packets_2 {R:Type} (k:Nat) (K:Ex->St->Option R) (c:Csl33Packets_2):=lpf E k 210 Tryz.f210 2 [0,1,3,4,5,6,7] (Stsl33Packets_2 c) K
theorem qsl33Packets_2 (k:Nat) (K:Ex->St->Option R) (X0 X1 c) (h:QL (fsl33Packets_2 k K c) (Bsl33Packets_2 k X0 X1 c)) (v):Lsl33Packets_2 k X0 X1 c k v=fsl33Packets_2 k K c k v:=lq h (fun _ _=>rfl) (fun _=>rfl) (fun _=>rfl) k v
abbrev Csl33Packets_1:=Int×Int×TWorld
abbrev Vsl33Packets_1:=Int×Int
def Stsl33Packets_1:Csl33Packets_1->Vsl33Packets_1->St
 | (a,b,c),(d,e)=>⟨60,1,[(1,cP 0),(3,cI a),(4,cI b),(5,cI d),(6,cI e)],[(0,.var (avs sWorld c))]⟩
noncomputable def Bsl33Packets_1 {R:Type} (k:Nat) (X0:Vsl33Packets_1->Option R) (c1:Csl33Packets_1) (rec:Vsl33Packets_1->Option R) (v1:Vsl33Packets_1):Option R:=if (decide (v1.2<(c1.2.2.2.2.2.2.2.1.length:Int)))=true then if 0<=v1.2 then ix c1.2.2.2.2.2.2.2.1 v1.2.toNat fun x4=>rec ((i64.wrap (v1.1+(x4.length:Int))),(i64.wrap (v1.2+1))) else none else X0 v1
noncomputable def Lsl33Packets_1 {R:Type} (k:Nat) (X0:Vsl33Packets_1->Option R) (c:Csl33Packets_1):Nat->Vsl33Packets_1->Option R
 | 0,_=>none
 | n+1,v=>Bsl33Packets_1 k X0 c (Lsl33Packets_1 k X0 c n) v
noncomputable def fsl33Packets_1 {R:Type} (k:Nat) (K:Ex->St->Option R) (c:Csl33Packets_1):=lpf E k 210 Tryz.f210 1 [0,1,3,4,5,6] (Stsl33Packets_1 c) K
theorem qsl33Packets_1 (k:Nat) (K:Ex->St->Option R) (X0 c) (h:QL (fsl33Packets_1 k K c) (Bsl33Packets_1 k X0 c)) (v):Lsl33Packets_1 k X0 c k v=fsl33Packets_1 k K c k v:=lq h (fun _ _=>rfl) (fun _=>rfl) (fun _=>rfl) k v
abbrev Csl33Packets_0:=TWorld
abbrev Vsl33Packets_0:=Int×Int
def Stsl33Packets_0:Csl33Packets_0->Vsl33Packets_0->St
 | a,(b,c)=>⟨60,1,[(1,cP 0),(3,cI b),(4,cI c)],[(0,.var (avs sWorld a))]⟩
noncomputable def Bsl33Packets_0 {R:Type} (k:Nat) (X0:Vsl33Packets_0->Int->Bool->Option R) (X1:Vsl33Packets_0->Option R) (c0:Csl33Packets_0) (rec:Vsl33Packets_0->Option R) (v0:Vsl33Packets_0):Option R:=if (decide (v0.2<(c0.2.2.2.2.2.2.2.1.length:Int)))=true then if 0<=v0.2 then ix c0.2.2.2.2.2.2.2.1 v0.2.toNat fun x1=>(Fsl1In k x1 0 10000).bind fun p2=>if (!p2)=true then X0 v0 x1 p2 else if 0<=v0.2 then ix c0.2.2.2.2.2.2.2.1 v0.2.toNat fun x3=>rec ((i64.wrap (v0.1+x3)),(i64.wrap (v0.2+1))) else none else none else X1 v0
noncomputable def Lsl33Packets_0 {R:Type} (k:Nat) (X0:Vsl33Packets_0->Int->Bool->Option R) (X1:Vsl33Packets_0->Option R) (c:Csl33Packets_0):Nat->Vsl33Packets_0->Option R
 | 0,_=>none
 | n+1,v=>Bsl33Packets_0 k X0 X1 c (Lsl33Packets_0 k X0 X1 c n) v
noncomputable def fsl33Packets_0 {R:Type} (k:Nat) (K:Ex->St->Option R) (c:Csl33Packets_0):=lpf E k 210 Tryz.f210 0 [0,1,3,4] (Stsl33Packets_0 c) K
theorem qsl33Packets_0 (k:Nat) (K:Ex->St->Option R) (X0 X1 c) (h:QL (fsl33Packets_0 k K c) (Bsl33Packets_0 k X0 X1 c)) (v):Lsl33Packets_0 k X0 X1 c k v=fsl33Packets_0 k K c k v:=lq h (fun _ _=>rfl) (fun _=>rfl) (fun _=>rfl) k v
noncomputable def Nsl33Packets:Ex->St->Option (Bool):=finish E (rs 210) Tryz.f210
theorem esl33Packets (k:Nat) (a0):Fsl33Packets (k+1) a0=Lsl33Packets_0 k (fun v0 (x1:Int) p2=>some false) (fun v0=>Lsl33Packets_1 k (fun v1=>if (v1.1 !=v0.1)=true then some false else Lsl33Packets_2 k (fun (v2:Int) (p5:Int)=>some false) (fun (v2:Int)=>some true) (v0.1,v0.2,v1.1,v1.2,a0) k 0) (v0.1,v0.2,a0) k ((a0.2.2.2.2.2.2.2.2.2.2.2.2.1.length:Int),0)) a0 k (0,0):=by
 simp (maxSteps:=9999999) (disch:=(refine QL.mk fun n0 v=> ?_;unfold Bsl33Packets_0;simp (maxSteps:=9999999) (disch:=(refine QL.mk fun n1 v=> ?_;unfold Bsl33Packets_1;simp (maxSteps:=9999999) (disch:=(refine QL.mk fun n2 v=> ?_;kernel_rfl)) only [↓qsl33Packets_2 (R:=Bool) k (kon0 E k 210 Tryz.f210 2 Nsl33Packets)];kernel_rfl)) only [↓qsl33Packets_1 (R:=Bool) k (kon0 E k 210 Tryz.f210 1 Nsl33Packets)];kernel_rfl)) only [↓qsl33Packets_0 (R:=Bool) k (kon0 E k 210 Tryz.f210 0 Nsl33Packets)]
 kernel_rfl
noncomputable def FsIsPacket (k:Nat) (a0:I6) (a1:Int):Option (Bool):=den E k 263 [.agg (avs sI6 a0),cI a1]
theorem esIsPacket (k:Nat) (a0 a1):FsIsPacket (k+1) a0 a1=(Fsl1In k a0.1 0 9999).bind fun p1=>if (p1==true)=true then (Fsl1In k a0.2.1 0 9999).bind fun p2=>if (p2==true)=true then (Fsl1In k a0.2.2.1 0 9999).bind fun p3=>if (p3==true)=true then if ((decide (a0.2.2.2.1>=0))==true)=true then if ((decide (a0.2.2.2.1<a1))==true)=true then if ((decide (a0.2.2.2.2.1>=0))==true)=true then if ((decide (a0.2.2.2.2.1<a1))==true)=true then if ((a0.2.2.2.1 !=a0.2.2.2.2.1)==true)=true then (Fsl1In k a0.2.2.2.2.2 0 1).bind fun p4=>some p4 else some false else some false else some false else some false else some false else some false else some false else some false:=by kernel_rfl
noncomputable def Fsl33Queues (k:Nat) (a0:TWorld):Option (Bool):=den E k 208 [.agg (avs sWorld a0)]
abbrev Csl33Queues_1:=Int×(List I6)×TWorld
abbrev Vsl33Queues_1:=Int
def Stsl33Queues_1:Csl33Queues_1->Vsl33Queues_1->St
 | (a,b,d),e=>⟨59,1,[(1,cP 0),(3,cI a),(4,.c (.l 229 sI6 b)),(5,cI e)],[(0,.var (avs sWorld d))]⟩
noncomputable def Bsl33Queues_1 {R:Type} (k:Nat) (X0:Vsl33Queues_1->I6->Bool->Bool->I6->Option R) (X1:Vsl33Queues_1->I6->Bool->Option R) (X2:Vsl33Queues_1->Option R) (c1:Csl33Queues_1) (rec:Vsl33Queues_1->Option R) (v1:Vsl33Queues_1):Option R:=if (decide (v1<(c1.2.1.length:Int)))=true then if 0<=v1 then ix c1.2.1 v1.toNat fun x2=>(FsIsPacket k x2 c1.2.2.2.1.1).bind fun p3=>if ((!p3)==false)=true then (FsIsSite k c1.2.2.1 c1.1).bind fun p4=>if (p4==true)=true then if 0<=v1 then ix c1.2.1 v1.toNat fun x5=>if (x5.2.2.2.1 !=c1.1)=true then X0 v1 x2 p3 p4 x5 else rec (i64.wrap (v1+1)) else none else rec (i64.wrap (v1+1)) else X1 v1 x2 p3 else none else X2 v1
noncomputable def Lsl33Queues_1 {R:Type} (k:Nat) (X0:Vsl33Queues_1->I6->Bool->Bool->I6->Option R) (X1:Vsl33Queues_1->I6->Bool->Option R) (X2:Vsl33Queues_1->Option R) (c:Csl33Queues_1):Nat->Vsl33Queues_1->Option R
 | 0,_=>none
 | n+1,v=>Bsl33Queues_1 k X0 X1 X2 c (Lsl33Queues_1 k X0 X1 X2 c n) v
noncomputable def fsl33Queues_1 {R:Type} (k:Nat) (K:Ex->St->Option R) (c:Csl33Queues_1):=lpf E k 208 Tryz.f208 1 [0,1,3,4,5] (Stsl33Queues_1 c) K
theorem qsl33Queues_1 (k:Nat) (K:Ex->St->Option R) (X0 X1 X2 c) (h:QL (fsl33Queues_1 k K c) (Bsl33Queues_1 k X0 X1 X2 c)) (v):Lsl33Queues_1 k X0 X1 X2 c k v=fsl33Queues_1 k K c k v:=lq h (fun _ _=>rfl) (fun _=>rfl) (fun _=>rfl) k v
abbrev Csl33Queues_0:=TWorld
abbrev Vsl33Queues_0:=Int
def Stsl33Queues_0:Csl33Queues_0->Vsl33Queues_0->St
 | a,b=>⟨59,1,[(1,cP 0),(3,cI b)],[(0,.var (avs sWorld a))]⟩
noncomputable def Bsl33Queues_0 {R:Type} (k:Nat) (X0:Vsl33Queues_0->(List I6)->Int->I6->Bool->Bool->I6->Option R) (X1:Vsl33Queues_0->(List I6)->Int->I6->Bool->Option R) (X2:Vsl33Queues_0->(List I6)->Int->Option R) (X3:Vsl33Queues_0->Option R) (c0:Csl33Queues_0) (rec:Vsl33Queues_0->Option R) (v0:Vsl33Queues_0):Option R:=if (decide (v0<(c0.2.2.2.2.2.1.length:Int)))=true then if 0<=v0 then ix c0.2.2.2.2.2.1 v0.toNat fun x1=>Lsl33Queues_1 k (fun (v1:Int) x2 p3 p4 x5=>X0 v0 x1 v1 x2 p3 p4 x5) (fun (v1:Int) x2 p3=>X1 v0 x1 v1 x2 p3) (fun (v1:Int)=>if (decide ((x1.length:Int)>12))=true then X2 v0 x1 v1 else rec (i64.wrap (v0+1))) (v0,x1,c0) k 0 else none else X3 v0
noncomputable def Lsl33Queues_0 {R:Type} (k:Nat) (X0:Vsl33Queues_0->(List I6)->Int->I6->Bool->Bool->I6->Option R) (X1:Vsl33Queues_0->(List I6)->Int->I6->Bool->Option R) (X2:Vsl33Queues_0->(List I6)->Int->Option R) (X3:Vsl33Queues_0->Option R) (c:Csl33Queues_0):Nat->Vsl33Queues_0->Option R
 | 0,_=>none
 | n+1,v=>Bsl33Queues_0 k X0 X1 X2 X3 c (Lsl33Queues_0 k X0 X1 X2 X3 c n) v
noncomputable def fsl33Queues_0 {R:Type} (k:Nat) (K:Ex->St->Option R) (c:Csl33Queues_0):=lpf E k 208 Tryz.f208 0 [0,1,3] (Stsl33Queues_0 c) K
theorem qsl33Queues_0 (k:Nat) (K:Ex->St->Option R) (X0 X1 X2 X3 c) (h:QL (fsl33Queues_0 k K c) (Bsl33Queues_0 k X0 X1 X2 X3 c)) (v):Lsl33Queues_0 k X0 X1 X2 X3 c k v=fsl33Queues_0 k K c k v:=lq h (fun _ _=>rfl) (fun _=>rfl) (fun _=>rfl) k v
noncomputable def Nsl33Queues:Ex->St->Option (Bool):=finish E (rs 208) Tryz.f208
theorem esl33Queues (k:Nat) (a0):Fsl33Queues (k+1) a0=Lsl33Queues_0 k (fun (v0:Int) x1 (v1:Int) x2 p3 p4 x5=>some false) (fun (v0:Int) x1 (v1:Int) x2 p3=>some false) (fun (v0:Int) x1 (v1:Int)=>some false) (fun (v0:Int)=>some ((a0.2.2.2.2.2.1.length:Int)==a0.2.1.1)) a0 k 0:=by
 simp (maxSteps:=9999999) (disch:=(refine QL.mk fun n0 v=> ?_;unfold Bsl33Queues_0;simp (maxSteps:=9999999) (disch:=(refine QL.mk fun n1 v=> ?_;kernel_rfl)) only [↓qsl33Queues_1 (R:=Bool) k (kon1 E k 208 Tryz.f208 0 1 n0 [0,1,3] (kon0 E k 208 Tryz.f208 0 Nsl33Queues))];kernel_rfl)) only [↓qsl33Queues_0 (R:=Bool) k (kon0 E k 208 Tryz.f208 0 Nsl33Queues)]
 kernel_rfl
noncomputable def FsIsWorld (k:Nat) (a0:TWorld):Option (Bool):=den E k 111 [.agg (avs sWorld a0)]
abbrev CsIsWorld_0:=TWorld
abbrev VsIsWorld_0:=Int
def StsIsWorld_0:CsIsWorld_0->VsIsWorld_0->St
 | a,b=>⟨98,1,[(1,cP 0),(3,cI b)],[(0,.var (avs sWorld a))]⟩
noncomputable def BsIsWorld_0 {R:Type} (k:Nat) (X0:VsIsWorld_0->I4->Bool->Option R) (X1:VsIsWorld_0->Option R) (c0:CsIsWorld_0) (rec:VsIsWorld_0->Option R) (v0:VsIsWorld_0):Option R:=if (decide (v0<(c0.2.2.2.2.2.2.2.2.2.1.length:Int)))=true then if 0<=v0 then ix c0.2.2.2.2.2.2.2.2.2.1 v0.toNat fun x1=>(FsIsFault k x1 c0.2.1.1).bind fun p2=>if (!p2)=true then X0 v0 x1 p2 else rec (i64.wrap (v0+1)) else none else X1 v0
noncomputable def LsIsWorld_0 {R:Type} (k:Nat) (X0:VsIsWorld_0->I4->Bool->Option R) (X1:VsIsWorld_0->Option R) (c:CsIsWorld_0):Nat->VsIsWorld_0->Option R
 | 0,_=>none
 | n+1,v=>BsIsWorld_0 k X0 X1 c (LsIsWorld_0 k X0 X1 c n) v
noncomputable def fsIsWorld_0 {R:Type} (k:Nat) (K:Ex->St->Option R) (c:CsIsWorld_0):=lpf E k 111 Tryz.f111 0 [0,1,3] (StsIsWorld_0 c) K
theorem qsIsWorld_0 (k:Nat) (K:Ex->St->Option R) (X0 X1 c) (h:QL (fsIsWorld_0 k K c) (BsIsWorld_0 k X0 X1 c)) (v):LsIsWorld_0 k X0 X1 c k v=fsIsWorld_0 k K c k v:=lq h (fun _ _=>rfl) (fun _=>rfl) (fun _=>rfl) k v
noncomputable def NsIsWorld:Ex->St->Option (Bool):=finish E (rs 111) Tryz.f111
theorem esIsWorld (k:Nat) (a0):FsIsWorld (k+1) a0=LsIsWorld_0 k (fun (v0:Int) x1 p2=>some false) (fun (v0:Int)=>(FsIsSky k a0.1).bind fun p3=>if ((!p3)==false)=true then (FsIsProgram k a0.2.1).bind fun p4=>if ((!p4)==false)=true then (FsIsLaw k a0.2.2.1 a0.2.1).bind fun p5=>if ((!p5)==false)=true then (FsNodesOf k a0.1).bind fun p6=>if ((a0.2.1.1 !=p6)==false)=true then if ((a0.2.1.2.1 !=(a0.1.2.1.length:Int))==false)=true then (FsAreOffsets k a0.2.1 a0.2.2.2.1).bind fun p7=>if (!p7)=true then some false else (Fsl1In k a0.2.2.2.2.2.2.2.2.2.2.2.1 1 60).bind fun p8=>if (p8==true)=true then (Fsl1In k a0.2.2.2.2.2.2.2.2.2.2.1 0 a0.2.2.2.2.2.2.2.2.2.2.2.1).bind fun p9=>if (p9==true)=true then if ((decide ((a0.2.2.2.2.2.2.2.2.2.1.length:Int)<=12))==true)=true then (Fsl33Batteries k a0).bind fun p10=>if (p10==true)=true then (Fsl33Queues k a0).bind fun p11=>if (p11==true)=true then (Fsl33Flows k a0).bind fun p12=>if (p12==true)=true then (Fsl33Packets k a0).bind fun p13=>some p13 else some false else some false else some false else some false else some false else some false else some false else some false else some false else some false else some false) a0 k 0:=by
 simp (disch:=(refine QL.mk fun n0 v=> ?_;kernel_rfl)) only [↓qsIsWorld_0 k (kon0 E k 111 Tryz.f111 0 NsIsWorld)]
 kernel_rfl
noncomputable def FsFaultOf (k:Nat) (a0:TWorld):Option (ByteArray):=den E k 26 [.agg (avs sWorld a0)]
theorem esFaultOf (k:Nat) (a0):FsFaultOf (k+1) a0=(FsIsWorld k a0).bind fun p1=>if (!p1)=true then some (⟨#[119,111,114,108,100]⟩:ByteArray) else (FsIsQuiet k a0).bind fun p2=>if (!p2)=true then some (⟨#[113,117,105,101,116]⟩:ByteArray) else (FsIsInContact k a0).bind fun p3=>if (!p3)=true then some (⟨#[99,111,110,116,97,99,116]⟩:ByteArray) else (FsIsPowered k a0).bind fun p4=>if (!p4)=true then some (⟨#[112,111,119,101,114]⟩:ByteArray) else (FsIsLawful k a0).bind fun p5=>if (!p5)=true then some (⟨#[108,97,119]⟩:ByteArray) else (FsIsLoopFree k a0).bind fun p6=>if (!p6)=true then some (⟨#[108,111,111,112]⟩:ByteArray) else some (⟨#[]⟩:ByteArray):=by kernel_rfl
noncomputable def FlFnExactFaultOf (k:Nat) (a0:TWorld):Option (Bool):=den E k 4 [.agg (avs sLWorld a0)]
theorem elFnExactFaultOf (k:Nat) (a0):FlFnExactFaultOf (k+1) a0=(FlszWorld k a0 1048576).bind fun p1=>if (decide (p1<0))=true then some true else (FltoWorld k a0).bind fun p2=>(FsFaultOf k p2).bind fun p3=>(FltoWorld k a0).bind fun p4=>(FiFaultOf k p4).bind fun p5=>if (!((p5).toList==(p3).toList))=true then some false else (FltoWorld k a0).bind fun p6=>(FleqWorld k p4 p6).bind fun p7=>if (!p7)=true then some false else some true:=by kernel_rfl
end Go.Proofs.YtdglapefgakccaaGreat.World
