/- The equations of the functions that a law reaches, part 3. No condition. -/
import Derived.Test.YtkgjmgaccfmhpaaGreatWb
namespace Go.Proofs.YtkgjmgaccfmhpaaGreat.World
open Go Go.V Go.Proofs
open Go.IntKind (i64 u64)
variable {R:Type}
set_option linter.unusedVariables false
set_option linter.unusedSimpArgs false
set_option maxRecDepth 100000
set_option maxHeartbeats 4000000
noncomputable def y36 (k:Nat) (a0:j2) (a1:Int):Option (Bool):=den E k 271 [.agg (avs j4 a0),cI a1]
theorem xna (k:Nat) (a0:j2) (a1:Int):y36 (k+1) a0 a1=(xn k a0.2.2.1 0 5).bind fun p1=>if (p1==true)=true then (xn k a1 0 1000).bind fun p2=>if (p2==true)=true then (zx2 k a0 (i64.wrap (a1-(i64.wrap (2*a0.2.2.1)))) (i64.wrap (a1+(i64.wrap (2*a0.2.2.1))))).bind fun p3=>some ((p3.length:Int)==1) else some false else some false:=by kernel_rfl
noncomputable def wp3 (k:Nat) (a0:j2) (a1:Int) (a2:Int) (a3:Int) (a4:List Int):Option (Int):=den E k 199 [.agg (avs j4 a0),cI a1,cI a2,cI a3,.c (.l 3 (.i .i64) a4)]
abbrev vu1:=(List Int)×(List Int)
abbrev wt:=Int
def zg4 (c0:vu1) (v0:wt):St:=⟨77,1,[(4,.c (.l 3 (.i .i64) c0.1)),(15,.c (.ref 0)),(16,cI v0)],[(0,.arr 3 (.i .i64) c0.2)]⟩
noncomputable def wd5 {R:Type} (k:Nat) (X0:wt→Int→Bool→Int→Option R) (X1:wt→Option R) (c0:vu1) (rec:wt→Option R) (v0:wt):Option R:=if (decide (v0<(c0.2.length:Int)))=true then if 0≤v0 then if v0<(c0.2.length:Int) then ix c0.2 v0.toNat fun x8=>(xc2 k c0.1 x8).bind fun p9=>if (!p9)=true then if 0≤v0 then if v0<(c0.2.length:Int) then ix c0.2 v0.toNat fun x10=>X0 v0 x8 p9 x10 else none else none else rec (i64.wrap (v0+1)) else none else none else X1 v0
noncomputable def xw1 {R:Type} (k:Nat) (X0:wt→Int→Bool→Int→Option R) (X1:wt→Option R) (c:vu1):Nat→wt→Option R
 | 0,_=>none
 | n+1,v=>wd5 k X0 X1 c (xw1 k X0 X1 c n) v
def w04 (K:Ex→St→Option R) (c0:vu1) (v0:wt) (x8:Int) (p9:Bool) (x10:Int):Option R:=K .ret ⟨77,1,[(4,.c (.l 3 (.i .i64) c0.1)),(10,cI x10),(15,.c (.ref 0)),(16,cI v0),(60,cI v0),(61,.c (.ref 0)),(62,cI (c0.2.length:Int)),(63,cB (decide (v0<(c0.2.length:Int)))),(66,.c (.l 3 (.i .i64) c0.1)),(67,.c (.ref 0)),(68,cI v0),(69,.c (.el 0 1 v0.toNat 0)),(70,cI x8),(71,cB p9),(72,cB (!p9)),(73,.c (.ref 0)),(74,cI v0),(75,.c (.el 0 1 v0.toNat 0)),(76,cI x10)],[(0,.arr 3 (.i .i64) c0.2)]⟩
def z34 (K:Ex→St→Option R) (c0:vu1) (v0:wt):Option R:=K (.exit 0) ⟨77,1,[(4,.c (.l 3 (.i .i64) c0.1)),(15,.c (.ref 0)),(16,cI v0),(60,cI v0),(61,.c (.ref 0)),(62,cI (c0.2.length:Int)),(63,cB (decide (v0<(c0.2.length:Int))))],[(0,.arr 3 (.i .i64) c0.2)]⟩
theorem va7 (k:Nat) (K:Ex→St→Option R) (c0:vu1):∀(n:Nat) (v:wt),z2 [0,4,15,16] (run E (den E k) (lv 199) k (j1 Tryz.f199 0)) n (zg4 c0 v) K=xw1 k (w04 K c0) (z34 K c0) c0 n v:=j6 (B:=wd5 k (w04 K c0) (z34 K c0) c0) fun n v=>by kernel_rfl
theorem ze7 (k:Nat) (a0:j2) (a1:Int) (a2:Int) (a3:Int) (a4:List Int):wp3 (k+1) a0 a1 a2 a3 a4=(wr6 k a0 a1 a2 a3).bind fun p1=>(xc2 k a4 p1).bind fun p2=>if (!p2)=true then some p1 else (vy2 k a0 a3).bind fun p3=>(yd3 k a0 p3 a2).bind fun p4=>if ((decide (p1<0))==false)=true then if ((!p4.2)==false)=true then (y36 k a0 a3).bind fun p5=>if (!p5)=true then some (-1) else if 0≤p3 then ix a0.2.2.2 p3.toNat fun x6=>(zx4 k p4.1 x6.2.1 a0.2.1 a1).bind fun p7=>z2 (R:=Int) [0,4,15,16] (run E (den E k) (lv 199) k (j1 Tryz.f199 0)) k (zg4 (a4,p7) 0) (z8 E (den E k) (lv 199) k (yc Tryz.f199) 0 [] (xa E (rs 199) Tryz.f199:Ex→St→Option (Int))) else none else some (-1) else some (-1):=by kernel_rfl
theorem yd8 (k:Nat) (a0:j2) (a1:Int) (a2:Int) (a3:Int) (a4:List Int):wp3 (k+1) a0 a1 a2 a3 a4=(wr6 k a0 a1 a2 a3).bind fun p1=>(xc2 k a4 p1).bind fun p2=>if (!p2)=true then some p1 else (vy2 k a0 a3).bind fun p3=>(yd3 k a0 p3 a2).bind fun p4=>if ((decide (p1<0))==false)=true then if ((!p4.2)==false)=true then (y36 k a0 a3).bind fun p5=>if (!p5)=true then some (-1) else if 0≤p3 then ix a0.2.2.2 p3.toNat fun x6=>(zx4 k p4.1 x6.2.1 a0.2.1 a1).bind fun p7=>xw1 k (fun (v0:Int) (x8:Int) (p9:Bool) (x10:Int)=>some x10) (fun (v0:Int)=>some (-1)) (a4,p7) k 0 else none else some (-1) else some (-1):=by
 rw [ze7]
 simp only [va7]
 kernel_rfl
noncomputable def x35 (k:Nat) (a0:xm) (a1:Int) (a2:Int):Option (Int):=den E k 93 [.agg (avs xi a0),cI a1,cI a2]
theorem xoa (k:Nat) (a0:xm) (a1:Int) (a2:Int):x35 (k+1) a0 a1 a2=(xn k a1 0 (i64.wrap ((a0.2.2.2.1.length:Int)-1))).bind fun p1=>if ((!p1)==false)=true then (xn k a0.2.2.2.2.2.2.2.2.2.2.1 0 1000).bind fun p2=>if ((!p2)==false)=true then if 0≤a1 then ix a0.2.2.2.1 a1.toNat fun x3=>(xn k x3 (-5) 5).bind fun p4=>if (!p4)=true then some (-1) else if 0≤a1 then ix a0.2.2.2.1 a1.toNat fun x5=>(wl6 k a0 a1).bind fun p6=>(wp3 k a0.2.1 a1 a2 (i64.wrap (a0.2.2.2.2.2.2.2.2.2.2.1+x5)) p6).bind fun p7=>if ((decide (p7<0))==false)=true then (w66 k a0.2.1 a1 p7 (i64.wrap (a0.2.2.2.2.2.2.2.2.2.2.1+x5))).bind fun p8=>if (!p8)=true then some (-1) else some p7 else some (-1) else none else none else some (-1) else some (-1):=by kernel_rfl
noncomputable def vg3 (k:Nat) (a0:List I6):Option (List Int):=den E k 92 [.agg [.l 66 sI6 a0]]
abbrev yy2:=Int×(List I6)
abbrev xp1:=Int×(List Int)
def zs5 (c1:yy2) (v1:xp1):St:=⟨44,2,[(1,cP 0),(3,.c (.ref 1)),(4,cI c1.1),(5,cI v1.1)],[(0,.var [.l 66 sI6 c1.2]),(1,.arr 3 (.i .i64) v1.2)]⟩
noncomputable def zn6 {R:Type} (k:Nat) (X0:xp1→Option R) (c1:yy2) (rec:xp1→Option R) (v1:xp1):Option R:=if (decide (v1.1<(c1.2.length:Int)))=true then if 0≤v1.1 then ix c1.2 v1.1.toNat fun x1=>if (x1.2.2.2.2.2 !=1)=true then if (v1.2.length+([v1.1]).length)*8≤140737488355328 then rec ((i64.wrap (v1.1+1)),(v1.2++[v1.1])) else none else rec ((i64.wrap (v1.1+1)),v1.2) else none else X0 v1
noncomputable def j12 {R:Type} (k:Nat) (X0:xp1→Option R) (c:yy2):Nat→xp1→Option R
 | 0,_=>none
 | n+1,v=>zn6 k X0 c (j12 k X0 c n) v
def va5 (K:Ex→St→Option R) (c1:yy2) (v1:xp1):Option R:=K (.exit 2) ⟨44,2,[(1,cP 0),(3,.c (.ref 1)),(4,cI c1.1),(5,cI v1.1),(25,cI v1.1),(26,cP 0),(27,.c (.l 66 sI6 c1.2)),(28,cI (c1.2.length:Int)),(29,cB (decide (v1.1<(c1.2.length:Int))))],[(0,.var [.l 66 sI6 c1.2]),(1,.arr 3 (.i .i64) v1.2)]⟩
theorem jj8 (k:Nat) (K:Ex→St→Option R) (c1:yy2):∀(n:Nat) (v:xp1),z2 [0,1,3,4,5] (run E (den E k) (lv 92) k (j1 Tryz.f92 1)) n (zs5 c1 v) K=j12 k (va5 K c1) c1 n v:=j6 (B:=zn6 k (va5 K c1) c1) fun n v=>by kernel_rfl
abbrev y33:=(List I6)
abbrev xr1:=Int×(List Int)
def wp5 (c0:y33) (v0:xr1):St:=⟨44,2,[(1,cP 0),(3,.c (.ref 1)),(4,cI v0.1)],[(0,.var [.l 66 sI6 c0]),(1,.arr 3 (.i .i64) v0.2)]⟩
noncomputable def zo6 {R:Type} (k:Nat) (X0:xr1→Option R) (c0:y33) (rec:xr1→Option R) (v0:xr1):Option R:=if (decide (v0.1<(c0.length:Int)))=true then if 0≤v0.1 then ix c0 v0.1.toNat fun x1=>if (x1.2.2.2.2.2==1)=true then if (v0.2.length+([v0.1]).length)*8≤140737488355328 then rec ((i64.wrap (v0.1+1)),(v0.2++[v0.1])) else none else rec ((i64.wrap (v0.1+1)),v0.2) else none else X0 v0
noncomputable def v03 {R:Type} (k:Nat) (X0:xr1→Option R) (c:y33):Nat→xr1→Option R
 | 0,_=>none
 | n+1,v=>zo6 k X0 c (v03 k X0 c n) v
def x25 (K:Ex→St→Option R) (c0:y33) (v0:xr1):Option R:=K (.exit 0) ⟨44,2,[(1,cP 0),(3,.c (.ref 1)),(4,cI v0.1),(7,cI v0.1),(8,cP 0),(9,.c (.l 66 sI6 c0)),(10,cI (c0.length:Int)),(11,cB (decide (v0.1<(c0.length:Int))))],[(0,.var [.l 66 sI6 c0]),(1,.arr 3 (.i .i64) v0.2)]⟩
theorem vs8 (k:Nat) (K:Ex→St→Option R) (c0:y33):∀(n:Nat) (v:xr1),z2 [0,1,3,4] (run E (den E k) (lv 92) k (j1 Tryz.f92 0)) n (wp5 c0 v) K=v03 k (x25 K c0) c0 n v:=j6 (B:=zo6 k (x25 K c0) c0) fun n v=>by kernel_rfl
theorem yo8 (k:Nat) (a0:List I6):vg3 (k+1) a0=z2 (R:=List Int) [0,1,3,4] (run E (den E k) (lv 92) k (j1 Tryz.f92 0)) k (wp5 a0 (0,[])) (z8 E (den E k) (lv 92) k (yc Tryz.f92) 0 [] (xa E (rs 92) Tryz.f92:Ex→St→Option (List Int))):=by kernel_rfl
theorem xa8 (k:Nat) (a0:List I6):vg3 (k+1) a0=v03 k (fun (v0:Int×(List Int))=>z2 (R:=List Int) [0,1,3,4,5] (run E (den E k) (lv 92) k (j1 Tryz.f92 1)) k (zs5 (v0.1,a0) (0,v0.2)) (z8 E (den E k) (lv 92) k (yc Tryz.f92) 1 [] (xa E (rs 92) Tryz.f92:Ex→St→Option (List Int)))) a0 k (0,[]):=by 
 rw [yo8]
 simp only [vs8]
 kernel_rfl
theorem vq9 (k:Nat) (a0:List I6):vg3 (k+1) a0=v03 k (fun (v0:Int×(List Int))=>j12 k (fun (v1:Int×(List Int))=>some v1.2) (v0.1,a0) k (0,v0.2)) a0 k (0,[]):=by
 rw [xa8]
 simp only [jj8]
 kernel_rfl
noncomputable def v13 (k:Nat) (a0:xm) (a1:Int):Option (I6×Int×Bool):=den E k 15 [.agg (avs xi a0),cI a1]
abbrev yu1:=Int×xm×Int×Int×Int×Int×Int×Int×(List I6)×(List Int)
abbrev xt:=Int
def jf4 (c0:yu1) (v0:xt):St:=⟨55,4,[(1,cI c0.1),(2,cP 0),(4,cP 1),(7,cP 2),(8,.c (.ref 3)),(9,cI v0)],[(0,.var (avs xi c0.2.1)),(1,.var [vI c0.2.2.1,vI c0.2.2.2.1,vI c0.2.2.2.2.1,vI c0.2.2.2.2.2.1,vI c0.2.2.2.2.2.2.1,vI c0.2.2.2.2.2.2.2.1]),(2,.var [.l 66 sI6 c0.2.2.2.2.2.2.2.2.1]),(3,.arr 3 (.i .i64) c0.2.2.2.2.2.2.2.2.2)]⟩
noncomputable def v55 {R:Type} (k:Nat) (X0:xt→Int→I6→Int→Option R) (X1:xt→Option R) (c0:yu1) (rec:xt→Option R) (v0:xt):Option R:=if (decide (v0<(c0.2.2.2.2.2.2.2.2.2.length:Int)))=true then if 0≤v0 then if v0<(c0.2.2.2.2.2.2.2.2.2.length:Int) then ix c0.2.2.2.2.2.2.2.2.2 v0.toNat fun x4=>if 0≤x4 then ix c0.2.2.2.2.2.2.2.2.1 x4.toNat fun x5=>(x35 k c0.2.1 c0.1 x5.2.2.2.2.1).bind fun p6=>if (decide (p6≥0))=true then X0 v0 x4 x5 p6 else rec (i64.wrap (v0+1)) else none else none else none else X1 v0
noncomputable def zb2 {R:Type} (k:Nat) (X0:xt→Int→I6→Int→Option R) (X1:xt→Option R) (c:yu1):Nat→xt→Option R
 | 0,_=>none
 | n+1,v=>v55 k X0 X1 c (zb2 k X0 X1 c n) v
def y64 (K:Ex→St→Option R) (c0:yu1) (v0:xt) (x4:Int) (x5:I6) (p6:Int):Option R:=K .ret ⟨55,5,[(1,cI c0.1),(2,cP 0),(4,cP 1),(5,cI p6),(6,cB true),(7,cP 2),(8,.c (.ref 3)),(9,cI v0),(10,cP 4),(11,cI p6),(31,cI v0),(32,.c (.ref 3)),(33,cI (c0.2.2.2.2.2.2.2.2.2.length:Int)),(34,cB (decide (v0<(c0.2.2.2.2.2.2.2.2.2.length:Int)))),(37,cP 2),(38,.c (.l 66 sI6 c0.2.2.2.2.2.2.2.2.1)),(39,.c (.ref 3)),(40,cI v0),(41,.c (.el 3 1 v0.toNat 0)),(42,cI x4),(43,.c (.at_ (avs sI6 x5))),(44,.agg (avs sI6 x5)),(45,.agg (avs xi c0.2.1)),(46,cI c0.1),(47,.c (.ptr 4 4)),(48,cI x5.2.2.2.2.1),(49,cI p6),(50,cI p6),(51,cB (decide (p6≥0))),(52,.agg (avs sI6 x5)),(53,cI p6)],[(0,.var (avs xi c0.2.1)),(1,.var (avs sI6 x5)),(2,.var [.l 66 sI6 c0.2.2.2.2.2.2.2.2.1]),(3,.arr 3 (.i .i64) c0.2.2.2.2.2.2.2.2.2),(4,.var (avs sI6 x5))]⟩
def w74 (K:Ex→St→Option R) (c0:yu1) (v0:xt):Option R:=K (.exit 0) ⟨55,4,[(1,cI c0.1),(2,cP 0),(4,cP 1),(7,cP 2),(8,.c (.ref 3)),(9,cI v0),(31,cI v0),(32,.c (.ref 3)),(33,cI (c0.2.2.2.2.2.2.2.2.2.length:Int)),(34,cB (decide (v0<(c0.2.2.2.2.2.2.2.2.2.length:Int))))],[(0,.var (avs xi c0.2.1)),(1,.var [vI c0.2.2.1,vI c0.2.2.2.1,vI c0.2.2.2.2.1,vI c0.2.2.2.2.2.1,vI c0.2.2.2.2.2.2.1,vI c0.2.2.2.2.2.2.2.1]),(2,.var [.l 66 sI6 c0.2.2.2.2.2.2.2.2.1]),(3,.arr 3 (.i .i64) c0.2.2.2.2.2.2.2.2.2)]⟩
theorem y77 (k:Nat) (K:Ex→St→Option R) (c0:yu1):∀(n:Nat) (v:xt),z2 [0,1,2,4,7,8,9] (run E (den E k) (lv 15) k (j1 Tryz.f15 0)) n (jf4 c0 v) K=zb2 k (y64 K c0) (w74 K c0) c0 n v:=j6 (B:=v55 k (y64 K c0) (w74 K c0) c0) fun n v=>by kernel_rfl
theorem xf7 (k:Nat) (a0:xm) (a1:Int):v13 (k+1) a0 a1=(xb5 k a0 a1).bind fun p1=>if ((!p1)==false)=true then if (decide (a1≥(a0.2.2.2.2.2.1.length:Int)))=true then some ((0,0,0,0,0,0),-1,false) else if 0≤a1 then ix a0.2.2.2.2.2.1 a1.toNat fun x2=>(vg3 k x2).bind fun p3=>z2 (R:=I6×Int×Bool) [0,1,2,4,7,8,9] (run E (den E k) (lv 15) k (j1 Tryz.f15 0)) k (jf4 (a1,a0,0,0,0,0,0,0,x2,p3) 0) (z8 E (den E k) (lv 15) k (yc Tryz.f15) 0 [] (xa E (rs 15) Tryz.f15:Ex→St→Option (I6×Int×Bool))) else none else some ((0,0,0,0,0,0),-1,false):=by kernel_rfl
theorem j98 (k:Nat) (a0:xm) (a1:Int):v13 (k+1) a0 a1=(xb5 k a0 a1).bind fun p1=>if ((!p1)==false)=true then if (decide (a1≥(a0.2.2.2.2.2.1.length:Int)))=true then some ((0,0,0,0,0,0),-1,false) else if 0≤a1 then ix a0.2.2.2.2.2.1 a1.toNat fun x2=>(vg3 k x2).bind fun p3=>zb2 k (fun (v0:Int) (x4:Int) (x5:I6) (p6:Int)=>some (x5,p6,true)) (fun (v0:Int)=>some ((0,0,0,0,0,0),-1,false)) (a1,a0,0,0,0,0,0,0,x2,p3) k 0 else none else some ((0,0,0,0,0,0),-1,false):=by
 rw [xf7]
 simp only [y77]
 kernel_rfl
noncomputable def z45 (k:Nat) (a0:xm):Option (List I4):=den E k 18 [.agg (avs xi a0)]
abbrev wy2:=xm
abbrev zr1:=Int×(List I4)
def ym5 (c0:wy2) (v0:zr1):St:=⟨36,2,[(1,cP 0),(3,.c (.ref 1)),(4,cI v0.1)],[(0,.var (avs xi c0)),(1,.arr 146 sI4 v0.2)]⟩
noncomputable def yj6 {R:Type} (k:Nat) (X0:zr1→Int→Option R) (c0:wy2) (rec:zr1→Option R) (v0:zr1):Option R:=(j77 k c0.2.1.1 12).bind fun p1=>if (decide (v0.1<p1))=true then (v13 k c0 v0.1).bind fun p2=>if p2.2.2=true then if (v0.2.length+([(c0.2.2.2.2.2.2.2.2.2.2.1,v0.1,p2.2.1,p2.1.1)]).length)*32≤140737488355328 then rec ((i64.wrap (v0.1+1)),(v0.2++[(c0.2.2.2.2.2.2.2.2.2.2.1,v0.1,p2.2.1,p2.1.1)])) else none else rec ((i64.wrap (v0.1+1)),v0.2) else X0 v0 p1
noncomputable def wl3 {R:Type} (k:Nat) (X0:zr1→Int→Option R) (c:wy2):Nat→zr1→Option R
 | 0,_=>none
 | n+1,v=>yj6 k X0 c (wl3 k X0 c n) v
def x55 (K:Ex→St→Option R) (c0:wy2) (v0:zr1) (p1:Int):Option R:=K (.exit 0) ⟨36,2,[(1,cP 0),(3,.c (.ref 1)),(4,cI v0.1),(9,cI v0.1),(10,.c (.ptr 0 10)),(11,.c (.ptr 0 10)),(12,cI c0.2.1.1),(13,cI p1),(14,cB (decide (v0.1<p1)))],[(0,.var (avs xi c0)),(1,.arr 146 sI4 v0.2)]⟩
theorem vo8 (k:Nat) (K:Ex→St→Option R) (c0:wy2):∀(n:Nat) (v:zr1),z2 [0,1,3,4] (run E (den E k) (lv 18) k (j1 Tryz.f18 0)) n (ym5 c0 v) K=wl3 k (x55 K c0) c0 n v:=j6 (B:=yj6 k (x55 K c0) c0) fun n v=>by kernel_rfl
theorem yb8 (k:Nat) (a0:xm):z45 (k+1) a0=z2 (R:=List I4) [0,1,3,4] (run E (den E k) (lv 18) k (j1 Tryz.f18 0)) k (ym5 a0 (0,[])) (z8 E (den E k) (lv 18) k (yc Tryz.f18) 0 [] (xa E (rs 18) Tryz.f18:Ex→St→Option (List I4))):=by kernel_rfl
theorem xs9 (k:Nat) (a0:xm):z45 (k+1) a0=wl3 k (fun (v0:Int×(List I4)) (p1:Int)=>some v0.2) a0 k (0,[]):=by
 rw [yb8]
 simp only [vo8]
 kernel_rfl
noncomputable def jp2 (k:Nat) (a0:xm):Option (Bool):=den E k 5 [.agg (avs jw a0)]
theorem xz5 (k:Nat) (a0:xm):jp2 (k+1) a0=(xg6 k a0 1048576).bind fun p1=>if (decide (p1<0))=true then some true else (wd3 k a0).bind fun p2=>(z45 k p2).bind fun p3=>(wd3 k a0).bind fun p4=>(vw3 k p4).bind fun p5=>(yl2 k p5 p3).bind fun p6=>if (!p6)=true then some false else (wd3 k a0).bind fun p7=>(wh6 k p4 p7).bind fun p8=>if (!p8)=true then some false else (wr4 k p4 1).bind fun p9=>if ((decide (p9.1<0))==false)=true then (yl2 k p5 p3).bind fun p10=>if (!p10)=true then some false else (y03 k p5 1).bind fun p11=>(zz2 k p11.2 1).bind fun p12=>if (decide (p12<0))=true then some false else if (p12 !=p11.1)=true then some false else (wd3 k a0).bind fun p13=>(vw3 k p13).bind fun p14=>(yl2 k p14 p3).bind fun p15=>if (!p15)=true then some false else (zz2 k p11.2 1).bind fun p16=>if (decide (p16<0))=true then some false else if (p16 !=p11.1)=true then some false else some true else some false:=by kernel_rfl
end Go.Proofs.YtkgjmgaccfmhpaaGreat.World
