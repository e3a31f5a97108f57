/- Plain lemmas: sizes, copies and comparisons of the law's data. No condition. -/
import Derived.Test.YtkgjmgaccfmhpaaGreatWc
namespace Go.Proofs.YtkgjmgaccfmhpaaGreat.World
open Go Go.V Go.Proofs
open Go.IntKind (i64 u64)
set_option linter.unusedVariables false
set_option linter.unusedSimpArgs false
set_option maxRecDepth 100000
theorem kp {k:Nat} (h:0<k):∃q,k=q+1:=⟨k-1,by omega⟩
theorem v2b (k:Nat) (x:I4) (hz:szT sI4 x≤140737488351232) (hk:szT sI4 x+1<k):w46 k x x=some true:=by
 obtain ⟨k,rfl⟩:=kp (by omega:0<k)
 have hk':(szT (.i .i64) x.1+(szT (.i .i64) x.2.1+(szT (.i .i64) x.2.2.1+szT (.i .i64) x.2.2.2)))+1<k+1:=hk;have hz':(szT (.i .i64) x.1+(szT (.i .i64) x.2.1+(szT (.i .i64) x.2.2.1+szT (.i .i64) x.2.2.2)))≤140737488351232:=hz;refine (wxa k x x).trans ?_
 simp only [Option.bind_some,bne_self_eq_false,beq_self_eq_true,Bool.not_true,Bool.false_eq_true,if_false]
theorem vz7 (k:Nat) (x:List I4) (hz:szT (.l 146 sI4) x≤140737488351232) (hk:szT (.l 146 sI4) x+2<k):yl2 k x x=some true:=by
 obtain ⟨k,rfl⟩:=kp (by omega:0<k)
 have hk':x.length+vn (szT sI4) x+2<k+1:=hk;have hz':x.length+vn (szT sI4) x≤140737488351232:=hz;refine (xu9 k x x).trans ?_
 rw [if_neg (by simp)]
 exact vc1 (α:=Int×Int×Int×Int) (L:=yo3 k _ _ (x,x)) (f:=fun y z=>w46 k y z) (fun _ _=>rfl) (a:=x) (fun y hy=>v2b k y (by have:=xc (f:=szT sI4) hy;omega) (by have:=xc (f:=szT sI4) hy;omega)) (by omega) x.length k 0 (by omega) (by omega)
theorem vd8 (k:Nat) (x:I6) (hz:szT sI6 x≤140737488351232) (hk:szT sI6 x+1<k):jp3 k x x=some true:=by
 obtain ⟨k,rfl⟩:=kp (by omega:0<k)
 have hk':(szT (.i .i64) x.1+(szT (.i .i64) x.2.1+(szT (.i .i64) x.2.2.1+(szT (.i .i64) x.2.2.2.1+(szT (.i .i64) x.2.2.2.2.1+szT (.i .i64) x.2.2.2.2.2)))))+1<k+1:=hk;have hz':(szT (.i .i64) x.1+(szT (.i .i64) x.2.1+(szT (.i .i64) x.2.2.1+(szT (.i .i64) x.2.2.2.1+(szT (.i .i64) x.2.2.2.2.1+szT (.i .i64) x.2.2.2.2.2)))))≤140737488351232:=hz;refine (yg8 k x x).trans ?_
 simp only [Option.bind_some,bne_self_eq_false,beq_self_eq_true,Bool.not_true,Bool.false_eq_true,if_false]
theorem xp7 (k:Nat) (x:List I6) (hz:szT (.l 159 sI6) x≤140737488351232) (hk:szT (.l 159 sI6) x+2<k):vl2 k x x=some true:=by
 obtain ⟨k,rfl⟩:=kp (by omega:0<k)
 have hk':x.length+vn (szT sI6) x+2<k+1:=hk;have hz':x.length+vn (szT sI6) x≤140737488351232:=hz;refine (vo7 k x x).trans ?_
 rw [if_neg (by simp)]
 exact vc1 (α:=Int×Int×Int×Int×Int×Int) (L:=vk2 k _ _ (x,x)) (f:=fun y z=>jp3 k y z) (fun _ _=>rfl) (a:=x) (fun y hy=>vd8 k y (by have:=xc (f:=szT sI6) hy;omega) (by have:=xc (f:=szT sI6) hy;omega)) (by omega) x.length k 0 (by omega) (by omega)
theorem xea (k:Nat) (x:I4) (hz:szT sI4 x≤140737488351232) (hk:szT sI4 x+1<k):v85 k x x=some true:=by
 obtain ⟨k,rfl⟩:=kp (by omega:0<k)
 have hk':(szT (.i .i64) x.1+(szT (.i .i64) x.2.1+(szT (.i .i64) x.2.2.1+szT (.i .i64) x.2.2.2)))+1<k+1:=hk;have hz':(szT (.i .i64) x.1+(szT (.i .i64) x.2.1+(szT (.i .i64) x.2.2.1+szT (.i .i64) x.2.2.2)))≤140737488351232:=hz;refine (zea k x x).trans ?_
 simp only [Option.bind_some,bne_self_eq_false,beq_self_eq_true,Bool.not_true,Bool.false_eq_true,if_false]
theorem v59 (k:Nat) (x:List I4) (hz:szT (.l 86 sI4) x≤140737488351232) (hk:szT (.l 86 sI4) x+2<k):zg3 k x x=some true:=by
 obtain ⟨k,rfl⟩:=kp (by omega:0<k)
 have hk':x.length+vn (szT sI4) x+2<k+1:=hk;have hz':x.length+vn (szT sI4) x≤140737488351232:=hz;refine (x99 k x x).trans ?_
 rw [if_neg (by simp)]
 exact vc1 (α:=Int×Int×Int×Int) (L:=w93 k _ _ (x,x)) (f:=fun y z=>v85 k y z) (fun _ _=>rfl) (a:=x) (fun y hy=>xea k y (by have:=xc (f:=szT sI4) hy;omega) (by have:=xc (f:=szT sI4) hy;omega)) (by omega) x.length k 0 (by omega) (by omega)
theorem zua (k:Nat) (x:I4) (hz:szT sI4 x≤140737488351232) (hk:szT sI4 x+1<k):j36 k x x=some true:=by
 obtain ⟨k,rfl⟩:=kp (by omega:0<k)
 have hk':(szT (.i .i64) x.1+(szT (.i .i64) x.2.1+(szT (.i .i64) x.2.2.1+szT (.i .i64) x.2.2.2)))+1<k+1:=hk;have hz':(szT (.i .i64) x.1+(szT (.i .i64) x.2.1+(szT (.i .i64) x.2.2.1+szT (.i .i64) x.2.2.2)))≤140737488351232:=hz;refine (xva k x x).trans ?_
 simp only [Option.bind_some,bne_self_eq_false,beq_self_eq_true,Bool.not_true,Bool.false_eq_true,if_false]
theorem yia (k:Nat) (x:List I4) (hz:szT (.l 85 sI4) x≤140737488351232) (hk:szT (.l 85 sI4) x+2<k):y74 k x x=some true:=by
 obtain ⟨k,rfl⟩:=kp (by omega:0<k)
 have hk':x.length+vn (szT sI4) x+2<k+1:=hk;have hz':x.length+vn (szT sI4) x≤140737488351232:=hz;refine (waa k x x).trans ?_
 rw [if_neg (by simp)]
 exact vc1 (α:=Int×Int×Int×Int) (L:=xm3 k _ _ (x,x)) (f:=fun y z=>j36 k y z) (fun _ _=>rfl) (a:=x) (fun y hy=>zua k y (by have:=xc (f:=szT sI4) hy;omega) (by have:=xc (f:=szT sI4) hy;omega)) (by omega) x.length k 0 (by omega) (by omega)
theorem x94 (k:Nat) (x:List Int) (hz:szT (.l 3 (.i .i64)) x≤140737488351232) (hk:szT (.l 3 (.i .i64)) x+1<k):yl1 k x x=some true:=by
 obtain ⟨k,rfl⟩:=kp (by omega:0<k)
 have hk':x.length+vn (szT (.i .i64)) x+1<k+1:=hk;have hz':x.length+vn (szT (.i .i64)) x≤140737488351232:=hz;refine (zya k x x).trans ?_
 rw [if_neg (by simp)]
 exact w58 (α:=Int) (L:=xa4 k _ _ (x,x)) (fun _ _=>rfl) (a:=x) (by omega) x.length k 0 (by omega) (by omega)
theorem xbb (k:Nat) (x:List Int) (hz:szT xw2 x≤140737488351232) (hk:szT xw2 x+2<k):wb7 k x x=some true:=by
 obtain ⟨k,rfl⟩:=kp (by omega:0<k)
 have hk':szT (.l 3 (.i .i64)) x+2<k+1:=hk;have hz':szT (.l 3 (.i .i64)) x≤140737488351232:=hz;have g0:yl1 k x x=some true:=x94 k x (by omega) (by omega)
 refine (ygb k x x).trans ?_
 simp only [g0,Option.bind_some,bne_self_eq_false,beq_self_eq_true,Bool.not_true,Bool.false_eq_true,if_false]
theorem ve9 (k:Nat) (x:I6) (hz:szT sI6 x≤140737488351232) (hk:szT sI6 x+1<k):yb4 k x x=some true:=by
 obtain ⟨k,rfl⟩:=kp (by omega:0<k)
 have hk':(szT (.i .i64) x.1+(szT (.i .i64) x.2.1+(szT (.i .i64) x.2.2.1+(szT (.i .i64) x.2.2.2.1+(szT (.i .i64) x.2.2.2.2.1+szT (.i .i64) x.2.2.2.2.2)))))+1<k+1:=hk;have hz':(szT (.i .i64) x.1+(szT (.i .i64) x.2.1+(szT (.i .i64) x.2.2.1+(szT (.i .i64) x.2.2.2.1+(szT (.i .i64) x.2.2.2.2.1+szT (.i .i64) x.2.2.2.2.2)))))≤140737488351232:=hz;refine (yf9 k x x).trans ?_
 simp only [Option.bind_some,bne_self_eq_false,beq_self_eq_true,Bool.not_true,Bool.false_eq_true,if_false]
theorem zq6 (k:Nat) (x:List I6) (hz:szT (.l 66 sI6) x≤140737488351232) (hk:szT (.l 66 sI6) x+2<k):j22 k x x=some true:=by
 obtain ⟨k,rfl⟩:=kp (by omega:0<k)
 have hk':x.length+vn (szT sI6) x+2<k+1:=hk;have hz':x.length+vn (szT sI6) x≤140737488351232:=hz;refine (wa8 k x x).trans ?_
 rw [if_neg (by simp)]
 exact vc1 (α:=Int×Int×Int×Int×Int×Int) (L:=xr2 k _ _ (x,x)) (f:=fun y z=>yb4 k y z) (fun _ _=>rfl) (a:=x) (fun y hy=>ve9 k y (by have:=xc (f:=szT sI6) hy;omega) (by have:=xc (f:=szT sI6) hy;omega)) (by omega) x.length k 0 (by omega) (by omega)
theorem jwa (k:Nat) (x:I2) (hz:szT sI2 x≤140737488351232) (hk:szT sI2 x+1<k):j46 k x x=some true:=by
 obtain ⟨k,rfl⟩:=kp (by omega:0<k)
 have hk':(szT (.i .i64) x.1+szT (.i .i64) x.2)+1<k+1:=hk;have hz':(szT (.i .i64) x.1+szT (.i .i64) x.2)≤140737488351232:=hz;refine (zxa k x x).trans ?_
 simp only [Option.bind_some,bne_self_eq_false,beq_self_eq_true,Bool.not_true,Bool.false_eq_true,if_false]
theorem jp9 (k:Nat) (x:List I2) (hz:szT (.l 348 sI2) x≤140737488351232) (hk:szT (.l 348 sI2) x+2<k):z84 k x x=some true:=by
 obtain ⟨k,rfl⟩:=kp (by omega:0<k)
 have hk':x.length+vn (szT sI2) x+2<k+1:=hk;have hz':x.length+vn (szT sI2) x≤140737488351232:=hz;refine (xda k x x).trans ?_
 rw [if_neg (by simp)]
 exact vc1 (α:=Int×Int) (L:=jn3 k _ _ (x,x)) (f:=fun y z=>j46 k y z) (fun _ _=>rfl) (a:=x) (fun y hy=>jwa k y (by have:=xc (f:=szT sI2) hy;omega) (by have:=xc (f:=szT sI2) hy;omega)) (by omega) x.length k 0 (by omega) (by omega)
theorem yxa (k:Nat) (x:I2) (hz:szT sI2 x≤140737488351232) (hk:szT sI2 x+1<k):y66 k x x=some true:=by
 obtain ⟨k,rfl⟩:=kp (by omega:0<k)
 have hk':(szT (.i .i64) x.1+szT (.i .i64) x.2)+1<k+1:=hk;have hz':(szT (.i .i64) x.1+szT (.i .i64) x.2)≤140737488351232:=hz;refine (wsa k x x).trans ?_
 simp only [Option.bind_some,bne_self_eq_false,beq_self_eq_true,Bool.not_true,Bool.false_eq_true,if_false]
theorem yz9 (k:Nat) (x:Int×(List Int)×List Int) (hz:szT z7 x≤140737488351232) (hk:szT z7 x+2<k):w85 k x x=some true:=by
 obtain ⟨k,rfl⟩:=kp (by omega:0<k)
 have hk':(szT (.i .i64) x.1+(szT (.l 3 (.i .i64)) x.2.1+szT (.l 3 (.i .i64)) x.2.2))+2<k+1:=hk;have hz':(szT (.i .i64) x.1+(szT (.l 3 (.i .i64)) x.2.1+szT (.l 3 (.i .i64)) x.2.2))≤140737488351232:=hz;have g0:yl1 k x.2.1 x.2.1=some true:=x94 k x.2.1 (by omega) (by omega)
 have g1:yl1 k x.2.2 x.2.2=some true:=x94 k x.2.2 (by omega) (by omega)
 refine (vx9 k x x).trans ?_
 simp only [g0,g1,Option.bind_some,bne_self_eq_false,beq_self_eq_true,Bool.not_true,Bool.false_eq_true,if_false]
theorem vb9 (k:Nat) (x:List (Int×(List Int)×List Int)) (hz:szT (.l 220 z7) x≤140737488351232) (hk:szT (.l 220 z7) x+3<k):ve3 k x x=some true:=by
 obtain ⟨k,rfl⟩:=kp (by omega:0<k)
 have hk':x.length+vn (szT z7) x+3<k+1:=hk;have hz':x.length+vn (szT z7) x≤140737488351232:=hz;refine (xl9 k x x).trans ?_
 rw [if_neg (by simp)]
 exact vc1 (α:=Int×(List Int)×List Int) (L:=z83 k _ _ (x,x)) (f:=fun y z=>w85 k y z) (fun _ _=>rfl) (a:=x) (fun y hy=>yz9 k y (by have:=xc (f:=szT z7) hy;omega) (by have:=xc (f:=szT z7) hy;omega)) (by omega) x.length k 0 (by omega) (by omega)
theorem yp9 (k:Nat) (x:I2×(List I2)×List (Int×(List Int)×List Int)) (hz:szT we x≤140737488351232) (hk:szT we x+4<k):xc5 k x x=some true:=by
 obtain ⟨k,rfl⟩:=kp (by omega:0<k)
 have hk':(szT sI2 x.1+(szT (.l 348 sI2) x.2.1+szT (.l 220 z7) x.2.2))+4<k+1:=hk;have hz':(szT sI2 x.1+(szT (.l 348 sI2) x.2.1+szT (.l 220 z7) x.2.2))≤140737488351232:=hz;have g0:y66 k x.1 x.1=some true:=yxa k x.1 (by omega) (by omega)
 have g1:z84 k x.2.1 x.2.1=some true:=jp9 k x.2.1 (by omega) (by omega)
 have g2:ve3 k x.2.2 x.2.2=some true:=vb9 k x.2.2 (by omega) (by omega)
 refine (w5a k x x).trans ?_
 simp only [g0,g1,g2,Option.bind_some,bne_self_eq_false,beq_self_eq_true,Bool.not_true,Bool.false_eq_true,if_false]
theorem w49 (k:Nat) (x:List (I2×(List I2)×List (Int×(List Int)×List Int))) (hz:szT (.l 198 we) x≤140737488351232) (hk:szT (.l 198 we) x+5<k):wh3 k x x=some true:=by
 obtain ⟨k,rfl⟩:=kp (by omega:0<k)
 have hk':x.length+vn (szT we) x+5<k+1:=hk;have hz':x.length+vn (szT we) x≤140737488351232:=hz;refine (wa9 k x x).trans ?_
 rw [if_neg (by simp)]
 exact vc1 (α:=I2×(List I2)×List (Int×(List Int)×List Int)) (L:=j83 k _ _ (x,x)) (f:=fun y z=>xc5 k y z) (fun _ _=>rfl) (a:=x) (fun y hy=>yp9 k y (by have:=xc (f:=szT we) hy;omega) (by have:=xc (f:=szT we) hy;omega)) (by omega) x.length k 0 (by omega) (by omega)
theorem ws8 (k:Nat) (x:Int×Int×Int×List (I2×(List I2)×List (Int×(List Int)×List Int))) (hz:szT j4 x≤140737488351232) (hk:szT j4 x+6<k):vo3 k x x=some true:=by
 obtain ⟨k,rfl⟩:=kp (by omega:0<k)
 have hk':(szT (.i .i64) x.1+(szT (.i .i64) x.2.1+(szT (.i .i64) x.2.2.1+szT (.l 198 we) x.2.2.2)))+6<k+1:=hk;have hz':(szT (.i .i64) x.1+(szT (.i .i64) x.2.1+(szT (.i .i64) x.2.2.1+szT (.l 198 we) x.2.2.2)))≤140737488351232:=hz;have g0:wh3 k x.2.2.2 x.2.2.2=some true:=w49 k x.2.2.2 (by omega) (by omega)
 refine (ji8 k x x).trans ?_
 simp only [g0,Option.bind_some,bne_self_eq_false,beq_self_eq_true,Bool.not_true,Bool.false_eq_true,if_false]
theorem zy9 (k:Nat) (x:List I6) (hz:szT vg x≤140737488351232) (hk:szT vg x+3<k):w75 k x x=some true:=by
 obtain ⟨k,rfl⟩:=kp (by omega:0<k)
 have hk':szT (.l 66 sI6) x+3<k+1:=hk;have hz':szT (.l 66 sI6) x≤140737488351232:=hz;have g0:j22 k x x=some true:=zq6 k x (by omega) (by omega)
 refine (jq9 k x x).trans ?_
 simp only [g0,Option.bind_some,bne_self_eq_false,beq_self_eq_true,Bool.not_true,Bool.false_eq_true,if_false]
theorem xh9 (k:Nat) (x:List (List I6)) (hz:szT (.l 140 vg) x≤140737488351232) (hk:szT (.l 140 vg) x+4<k):yi3 k x x=some true:=by
 obtain ⟨k,rfl⟩:=kp (by omega:0<k)
 have hk':x.length+vn (szT vg) x+4<k+1:=hk;have hz':x.length+vn (szT vg) x≤140737488351232:=hz;refine (ji9 k x x).trans ?_
 rw [if_neg (by simp)]
 exact vc1 (α:=List I6) (L:=w83 k _ _ (x,x)) (f:=fun y z=>w75 k y z) (fun _ _=>rfl) (a:=x) (fun y hy=>zy9 k y (by have:=xc (f:=szT vg) hy;omega) (by have:=xc (f:=szT vg) hy;omega)) (by omega) x.length k 0 (by omega) (by omega)
theorem vgb (k:Nat) (x:I4) (hz:szT sI4 x≤140737488351232) (hk:szT sI4 x+1<k):ye7 k x x=some true:=by
 obtain ⟨k,rfl⟩:=kp (by omega:0<k)
 have hk':(szT (.i .i64) x.1+(szT (.i .i64) x.2.1+(szT (.i .i64) x.2.2.1+szT (.i .i64) x.2.2.2)))+1<k+1:=hk;have hz':(szT (.i .i64) x.1+(szT (.i .i64) x.2.1+(szT (.i .i64) x.2.2.1+szT (.i .i64) x.2.2.2)))≤140737488351232:=hz;refine (jcb k x x).trans ?_
 simp only [Option.bind_some,bne_self_eq_false,beq_self_eq_true,Bool.not_true,Bool.false_eq_true,if_false]
theorem wka (k:Nat) (x:List I4) (hz:szT (.l 186 sI4) x≤140737488351232) (hk:szT (.l 186 sI4) x+2<k):xu4 k x x=some true:=by
 obtain ⟨k,rfl⟩:=kp (by omega:0<k)
 have hk':x.length+vn (szT sI4) x+2<k+1:=hk;have hz':x.length+vn (szT sI4) x≤140737488351232:=hz;refine (j1b k x x).trans ?_
 rw [if_neg (by simp)]
 exact vc1 (α:=Int×Int×Int×Int) (L:=vb4 k _ _ (x,x)) (f:=fun y z=>ye7 k y z) (fun _ _=>rfl) (a:=x) (fun y hy=>vgb k y (by have:=xc (f:=szT sI4) hy;omega) (by have:=xc (f:=szT sI4) hy;omega)) (by omega) x.length k 0 (by omega) (by omega)
theorem wla (k:Nat) (x:I3) (hz:szT sI3 x≤140737488351232) (hk:szT sI3 x+1<k):j06 k x x=some true:=by
 obtain ⟨k,rfl⟩:=kp (by omega:0<k)
 have hk':(szT (.i .i64) x.1+(szT (.i .i64) x.2.1+szT (.i .i64) x.2.2))+1<k+1:=hk;have hz':(szT (.i .i64) x.1+(szT (.i .i64) x.2.1+szT (.i .i64) x.2.2))≤140737488351232:=hz;refine (xya k x x).trans ?_
 simp only [Option.bind_some,bne_self_eq_false,beq_self_eq_true,Bool.not_true,Bool.false_eq_true,if_false]
theorem y7a (k:Nat) (x:List I3) (hz:szT (.l 188 sI3) x≤140737488351232) (hk:szT (.l 188 sI3) x+2<k):x64 k x x=some true:=by
 obtain ⟨k,rfl⟩:=kp (by omega:0<k)
 have hk':x.length+vn (szT sI3) x+2<k+1:=hk;have hz':x.length+vn (szT sI3) x≤140737488351232:=hz;refine (jn9 k x x).trans ?_
 rw [if_neg (by simp)]
 exact vc1 (α:=Int×Int×Int) (L:=yn3 k _ _ (x,x)) (f:=fun y z=>j06 k y z) (fun _ _=>rfl) (a:=x) (fun y hy=>wla k y (by have:=xc (f:=szT sI3) hy;omega) (by have:=xc (f:=szT sI3) hy;omega)) (by omega) x.length k 0 (by omega) (by omega)
theorem vib (k:Nat) (x:I2) (hz:szT sI2 x≤140737488351232) (hk:szT sI2 x+1<k):xh7 k x x=some true:=by
 obtain ⟨k,rfl⟩:=kp (by omega:0<k)
 have hk':(szT (.i .i64) x.1+szT (.i .i64) x.2)+1<k+1:=hk;have hz':(szT (.i .i64) x.1+szT (.i .i64) x.2)≤140737488351232:=hz;refine (jfb k x x).trans ?_
 simp only [Option.bind_some,bne_self_eq_false,beq_self_eq_true,Bool.not_true,Bool.false_eq_true,if_false]
theorem xxa (k:Nat) (x:I3) (hz:szT yk x≤140737488351232) (hk:szT yk x+2<k):j16 k x x=some true:=by
 obtain ⟨k,rfl⟩:=kp (by omega:0<k)
 have hk':(szT (.i .i64) x.1+szT sI2 x.2)+2<k+1:=hk;have hz':(szT (.i .i64) x.1+szT sI2 x.2)≤140737488351232:=hz;have g0:xh7 k x.2 x.2=some true:=vib k x.2 (by omega) (by omega)
 refine (jka k x x).trans ?_
 simp only [g0,Option.bind_some,bne_self_eq_false,beq_self_eq_true,Bool.not_true,Bool.false_eq_true,if_false]
theorem v5a (k:Nat) (x:List I3) (hz:szT (.l 193 yk) x≤140737488351232) (hk:szT (.l 193 yk) x+3<k):vv3 k x x=some true:=by
 obtain ⟨k,rfl⟩:=kp (by omega:0<k)
 have hk':x.length+vn (szT yk) x+3<k+1:=hk;have hz':x.length+vn (szT yk) x≤140737488351232:=hz;refine (xaa k x x).trans ?_
 rw [if_neg (by simp)]
 exact vc1 (α:=Int×Int×Int) (L:=yk3 k _ _ (x,x)) (f:=fun y z=>j16 k y z) (fun _ _=>rfl) (a:=x) (fun y hy=>xxa k y (by have:=xc (f:=szT yk) hy;omega) (by have:=xc (f:=szT yk) hy;omega)) (by omega) x.length k 0 (by omega) (by omega)
theorem zab (k:Nat) (x:Int×(List I4)×(List I3)×Int×Int×Int×Int×Int×(List I3)×Int) (hz:szT xd2 x≤140737488351232) (hk:szT xd2 x+4<k):zd7 k x x=some true:=by
 obtain ⟨k,rfl⟩:=kp (by omega:0<k)
 have hk':(szT (.i .i64) x.1+(szT (.l 186 sI4) x.2.1+(szT (.l 188 sI3) x.2.2.1+(szT (.i .i64) x.2.2.2.1+(szT (.i .i64) x.2.2.2.2.1+(szT (.i .i64) x.2.2.2.2.2.1+(szT (.i .i64) x.2.2.2.2.2.2.1+(szT (.i .i64) x.2.2.2.2.2.2.2.1+(szT (.l 193 yk) x.2.2.2.2.2.2.2.2.1+szT (.i .i64) x.2.2.2.2.2.2.2.2.2)))))))))+4<k+1:=hk;have hz':(szT (.i .i64) x.1+(szT (.l 186 sI4) x.2.1+(szT (.l 188 sI3) x.2.2.1+(szT (.i .i64) x.2.2.2.1+(szT (.i .i64) x.2.2.2.2.1+(szT (.i .i64) x.2.2.2.2.2.1+(szT (.i .i64) x.2.2.2.2.2.2.1+(szT (.i .i64) x.2.2.2.2.2.2.2.1+(szT (.l 193 yk) x.2.2.2.2.2.2.2.2.1+szT (.i .i64) x.2.2.2.2.2.2.2.2.2)))))))))≤140737488351232:=hz
 have g0:xu4 k x.2.1 x.2.1=some true:=wka k x.2.1 (by omega) (by omega)
 have g1:x64 k x.2.2.1 x.2.2.1=some true:=y7a k x.2.2.1 (by omega) (by omega)
 have g2:vv3 k x.2.2.2.2.2.2.2.2.1 x.2.2.2.2.2.2.2.2.1=some true:=v5a k x.2.2.2.2.2.2.2.2.1 (by omega) (by omega)
 refine (jjb k x x).trans ?_
 simp only [g0,g1,g2,Option.bind_some,bne_self_eq_false,beq_self_eq_true,Bool.not_true,Bool.false_eq_true,if_false]
theorem jl9 (k:Nat) (x:Int×Int×List Int) (hz:szT z6 x≤140737488351232) (hk:szT z6 x+2<k):za4 k x x=some true:=by
 obtain ⟨k,rfl⟩:=kp (by omega:0<k)
 have hk':(szT (.i .i64) x.1+(szT (.i .i64) x.2.1+szT (.l 3 (.i .i64)) x.2.2))+2<k+1:=hk;have hz':(szT (.i .i64) x.1+(szT (.i .i64) x.2.1+szT (.l 3 (.i .i64)) x.2.2))≤140737488351232:=hz;have g0:yl1 k x.2.2 x.2.2=some true:=x94 k x.2.2 (by omega) (by omega)
 refine (z79 k x x).trans ?_
 simp only [g0,Option.bind_some,bne_self_eq_false,beq_self_eq_true,Bool.not_true,Bool.false_eq_true,if_false]
theorem xg8 (k:Nat) (x:List (Int×Int×List Int)) (hz:szT (.l 205 z6) x≤140737488351232) (hk:szT (.l 205 z6) x+3<k):z03 k x x=some true:=by
 obtain ⟨k,rfl⟩:=kp (by omega:0<k)
 have hk':x.length+vn (szT z6) x+3<k+1:=hk;have hz':x.length+vn (szT z6) x≤140737488351232:=hz;refine (yq8 k x x).trans ?_
 rw [if_neg (by simp)]
 exact vc1 (α:=Int×Int×List Int) (L:=yr2 k _ _ (x,x)) (f:=fun y z=>za4 k y z) (fun _ _=>rfl) (a:=x) (fun y hy=>jl9 k y (by have:=xc (f:=szT z6) hy;omega) (by have:=xc (f:=szT z6) hy;omega)) (by omega) x.length k 0 (by omega) (by omega)
theorem wx9 (k:Nat) (x:(Int×(List I4)×(List I3)×Int×Int×Int×Int×Int×(List I3)×Int)×(Int×Int×Int×List (I2×(List I2)×List (Int×(List Int)×List Int)))×(List Int)×(List Int)×(List I6)×(List (List I6))×(List I4)×(List Int)×(List (Int×Int×List Int))×(List I4)×Int×Int×(List I6)×List I4) (hz:szT xi x≤140737488351232) (hk:szT xi x+7<k):wh6 k x x=some true:=by
 obtain ⟨k,rfl⟩:=kp (by omega:0<k)
 have hk':(szT xd2 x.1+(szT j4 x.2.1+(szT xw2 x.2.2.1+(szT (.l 3 (.i .i64)) x.2.2.2.1+(szT (.l 159 sI6) x.2.2.2.2.1+(szT (.l 140 vg) x.2.2.2.2.2.1+(szT (.l 85 sI4) x.2.2.2.2.2.2.1+(szT (.l 3 (.i .i64)) x.2.2.2.2.2.2.2.1+(szT (.l 205 z6) x.2.2.2.2.2.2.2.2.1+(szT (.l 86 sI4) x.2.2.2.2.2.2.2.2.2.1+(szT (.i .i64) x.2.2.2.2.2.2.2.2.2.2.1+(szT (.i .i64) x.2.2.2.2.2.2.2.2.2.2.2.1+(szT (.l 66 sI6) x.2.2.2.2.2.2.2.2.2.2.2.2.1+szT (.l 146 sI4) x.2.2.2.2.2.2.2.2.2.2.2.2.2)))))))))))))+7<k+1:=hk
 have hz':(szT xd2 x.1+(szT j4 x.2.1+(szT xw2 x.2.2.1+(szT (.l 3 (.i .i64)) x.2.2.2.1+(szT (.l 159 sI6) x.2.2.2.2.1+(szT (.l 140 vg) x.2.2.2.2.2.1+(szT (.l 85 sI4) x.2.2.2.2.2.2.1+(szT (.l 3 (.i .i64)) x.2.2.2.2.2.2.2.1+(szT (.l 205 z6) x.2.2.2.2.2.2.2.2.1+(szT (.l 86 sI4) x.2.2.2.2.2.2.2.2.2.1+(szT (.i .i64) x.2.2.2.2.2.2.2.2.2.2.1+(szT (.i .i64) x.2.2.2.2.2.2.2.2.2.2.2.1+(szT (.l 66 sI6) x.2.2.2.2.2.2.2.2.2.2.2.2.1+szT (.l 146 sI4) x.2.2.2.2.2.2.2.2.2.2.2.2.2)))))))))))))≤140737488351232:=hz
 have g0:zd7 k x.1 x.1=some true:=zab k x.1 (by omega) (by omega)
 have g1:vo3 k x.2.1 x.2.1=some true:=ws8 k x.2.1 (by omega) (by omega)
 have g2:wb7 k x.2.2.1 x.2.2.1=some true:=xbb k x.2.2.1 (by omega) (by omega)
 have g3:yl1 k x.2.2.2.1 x.2.2.2.1=some true:=x94 k x.2.2.2.1 (by omega) (by omega)
 have g4:vl2 k x.2.2.2.2.1 x.2.2.2.2.1=some true:=xp7 k x.2.2.2.2.1 (by omega) (by omega)
 have g5:yi3 k x.2.2.2.2.2.1 x.2.2.2.2.2.1=some true:=xh9 k x.2.2.2.2.2.1 (by omega) (by omega)
 have g6:y74 k x.2.2.2.2.2.2.1 x.2.2.2.2.2.2.1=some true:=yia k x.2.2.2.2.2.2.1 (by omega) (by omega)
 have g7:yl1 k x.2.2.2.2.2.2.2.1 x.2.2.2.2.2.2.2.1=some true:=x94 k x.2.2.2.2.2.2.2.1 (by omega) (by omega)
 have g8:z03 k x.2.2.2.2.2.2.2.2.1 x.2.2.2.2.2.2.2.2.1=some true:=xg8 k x.2.2.2.2.2.2.2.2.1 (by omega) (by omega)
 have g9:zg3 k x.2.2.2.2.2.2.2.2.2.1 x.2.2.2.2.2.2.2.2.2.1=some true:=v59 k x.2.2.2.2.2.2.2.2.2.1 (by omega) (by omega)
 have g10:j22 k x.2.2.2.2.2.2.2.2.2.2.2.2.1 x.2.2.2.2.2.2.2.2.2.2.2.2.1=some true:=zq6 k x.2.2.2.2.2.2.2.2.2.2.2.2.1 (by omega) (by omega)
 have g11:yl2 k x.2.2.2.2.2.2.2.2.2.2.2.2.2 x.2.2.2.2.2.2.2.2.2.2.2.2.2=some true:=vz7 k x.2.2.2.2.2.2.2.2.2.2.2.2.2 (by omega) (by omega)
 refine (zz9 k x x).trans ?_
 simp only [g0,g1,g2,g3,g4,g5,g6,g7,g8,g9,g10,g11,Option.bind_some,bne_self_eq_false,beq_self_eq_true,Bool.not_true,Bool.false_eq_true,if_false]
theorem zk8 (k:Nat) (x:List I4) (m:Int) (h0:0≤m) (hB:m+16*szT (.l 146 sI4) x≤1152921504606846976) (hz:szT (.l 146 sI4) x≤140737488351232) (hk:szT (.l 146 sI4) x+1<k):zz2 k (mkT (.l 146 sI4) x m).1 m=some (mkT (.l 146 sI4) x m).2:=by
 obtain ⟨k,rfl⟩:=kp (by omega:0<k)
 have hz':x.length+vn (szT sI4) x≤140737488351232:=hz;have hk':x.length+vn (szT sI4) x+1<k+1:=hk;have hB':m+16*((x.length+vn (szT sI4) x:Nat):Int)≤1152921504606846976:=hB;obtain ⟨a,ha⟩:∃a:List I4,(mkT (.l 146 sI4) x m).1=a:=⟨_,rfl⟩;rw [ha];refine (xr8 k a m).trans ?_
 refine (xd9 (α:=Int×Int×Int×Int) (L:=yu2 k _ _ _ _ _ _) (X:=fun v=>some v.1) (fun i m=>(m,i)) (f:=mkE sI4) (s:=szT sI4) (B:=1152921504606846976) (P:=fun y=>szT sI4 y+0<k∧szT sI4 y≤140737488351232) (r:=x) (m:=m) ha.symm (fun n i m x hi hx hP h0 hB hn hlt hin hw=> ?_) (fun n m=> ?_) (fun x m=> ?_) (fun y hy=> ?_) (by omega) (by omega) h0 hB')
 · have hd:decide ((i:Int)<(a.length:Int))=true:=decide_eq_true hlt;have e1:mkE sI4 x m=((m,(m+1),((m+1)+1),(((m+1)+1)+1)),((((m+1)+1)+1)+1)):=rfl;have es:szT sI4 x=0:=ym _ _ rfl;rw [es] at hB;have w0:i64.wrap (m+1)=m+1:=y9 (by omega) (by omega)
   have w1:i64.wrap ((m+1)+1)=(m+1)+1:=y9 (by omega) (by omega)
   have w2:i64.wrap (((m+1)+1)+1)=((m+1)+1)+1:=y9 (by omega) (by omega)
   have w3:i64.wrap ((((m+1)+1)+1)+1)=(((m+1)+1)+1)+1:=y9 (by omega) (by omega)
   rw [e1] at hx;show jv1 k _ _ _ _ _ _ _ _=_
   simp only [jv1,hd,if_true,if_pos hn,hin,v7 hx,hw,e1,w0,w1,w2,w3,Option.bind_some,bne_self_eq_false,Bool.false_eq_true,if_false]
 · show jv1 k _ _ _ _ _ _ _ _=_
   simp only [jv1];rw [if_neg (by simp)]
 · have:=vb2 sI4 x m rfl
   have hl:Sh.leafs sI4≤16:=by decide
   omega
 · have:=xc (f:=szT sI4) hy
   constructor<;>omega
theorem yb6 (k:Nat) (x:List I4) (m:Int) (h0:0≤m) (hB:m+16*szT (.l 146 sI4) x≤1152921504606846976) (hz:szT (.l 146 sI4) x≤140737488351232) (hk:szT (.l 146 sI4) x+1<k):y03 k x m=(some ((mkT (.l 146 sI4) x m).2,(mkT (.l 146 sI4) x m).1):Option (Int×List I4)):=by
 obtain ⟨k,rfl⟩:=kp (by omega:0<k)
 have hz':x.length+vn (szT sI4) x≤140737488351232:=hz;have hk':x.length+vn (szT sI4) x+1<k+1:=hk;have hB':m+16*((x.length+vn (szT sI4) x:Nat):Int)≤1152921504606846976:=hB;refine (y98 k x m).trans ?_
 refine (wz (α:=Int×Int×Int×Int) (L:=zt2 k _ _) (X:=fun v=>some (v.1,v.2.2)) (fun a i m=>(m,i,a)) (f:=mkE sI4) (s:=szT sI4) (B:=1152921504606846976) (P:=fun y=>szT sI4 y+0<k∧szT sI4 y≤140737488351232) (fun n a i m x hi hx hP h0 hB hn hlt hin hw=> ?_) (fun n a m=> ?_) (fun x m=> ?_) (fun y hy=> ?_) (by omega) (by omega) h0 hB')
 · have hd:decide ((i:Int)<(a.length:Int))=true:=decide_eq_true hlt;have e1:mkE sI4 x m=((m,(m+1),((m+1)+1),(((m+1)+1)+1)),((((m+1)+1)+1)+1)):=rfl;have es:szT sI4 x=0:=ym _ _ rfl;rw [es] at hB;have w0:i64.wrap (m+1)=m+1:=y9 (by omega) (by omega)
   have w1:i64.wrap ((m+1)+1)=(m+1)+1:=y9 (by omega) (by omega)
   have w2:i64.wrap (((m+1)+1)+1)=((m+1)+1)+1:=y9 (by omega) (by omega)
   have w3:i64.wrap ((((m+1)+1)+1)+1)=(((m+1)+1)+1)+1:=y9 (by omega) (by omega)
   show wv1 k _ _ _ _=_
   simp only [wv1,hd,if_true,if_pos hn,if_pos hlt,List.length_set,hin,v7 hx,j53 hi,List.set_set,hw,e1,w0,w1,w2,w3,Option.bind_some]
 · show wv1 k _ _ _ _=_
   simp only [wv1];rw [if_neg (by simp)]
 · have:=vb2 sI4 x m rfl
   have hl:Sh.leafs sI4≤16:=by decide
   omega
 · have:=xc (f:=szT sI4) hy
   constructor<;>omega
theorem zv6 (k:Nat) (x:List I6) (m:Int) (h0:0≤m) (hB:m+16*szT (.l 159 sI6) x≤1152921504606846976) (hz:szT (.l 159 sI6) x≤140737488351232) (hk:szT (.l 159 sI6) x+1<k):zj2 k x m=(some ((mkT (.l 159 sI6) x m).2,(mkT (.l 159 sI6) x m).1):Option (Int×List I6)):=by
 obtain ⟨k,rfl⟩:=kp (by omega:0<k)
 have hz':x.length+vn (szT sI6) x≤140737488351232:=hz;have hk':x.length+vn (szT sI6) x+1<k+1:=hk;have hB':m+16*((x.length+vn (szT sI6) x:Nat):Int)≤1152921504606846976:=hB;refine (wx6 k x m).trans ?_
 refine (wz (α:=Int×Int×Int×Int×Int×Int) (L:=xz1 k _ _) (X:=fun v=>some (v.1,v.2.2)) (fun a i m=>(m,i,a)) (f:=mkE sI6) (s:=szT sI6) (B:=1152921504606846976) (P:=fun y=>szT sI6 y+0<k∧szT sI6 y≤140737488351232) (fun n a i m x hi hx hP h0 hB hn hlt hin hw=> ?_) (fun n a m=> ?_) (fun x m=> ?_) (fun y hy=> ?_) (by omega) (by omega) h0 hB')
 · have hd:decide ((i:Int)<(a.length:Int))=true:=decide_eq_true hlt;have e1:mkE sI6 x m=((m,(m+1),((m+1)+1),(((m+1)+1)+1),((((m+1)+1)+1)+1),(((((m+1)+1)+1)+1)+1)),((((((m+1)+1)+1)+1)+1)+1)):=rfl;have es:szT sI6 x=0:=ym _ _ rfl;rw [es] at hB;have w0:i64.wrap (m+1)=m+1:=y9 (by omega) (by omega)
   have w1:i64.wrap ((m+1)+1)=(m+1)+1:=y9 (by omega) (by omega)
   have w2:i64.wrap (((m+1)+1)+1)=((m+1)+1)+1:=y9 (by omega) (by omega)
   have w3:i64.wrap ((((m+1)+1)+1)+1)=(((m+1)+1)+1)+1:=y9 (by omega) (by omega)
   have w4:i64.wrap (((((m+1)+1)+1)+1)+1)=((((m+1)+1)+1)+1)+1:=y9 (by omega) (by omega)
   have w5:i64.wrap ((((((m+1)+1)+1)+1)+1)+1)=(((((m+1)+1)+1)+1)+1)+1:=y9 (by omega) (by omega)
   show za1 k _ _ _ _=_
   simp only [za1,hd,if_true,if_pos hn,if_pos hlt,List.length_set,hin,v7 hx,j53 hi,List.set_set,hw,e1,w0,w1,w2,w3,w4,w5,Option.bind_some]
 · show za1 k _ _ _ _=_
   simp only [za1];rw [if_neg (by simp)]
 · have:=vb2 sI6 x m rfl
   have hl:Sh.leafs sI6≤16:=by decide
   omega
 · have:=xc (f:=szT sI6) hy
   constructor<;>omega
theorem xs7 (k:Nat) (x:List I4) (m:Int) (h0:0≤m) (hB:m+16*szT (.l 86 sI4) x≤1152921504606846976) (hz:szT (.l 86 sI4) x≤140737488351232) (hk:szT (.l 86 sI4) x+1<k):x63 k x m=(some ((mkT (.l 86 sI4) x m).2,(mkT (.l 86 sI4) x m).1):Option (Int×List I4)):=by
 obtain ⟨k,rfl⟩:=kp (by omega:0<k)
 have hz':x.length+vn (szT sI4) x≤140737488351232:=hz;have hk':x.length+vn (szT sI4) x+1<k+1:=hk;have hB':m+16*((x.length+vn (szT sI4) x:Nat):Int)≤1152921504606846976:=hB;refine (z68 k x m).trans ?_
 refine (wz (α:=Int×Int×Int×Int) (L:=yk2 k _ _) (X:=fun v=>some (v.1,v.2.2)) (fun a i m=>(m,i,a)) (f:=mkE sI4) (s:=szT sI4) (B:=1152921504606846976) (P:=fun y=>szT sI4 y+0<k∧szT sI4 y≤140737488351232) (fun n a i m x hi hx hP h0 hB hn hlt hin hw=> ?_) (fun n a m=> ?_) (fun x m=> ?_) (fun y hy=> ?_) (by omega) (by omega) h0 hB')
 · have hd:decide ((i:Int)<(a.length:Int))=true:=decide_eq_true hlt;have e1:mkE sI4 x m=((m,(m+1),((m+1)+1),(((m+1)+1)+1)),((((m+1)+1)+1)+1)):=rfl;have es:szT sI4 x=0:=ym _ _ rfl;rw [es] at hB;have w0:i64.wrap (m+1)=m+1:=y9 (by omega) (by omega)
   have w1:i64.wrap ((m+1)+1)=(m+1)+1:=y9 (by omega) (by omega)
   have w2:i64.wrap (((m+1)+1)+1)=((m+1)+1)+1:=y9 (by omega) (by omega)
   have w3:i64.wrap ((((m+1)+1)+1)+1)=(((m+1)+1)+1)+1:=y9 (by omega) (by omega)
   show zo1 k _ _ _ _=_
   simp only [zo1,hd,if_true,if_pos hn,if_pos hlt,List.length_set,hin,v7 hx,j53 hi,List.set_set,hw,e1,w0,w1,w2,w3,Option.bind_some]
 · show zo1 k _ _ _ _=_
   simp only [zo1];rw [if_neg (by simp)]
 · have:=vb2 sI4 x m rfl
   have hl:Sh.leafs sI4≤16:=by decide
   omega
 · have:=xc (f:=szT sI4) hy
   constructor<;>omega
theorem zm8 (k:Nat) (x:List I4) (m:Int) (h0:0≤m) (hB:m+16*szT (.l 85 sI4) x≤1152921504606846976) (hz:szT (.l 85 sI4) x≤140737488351232) (hk:szT (.l 85 sI4) x+1<k):wm3 k x m=(some ((mkT (.l 85 sI4) x m).2,(mkT (.l 85 sI4) x m).1):Option (Int×List I4)):=by
 obtain ⟨k,rfl⟩:=kp (by omega:0<k)
 have hz':x.length+vn (szT sI4) x≤140737488351232:=hz;have hk':x.length+vn (szT sI4) x+1<k+1:=hk;have hB':m+16*((x.length+vn (szT sI4) x:Nat):Int)≤1152921504606846976:=hB;refine (wm8 k x m).trans ?_
 refine (wz (α:=Int×Int×Int×Int) (L:=wu2 k _ _) (X:=fun v=>some (v.1,v.2.2)) (fun a i m=>(m,i,a)) (f:=mkE sI4) (s:=szT sI4) (B:=1152921504606846976) (P:=fun y=>szT sI4 y+0<k∧szT sI4 y≤140737488351232) (fun n a i m x hi hx hP h0 hB hn hlt hin hw=> ?_) (fun n a m=> ?_) (fun x m=> ?_) (fun y hy=> ?_) (by omega) (by omega) h0 hB')
 · have hd:decide ((i:Int)<(a.length:Int))=true:=decide_eq_true hlt;have e1:mkE sI4 x m=((m,(m+1),((m+1)+1),(((m+1)+1)+1)),((((m+1)+1)+1)+1)):=rfl;have es:szT sI4 x=0:=ym _ _ rfl;rw [es] at hB;have w0:i64.wrap (m+1)=m+1:=y9 (by omega) (by omega)
   have w1:i64.wrap ((m+1)+1)=(m+1)+1:=y9 (by omega) (by omega)
   have w2:i64.wrap (((m+1)+1)+1)=((m+1)+1)+1:=y9 (by omega) (by omega)
   have w3:i64.wrap ((((m+1)+1)+1)+1)=(((m+1)+1)+1)+1:=y9 (by omega) (by omega)
   show vw1 k _ _ _ _=_
   simp only [vw1,hd,if_true,if_pos hn,if_pos hlt,List.length_set,hin,v7 hx,j53 hi,List.set_set,hw,e1,w0,w1,w2,w3,Option.bind_some]
 · show vw1 k _ _ _ _=_
   simp only [vw1];rw [if_neg (by simp)]
 · have:=vb2 sI4 x m rfl
   have hl:Sh.leafs sI4≤16:=by decide
   omega
 · have:=xc (f:=szT sI4) hy
   constructor<;>omega
theorem zv2 (k:Nat) (x:List Int) (m:Int) (h0:0≤m) (hB:m+16*szT (.l 3 (.i .i64)) x≤1152921504606846976) (hz:szT (.l 3 (.i .i64)) x≤140737488351232) (hk:szT (.l 3 (.i .i64)) x+1<k):ju1 k x m=(some ((mkT (.l 3 (.i .i64)) x m).2,(mkT (.l 3 (.i .i64)) x m).1):Option (Int×List Int)):=by
 obtain ⟨k,rfl⟩:=kp (by omega:0<k)
 have hz':x.length+vn (szT (.i .i64)) x≤140737488351232:=hz;have hk':x.length+vn (szT (.i .i64)) x+1<k+1:=hk;have hB':m+16*((x.length+vn (szT (.i .i64)) x:Nat):Int)≤1152921504606846976:=hB;refine (wk9 k x m).trans ?_
 refine (wz (α:=Int) (L:=x93 k _ _) (X:=fun v=>some (v.1,v.2.2)) (fun a i m=>(m,i,a)) (f:=mkE (.i .i64)) (s:=szT (.i .i64)) (B:=1152921504606846976) (P:=fun y=>szT (.i .i64) y+0<k∧szT (.i .i64) y≤140737488351232) (fun n a i m x hi hx hP h0 hB hn hlt hin hw=> ?_) (fun n a m=> ?_) (fun x m=> ?_) (fun y hy=> ?_) (by omega) (by omega) h0 hB')
 · have hd:decide ((i:Int)<(a.length:Int))=true:=decide_eq_true hlt;have e1:mkE (.i .i64) x m=(m,(m+1)):=rfl;have es:szT (.i .i64) x=0:=ym _ _ rfl;rw [es] at hB;have w0:i64.wrap (m+1)=m+1:=y9 (by omega) (by omega)
   show x62 k _ _ _ _=_
   simp only [x62,hd,if_true,if_pos hn,if_pos hlt,List.length_set,hin,v7 hx,j53 hi,List.set_set,hw,e1,w0,Option.bind_some]
 · show x62 k _ _ _ _=_
   simp only [x62];rw [if_neg (by simp)]
 · have:=vb2 (.i .i64) x m rfl
   have hl:Sh.leafs (.i .i64)≤16:=by decide
   omega
 · have:=xc (f:=szT (.i .i64)) hy
   constructor<;>omega
theorem vca (k:Nat) (x:List Int) (m:Int) (h0:0≤m) (hB:m+16*szT xw2 x≤1152921504606846976) (hz:szT xw2 x≤140737488351232) (hk:szT xw2 x+2<k):vb6 k x m=(some ((mkT xw2 x m).2,(mkT xw2 x m).1):Option (Int×List Int)):=by
 obtain ⟨k,rfl⟩:=kp (by omega:0<k)
 have es:szT xw2 x=szT (.l 3 (.i .i64)) x:=rfl;rw [es] at hB hz hk;have b0:=wi1 (.l 3 (.i .i64)) x m rfl;have g0:=zv2 k x m (by omega) (by omega) (by omega) (by omega)
 rw [j6a];simp only [g0,Option.bind_some];rfl
theorem jv4 (k:Nat) (x:List I6) (m:Int) (h0:0≤m) (hB:m+16*szT (.l 66 sI6) x≤1152921504606846976) (hz:szT (.l 66 sI6) x≤140737488351232) (hk:szT (.l 66 sI6) x+1<k):za2 k x m=(some ((mkT (.l 66 sI6) x m).2,(mkT (.l 66 sI6) x m).1):Option (Int×List I6)):=by
 obtain ⟨k,rfl⟩:=kp (by omega:0<k)
 have hz':x.length+vn (szT sI6) x≤140737488351232:=hz;have hk':x.length+vn (szT sI6) x+1<k+1:=hk;have hB':m+16*((x.length+vn (szT sI6) x:Nat):Int)≤1152921504606846976:=hB;refine (wg7 k x m).trans ?_
 refine (wz (α:=Int×Int×Int×Int×Int×Int) (L:=z82 k _ _) (X:=fun v=>some (v.1,v.2.2)) (fun a i m=>(m,i,a)) (f:=mkE sI6) (s:=szT sI6) (B:=1152921504606846976) (P:=fun y=>szT sI6 y+0<k∧szT sI6 y≤140737488351232) (fun n a i m x hi hx hP h0 hB hn hlt hin hw=> ?_) (fun n a m=> ?_) (fun x m=> ?_) (fun y hy=> ?_) (by omega) (by omega) h0 hB')
 · have hd:decide ((i:Int)<(a.length:Int))=true:=decide_eq_true hlt;have e1:mkE sI6 x m=((m,(m+1),((m+1)+1),(((m+1)+1)+1),((((m+1)+1)+1)+1),(((((m+1)+1)+1)+1)+1)),((((((m+1)+1)+1)+1)+1)+1)):=rfl;have es:szT sI6 x=0:=ym _ _ rfl;rw [es] at hB;have w0:i64.wrap (m+1)=m+1:=y9 (by omega) (by omega)
   have w1:i64.wrap ((m+1)+1)=(m+1)+1:=y9 (by omega) (by omega)
   have w2:i64.wrap (((m+1)+1)+1)=((m+1)+1)+1:=y9 (by omega) (by omega)
   have w3:i64.wrap ((((m+1)+1)+1)+1)=(((m+1)+1)+1)+1:=y9 (by omega) (by omega)
   have w4:i64.wrap (((((m+1)+1)+1)+1)+1)=((((m+1)+1)+1)+1)+1:=y9 (by omega) (by omega)
   have w5:i64.wrap ((((((m+1)+1)+1)+1)+1)+1)=(((((m+1)+1)+1)+1)+1)+1:=y9 (by omega) (by omega)
   show xg1 k _ _ _ _=_
   simp only [xg1,hd,if_true,if_pos hn,if_pos hlt,List.length_set,hin,v7 hx,j53 hi,List.set_set,hw,e1,w0,w1,w2,w3,w4,w5,Option.bind_some]
 · show xg1 k _ _ _ _=_
   simp only [xg1];rw [if_neg (by simp)]
 · have:=vb2 sI6 x m rfl
   have hl:Sh.leafs sI6≤16:=by decide
   omega
 · have:=xc (f:=szT sI6) hy
   constructor<;>omega
theorem zn8 (k:Nat) (x:List I2) (m:Int) (h0:0≤m) (hB:m+16*szT (.l 348 sI2) x≤1152921504606846976) (hz:szT (.l 348 sI2) x≤140737488351232) (hk:szT (.l 348 sI2) x+1<k):yj3 k x m=(some ((mkT (.l 348 sI2) x m).2,(mkT (.l 348 sI2) x m).1):Option (Int×List I2)):=by
 obtain ⟨k,rfl⟩:=kp (by omega:0<k)
 have hz':x.length+vn (szT sI2) x≤140737488351232:=hz;have hk':x.length+vn (szT sI2) x+1<k+1:=hk;have hB':m+16*((x.length+vn (szT sI2) x:Nat):Int)≤1152921504606846976:=hB;refine (wp8 k x m).trans ?_
 refine (wz (α:=Int×Int) (L:=zu2 k _ _) (X:=fun v=>some (v.1,v.2.2)) (fun a i m=>(m,i,a)) (f:=mkE sI2) (s:=szT sI2) (B:=1152921504606846976) (P:=fun y=>szT sI2 y+0<k∧szT sI2 y≤140737488351232) (fun n a i m x hi hx hP h0 hB hn hlt hin hw=> ?_) (fun n a m=> ?_) (fun x m=> ?_) (fun y hy=> ?_) (by omega) (by omega) h0 hB')
 · have hd:decide ((i:Int)<(a.length:Int))=true:=decide_eq_true hlt;have e1:mkE sI2 x m=((m,(m+1)),((m+1)+1)):=rfl;have es:szT sI2 x=0:=ym _ _ rfl;rw [es] at hB;have w0:i64.wrap (m+1)=m+1:=y9 (by omega) (by omega)
   have w1:i64.wrap ((m+1)+1)=(m+1)+1:=y9 (by omega) (by omega)
   show vt1 k _ _ _ _=_
   simp only [vt1,hd,if_true,if_pos hn,if_pos hlt,List.length_set,hin,v7 hx,j53 hi,List.set_set,hw,e1,w0,w1,Option.bind_some]
 · show vt1 k _ _ _ _=_
   simp only [vt1];rw [if_neg (by simp)]
 · have:=vb2 sI2 x m rfl
   have hl:Sh.leafs sI2≤16:=by decide
   omega
 · have:=xc (f:=szT sI2) hy
   constructor<;>omega
theorem zx7 (k:Nat) (x:List (Int×(List Int)×List Int)) (m:Int) (h0:0≤m) (hB:m+16*szT (.l 220 z7) x≤1152921504606846976) (hz:szT (.l 220 z7) x≤140737488351232) (hk:szT (.l 220 z7) x+2<k):za3 k x m=(some ((mkT (.l 220 z7) x m).2,(mkT (.l 220 z7) x m).1):Option (Int×List (Int×(List Int)×List Int))):=by
 obtain ⟨k,rfl⟩:=kp (by omega:0<k)
 have hz':x.length+vn (szT z7) x≤140737488351232:=hz;have hk':x.length+vn (szT z7) x+2<k+1:=hk;have hB':m+16*((x.length+vn (szT z7) x:Nat):Int)≤1152921504606846976:=hB;refine (xt7 k x m).trans ?_
 refine (wz (α:=Int×(List Int)×List Int) (L:=jj2 k _ _) (X:=fun v=>some (v.1,v.2.2)) (fun a i m=>(m,i,a)) (f:=mkE z7) (s:=szT z7) (B:=1152921504606846976) (P:=fun y=>szT z7 y+1<k∧szT z7 y≤140737488351232) (fun n a i m x hi hx hP h0 hB hn hlt hin hw=> ?_) (fun n a m=> ?_) (fun x m=> ?_) (fun y hy=> ?_) (by omega) (by omega) h0 hB')
 · have hd:decide ((i:Int)<(a.length:Int))=true:=decide_eq_true hlt;have e1:mkE z7 x m=((m,(mkT (.l 3 (.i .i64)) x.2.1 (m+1)).1,(mkT (.l 3 (.i .i64)) x.2.2 (mkT (.l 3 (.i .i64)) x.2.1 (m+1)).2).1),(mkT (.l 3 (.i .i64)) x.2.2 (mkT (.l 3 (.i .i64)) x.2.1 (m+1)).2).2):=rfl;have es:szT z7 x=(0+(szT (.l 3 (.i .i64)) x.2.1+szT (.l 3 (.i .i64)) x.2.2)):=rfl;have b0:=wi1 (.l 3 (.i .i64)) x.2.1 (m+1) rfl
   have b1:=wi1 (.l 3 (.i .i64)) x.2.2 ((mkT (.l 3 (.i .i64)) x.2.1 (m+1)).2) rfl;obtain ⟨hP1,hP2⟩:=hP;rw [es] at hP1 hP2 hB;have g0:=zv2 k x.2.1 (m+1) (by omega) (by omega) (by omega) (by omega)
   have g1:=zv2 k x.2.2 ((mkT (.l 3 (.i .i64)) x.2.1 (m+1)).2) (by omega) (by omega) (by omega) (by omega)
   have w0:i64.wrap (m+1)=m+1:=y9 (by omega) (by omega)
   show vn1 k _ _ _ _=_
   simp only [vn1,hd,if_true,if_pos hn,if_pos hlt,List.length_set,hin,v7 hx,j53 hi,List.set_set,hw,e1,w0,g0,g1,Option.bind_some]
   try rfl
 · show vn1 k _ _ _ _=_
   simp only [vn1];rw [if_neg (by simp)]
 · have:=vb2 z7 x m rfl
   have hl:Sh.leafs z7≤16:=by decide
   omega
 · have:=xc (f:=szT z7) hy
   constructor<;>omega
theorem zu7 (k:Nat) (x:List (I2×(List I2)×List (Int×(List Int)×List Int))) (m:Int) (h0:0≤m) (hB:m+16*szT (.l 198 we) x≤1152921504606846976) (hz:szT (.l 198 we) x≤140737488351232) (hk:szT (.l 198 we) x+3<k):j93 k x m=(some ((mkT (.l 198 we) x m).2,(mkT (.l 198 we) x m).1):Option (Int×List (I2×(List I2)×List (Int×(List Int)×List Int)))):=by
 obtain ⟨k,rfl⟩:=kp (by omega:0<k)
 have hz':x.length+vn (szT we) x≤140737488351232:=hz;have hk':x.length+vn (szT we) x+3<k+1:=hk;have hB':m+16*((x.length+vn (szT we) x:Nat):Int)≤1152921504606846976:=hB;refine (wq7 k x m).trans ?_
 refine (wz (α:=I2×(List I2)×List (Int×(List Int)×List Int)) (L:=zk2 k _ _) (X:=fun v=>some (v.1,v.2.2)) (fun a i m=>(m,i,a)) (f:=mkE we) (s:=szT we) (B:=1152921504606846976) (P:=fun y=>szT we y+2<k∧szT we y≤140737488351232) (fun n a i m x hi hx hP h0 hB hn hlt hin hw=> ?_) (fun n a m=> ?_) (fun x m=> ?_) (fun y hy=> ?_) (by omega) (by omega) h0 hB')
 · have hd:decide ((i:Int)<(a.length:Int))=true:=decide_eq_true hlt;have e1:mkE we x m=(((m,(m+1)),(mkT (.l 348 sI2) x.2.1 ((m+1)+1)).1,(mkT (.l 220 z7) x.2.2 (mkT (.l 348 sI2) x.2.1 ((m+1)+1)).2).1),(mkT (.l 220 z7) x.2.2 (mkT (.l 348 sI2) x.2.1 ((m+1)+1)).2).2):=rfl;have es:szT we x=((0+0)+(szT (.l 348 sI2) x.2.1+szT (.l 220 z7) x.2.2)):=rfl;have b0:=wi1 (.l 348 sI2) x.2.1 ((m+1)+1) rfl
   have b1:=wi1 (.l 220 z7) x.2.2 ((mkT (.l 348 sI2) x.2.1 ((m+1)+1)).2) rfl;obtain ⟨hP1,hP2⟩:=hP;rw [es] at hP1 hP2 hB;have g0:=zn8 k x.2.1 ((m+1)+1) (by omega) (by omega) (by omega) (by omega)
   have g1:=zx7 k x.2.2 ((mkT (.l 348 sI2) x.2.1 ((m+1)+1)).2) (by omega) (by omega) (by omega) (by omega)
   have w0:i64.wrap (m+1)=m+1:=y9 (by omega) (by omega)
   have w1:i64.wrap ((m+1)+1)=(m+1)+1:=y9 (by omega) (by omega)
   show yo1 k _ _ _ _=_
   simp only [yo1,hd,if_true,if_pos hn,if_pos hlt,List.length_set,hin,v7 hx,j53 hi,List.set_set,hw,e1,w0,w1,g0,g1,Option.bind_some]
   try rfl
 · show yo1 k _ _ _ _=_
   simp only [yo1];rw [if_neg (by simp)]
 · have:=vb2 we x m rfl
   have hl:Sh.leafs we≤16:=by decide
   omega
 · have:=xc (f:=szT we) hy
   constructor<;>omega
theorem yk7 (k:Nat) (x:Int×Int×Int×List (I2×(List I2)×List (Int×(List Int)×List Int))) (m:Int) (h0:0≤m) (hB:m+16*szT j4 x≤1152921504606846976) (hz:szT j4 x≤140737488351232) (hk:szT j4 x+4<k):xn3 k x m=(some ((mkT j4 x m).2,((mkT j4 x m).1).2.2.2):Option (Int×List (I2×(List I2)×List (Int×(List Int)×List Int)))):=by
 obtain ⟨k,rfl⟩:=kp (by omega:0<k)
 have es:szT j4 x=(0+(0+(0+szT (.l 198 we) x.2.2.2))):=rfl;rw [es] at hB hz hk;have b0:=wi1 (.l 198 we) x.2.2.2 m rfl;have g0:=zu7 k x.2.2.2 m (by omega) (by omega) (by omega) (by omega)
 rw [xj7];simp only [g0,Option.bind_some];rfl
theorem xu7 (k:Nat) (x:List (List I6)) (m:Int) (h0:0≤m) (hB:m+16*szT (.l 140 vg) x≤1152921504606846976) (hz:szT (.l 140 vg) x≤140737488351232) (hk:szT (.l 140 vg) x+2<k):w53 k x m=(some ((mkT (.l 140 vg) x m).2,(mkT (.l 140 vg) x m).1):Option (Int×List (List I6))):=by
 obtain ⟨k,rfl⟩:=kp (by omega:0<k)
 have hz':x.length+vn (szT vg) x≤140737488351232:=hz;have hk':x.length+vn (szT vg) x+2<k+1:=hk;have hB':m+16*((x.length+vn (szT vg) x:Nat):Int)≤1152921504606846976:=hB;refine (j08 k x m).trans ?_
 refine (wz (α:=List I6) (L:=xj2 k _ _) (X:=fun v=>some (v.1,v.2.2)) (fun a i m=>(m,i,a)) (f:=mkE vg) (s:=szT vg) (B:=1152921504606846976) (P:=fun y=>szT vg y+1<k∧szT vg y≤140737488351232) (fun n a i m x hi hx hP h0 hB hn hlt hin hw=> ?_) (fun n a m=> ?_) (fun x m=> ?_) (fun y hy=> ?_) (by omega) (by omega) h0 hB')
 · have hd:decide ((i:Int)<(a.length:Int))=true:=decide_eq_true hlt;have e1:mkE vg x m=((mkT (.l 66 sI6) x m).1,(mkT (.l 66 sI6) x m).2):=rfl;have es:szT vg x=szT (.l 66 sI6) x:=rfl;have b0:=wi1 (.l 66 sI6) x m rfl;obtain ⟨hP1,hP2⟩:=hP;rw [es] at hP1 hP2 hB;have g0:=jv4 k x m (by omega) (by omega) (by omega) (by omega)
   show yn1 k _ _ _ _=_
   simp only [yn1,hd,if_true,if_pos hn,if_pos hlt,List.length_set,hin,v7 hx,j53 hi,List.set_set,hw,e1,g0,Option.bind_some]
   try rfl
 · show yn1 k _ _ _ _=_
   simp only [yn1];rw [if_neg (by simp)]
 · have:=vb2 vg x m rfl
   have hl:Sh.leafs vg≤16:=by decide
   omega
 · have:=xc (f:=szT vg) hy
   constructor<;>omega
theorem v49 (k:Nat) (x:List I4) (m:Int) (h0:0≤m) (hB:m+16*szT (.l 186 sI4) x≤1152921504606846976) (hz:szT (.l 186 sI4) x≤140737488351232) (hk:szT (.l 186 sI4) x+1<k):xc4 k x m=(some ((mkT (.l 186 sI4) x m).2,(mkT (.l 186 sI4) x m).1):Option (Int×List I4)):=by
 obtain ⟨k,rfl⟩:=kp (by omega:0<k)
 have hz':x.length+vn (szT sI4) x≤140737488351232:=hz;have hk':x.length+vn (szT sI4) x+1<k+1:=hk;have hB':m+16*((x.length+vn (szT sI4) x:Nat):Int)≤1152921504606846976:=hB;refine (v19 k x m).trans ?_
 refine (wz (α:=Int×Int×Int×Int) (L:=j43 k _ _) (X:=fun v=>some (v.1,v.2.2)) (fun a i m=>(m,i,a)) (f:=mkE sI4) (s:=szT sI4) (B:=1152921504606846976) (P:=fun y=>szT sI4 y+0<k∧szT sI4 y≤140737488351232) (fun n a i m x hi hx hP h0 hB hn hlt hin hw=> ?_) (fun n a m=> ?_) (fun x m=> ?_) (fun y hy=> ?_) (by omega) (by omega) h0 hB')
 · have hd:decide ((i:Int)<(a.length:Int))=true:=decide_eq_true hlt;have e1:mkE sI4 x m=((m,(m+1),((m+1)+1),(((m+1)+1)+1)),((((m+1)+1)+1)+1)):=rfl;have es:szT sI4 x=0:=ym _ _ rfl;rw [es] at hB;have w0:i64.wrap (m+1)=m+1:=y9 (by omega) (by omega)
   have w1:i64.wrap ((m+1)+1)=(m+1)+1:=y9 (by omega) (by omega)
   have w2:i64.wrap (((m+1)+1)+1)=((m+1)+1)+1:=y9 (by omega) (by omega)
   have w3:i64.wrap ((((m+1)+1)+1)+1)=(((m+1)+1)+1)+1:=y9 (by omega) (by omega)
   show w52 k _ _ _ _=_
   simp only [w52,hd,if_true,if_pos hn,if_pos hlt,List.length_set,hin,v7 hx,j53 hi,List.set_set,hw,e1,w0,w1,w2,w3,Option.bind_some]
 · show w52 k _ _ _ _=_
   simp only [w52];rw [if_neg (by simp)]
 · have:=vb2 sI4 x m rfl
   have hl:Sh.leafs sI4≤16:=by decide
   omega
 · have:=xc (f:=szT sI4) hy
   constructor<;>omega
theorem wf8 (k:Nat) (x:List I3) (m:Int) (h0:0≤m) (hB:m+16*szT (.l 188 sI3) x≤1152921504606846976) (hz:szT (.l 188 sI3) x≤140737488351232) (hk:szT (.l 188 sI3) x+1<k):yl3 k x m=(some ((mkT (.l 188 sI3) x m).2,(mkT (.l 188 sI3) x m).1):Option (Int×List I3)):=by
 obtain ⟨k,rfl⟩:=kp (by omega:0<k)
 have hz':x.length+vn (szT sI3) x≤140737488351232:=hz;have hk':x.length+vn (szT sI3) x+1<k+1:=hk;have hB':m+16*((x.length+vn (szT sI3) x:Nat):Int)≤1152921504606846976:=hB;refine (je8 k x m).trans ?_
 refine (wz (α:=Int×Int×Int) (L:=ws2 k _ _) (X:=fun v=>some (v.1,v.2.2)) (fun a i m=>(m,i,a)) (f:=mkE sI3) (s:=szT sI3) (B:=1152921504606846976) (P:=fun y=>szT sI3 y+0<k∧szT sI3 y≤140737488351232) (fun n a i m x hi hx hP h0 hB hn hlt hin hw=> ?_) (fun n a m=> ?_) (fun x m=> ?_) (fun y hy=> ?_) (by omega) (by omega) h0 hB')
 · have hd:decide ((i:Int)<(a.length:Int))=true:=decide_eq_true hlt;have e1:mkE sI3 x m=((m,(m+1),((m+1)+1)),(((m+1)+1)+1)):=rfl;have es:szT sI3 x=0:=ym _ _ rfl;rw [es] at hB;have w0:i64.wrap (m+1)=m+1:=y9 (by omega) (by omega)
   have w1:i64.wrap ((m+1)+1)=(m+1)+1:=y9 (by omega) (by omega)
   have w2:i64.wrap (((m+1)+1)+1)=((m+1)+1)+1:=y9 (by omega) (by omega)
   show yv1 k _ _ _ _=_
   simp only [yv1,hd,if_true,if_pos hn,if_pos hlt,List.length_set,hin,v7 hx,j53 hi,List.set_set,hw,e1,w0,w1,w2,Option.bind_some]
 · show yv1 k _ _ _ _=_
   simp only [yv1];rw [if_neg (by simp)]
 · have:=vb2 sI3 x m rfl
   have hl:Sh.leafs sI3≤16:=by decide
   omega
 · have:=xc (f:=szT sI3) hy
   constructor<;>omega
theorem xk8 (k:Nat) (x:List I3) (m:Int) (h0:0≤m) (hB:m+16*szT (.l 193 yk) x≤1152921504606846976) (hz:szT (.l 193 yk) x≤140737488351232) (hk:szT (.l 193 yk) x+1<k):jm3 k x m=(some ((mkT (.l 193 yk) x m).2,(mkT (.l 193 yk) x m).1):Option (Int×List I3)):=by
 obtain ⟨k,rfl⟩:=kp (by omega:0<k)
 have hz':x.length+vn (szT yk) x≤140737488351232:=hz;have hk':x.length+vn (szT yk) x+1<k+1:=hk;have hB':m+16*((x.length+vn (szT yk) x:Nat):Int)≤1152921504606846976:=hB;refine (zq8 k x m).trans ?_
 refine (wz (α:=Int×Int×Int) (L:=vr2 k _ _) (X:=fun v=>some (v.1,v.2.2)) (fun a i m=>(m,i,a)) (f:=mkE yk) (s:=szT yk) (B:=1152921504606846976) (P:=fun y=>szT yk y+0<k∧szT yk y≤140737488351232) (fun n a i m x hi hx hP h0 hB hn hlt hin hw=> ?_) (fun n a m=> ?_) (fun x m=> ?_) (fun y hy=> ?_) (by omega) (by omega) h0 hB')
 · have hd:decide ((i:Int)<(a.length:Int))=true:=decide_eq_true hlt;have e1:mkE yk x m=((m,((m+1),((m+1)+1))),(((m+1)+1)+1)):=rfl;have es:szT yk x=0:=ym _ _ rfl;rw [es] at hB;have w0:i64.wrap (m+1)=m+1:=y9 (by omega) (by omega)
   have w1:i64.wrap ((m+1)+1)=(m+1)+1:=y9 (by omega) (by omega)
   have w2:i64.wrap (((m+1)+1)+1)=((m+1)+1)+1:=y9 (by omega) (by omega)
   show zu1 k _ _ _ _=_
   simp only [zu1,hd,if_true,if_pos hn,if_pos hlt,List.length_set,hin,v7 hx,j53 hi,List.set_set,hw,e1,w0,w1,w2,Option.bind_some]
 · show zu1 k _ _ _ _=_
   simp only [zu1];rw [if_neg (by simp)]
 · have:=vb2 yk x m rfl
   have hl:Sh.leafs yk≤16:=by decide
   omega
 · have:=xc (f:=szT yk) hy
   constructor<;>omega
theorem wja (k:Nat) (x:Int×(List I4)×(List I3)×Int×Int×Int×Int×Int×(List I3)×Int) (m:Int) (h0:0≤m) (hB:m+16*szT xd2 x≤1152921504606846976) (hz:szT xd2 x≤140737488351232) (hk:szT xd2 x+2<k):zi6 k x m=(some ((mkT xd2 x m).2,((mkT xd2 x m).1).2.1,((mkT xd2 x m).1).2.2.1,((mkT xd2 x m).1).2.2.2.2.2.2.2.2.1):Option (Int×(List I4)×(List I3)×List I3)):=by
 obtain ⟨k,rfl⟩:=kp (by omega:0<k)
 have es:szT xd2 x=(0+(szT (.l 186 sI4) x.2.1+(szT (.l 188 sI3) x.2.2.1+(0+(0+(0+(0+(0+(szT (.l 193 yk) x.2.2.2.2.2.2.2.2.1+0))))))))):=rfl;rw [es] at hB hz hk;have b0:=wi1 (.l 186 sI4) x.2.1 m rfl;have b1:=wi1 (.l 188 sI3) x.2.2.1 ((mkT (.l 186 sI4) x.2.1 m).2) rfl;have b2:=wi1 (.l 193 yk) x.2.2.2.2.2.2.2.2.1 ((mkT (.l 188 sI3) x.2.2.1 (mkT (.l 186 sI4) x.2.1 m).2).2) rfl;have g0:=v49 k x.2.1 m (by omega) (by omega) (by omega) (by omega)
 have g1:=wf8 k x.2.2.1 ((mkT (.l 186 sI4) x.2.1 m).2) (by omega) (by omega) (by omega) (by omega)
 have g2:=xk8 k x.2.2.2.2.2.2.2.2.1 ((mkT (.l 188 sI3) x.2.2.1 (mkT (.l 186 sI4) x.2.1 m).2).2) (by omega) (by omega) (by omega) (by omega)
 rw [y0a];simp only [g0,g1,g2,Option.bind_some];rfl
theorem yg7 (k:Nat) (x:List (Int×Int×List Int)) (m:Int) (h0:0≤m) (hB:m+16*szT (.l 205 z6) x≤1152921504606846976) (hz:szT (.l 205 z6) x≤140737488351232) (hk:szT (.l 205 z6) x+2<k):yt2 k x m=(some ((mkT (.l 205 z6) x m).2,(mkT (.l 205 z6) x m).1):Option (Int×List (Int×Int×List Int))):=by
 obtain ⟨k,rfl⟩:=kp (by omega:0<k)
 have hz':x.length+vn (szT z6) x≤140737488351232:=hz;have hk':x.length+vn (szT z6) x+2<k+1:=hk;have hB':m+16*((x.length+vn (szT z6) x:Nat):Int)≤1152921504606846976:=hB;refine (vl7 k x m).trans ?_
 refine (wz (α:=Int×Int×List Int) (L:=w92 k _ _) (X:=fun v=>some (v.1,v.2.2)) (fun a i m=>(m,i,a)) (f:=mkE z6) (s:=szT z6) (B:=1152921504606846976) (P:=fun y=>szT z6 y+1<k∧szT z6 y≤140737488351232) (fun n a i m x hi hx hP h0 hB hn hlt hin hw=> ?_) (fun n a m=> ?_) (fun x m=> ?_) (fun y hy=> ?_) (by omega) (by omega) h0 hB')
 · have hd:decide ((i:Int)<(a.length:Int))=true:=decide_eq_true hlt;have e1:mkE z6 x m=((m,(m+1),(mkT (.l 3 (.i .i64)) x.2.2 ((m+1)+1)).1),(mkT (.l 3 (.i .i64)) x.2.2 ((m+1)+1)).2):=rfl;have es:szT z6 x=(0+(0+szT (.l 3 (.i .i64)) x.2.2)):=rfl;have b0:=wi1 (.l 3 (.i .i64)) x.2.2 ((m+1)+1) rfl;obtain ⟨hP1,hP2⟩:=hP;rw [es] at hP1 hP2 hB;have g0:=zv2 k x.2.2 ((m+1)+1) (by omega) (by omega) (by omega) (by omega)
   have w0:i64.wrap (m+1)=m+1:=y9 (by omega) (by omega)
   have w1:i64.wrap ((m+1)+1)=(m+1)+1:=y9 (by omega) (by omega)
   show jh1 k _ _ _ _=_
   simp only [jh1,hd,if_true,if_pos hn,if_pos hlt,List.length_set,hin,v7 hx,j53 hi,List.set_set,hw,e1,w0,w1,g0,Option.bind_some]
   try rfl
 · show jh1 k _ _ _ _=_
   simp only [jh1];rw [if_neg (by simp)]
 · have:=vb2 z6 x m rfl
   have hl:Sh.leafs z6≤16:=by decide
   omega
 · have:=xc (f:=szT z6) hy
   constructor<;>omega
theorem x78 (k:Nat) (x:(Int×(List I4)×(List I3)×Int×Int×Int×Int×Int×(List I3)×Int)×(Int×Int×Int×List (I2×(List I2)×List (Int×(List Int)×List Int)))×(List Int)×(List Int)×(List I6)×(List (List I6))×(List I4)×(List Int)×(List (Int×Int×List Int))×(List I4)×Int×Int×(List I6)×List I4) (m:Int) (h0:0≤m) (hB:m+16*szT xi x≤1152921504606846976) (hz:szT xi x≤140737488351232) (hk:szT xi x+5<k):wr4 k x m=(some ((mkT xi x m).2,(((mkT xi x m).1).1).2.1,(((mkT xi x m).1).1).2.2.1,(((mkT xi x m).1).1).2.2.2.2.2.2.2.2.1,(((mkT xi x m).1).2.1).2.2.2,((mkT xi x m).1).2.2.1,((mkT xi x m).1).2.2.2.1,((mkT xi x m).1).2.2.2.2.1,((mkT xi x m).1).2.2.2.2.2.1,((mkT xi x m).1).2.2.2.2.2.2.1,((mkT xi x m).1).2.2.2.2.2.2.2.1,((mkT xi x m).1).2.2.2.2.2.2.2.2.1,((mkT xi x m).1).2.2.2.2.2.2.2.2.2.1,((mkT xi x m).1).2.2.2.2.2.2.2.2.2.2.2.2.1,((mkT xi x m).1).2.2.2.2.2.2.2.2.2.2.2.2.2):Option (Int×(List I4)×(List I3)×(List I3)×(List (I2×(List I2)×List (Int×(List Int)×List Int)))×(List Int)×(List Int)×(List I6)×(List (List I6))×(List I4)×(List Int)×(List (Int×Int×List Int))×(List I4)×(List I6)×List I4)):=by
 obtain ⟨k,rfl⟩:=kp (by omega:0<k)
 have es:szT xi x=(szT xd2 x.1+(szT j4 x.2.1+(szT xw2 x.2.2.1+(szT (.l 3 (.i .i64)) x.2.2.2.1+(szT (.l 159 sI6) x.2.2.2.2.1+(szT (.l 140 vg) x.2.2.2.2.2.1+(szT (.l 85 sI4) x.2.2.2.2.2.2.1+(szT (.l 3 (.i .i64)) x.2.2.2.2.2.2.2.1+(szT (.l 205 z6) x.2.2.2.2.2.2.2.2.1+(szT (.l 86 sI4) x.2.2.2.2.2.2.2.2.2.1+(0+(0+(szT (.l 66 sI6) x.2.2.2.2.2.2.2.2.2.2.2.2.1+szT (.l 146 sI4) x.2.2.2.2.2.2.2.2.2.2.2.2.2))))))))))))):=rfl
 rw [es] at hB hz hk;have b0:=wi1 xd2 x.1 m rfl;have b1:=wi1 j4 x.2.1 ((mkT xd2 x.1 m).2) rfl;have b2:=wi1 xw2 x.2.2.1 ((mkT j4 x.2.1 (mkT xd2 x.1 m).2).2) rfl;have b3:=wi1 (.l 3 (.i .i64)) x.2.2.2.1 ((mkT xw2 x.2.2.1 (mkT j4 x.2.1 (mkT xd2 x.1 m).2).2).2) rfl;have b4:=wi1 (.l 159 sI6) x.2.2.2.2.1 ((mkT (.l 3 (.i .i64)) x.2.2.2.1 (mkT xw2 x.2.2.1 (mkT j4 x.2.1 (mkT xd2 x.1 m).2).2).2).2) rfl
 have b5:=wi1 (.l 140 vg) x.2.2.2.2.2.1 ((mkT (.l 159 sI6) x.2.2.2.2.1 (mkT (.l 3 (.i .i64)) x.2.2.2.1 (mkT xw2 x.2.2.1 (mkT j4 x.2.1 (mkT xd2 x.1 m).2).2).2).2).2) rfl;have b6:=wi1 (.l 85 sI4) x.2.2.2.2.2.2.1 ((mkT (.l 140 vg) x.2.2.2.2.2.1 (mkT (.l 159 sI6) x.2.2.2.2.1 (mkT (.l 3 (.i .i64)) x.2.2.2.1 (mkT xw2 x.2.2.1 (mkT j4 x.2.1 (mkT xd2 x.1 m).2).2).2).2).2).2) rfl
 have b7:=wi1 (.l 3 (.i .i64)) x.2.2.2.2.2.2.2.1 ((mkT (.l 85 sI4) x.2.2.2.2.2.2.1 (mkT (.l 140 vg) x.2.2.2.2.2.1 (mkT (.l 159 sI6) x.2.2.2.2.1 (mkT (.l 3 (.i .i64)) x.2.2.2.1 (mkT xw2 x.2.2.1 (mkT j4 x.2.1 (mkT xd2 x.1 m).2).2).2).2).2).2).2) rfl;have b8:=wi1 (.l 205 z6) x.2.2.2.2.2.2.2.2.1 ((mkT (.l 3 (.i .i64)) x.2.2.2.2.2.2.2.1 (mkT (.l 85 sI4) x.2.2.2.2.2.2.1 (mkT (.l 140 vg) x.2.2.2.2.2.1 (mkT (.l 159 sI6) x.2.2.2.2.1 (mkT (.l 3 (.i .i64)) x.2.2.2.1 (mkT xw2 x.2.2.1 (mkT j4 x.2.1 (mkT xd2 x.1 m).2).2).2).2).2).2).2).2) rfl
 have b9:=wi1 (.l 86 sI4) x.2.2.2.2.2.2.2.2.2.1 ((mkT (.l 205 z6) x.2.2.2.2.2.2.2.2.1 (mkT (.l 3 (.i .i64)) x.2.2.2.2.2.2.2.1 (mkT (.l 85 sI4) x.2.2.2.2.2.2.1 (mkT (.l 140 vg) x.2.2.2.2.2.1 (mkT (.l 159 sI6) x.2.2.2.2.1 (mkT (.l 3 (.i .i64)) x.2.2.2.1 (mkT xw2 x.2.2.1 (mkT j4 x.2.1 (mkT xd2 x.1 m).2).2).2).2).2).2).2).2).2) rfl;have b10:=wi1 (.l 66 sI6) x.2.2.2.2.2.2.2.2.2.2.2.2.1 ((mkT (.l 86 sI4) x.2.2.2.2.2.2.2.2.2.1 (mkT (.l 205 z6) x.2.2.2.2.2.2.2.2.1 (mkT (.l 3 (.i .i64)) x.2.2.2.2.2.2.2.1 (mkT (.l 85 sI4) x.2.2.2.2.2.2.1 (mkT (.l 140 vg) x.2.2.2.2.2.1 (mkT (.l 159 sI6) x.2.2.2.2.1 (mkT (.l 3 (.i .i64)) x.2.2.2.1 (mkT xw2 x.2.2.1 (mkT j4 x.2.1 (mkT xd2 x.1 m).2).2).2).2).2).2).2).2).2).2) rfl
 have b11:=wi1 (.l 146 sI4) x.2.2.2.2.2.2.2.2.2.2.2.2.2 ((mkT (.l 66 sI6) x.2.2.2.2.2.2.2.2.2.2.2.2.1 (mkT (.l 86 sI4) x.2.2.2.2.2.2.2.2.2.1 (mkT (.l 205 z6) x.2.2.2.2.2.2.2.2.1 (mkT (.l 3 (.i .i64)) x.2.2.2.2.2.2.2.1 (mkT (.l 85 sI4) x.2.2.2.2.2.2.1 (mkT (.l 140 vg) x.2.2.2.2.2.1 (mkT (.l 159 sI6) x.2.2.2.2.1 (mkT (.l 3 (.i .i64)) x.2.2.2.1 (mkT xw2 x.2.2.1 (mkT j4 x.2.1 (mkT xd2 x.1 m).2).2).2).2).2).2).2).2).2).2).2) rfl
 have g0:=wja k x.1 m (by omega) (by omega) (by omega) (by omega)
 have g1:=yk7 k x.2.1 ((mkT xd2 x.1 m).2) (by omega) (by omega) (by omega) (by omega)
 have g2:=vca k x.2.2.1 ((mkT j4 x.2.1 (mkT xd2 x.1 m).2).2) (by omega) (by omega) (by omega) (by omega)
 have g3:=zv2 k x.2.2.2.1 ((mkT xw2 x.2.2.1 (mkT j4 x.2.1 (mkT xd2 x.1 m).2).2).2) (by omega) (by omega) (by omega) (by omega)
 have g4:=zv6 k x.2.2.2.2.1 ((mkT (.l 3 (.i .i64)) x.2.2.2.1 (mkT xw2 x.2.2.1 (mkT j4 x.2.1 (mkT xd2 x.1 m).2).2).2).2) (by omega) (by omega) (by omega) (by omega)
 have g5:=xu7 k x.2.2.2.2.2.1 ((mkT (.l 159 sI6) x.2.2.2.2.1 (mkT (.l 3 (.i .i64)) x.2.2.2.1 (mkT xw2 x.2.2.1 (mkT j4 x.2.1 (mkT xd2 x.1 m).2).2).2).2).2) (by omega) (by omega) (by omega) (by omega)
 have g6:=zm8 k x.2.2.2.2.2.2.1 ((mkT (.l 140 vg) x.2.2.2.2.2.1 (mkT (.l 159 sI6) x.2.2.2.2.1 (mkT (.l 3 (.i .i64)) x.2.2.2.1 (mkT xw2 x.2.2.1 (mkT j4 x.2.1 (mkT xd2 x.1 m).2).2).2).2).2).2) (by omega) (by omega) (by omega) (by omega)
 have g7:=zv2 k x.2.2.2.2.2.2.2.1 ((mkT (.l 85 sI4) x.2.2.2.2.2.2.1 (mkT (.l 140 vg) x.2.2.2.2.2.1 (mkT (.l 159 sI6) x.2.2.2.2.1 (mkT (.l 3 (.i .i64)) x.2.2.2.1 (mkT xw2 x.2.2.1 (mkT j4 x.2.1 (mkT xd2 x.1 m).2).2).2).2).2).2).2) (by omega) (by omega) (by omega) (by omega)
 have g8:=yg7 k x.2.2.2.2.2.2.2.2.1 ((mkT (.l 3 (.i .i64)) x.2.2.2.2.2.2.2.1 (mkT (.l 85 sI4) x.2.2.2.2.2.2.1 (mkT (.l 140 vg) x.2.2.2.2.2.1 (mkT (.l 159 sI6) x.2.2.2.2.1 (mkT (.l 3 (.i .i64)) x.2.2.2.1 (mkT xw2 x.2.2.1 (mkT j4 x.2.1 (mkT xd2 x.1 m).2).2).2).2).2).2).2).2) (by omega) (by omega) (by omega) (by omega)
 have g9:=xs7 k x.2.2.2.2.2.2.2.2.2.1 ((mkT (.l 205 z6) x.2.2.2.2.2.2.2.2.1 (mkT (.l 3 (.i .i64)) x.2.2.2.2.2.2.2.1 (mkT (.l 85 sI4) x.2.2.2.2.2.2.1 (mkT (.l 140 vg) x.2.2.2.2.2.1 (mkT (.l 159 sI6) x.2.2.2.2.1 (mkT (.l 3 (.i .i64)) x.2.2.2.1 (mkT xw2 x.2.2.1 (mkT j4 x.2.1 (mkT xd2 x.1 m).2).2).2).2).2).2).2).2).2) (by omega) (by omega) (by omega) (by omega)
 have g10:=jv4 k x.2.2.2.2.2.2.2.2.2.2.2.2.1 ((mkT (.l 86 sI4) x.2.2.2.2.2.2.2.2.2.1 (mkT (.l 205 z6) x.2.2.2.2.2.2.2.2.1 (mkT (.l 3 (.i .i64)) x.2.2.2.2.2.2.2.1 (mkT (.l 85 sI4) x.2.2.2.2.2.2.1 (mkT (.l 140 vg) x.2.2.2.2.2.1 (mkT (.l 159 sI6) x.2.2.2.2.1 (mkT (.l 3 (.i .i64)) x.2.2.2.1 (mkT xw2 x.2.2.1 (mkT j4 x.2.1 (mkT xd2 x.1 m).2).2).2).2).2).2).2).2).2).2) (by omega) (by omega) (by omega) (by omega)
 have g11:=yb6 k x.2.2.2.2.2.2.2.2.2.2.2.2.2 ((mkT (.l 66 sI6) x.2.2.2.2.2.2.2.2.2.2.2.2.1 (mkT (.l 86 sI4) x.2.2.2.2.2.2.2.2.2.1 (mkT (.l 205 z6) x.2.2.2.2.2.2.2.2.1 (mkT (.l 3 (.i .i64)) x.2.2.2.2.2.2.2.1 (mkT (.l 85 sI4) x.2.2.2.2.2.2.1 (mkT (.l 140 vg) x.2.2.2.2.2.1 (mkT (.l 159 sI6) x.2.2.2.2.1 (mkT (.l 3 (.i .i64)) x.2.2.2.1 (mkT xw2 x.2.2.1 (mkT j4 x.2.1 (mkT xd2 x.1 m).2).2).2).2).2).2).2).2).2).2).2) (by omega) (by omega) (by omega) (by omega)
 rw [yr8];simp only [g0,g1,g2,g3,g4,g5,g6,g7,g8,g9,g10,g11,Option.bind_some];rfl
theorem z38 (k:Nat) (x:List I6) (left:Int) (hr:va 140737488351232 (.l 211 sI6) x) (hk:szT (.l 211 sI6) x+1<k) (h0:0≤left) (h1:left≤1048576):jw3 k x left=some (szR (szT (.l 211 sI6) x) left):=by
 obtain ⟨k,rfl⟩:=kp (by omega:0<k)
 have hl:x.length≤140737488351232:=(vd hr).1;have hz:szT (.l 211 sI6) x=x.length:=x23 (e:=211) (sh:=sI6) rfl x;exact (zw7 k x left).trans ((va3 hl h0 h1).trans (congrArg (fun n=>some (szR n left)) hz.symm))
theorem v39 (k:Nat) (x:List I4) (left:Int) (hr:va 140737488351232 (.l 81 sI4) x) (hk:szT (.l 81 sI4) x+1<k) (h0:0≤left) (h1:left≤1048576):wh5 k x left=some (szR (szT (.l 81 sI4) x) left):=by
 obtain ⟨k,rfl⟩:=kp (by omega:0<k)
 have hl:x.length≤140737488351232:=(vd hr).1;have hz:szT (.l 81 sI4) x=x.length:=x23 (e:=81) (sh:=sI4) rfl x;exact (zd9 k x left).trans ((va3 hl h0 h1).trans (congrArg (fun n=>some (szR n left)) hz.symm))
theorem zca (k:Nat) (x:List I4) (left:Int) (hr:va 140737488351232 (.l 79 sI4) x) (hk:szT (.l 79 sI4) x+1<k) (h0:0≤left) (h1:left≤1048576):zg6 k x left=some (szR (szT (.l 79 sI4) x) left):=by
 obtain ⟨k,rfl⟩:=kp (by omega:0<k)
 have hl:x.length≤140737488351232:=(vd hr).1;have hz:szT (.l 79 sI4) x=x.length:=x23 (e:=79) (sh:=sI4) rfl x;exact (w9a k x left).trans ((va3 hl h0 h1).trans (congrArg (fun n=>some (szR n left)) hz.symm))
theorem ye4 (k:Nat) (x:List Int) (left:Int) (hr:va 140737488351232 (.l 3 (.i .i64)) x) (hk:szT (.l 3 (.i .i64)) x+1<k) (h0:0≤left) (h1:left≤1048576):x73 k x left=some (szR (szT (.l 3 (.i .i64)) x) left):=by
 obtain ⟨k,rfl⟩:=kp (by omega:0<k)
 have hl:x.length≤140737488351232:=(vd hr).1;have hz:szT (.l 3 (.i .i64)) x=x.length:=x23 (e:=3) (sh:=(.i .i64)) rfl x;exact (jta k x left).trans ((va3 hl h0 h1).trans (congrArg (fun n=>some (szR n left)) hz.symm))
theorem jbb (k:Nat) (x:List Int) (left:Int) (hr:va 140737488351232 xw2 x) (hk:szT xw2 x+2<k) (h0:0≤left) (h1:left≤1048576):xf8 k x left=some (szR (szT xw2 x) left):=by
 obtain ⟨k,rfl⟩:=kp (by omega:0<k)
 have hk':szT (.l 3 (.i .i64)) x+2<k+1:=hk;have r0:va 140737488351232 (.l 3 (.i .i64)) x:=hr;have ht:szT xw2 x=szT (.l 3 (.i .i64)) x+0:=by
  show szT (.l 3 (.i .i64)) x=_
  omega
 rw [yhb,ht];exact v51 (ye4 k _ _ r0 (by omega) h0 h1) h0 h1 fun p1 q1 w1=>y63 q1
theorem v86 (k:Nat) (x:List I6) (left:Int) (hr:va 140737488351232 (.l 215 sI6) x) (hk:szT (.l 215 sI6) x+1<k) (h0:0≤left) (h1:left≤1048576):vi3 k x left=some (szR (szT (.l 215 sI6) x) left):=by
 obtain ⟨k,rfl⟩:=kp (by omega:0<k)
 have hl:x.length≤140737488351232:=(vd hr).1;have hz:szT (.l 215 sI6) x=x.length:=x23 (e:=215) (sh:=sI6) rfl x;exact (vl8 k x left).trans ((va3 hl h0 h1).trans (congrArg (fun n=>some (szR n left)) hz.symm))
theorem yt9 (k:Nat) (x:List I2) (left:Int) (hr:va 140737488351232 (.l 357 sI2) x) (hk:szT (.l 357 sI2) x+1<k) (h0:0≤left) (h1:left≤1048576):zd6 k x left=some (szR (szT (.l 357 sI2) x) left):=by
 obtain ⟨k,rfl⟩:=kp (by omega:0<k)
 have hl:x.length≤140737488351232:=(vd hr).1;have hz:szT (.l 357 sI2) x=x.length:=x23 (e:=357) (sh:=sI2) rfl x;exact (v6a k x left).trans ((va3 hl h0 h1).trans (congrArg (fun n=>some (szR n left)) hz.symm))
theorem v7a (k:Nat) (x:Int×(List Int)×List Int) (left:Int) (hr:va 140737488351232 z7 x) (hk:szT z7 x+2<k) (h0:0≤left) (h1:left≤1048576):wx4 k x left=some (szR (szT z7 x) left):=by
 obtain ⟨k,rfl⟩:=kp (by omega:0<k)
 have hk':(szT (.i .i64) x.1+(szT (.l 3 (.i .i64)) x.2.1+szT (.l 3 (.i .i64)) x.2.2))+2<k+1:=hk;obtain ⟨r0,r1,r2⟩:va 140737488351232 (.i .i64) x.1∧va 140737488351232 (.l 3 (.i .i64)) x.2.1∧va 140737488351232 (.l 3 (.i .i64)) x.2.2:=hr;have f0:szT (.i .i64) x.1=0:=ym _ _ rfl;have ht:szT z7 x=szT (.l 3 (.i .i64)) x.2.1+(szT (.l 3 (.i .i64)) x.2.2+0):=by
  show (szT (.i .i64) x.1+(szT (.l 3 (.i .i64)) x.2.1+szT (.l 3 (.i .i64)) x.2.2))=_
  omega
 rw [vea,ht];exact v51 (ye4 k _ _ r1 (by omega) h0 h1) h0 h1 fun p1 q1 w1=>v51 (ye4 k _ _ r2 (by omega) q1 w1) q1 w1 fun p2 q2 w2=>y63 q2
theorem vl9 (k:Nat) (x:List (Int×(List Int)×List Int)) (left:Int) (hr:va 140737488351232 (.l 355 z7) x) (hk:szT (.l 355 z7) x+3<k) (h0:0≤left) (h1:left≤1048576):jd4 k x left=some (szR (szT (.l 355 z7) x) left):=by
 obtain ⟨k,rfl⟩:=kp (by omega:0<k)
 obtain ⟨hl,hr⟩:x.length≤140737488351232∧∀y ∈ x,va 140737488351232 z7 y:=vd hr;have hk':x.length+vn (szT z7) x+3<k+1:=hk;have hw:0≤left-(x.length:Int)→i64.wrap (left-(x.length:Int))=left-x.length:=fun _=>y9 (by omega) (by omega)
 refine (va9 k x left).trans (v67 (α:=Int×(List Int)×List Int) (s:=szT z7) hl h0 h1 fun hp=> ?_)
 rw [hw hp]
 have:=y34 (L:=w63 k _ _ x) (f:=fun y p=>wx4 k y p) (fun _ _=>rfl) (neg:=some (-1)) (fin:=fun p=>some p) (fun _ _ _=>rfl) (fun _=>rfl) (s:=szT z7) (a:=x) (fun y hy p q0 q1=>v7a k y p (hr y hy) (by have:=xc (f:=szT z7) hy;omega) q0 q1) hl x.length k 0 (left-x.length) (by omega) (by omega) (by omega) (by omega)
 exact this
theorem w2a (k:Nat) (x:I2×(List I2)×List (Int×(List Int)×List Int)) (left:Int) (hr:va 140737488351232 vj x) (hk:szT vj x+4<k) (h0:0≤left) (h1:left≤1048576):vz4 k x left=some (szR (szT vj x) left):=by
 obtain ⟨k,rfl⟩:=kp (by omega:0<k)
 have hk':(szT sI2 x.1+(szT (.l 357 sI2) x.2.1+szT (.l 355 z7) x.2.2))+4<k+1:=hk;obtain ⟨r0,r1,r2⟩:va 140737488351232 sI2 x.1∧va 140737488351232 (.l 357 sI2) x.2.1∧va 140737488351232 (.l 355 z7) x.2.2:=hr;have f0:szT sI2 x.1=0:=ym _ _ rfl;have ht:szT vj x=szT (.l 357 sI2) x.2.1+(szT (.l 355 z7) x.2.2+0):=by
  show (szT sI2 x.1+(szT (.l 357 sI2) x.2.1+szT (.l 355 z7) x.2.2))=_
  omega
 rw [zha,ht];exact v51 (yt9 k _ _ r1 (by omega) h0 h1) h0 h1 fun p1 q1 w1=>v51 (vl9 k _ _ r2 (by omega) q1 w1) q1 w1 fun p2 q2 w2=>y63 q2
theorem x89 (k:Nat) (x:List (I2×(List I2)×List (Int×(List Int)×List Int))) (left:Int) (hr:va 140737488351232 (.l 270 vj) x) (hk:szT (.l 270 vj) x+5<k) (h0:0≤left) (h1:left≤1048576):wb4 k x left=some (szR (szT (.l 270 vj) x) left):=by
 obtain ⟨k,rfl⟩:=kp (by omega:0<k)
 obtain ⟨hl,hr⟩:x.length≤140737488351232∧∀y ∈ x,va 140737488351232 vj y:=vd hr;have hk':x.length+vn (szT vj) x+5<k+1:=hk;have hw:0≤left-(x.length:Int)→i64.wrap (left-(x.length:Int))=left-x.length:=fun _=>y9 (by omega) (by omega)
 refine (z69 k x left).trans (v67 (α:=I2×(List I2)×List (Int×(List Int)×List Int)) (s:=szT vj) hl h0 h1 fun hp=> ?_)
 rw [hw hp]
 have:=y34 (L:=v73 k _ _ x) (f:=fun y p=>vz4 k y p) (fun _ _=>rfl) (neg:=some (-1)) (fin:=fun p=>some p) (fun _ _ _=>rfl) (fun _=>rfl) (s:=szT vj) (a:=x) (fun y hy p q0 q1=>w2a k y p (hr y hy) (by have:=xc (f:=szT vj) hy;omega) q0 q1) hl x.length k 0 (left-x.length) (by omega) (by omega) (by omega) (by omega)
 exact this
theorem zu8 (k:Nat) (x:Int×Int×Int×List (I2×(List I2)×List (Int×(List Int)×List Int))) (left:Int) (hr:va 140737488351232 y11 x) (hk:szT y11 x+6<k) (h0:0≤left) (h1:left≤1048576):xr4 k x left=some (szR (szT y11 x) left):=by
 obtain ⟨k,rfl⟩:=kp (by omega:0<k)
 have hk':(szT (.i .i64) x.1+(szT (.i .i64) x.2.1+(szT (.i .i64) x.2.2.1+szT (.l 270 vj) x.2.2.2)))+6<k+1:=hk;obtain ⟨r0,r1,r2,r3⟩:va 140737488351232 (.i .i64) x.1∧va 140737488351232 (.i .i64) x.2.1∧va 140737488351232 (.i .i64) x.2.2.1∧va 140737488351232 (.l 270 vj) x.2.2.2:=hr;have f0:szT (.i .i64) x.1=0:=ym _ _ rfl;have f1:szT (.i .i64) x.2.1=0:=ym _ _ rfl;have f2:szT (.i .i64) x.2.2.1=0:=ym _ _ rfl
 have ht:szT y11 x=szT (.l 270 vj) x.2.2.2+0:=by
  show (szT (.i .i64) x.1+(szT (.i .i64) x.2.1+(szT (.i .i64) x.2.2.1+szT (.l 270 vj) x.2.2.2)))=_
  omega
 rw [yl8,ht];exact v51 (x89 k _ _ r3 (by omega) h0 h1) h0 h1 fun p1 q1 w1=>y63 q1
theorem yw9 (k:Nat) (x:List I6) (left:Int) (hr:va 140737488351232 xl x) (hk:szT xl x+2<k) (h0:0≤left) (h1:left≤1048576):xx4 k x left=some (szR (szT xl x) left):=by
 obtain ⟨k,rfl⟩:=kp (by omega:0<k)
 have hk':szT (.l 215 sI6) x+2<k+1:=hk;have r0:va 140737488351232 (.l 215 sI6) x:=hr;have ht:szT xl x=szT (.l 215 sI6) x+0:=by
  show szT (.l 215 sI6) x=_
  omega
 rw [zx9,ht];exact v51 (v86 k _ _ r0 (by omega) h0 h1) h0 h1 fun p1 q1 w1=>y63 q1
theorem we9 (k:Nat) (x:List (List I6)) (left:Int) (hr:va 140737488351232 (.l 177 xl) x) (hk:szT (.l 177 xl) x+3<k) (h0:0≤left) (h1:left≤1048576):xe4 k x left=some (szR (szT (.l 177 xl) x) left):=by
 obtain ⟨k,rfl⟩:=kp (by omega:0<k)
 obtain ⟨hl,hr⟩:x.length≤140737488351232∧∀y ∈ x,va 140737488351232 xl y:=vd hr;have hk':x.length+vn (szT xl) x+3<k+1:=hk;have hw:0≤left-(x.length:Int)→i64.wrap (left-(x.length:Int))=left-x.length:=fun _=>y9 (by omega) (by omega)
 refine (x29 k x left).trans (v67 (α:=List I6) (s:=szT xl) hl h0 h1 fun hp=> ?_)
 rw [hw hp]
 have:=y34 (L:=v83 k _ _ x) (f:=fun y p=>xx4 k y p) (fun _ _=>rfl) (neg:=some (-1)) (fin:=fun p=>some p) (fun _ _ _=>rfl) (fun _=>rfl) (s:=szT xl) (a:=x) (fun y hy p q0 q1=>yw9 k y p (hr y hy) (by have:=xc (f:=szT xl) hy;omega) q0 q1) hl x.length k 0 (left-x.length) (by omega) (by omega) (by omega) (by omega)
 exact this
theorem yda (k:Nat) (x:List I4) (left:Int) (hr:va 140737488351232 (.l 217 sI4) x) (hk:szT (.l 217 sI4) x+1<k) (h0:0≤left) (h1:left≤1048576):za6 k x left=some (szR (szT (.l 217 sI4) x) left):=by
 obtain ⟨k,rfl⟩:=kp (by omega:0<k)
 have hl:x.length≤140737488351232:=(vd hr).1;have hz:szT (.l 217 sI4) x=x.length:=x23 (e:=217) (sh:=sI4) rfl x;exact (wz9 k x left).trans ((va3 hl h0 h1).trans (congrArg (fun n=>some (szR n left)) hz.symm))
theorem jqa (k:Nat) (x:List I4) (left:Int) (hr:va 140737488351232 (.l 273 sI4) x) (hk:szT (.l 273 sI4) x+1<k) (h0:0≤left) (h1:left≤1048576):zm7 k x left=some (szR (szT (.l 273 sI4) x) left):=by
 obtain ⟨k,rfl⟩:=kp (by omega:0<k)
 have hl:x.length≤140737488351232:=(vd hr).1;have hz:szT (.l 273 sI4) x=x.length:=x23 (e:=273) (sh:=sI4) rfl x;exact (xua k x left).trans ((va3 hl h0 h1).trans (congrArg (fun n=>some (szR n left)) hz.symm))
theorem ws9 (k:Nat) (x:List I3) (left:Int) (hr:va 140737488351232 (.l 275 sI3) x) (hk:szT (.l 275 sI3) x+1<k) (h0:0≤left) (h1:left≤1048576):wj6 k x left=some (szR (szT (.l 275 sI3) x) left):=by
 obtain ⟨k,rfl⟩:=kp (by omega:0<k)
 have hl:x.length≤140737488351232:=(vd hr).1;have hz:szT (.l 275 sI3) x=x.length:=x23 (e:=275) (sh:=sI3) rfl x;exact (via k x left).trans ((va3 hl h0 h1).trans (congrArg (fun n=>some (szR n left)) hz.symm))
theorem wo9 (k:Nat) (x:List I3) (left:Int) (hr:va 140737488351232 (.l 279 yk) x) (hk:szT (.l 279 yk) x+1<k) (h0:0≤left) (h1:left≤1048576):ve6 k x left=some (szR (szT (.l 279 yk) x) left):=by
 obtain ⟨k,rfl⟩:=kp (by omega:0<k)
 have hl:x.length≤140737488351232:=(vd hr).1;have hz:szT (.l 279 yk) x=x.length:=x23 (e:=279) (sh:=yk) rfl x;exact (x4a k x left).trans ((va3 hl h0 h1).trans (congrArg (fun n=>some (szR n left)) hz.symm))
theorem x8b (k:Nat) (x:Int×(List I4)×(List I3)×Int×Int×Int×Int×Int×(List I3)×Int) (left:Int) (hr:va 140737488351232 ve4 x) (hk:szT ve4 x+2<k) (h0:0≤left) (h1:left≤1048576):x98 k x left=some (szR (szT ve4 x) left):=by
 obtain ⟨k,rfl⟩:=kp (by omega:0<k)
 have hk':(szT (.i .i64) x.1+(szT (.l 273 sI4) x.2.1+(szT (.l 275 sI3) x.2.2.1+(szT (.i .i64) x.2.2.2.1+(szT (.i .i64) x.2.2.2.2.1+(szT (.i .i64) x.2.2.2.2.2.1+(szT (.i .i64) x.2.2.2.2.2.2.1+(szT (.i .i64) x.2.2.2.2.2.2.2.1+(szT (.l 279 yk) x.2.2.2.2.2.2.2.2.1+szT (.i .i64) x.2.2.2.2.2.2.2.2.2)))))))))+2<k+1:=hk;obtain ⟨r0,r1,r2,r3,r4,r5,r6,r7,r8,r9⟩:va 140737488351232 (.i .i64) x.1∧va 140737488351232 (.l 273 sI4) x.2.1∧va 140737488351232 (.l 275 sI3) x.2.2.1∧va 140737488351232 (.i .i64) x.2.2.2.1∧va 140737488351232 (.i .i64) x.2.2.2.2.1∧va 140737488351232 (.i .i64) x.2.2.2.2.2.1∧va 140737488351232 (.i .i64) x.2.2.2.2.2.2.1∧va 140737488351232 (.i .i64) x.2.2.2.2.2.2.2.1∧va 140737488351232 (.l 279 yk) x.2.2.2.2.2.2.2.2.1∧va 140737488351232 (.i .i64) x.2.2.2.2.2.2.2.2.2:=hr
 have f0:szT (.i .i64) x.1=0:=ym _ _ rfl;have f3:szT (.i .i64) x.2.2.2.1=0:=ym _ _ rfl;have f4:szT (.i .i64) x.2.2.2.2.1=0:=ym _ _ rfl;have f5:szT (.i .i64) x.2.2.2.2.2.1=0:=ym _ _ rfl;have f6:szT (.i .i64) x.2.2.2.2.2.2.1=0:=ym _ _ rfl;have f7:szT (.i .i64) x.2.2.2.2.2.2.2.1=0:=ym _ _ rfl;have f9:szT (.i .i64) x.2.2.2.2.2.2.2.2.2=0:=ym _ _ rfl;have ht:szT ve4 x=szT (.l 273 sI4) x.2.1+(szT (.l 275 sI3) x.2.2.1+(szT (.l 279 yk) x.2.2.2.2.2.2.2.2.1+0)):=by
  show (szT (.i .i64) x.1+(szT (.l 273 sI4) x.2.1+(szT (.l 275 sI3) x.2.2.1+(szT (.i .i64) x.2.2.2.1+(szT (.i .i64) x.2.2.2.2.1+(szT (.i .i64) x.2.2.2.2.2.1+(szT (.i .i64) x.2.2.2.2.2.2.1+(szT (.i .i64) x.2.2.2.2.2.2.2.1+(szT (.l 279 yk) x.2.2.2.2.2.2.2.2.1+szT (.i .i64) x.2.2.2.2.2.2.2.2.2)))))))))=_
  omega
 rw [y9b,ht];exact v51 (jqa k _ _ r1 (by omega) h0 h1) h0 h1 fun p1 q1 w1=>v51 (ws9 k _ _ r2 (by omega) q1 w1) q1 w1 fun p2 q2 w2=>v51 (wo9 k _ _ r8 (by omega) q2 w2) q2 w2 fun p3 q3 w3=>y63 q3
theorem z59 (k:Nat) (x:Int×Int×List Int) (left:Int) (hr:va 140737488351232 z6 x) (hk:szT z6 x+2<k) (h0:0≤left) (h1:left≤1048576):jb4 k x left=some (szR (szT z6 x) left):=by
 obtain ⟨k,rfl⟩:=kp (by omega:0<k)
 have hk':(szT (.i .i64) x.1+(szT (.i .i64) x.2.1+szT (.l 3 (.i .i64)) x.2.2))+2<k+1:=hk;obtain ⟨r0,r1,r2⟩:va 140737488351232 (.i .i64) x.1∧va 140737488351232 (.i .i64) x.2.1∧va 140737488351232 (.l 3 (.i .i64)) x.2.2:=hr;have f0:szT (.i .i64) x.1=0:=ym _ _ rfl;have f1:szT (.i .i64) x.2.1=0:=ym _ _ rfl;have ht:szT z6 x=szT (.l 3 (.i .i64)) x.2.2+0:=by
  show (szT (.i .i64) x.1+(szT (.i .i64) x.2.1+szT (.l 3 (.i .i64)) x.2.2))=_
  omega
 rw [zl9,ht];exact v51 (ye4 k _ _ r2 (by omega) h0 h1) h0 h1 fun p1 q1 w1=>y63 q1
theorem xj8 (k:Nat) (x:List (Int×Int×List Int)) (left:Int) (hr:va 140737488351232 (.l 180 z6) x) (hk:szT (.l 180 z6) x+3<k) (h0:0≤left) (h1:left≤1048576):xp3 k x left=some (szR (szT (.l 180 z6) x) left):=by
 obtain ⟨k,rfl⟩:=kp (by omega:0<k)
 obtain ⟨hl,hr⟩:x.length≤140737488351232∧∀y ∈ x,va 140737488351232 z6 y:=vd hr;have hk':x.length+vn (szT z6) x+3<k+1:=hk;have hw:0≤left-(x.length:Int)→i64.wrap (left-(x.length:Int))=left-x.length:=fun _=>y9 (by omega) (by omega)
 refine (zg8 k x left).trans (v67 (α:=Int×Int×List Int) (s:=szT z6) hl h0 h1 fun hp=> ?_)
 rw [hw hp]
 have:=y34 (L:=zs2 k _ _ x) (f:=fun y p=>jb4 k y p) (fun _ _=>rfl) (neg:=some (-1)) (fin:=fun p=>some p) (fun _ _ _=>rfl) (fun _=>rfl) (s:=szT z6) (a:=x) (fun y hy p q0 q1=>z59 k y p (hr y hy) (by have:=xc (f:=szT z6) hy;omega) q0 q1) hl x.length k 0 (left-x.length) (by omega) (by omega) (by omega) (by omega)
 exact this
theorem xja (k:Nat) (x:(Int×(List I4)×(List I3)×Int×Int×Int×Int×Int×(List I3)×Int)×(Int×Int×Int×List (I2×(List I2)×List (Int×(List Int)×List Int)))×(List Int)×(List Int)×(List I6)×(List (List I6))×(List I4)×(List Int)×(List (Int×Int×List Int))×(List I4)×Int×Int×(List I6)×List I4) (left:Int) (hr:va 140737488351232 jw x) (hk:szT jw x+7<k) (h0:0≤left) (h1:left≤1048576):xg6 k x left=some (szR (szT jw x) left):=by
 obtain ⟨k,rfl⟩:=kp (by omega:0<k)
 have hk':(szT ve4 x.1+(szT y11 x.2.1+(szT xw2 x.2.2.1+(szT (.l 3 (.i .i64)) x.2.2.2.1+(szT (.l 211 sI6) x.2.2.2.2.1+(szT (.l 177 xl) x.2.2.2.2.2.1+(szT (.l 79 sI4) x.2.2.2.2.2.2.1+(szT (.l 3 (.i .i64)) x.2.2.2.2.2.2.2.1+(szT (.l 180 z6) x.2.2.2.2.2.2.2.2.1+(szT (.l 81 sI4) x.2.2.2.2.2.2.2.2.2.1+(szT (.i .i64) x.2.2.2.2.2.2.2.2.2.2.1+(szT (.i .i64) x.2.2.2.2.2.2.2.2.2.2.2.1+(szT (.l 215 sI6) x.2.2.2.2.2.2.2.2.2.2.2.2.1+szT (.l 217 sI4) x.2.2.2.2.2.2.2.2.2.2.2.2.2)))))))))))))+7<k+1:=hk
 obtain ⟨r0,r1,r2,r3,r4,r5,r6,r7,r8,r9,r10,r11,r12,r13⟩:va 140737488351232 ve4 x.1∧va 140737488351232 y11 x.2.1∧va 140737488351232 xw2 x.2.2.1∧va 140737488351232 (.l 3 (.i .i64)) x.2.2.2.1∧va 140737488351232 (.l 211 sI6) x.2.2.2.2.1∧va 140737488351232 (.l 177 xl) x.2.2.2.2.2.1∧va 140737488351232 (.l 79 sI4) x.2.2.2.2.2.2.1∧va 140737488351232 (.l 3 (.i .i64)) x.2.2.2.2.2.2.2.1∧va 140737488351232 (.l 180 z6) x.2.2.2.2.2.2.2.2.1∧va 140737488351232 (.l 81 sI4) x.2.2.2.2.2.2.2.2.2.1∧va 140737488351232 (.i .i64) x.2.2.2.2.2.2.2.2.2.2.1∧va 140737488351232 (.i .i64) x.2.2.2.2.2.2.2.2.2.2.2.1∧va 140737488351232 (.l 215 sI6) x.2.2.2.2.2.2.2.2.2.2.2.2.1∧va 140737488351232 (.l 217 sI4) x.2.2.2.2.2.2.2.2.2.2.2.2.2:=hr
 have f10:szT (.i .i64) x.2.2.2.2.2.2.2.2.2.2.1=0:=ym _ _ rfl;have f11:szT (.i .i64) x.2.2.2.2.2.2.2.2.2.2.2.1=0:=ym _ _ rfl;have ht:szT jw x=szT ve4 x.1+(szT y11 x.2.1+(szT xw2 x.2.2.1+(szT (.l 3 (.i .i64)) x.2.2.2.1+(szT (.l 211 sI6) x.2.2.2.2.1+(szT (.l 177 xl) x.2.2.2.2.2.1+(szT (.l 79 sI4) x.2.2.2.2.2.2.1+(szT (.l 3 (.i .i64)) x.2.2.2.2.2.2.2.1+(szT (.l 180 z6) x.2.2.2.2.2.2.2.2.1+(szT (.l 81 sI4) x.2.2.2.2.2.2.2.2.2.1+(szT (.l 215 sI6) x.2.2.2.2.2.2.2.2.2.2.2.2.1+(szT (.l 217 sI4) x.2.2.2.2.2.2.2.2.2.2.2.2.2+0))))))))))):=by
  show (szT ve4 x.1+(szT y11 x.2.1+(szT xw2 x.2.2.1+(szT (.l 3 (.i .i64)) x.2.2.2.1+(szT (.l 211 sI6) x.2.2.2.2.1+(szT (.l 177 xl) x.2.2.2.2.2.1+(szT (.l 79 sI4) x.2.2.2.2.2.2.1+(szT (.l 3 (.i .i64)) x.2.2.2.2.2.2.2.1+(szT (.l 180 z6) x.2.2.2.2.2.2.2.2.1+(szT (.l 81 sI4) x.2.2.2.2.2.2.2.2.2.1+(szT (.i .i64) x.2.2.2.2.2.2.2.2.2.2.1+(szT (.i .i64) x.2.2.2.2.2.2.2.2.2.2.2.1+(szT (.l 215 sI6) x.2.2.2.2.2.2.2.2.2.2.2.2.1+szT (.l 217 sI4) x.2.2.2.2.2.2.2.2.2.2.2.2.2)))))))))))))=_
  omega
 rw [y8a,ht];exact v51 (x8b k _ _ r0 (by omega) h0 h1) h0 h1 fun p1 q1 w1=>v51 (zu8 k _ _ r1 (by omega) q1 w1) q1 w1 fun p2 q2 w2=>v51 (jbb k _ _ r2 (by omega) q2 w2) q2 w2 fun p3 q3 w3=>v51 (ye4 k _ _ r3 (by omega) q3 w3) q3 w3 fun p4 q4 w4=>v51 (z38 k _ _ r4 (by omega) q4 w4) q4 w4 fun p5 q5 w5=>v51 (we9 k _ _ r5 (by omega) q5 w5) q5 w5 fun p6 q6 w6=>v51 (zca k _ _ r6 (by omega) q6 w6) q6 w6 fun p7 q7 w7=>v51 (ye4 k _ _ r7 (by omega) q7 w7) q7 w7 fun p8 q8 w8=>v51 (xj8 k _ _ r8 (by omega) q8 w8) q8 w8 fun p9 q9 w9=>v51 (v39 k _ _ r9 (by omega) q9 w9) q9 w9 fun p10 q10 w10=>v51 (v86 k _ _ r12 (by omega) q10 w10) q10 w10 fun p11 q11 w11=>v51 (yda k _ _ r13 (by omega) q11 w11) q11 w11 fun p12 q12 w12=>y63 q12
theorem xi8 (k:Nat) (x:I6) (hz:szT sI6 x≤1048576) (hk:szT sI6 x+1<k):wi3 k x=some x:=by
 obtain ⟨k,rfl⟩:=kp (by omega:0<k)
 have hk':(szT (.i .i64) x.1+(szT (.i .i64) x.2.1+(szT (.i .i64) x.2.2.1+(szT (.i .i64) x.2.2.2.1+(szT (.i .i64) x.2.2.2.2.1+szT (.i .i64) x.2.2.2.2.2)))))+1<k+1:=hk;have hz':(szT (.i .i64) x.1+(szT (.i .i64) x.2.1+(szT (.i .i64) x.2.2.1+(szT (.i .i64) x.2.2.2.1+(szT (.i .i64) x.2.2.2.2.1+szT (.i .i64) x.2.2.2.2.2)))))≤1048576:=hz;exact x88 k x
theorem zq7 (k:Nat) (x:List I6) (hz:szT (.l 211 sI6) x≤1048576) (hk:szT (.l 211 sI6) x+2<k):zo2 k x=some x:=by
 obtain ⟨k,rfl⟩:=kp (by omega:0<k)
 have hk':x.length+vn (szT sI6) x+2<k+1:=hk;have hz':x.length+vn (szT sI6) x≤1048576:=hz;refine (vq7 k x).trans ?_
 rw [if_pos (beq_self_eq_true _),if_pos (by omega),if_pos (by simp;omega)]
 exact v71 (α:=Int×Int×Int×Int×Int×Int) (L:=xk2 k _ x) (f:=fun y=>wi3 k y) (fun _ _=>rfl) (a:=x) (fun y hy=>xi8 k y (by have:=xc (f:=szT sI6) hy;omega) (by have:=xc (f:=szT sI6) hy;omega)) (by omega) x.length k 0 _ (by omega) (by omega) (by simp) (by simp)
theorem jw9 (k:Nat) (x:I4) (hz:szT sI4 x≤1048576) (hk:szT sI4 x+1<k):x45 k x=some x:=by
 obtain ⟨k,rfl⟩:=kp (by omega:0<k)
 have hk':(szT (.i .i64) x.1+(szT (.i .i64) x.2.1+(szT (.i .i64) x.2.2.1+szT (.i .i64) x.2.2.2)))+1<k+1:=hk;have hz':(szT (.i .i64) x.1+(szT (.i .i64) x.2.1+(szT (.i .i64) x.2.2.1+szT (.i .i64) x.2.2.2)))≤1048576:=hz;exact ju9 k x
theorem xi9 (k:Nat) (x:List I4) (hz:szT (.l 81 sI4) x≤1048576) (hk:szT (.l 81 sI4) x+2<k):xc3 k x=some x:=by
 obtain ⟨k,rfl⟩:=kp (by omega:0<k)
 have hk':x.length+vn (szT sI4) x+2<k+1:=hk;have hz':x.length+vn (szT sI4) x≤1048576:=hz;refine (zj9 k x).trans ?_
 rw [if_pos (beq_self_eq_true _),if_pos (by omega),if_pos (by simp;omega)]
 exact v71 (α:=Int×Int×Int×Int) (L:=y93 k _ x) (f:=fun y=>x45 k y) (fun _ _=>rfl) (a:=x) (fun y hy=>jw9 k y (by have:=xc (f:=szT sI4) hy;omega) (by have:=xc (f:=szT sI4) hy;omega)) (by omega) x.length k 0 _ (by omega) (by omega) (by simp) (by simp)
theorem jma (k:Nat) (x:I4) (hz:szT sI4 x≤1048576) (hk:szT sI4 x+1<k):w56 k x=some x:=by
 obtain ⟨k,rfl⟩:=kp (by omega:0<k)
 have hk':(szT (.i .i64) x.1+(szT (.i .i64) x.2.1+(szT (.i .i64) x.2.2.1+szT (.i .i64) x.2.2.2)))+1<k+1:=hk;have hz':(szT (.i .i64) x.1+(szT (.i .i64) x.2.1+(szT (.i .i64) x.2.2.1+szT (.i .i64) x.2.2.2)))≤1048576:=hz;exact yma k x
theorem zv9 (k:Nat) (x:List I4) (hz:szT (.l 79 sI4) x≤1048576) (hk:szT (.l 79 sI4) x+2<k):w34 k x=some x:=by
 obtain ⟨k,rfl⟩:=kp (by omega:0<k)
 have hk':x.length+vn (szT sI4) x+2<k+1:=hk;have hz':x.length+vn (szT sI4) x≤1048576:=hz;refine (y6a k x).trans ?_
 rw [if_pos (beq_self_eq_true _),if_pos (by omega),if_pos (by simp;omega)]
 exact v71 (α:=Int×Int×Int×Int) (L:=zj3 k _ x) (f:=fun y=>w56 k y) (fun _ _=>rfl) (a:=x) (fun y hy=>jma k y (by have:=xc (f:=szT sI4) hy;omega) (by have:=xc (f:=szT sI4) hy;omega)) (by omega) x.length k 0 _ (by omega) (by omega) (by simp) (by simp)
theorem j84 (k:Nat) (x:List Int) (hz:szT (.l 3 (.i .i64)) x≤1048576) (hk:szT (.l 3 (.i .i64)) x+1<k):wl1 k x=some x:=by
 obtain ⟨k,rfl⟩:=kp (by omega:0<k)
 have hk':x.length+vn (szT (.i .i64)) x+1<k+1:=hk;have hz':x.length+vn (szT (.i .i64)) x≤1048576:=hz;refine (xsa k x).trans ?_
 rw [if_pos (beq_self_eq_true _),if_pos (by omega),if_pos (by simp;omega)]
 exact v71 (α:=Int) (L:=wc4 k _ x) (f:=fun y=>some y) (fun _ _=>rfl) (a:=x) (fun _ _=>rfl) (by omega) x.length k 0 _ (by omega) (by omega) (by simp) (by simp)
theorem y7b (k:Nat) (x:List Int) (hz:szT xw2 x≤1048576) (hk:szT xw2 x+2<k):xl7 k x=some x:=by
 obtain ⟨k,rfl⟩:=kp (by omega:0<k)
 have hk':szT (.l 3 (.i .i64)) x+2<k+1:=hk;have hz':szT (.l 3 (.i .i64)) x≤1048576:=hz;have g0:wl1 k x=some x:=j84 k x (by omega) (by omega)
 refine (yib k x).trans ?_
 simp only [g0,Option.bind_some,bne_self_eq_false,beq_self_eq_true,Bool.not_true,Bool.false_eq_true,if_false]
theorem w29 (k:Nat) (x:I6) (hz:szT sI6 x≤1048576) (hk:szT sI6 x+1<k):x84 k x=some x:=by
 obtain ⟨k,rfl⟩:=kp (by omega:0<k)
 have hk':(szT (.i .i64) x.1+(szT (.i .i64) x.2.1+(szT (.i .i64) x.2.2.1+(szT (.i .i64) x.2.2.2.1+(szT (.i .i64) x.2.2.2.2.1+szT (.i .i64) x.2.2.2.2.2)))))+1<k+1:=hk;have hz':(szT (.i .i64) x.1+(szT (.i .i64) x.2.1+(szT (.i .i64) x.2.2.1+(szT (.i .i64) x.2.2.2.1+(szT (.i .i64) x.2.2.2.2.1+szT (.i .i64) x.2.2.2.2.2)))))≤1048576:=hz;exact v99 k x
theorem jf6 (k:Nat) (x:List I6) (hz:szT (.l 215 sI6) x≤1048576) (hk:szT (.l 215 sI6) x+2<k):v02 k x=some x:=by
 obtain ⟨k,rfl⟩:=kp (by omega:0<k)
 have hk':x.length+vn (szT sI6) x+2<k+1:=hk;have hz':x.length+vn (szT sI6) x≤1048576:=hz;refine (jb8 k x).trans ?_
 rw [if_pos (beq_self_eq_true _),if_pos (by omega),if_pos (by simp;omega)]
 exact v71 (α:=Int×Int×Int×Int×Int×Int) (L:=jr2 k _ x) (f:=fun y=>x84 k y) (fun _ _=>rfl) (a:=x) (fun y hy=>w29 k y (by have:=xc (f:=szT sI6) hy;omega) (by have:=xc (f:=szT sI6) hy;omega)) (by omega) x.length k 0 _ (by omega) (by omega) (by simp) (by simp)
theorem wza (k:Nat) (x:I2) (hz:szT sI2 x≤1048576) (hk:szT sI2 x+1<k):x36 k x=some x:=by
 obtain ⟨k,rfl⟩:=kp (by omega:0<k)
 have hk':(szT (.i .i64) x.1+szT (.i .i64) x.2)+1<k+1:=hk;have hz':(szT (.i .i64) x.1+szT (.i .i64) x.2)≤1048576:=hz;exact vxa k x
theorem zia (k:Nat) (x:List I2) (hz:szT (.l 357 sI2) x≤1048576) (hk:szT (.l 357 sI2) x+2<k):wz3 k x=some x:=by
 obtain ⟨k,rfl⟩:=kp (by omega:0<k)
 have hk':x.length+vn (szT sI2) x+2<k+1:=hk;have hz':x.length+vn (szT sI2) x≤1048576:=hz;refine (jaa k x).trans ?_
 rw [if_pos (beq_self_eq_true _),if_pos (by omega),if_pos (by simp;omega)]
 exact v71 (α:=Int×Int) (L:=zo3 k _ x) (f:=fun y=>x36 k y) (fun _ _=>rfl) (a:=x) (fun y hy=>wza k y (by have:=xc (f:=szT sI2) hy;omega) (by have:=xc (f:=szT sI2) hy;omega)) (by omega) x.length k 0 _ (by omega) (by omega) (by simp) (by simp)
theorem y0b (k:Nat) (x:I2) (hz:szT sI2 x≤1048576) (hk:szT sI2 x+1<k):w26 k x=some x:=by
 obtain ⟨k,rfl⟩:=kp (by omega:0<k)
 have hk':(szT (.i .i64) x.1+szT (.i .i64) x.2)+1<k+1:=hk;have hz':(szT (.i .i64) x.1+szT (.i .i64) x.2)≤1048576:=hz;exact jla k x
theorem zfa (k:Nat) (x:Int×(List Int)×List Int) (hz:szT z7 x≤1048576) (hk:szT z7 x+2<k):y85 k x=some x:=by
 obtain ⟨k,rfl⟩:=kp (by omega:0<k)
 have hk':(szT (.i .i64) x.1+(szT (.l 3 (.i .i64)) x.2.1+szT (.l 3 (.i .i64)) x.2.2))+2<k+1:=hk;have hz':(szT (.i .i64) x.1+(szT (.l 3 (.i .i64)) x.2.1+szT (.l 3 (.i .i64)) x.2.2))≤1048576:=hz;have g0:wl1 k x.2.1=some x.2.1:=j84 k x.2.1 (by omega) (by omega)
 have g1:wl1 k x.2.2=some x.2.2:=j84 k x.2.2 (by omega) (by omega)
 refine (yo9 k x).trans ?_
 simp only [g0,g1,Option.bind_some,bne_self_eq_false,beq_self_eq_true,Bool.not_true,Bool.false_eq_true,if_false]
theorem za9 (k:Nat) (x:List (Int×(List Int)×List Int)) (hz:szT (.l 355 z7) x≤1048576) (hk:szT (.l 355 z7) x+3<k):vh3 k x=some x:=by
 obtain ⟨k,rfl⟩:=kp (by omega:0<k)
 have hk':x.length+vn (szT z7) x+3<k+1:=hk;have hz':x.length+vn (szT z7) x≤1048576:=hz;refine (wl9 k x).trans ?_
 rw [if_pos (beq_self_eq_true _),if_pos (by omega),if_pos (by simp;omega)]
 exact v71 (α:=Int×(List Int)×List Int) (L:=y83 k _ x) (f:=fun y=>y85 k y) (fun _ _=>rfl) (a:=x) (fun y hy=>zfa k y (by have:=xc (f:=szT z7) hy;omega) (by have:=xc (f:=szT z7) hy;omega)) (by omega) x.length k 0 _ (by omega) (by omega) (by simp) (by simp)
theorem yfa (k:Nat) (x:I2×(List I2)×List (Int×(List Int)×List Int)) (hz:szT vj x≤1048576) (hk:szT vj x+4<k):vw4 k x=some x:=by
 obtain ⟨k,rfl⟩:=kp (by omega:0<k)
 have hk':(szT sI2 x.1+(szT (.l 357 sI2) x.2.1+szT (.l 355 z7) x.2.2))+4<k+1:=hk;have hz':(szT sI2 x.1+(szT (.l 357 sI2) x.2.1+szT (.l 355 z7) x.2.2))≤1048576:=hz;have g0:w26 k x.1=some x.1:=y0b k x.1 (by omega) (by omega)
 have g1:wz3 k x.2.1=some x.2.1:=zia k x.2.1 (by omega) (by omega)
 have g2:vh3 k x.2.2=some x.2.2:=za9 k x.2.2 (by omega) (by omega)
 refine (jja k x).trans ?_
 simp only [g0,g1,g2,Option.bind_some,bne_self_eq_false,beq_self_eq_true,Bool.not_true,Bool.false_eq_true,if_false]
theorem xa9 (k:Nat) (x:List (I2×(List I2)×List (Int×(List Int)×List Int))) (hz:szT (.l 270 vj) x≤1048576) (hk:szT (.l 270 vj) x+5<k):zd3 k x=some x:=by
 obtain ⟨k,rfl⟩:=kp (by omega:0<k)
 have hk':x.length+vn (szT vj) x+5<k+1:=hk;have hz':x.length+vn (szT vj) x≤1048576:=hz;refine (w99 k x).trans ?_
 rw [if_pos (beq_self_eq_true _),if_pos (by omega),if_pos (by simp;omega)]
 exact v71 (α:=I2×(List I2)×List (Int×(List Int)×List Int)) (L:=j73 k _ x) (f:=fun y=>vw4 k y) (fun _ _=>rfl) (a:=x) (fun y hy=>yfa k y (by have:=xc (f:=szT vj) hy;omega) (by have:=xc (f:=szT vj) hy;omega)) (by omega) x.length k 0 _ (by omega) (by omega) (by simp) (by simp)
theorem vi8 (k:Nat) (x:Int×Int×Int×List (I2×(List I2)×List (Int×(List Int)×List Int))) (hz:szT y11 x≤1048576) (hk:szT y11 x+6<k):vk3 k x=some x:=by
 obtain ⟨k,rfl⟩:=kp (by omega:0<k)
 have hk':(szT (.i .i64) x.1+(szT (.i .i64) x.2.1+(szT (.i .i64) x.2.2.1+szT (.l 270 vj) x.2.2.2)))+6<k+1:=hk;have hz':(szT (.i .i64) x.1+(szT (.i .i64) x.2.1+(szT (.i .i64) x.2.2.1+szT (.l 270 vj) x.2.2.2)))≤1048576:=hz;have g0:zd3 k x.2.2.2=some x.2.2.2:=xa9 k x.2.2.2 (by omega) (by omega)
 refine (vj8 k x).trans ?_
 simp only [g0,Option.bind_some,bne_self_eq_false,beq_self_eq_true,Bool.not_true,Bool.false_eq_true,if_false]
theorem wt9 (k:Nat) (x:List I6) (hz:szT xl x≤1048576) (hk:szT xl x+3<k):jz4 k x=some x:=by
 obtain ⟨k,rfl⟩:=kp (by omega:0<k)
 have hk':szT (.l 215 sI6) x+3<k+1:=hk;have hz':szT (.l 215 sI6) x≤1048576:=hz;have g0:v02 k x=some x:=jf6 k x (by omega) (by omega)
 refine (y3a k x).trans ?_
 simp only [g0,Option.bind_some,bne_self_eq_false,beq_self_eq_true,Bool.not_true,Bool.false_eq_true,if_false]
theorem yl9 (k:Nat) (x:List (List I6)) (hz:szT (.l 177 xl) x≤1048576) (hk:szT (.l 177 xl) x+4<k):xf3 k x=some x:=by
 obtain ⟨k,rfl⟩:=kp (by omega:0<k)
 have hk':x.length+vn (szT xl) x+4<k+1:=hk;have hz':x.length+vn (szT xl) x≤1048576:=hz;refine (yj9 k x).trans ?_
 rw [if_pos (beq_self_eq_true _),if_pos (by omega),if_pos (by simp;omega)]
 exact v71 (α:=List I6) (L:=v93 k _ x) (f:=fun y=>jz4 k y) (fun _ _=>rfl) (a:=x) (fun y hy=>wt9 k y (by have:=xc (f:=szT xl) hy;omega) (by have:=xc (f:=szT xl) hy;omega)) (by omega) x.length k 0 _ (by omega) (by omega) (by simp) (by simp)
theorem vla (k:Nat) (x:I4) (hz:szT sI4 x≤1048576) (hk:szT sI4 x+1<k):x66 k x=some x:=by
 obtain ⟨k,rfl⟩:=kp (by omega:0<k)
 have hk':(szT (.i .i64) x.1+(szT (.i .i64) x.2.1+(szT (.i .i64) x.2.2.1+szT (.i .i64) x.2.2.2)))+1<k+1:=hk;have hz':(szT (.i .i64) x.1+(szT (.i .i64) x.2.1+(szT (.i .i64) x.2.2.1+szT (.i .i64) x.2.2.2)))≤1048576:=hz;exact jpa k x
theorem vba (k:Nat) (x:List I4) (hz:szT (.l 217 sI4) x≤1048576) (hk:szT (.l 217 sI4) x+2<k):zx3 k x=some x:=by
 obtain ⟨k,rfl⟩:=kp (by omega:0<k)
 have hk':x.length+vn (szT sI4) x+2<k+1:=hk;have hz':x.length+vn (szT sI4) x≤1048576:=hz;refine (zq9 k x).trans ?_
 rw [if_pos (beq_self_eq_true _),if_pos (by omega),if_pos (by simp;omega)]
 exact v71 (α:=Int×Int×Int×Int) (L:=vn3 k _ x) (f:=fun y=>x66 k y) (fun _ _=>rfl) (a:=x) (fun y hy=>vla k y (by have:=xc (f:=szT sI4) hy;omega) (by have:=xc (f:=szT sI4) hy;omega)) (by omega) x.length k 0 _ (by omega) (by omega) (by simp) (by simp)
theorem j8b (k:Nat) (x:I4) (hz:szT sI4 x≤1048576) (hk:szT sI4 x+1<k):yh7 k x=some x:=by
 obtain ⟨k,rfl⟩:=kp (by omega:0<k)
 have hk':(szT (.i .i64) x.1+(szT (.i .i64) x.2.1+(szT (.i .i64) x.2.2.1+szT (.i .i64) x.2.2.2)))+1<k+1:=hk;have hz':(szT (.i .i64) x.1+(szT (.i .i64) x.2.1+(szT (.i .i64) x.2.2.1+szT (.i .i64) x.2.2.2)))≤1048576:=hz;exact j7b k x
theorem x0b (k:Nat) (x:List I4) (hz:szT (.l 273 sI4) x≤1048576) (hk:szT (.l 273 sI4) x+2<k):x65 k x=some x:=by
 obtain ⟨k,rfl⟩:=kp (by omega:0<k)
 have hk':x.length+vn (szT sI4) x+2<k+1:=hk;have hz':x.length+vn (szT sI4) x≤1048576:=hz;refine (zsa k x).trans ?_
 rw [if_pos (beq_self_eq_true _),if_pos (by omega),if_pos (by simp;omega)]
 exact v71 (α:=Int×Int×Int×Int) (L:=wd4 k _ x) (f:=fun y=>yh7 k y) (fun _ _=>rfl) (a:=x) (fun y hy=>j8b k y (by have:=xc (f:=szT sI4) hy;omega) (by have:=xc (f:=szT sI4) hy;omega)) (by omega) x.length k 0 _ (by omega) (by omega) (by simp) (by simp)
theorem woa (k:Nat) (x:I3) (hz:szT sI3 x≤1048576) (hk:szT sI3 x+1<k):y26 k x=some x:=by
 obtain ⟨k,rfl⟩:=kp (by omega:0<k)
 have hk':(szT (.i .i64) x.1+(szT (.i .i64) x.2.1+szT (.i .i64) x.2.2))+1<k+1:=hk;have hz':(szT (.i .i64) x.1+(szT (.i .i64) x.2.1+szT (.i .i64) x.2.2))≤1048576:=hz;exact j2b k x
theorem jt9 (k:Nat) (x:List I3) (hz:szT (.l 275 sI3) x≤1048576) (hk:szT (.l 275 sI3) x+2<k):x74 k x=some x:=by
 obtain ⟨k,rfl⟩:=kp (by omega:0<k)
 have hk':x.length+vn (szT sI3) x+2<k+1:=hk;have hz':x.length+vn (szT sI3) x≤1048576:=hz;refine (v3a k x).trans ?_
 rw [if_pos (beq_self_eq_true _),if_pos (by omega),if_pos (by simp;omega)]
 exact v71 (α:=Int×Int×Int) (L:=jk3 k _ x) (f:=fun y=>y26 k y) (fun _ _=>rfl) (a:=x) (fun y hy=>woa k y (by have:=xc (f:=szT sI3) hy;omega) (by have:=xc (f:=szT sI3) hy;omega)) (by omega) x.length k 0 _ (by omega) (by omega) (by simp) (by simp)
theorem web (k:Nat) (x:I2) (hz:szT sI2 x≤1048576) (hk:szT sI2 x+1<k):vm7 k x=some x:=by
 obtain ⟨k,rfl⟩:=kp (by omega:0<k)
 have hk':(szT (.i .i64) x.1+szT (.i .i64) x.2)+1<k+1:=hk;have hz':(szT (.i .i64) x.1+szT (.i .i64) x.2)≤1048576:=hz;exact v9b k x
theorem vua (k:Nat) (x:I3) (hz:szT yk x≤1048576) (hk:szT yk x+2<k):v26 k x=some x:=by
 obtain ⟨k,rfl⟩:=kp (by omega:0<k)
 have hk':(szT (.i .i64) x.1+szT sI2 x.2)+2<k+1:=hk;have hz':(szT (.i .i64) x.1+szT sI2 x.2)≤1048576:=hz;have g0:vm7 k x.2=some x.2:=web k x.2 (by omega) (by omega)
 refine (x2b k x).trans ?_
 simp only [g0,Option.bind_some,bne_self_eq_false,beq_self_eq_true,Bool.not_true,Bool.false_eq_true,if_false]
theorem jia (k:Nat) (x:List I3) (hz:szT (.l 279 yk) x≤1048576) (hk:szT (.l 279 yk) x+3<k):x04 k x=some x:=by
 obtain ⟨k,rfl⟩:=kp (by omega:0<k)
 have hk':x.length+vn (szT yk) x+3<k+1:=hk;have hz':x.length+vn (szT yk) x≤1048576:=hz;refine (xia k x).trans ?_
 rw [if_pos (beq_self_eq_true _),if_pos (by omega),if_pos (by simp;omega)]
 exact v71 (α:=Int×Int×Int) (L:=wk3 k _ x) (f:=fun y=>v26 k y) (fun _ _=>rfl) (a:=x) (fun y hy=>vua k y (by have:=xc (f:=szT yk) hy;omega) (by have:=xc (f:=szT yk) hy;omega)) (by omega) x.length k 0 _ (by omega) (by omega) (by simp) (by simp)
theorem xfb (k:Nat) (x:Int×(List I4)×(List I3)×Int×Int×Int×Int×Int×(List I3)×Int) (hz:szT ve4 x≤1048576) (hk:szT ve4 x+4<k):xn7 k x=some x:=by
 obtain ⟨k,rfl⟩:=kp (by omega:0<k)
 have hk':(szT (.i .i64) x.1+(szT (.l 273 sI4) x.2.1+(szT (.l 275 sI3) x.2.2.1+(szT (.i .i64) x.2.2.2.1+(szT (.i .i64) x.2.2.2.2.1+(szT (.i .i64) x.2.2.2.2.2.1+(szT (.i .i64) x.2.2.2.2.2.2.1+(szT (.i .i64) x.2.2.2.2.2.2.2.1+(szT (.l 279 yk) x.2.2.2.2.2.2.2.2.1+szT (.i .i64) x.2.2.2.2.2.2.2.2.2)))))))))+4<k+1:=hk;have hz':(szT (.i .i64) x.1+(szT (.l 273 sI4) x.2.1+(szT (.l 275 sI3) x.2.2.1+(szT (.i .i64) x.2.2.2.1+(szT (.i .i64) x.2.2.2.2.1+(szT (.i .i64) x.2.2.2.2.2.1+(szT (.i .i64) x.2.2.2.2.2.2.1+(szT (.i .i64) x.2.2.2.2.2.2.2.1+(szT (.l 279 yk) x.2.2.2.2.2.2.2.2.1+szT (.i .i64) x.2.2.2.2.2.2.2.2.2)))))))))≤1048576:=hz
 have g0:x65 k x.2.1=some x.2.1:=x0b k x.2.1 (by omega) (by omega)
 have g1:x74 k x.2.2.1=some x.2.2.1:=jt9 k x.2.2.1 (by omega) (by omega)
 have g2:x04 k x.2.2.2.2.2.2.2.2.1=some x.2.2.2.2.2.2.2.2.1:=jia k x.2.2.2.2.2.2.2.2.1 (by omega) (by omega)
 refine (zfb k x).trans ?_
 simp only [g0,g1,g2,Option.bind_some,bne_self_eq_false,beq_self_eq_true,Bool.not_true,Bool.false_eq_true,if_false]
theorem vc9 (k:Nat) (x:Int×Int×List Int) (hz:szT z6 x≤1048576) (hk:szT z6 x+2<k):wa4 k x=some x:=by
 obtain ⟨k,rfl⟩:=kp (by omega:0<k)
 have hk':(szT (.i .i64) x.1+(szT (.i .i64) x.2.1+szT (.l 3 (.i .i64)) x.2.2))+2<k+1:=hk;have hz':(szT (.i .i64) x.1+(szT (.i .i64) x.2.1+szT (.l 3 (.i .i64)) x.2.2))≤1048576:=hz;have g0:wl1 k x.2.2=some x.2.2:=j84 k x.2.2 (by omega) (by omega)
 refine (x49 k x).trans ?_
 simp only [g0,Option.bind_some,bne_self_eq_false,beq_self_eq_true,Bool.not_true,Bool.false_eq_true,if_false]
theorem yi8 (k:Nat) (x:List (Int×Int×List Int)) (hz:szT (.l 180 z6) x≤1048576) (hk:szT (.l 180 z6) x+3<k):w03 k x=some x:=by
 obtain ⟨k,rfl⟩:=kp (by omega:0<k)
 have hk':x.length+vn (szT z6) x+3<k+1:=hk;have hz':x.length+vn (szT z6) x≤1048576:=hz;refine (jt8 k x).trans ?_
 rw [if_pos (beq_self_eq_true _),if_pos (by omega),if_pos (by simp;omega)]
 exact v71 (α:=Int×Int×List Int) (L:=jt2 k _ x) (f:=fun y=>wa4 k y) (fun _ _=>rfl) (a:=x) (fun y hy=>vc9 k y (by have:=xc (f:=szT z6) hy;omega) (by have:=xc (f:=szT z6) hy;omega)) (by omega) x.length k 0 _ (by omega) (by omega) (by simp) (by simp)
theorem vda (k:Nat) (x:(Int×(List I4)×(List I3)×Int×Int×Int×Int×Int×(List I3)×Int)×(Int×Int×Int×List (I2×(List I2)×List (Int×(List Int)×List Int)))×(List Int)×(List Int)×(List I6)×(List (List I6))×(List I4)×(List Int)×(List (Int×Int×List Int))×(List I4)×Int×Int×(List I6)×List I4) (hz:szT jw x≤1048576) (hk:szT jw x+7<k):wd3 k x=some x:=by
 obtain ⟨k,rfl⟩:=kp (by omega:0<k)
 have hk':(szT ve4 x.1+(szT y11 x.2.1+(szT xw2 x.2.2.1+(szT (.l 3 (.i .i64)) x.2.2.2.1+(szT (.l 211 sI6) x.2.2.2.2.1+(szT (.l 177 xl) x.2.2.2.2.2.1+(szT (.l 79 sI4) x.2.2.2.2.2.2.1+(szT (.l 3 (.i .i64)) x.2.2.2.2.2.2.2.1+(szT (.l 180 z6) x.2.2.2.2.2.2.2.2.1+(szT (.l 81 sI4) x.2.2.2.2.2.2.2.2.2.1+(szT (.i .i64) x.2.2.2.2.2.2.2.2.2.2.1+(szT (.i .i64) x.2.2.2.2.2.2.2.2.2.2.2.1+(szT (.l 215 sI6) x.2.2.2.2.2.2.2.2.2.2.2.2.1+szT (.l 217 sI4) x.2.2.2.2.2.2.2.2.2.2.2.2.2)))))))))))))+7<k+1:=hk
 have hz':(szT ve4 x.1+(szT y11 x.2.1+(szT xw2 x.2.2.1+(szT (.l 3 (.i .i64)) x.2.2.2.1+(szT (.l 211 sI6) x.2.2.2.2.1+(szT (.l 177 xl) x.2.2.2.2.2.1+(szT (.l 79 sI4) x.2.2.2.2.2.2.1+(szT (.l 3 (.i .i64)) x.2.2.2.2.2.2.2.1+(szT (.l 180 z6) x.2.2.2.2.2.2.2.2.1+(szT (.l 81 sI4) x.2.2.2.2.2.2.2.2.2.1+(szT (.i .i64) x.2.2.2.2.2.2.2.2.2.2.1+(szT (.i .i64) x.2.2.2.2.2.2.2.2.2.2.2.1+(szT (.l 215 sI6) x.2.2.2.2.2.2.2.2.2.2.2.2.1+szT (.l 217 sI4) x.2.2.2.2.2.2.2.2.2.2.2.2.2)))))))))))))≤1048576:=hz
 have g0:xn7 k x.1=some x.1:=xfb k x.1 (by omega) (by omega)
 have g1:vk3 k x.2.1=some x.2.1:=vi8 k x.2.1 (by omega) (by omega)
 have g2:xl7 k x.2.2.1=some x.2.2.1:=y7b k x.2.2.1 (by omega) (by omega)
 have g3:wl1 k x.2.2.2.1=some x.2.2.2.1:=j84 k x.2.2.2.1 (by omega) (by omega)
 have g4:zo2 k x.2.2.2.2.1=some x.2.2.2.2.1:=zq7 k x.2.2.2.2.1 (by omega) (by omega)
 have g5:xf3 k x.2.2.2.2.2.1=some x.2.2.2.2.2.1:=yl9 k x.2.2.2.2.2.1 (by omega) (by omega)
 have g6:w34 k x.2.2.2.2.2.2.1=some x.2.2.2.2.2.2.1:=zv9 k x.2.2.2.2.2.2.1 (by omega) (by omega)
 have g7:wl1 k x.2.2.2.2.2.2.2.1=some x.2.2.2.2.2.2.2.1:=j84 k x.2.2.2.2.2.2.2.1 (by omega) (by omega)
 have g8:w03 k x.2.2.2.2.2.2.2.2.1=some x.2.2.2.2.2.2.2.2.1:=yi8 k x.2.2.2.2.2.2.2.2.1 (by omega) (by omega)
 have g9:xc3 k x.2.2.2.2.2.2.2.2.2.1=some x.2.2.2.2.2.2.2.2.2.1:=xi9 k x.2.2.2.2.2.2.2.2.2.1 (by omega) (by omega)
 have g10:v02 k x.2.2.2.2.2.2.2.2.2.2.2.2.1=some x.2.2.2.2.2.2.2.2.2.2.2.2.1:=jf6 k x.2.2.2.2.2.2.2.2.2.2.2.2.1 (by omega) (by omega)
 have g11:zx3 k x.2.2.2.2.2.2.2.2.2.2.2.2.2=some x.2.2.2.2.2.2.2.2.2.2.2.2.2:=vba k x.2.2.2.2.2.2.2.2.2.2.2.2.2 (by omega) (by omega)
 refine (v9a k x).trans ?_
 simp only [g0,g1,g2,g3,g4,g5,g6,g7,g8,g9,g10,g11,Option.bind_some,bne_self_eq_false,beq_self_eq_true,Bool.not_true,Bool.false_eq_true,if_false]
end Go.Proofs.YtkgjmgaccfmhpaaGreat.World
