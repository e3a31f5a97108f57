/- Plain lemmas: sizes, copies and comparisons of the law's data. No condition. -/
import Derived.Test.YtkgjmgaccfmhpaaGreatWb
namespace Go.Proofs.YtkgjmgaccfmhpaaGreat.World
open Go Go.V Go.Proofs
set_option linter.unusedVariables false
set_option linter.unusedSimpArgs false
set_option maxRecDepth 100000
theorem qleqPacket (k:Nat) (x:I6) (hz:szT sI6 x≤140737488351232) (hk:szT sI6 x+1<k):FleqPacket k x x=some true:=by
 obtain ⟨k,rfl⟩:∃q,k=q+1:=⟨k-1,by omega⟩
 have hk':(szT (.i .i64) x.1+(szT (.i .i64) x.2.1+(szT (.i .i64) x.2.2.1+(szT (.i .i64) x.2.2.2.1+(szT (.i .i64) x.2.2.2.2.1+szT (.i .i64) x.2.2.2.2.2)))))+1<k+1:=hk
 have hz':(szT (.i .i64) x.1+(szT (.i .i64) x.2.1+(szT (.i .i64) x.2.2.1+(szT (.i .i64) x.2.2.2.1+(szT (.i .i64) x.2.2.2.2.1+szT (.i .i64) x.2.2.2.2.2)))))≤140737488351232:=hz
 refine (eleqPacket k x x).trans ?_
 simp only [Option.bind_some,bne_self_eq_false,beq_self_eq_true,Bool.not_true,Bool.false_eq_true,if_false]
theorem qleqBattery (k:Nat) (x:I6) (hz:szT sI6 x≤140737488351232) (hk:szT sI6 x+1<k):FleqBattery k x x=some true:=by
 obtain ⟨k,rfl⟩:∃q,k=q+1:=⟨k-1,by omega⟩
 have hk':(szT (.i .i64) x.1+(szT (.i .i64) x.2.1+(szT (.i .i64) x.2.2.1+(szT (.i .i64) x.2.2.2.1+(szT (.i .i64) x.2.2.2.2.1+szT (.i .i64) x.2.2.2.2.2)))))+1<k+1:=hk
 have hz':(szT (.i .i64) x.1+(szT (.i .i64) x.2.1+(szT (.i .i64) x.2.2.1+(szT (.i .i64) x.2.2.2.1+(szT (.i .i64) x.2.2.2.2.1+szT (.i .i64) x.2.2.2.2.2)))))≤140737488351232:=hz
 refine (eleqBattery k x x).trans ?_
 simp only [Option.bind_some,bne_self_eq_false,beq_self_eq_true,Bool.not_true,Bool.false_eq_true,if_false]
theorem qleqBatteryS (k:Nat) (x:List I6) (hz:szT (.l 159 sI6) x≤140737488351232) (hk:szT (.l 159 sI6) x+2<k):FleqBatteryS k x x=some true:=by
 obtain ⟨k,rfl⟩:∃q,k=q+1:=⟨k-1,by omega⟩
 have hk':x.length+sumL (szT sI6) x+2<k+1:=hk
 have hz':x.length+sumL (szT sI6) x≤140737488351232:=hz
 refine (eleqBatteryS k x x).trans ?_
 rw [if_neg (by simp)]
 exact z81 (α:=Int×Int×Int×Int×Int×Int) (L:=LleqBatteryS_0 k _ _ (x,x)) (f:=fun y z=>FleqBattery k y z) (fun _ _=>rfl) (a:=x) (fun y hy=>qleqBattery k y (by have:=jd (f:=szT sI6) hy;omega) (by have:=jd (f:=szT sI6) hy;omega)) (by omega) x.length k 0 (by omega) (by omega)
theorem qleqFault (k:Nat) (x:I4) (hz:szT sI4 x≤140737488351232) (hk:szT sI4 x+1<k):FleqFault k x x=some true:=by
 obtain ⟨k,rfl⟩:∃q,k=q+1:=⟨k-1,by omega⟩
 have hk':(szT (.i .i64) x.1+(szT (.i .i64) x.2.1+(szT (.i .i64) x.2.2.1+szT (.i .i64) x.2.2.2)))+1<k+1:=hk
 have hz':(szT (.i .i64) x.1+(szT (.i .i64) x.2.1+(szT (.i .i64) x.2.2.1+szT (.i .i64) x.2.2.2)))≤140737488351232:=hz
 refine (eleqFault k x x).trans ?_
 simp only [Option.bind_some,bne_self_eq_false,beq_self_eq_true,Bool.not_true,Bool.false_eq_true,if_false]
theorem qleqFaultS (k:Nat) (x:List I4) (hz:szT (.l 86 sI4) x≤140737488351232) (hk:szT (.l 86 sI4) x+2<k):FleqFaultS k x x=some true:=by
 obtain ⟨k,rfl⟩:∃q,k=q+1:=⟨k-1,by omega⟩
 have hk':x.length+sumL (szT sI4) x+2<k+1:=hk
 have hz':x.length+sumL (szT sI4) x≤140737488351232:=hz
 refine (eleqFaultS k x x).trans ?_
 rw [if_neg (by simp)]
 exact z81 (α:=Int×Int×Int×Int) (L:=LleqFaultS_0 k _ _ (x,x)) (f:=fun y z=>FleqFault k y z) (fun _ _=>rfl) (a:=x) (fun y hy=>qleqFault k y (by have:=jd (f:=szT sI4) hy;omega) (by have:=jd (f:=szT sI4) hy;omega)) (by omega) x.length k 0 (by omega) (by omega)
theorem qleqFlow (k:Nat) (x:I4) (hz:szT sI4 x≤140737488351232) (hk:szT sI4 x+1<k):FleqFlow k x x=some true:=by
 obtain ⟨k,rfl⟩:∃q,k=q+1:=⟨k-1,by omega⟩
 have hk':(szT (.i .i64) x.1+(szT (.i .i64) x.2.1+(szT (.i .i64) x.2.2.1+szT (.i .i64) x.2.2.2)))+1<k+1:=hk
 have hz':(szT (.i .i64) x.1+(szT (.i .i64) x.2.1+(szT (.i .i64) x.2.2.1+szT (.i .i64) x.2.2.2)))≤140737488351232:=hz
 refine (eleqFlow k x x).trans ?_
 simp only [Option.bind_some,bne_self_eq_false,beq_self_eq_true,Bool.not_true,Bool.false_eq_true,if_false]
theorem qleqFlowS (k:Nat) (x:List I4) (hz:szT (.l 85 sI4) x≤140737488351232) (hk:szT (.l 85 sI4) x+2<k):FleqFlowS k x x=some true:=by
 obtain ⟨k,rfl⟩:∃q,k=q+1:=⟨k-1,by omega⟩
 have hk':x.length+sumL (szT sI4) x+2<k+1:=hk
 have hz':x.length+sumL (szT sI4) x≤140737488351232:=hz
 refine (eleqFlowS k x x).trans ?_
 rw [if_neg (by simp)]
 exact z81 (α:=Int×Int×Int×Int) (L:=LleqFlowS_0 k _ _ (x,x)) (f:=fun y z=>FleqFlow k y z) (fun _ _=>rfl) (a:=x) (fun y hy=>qleqFlow k y (by have:=jd (f:=szT sI4) hy;omega) (by have:=jd (f:=szT sI4) hy;omega)) (by omega) x.length k 0 (by omega) (by omega)
theorem qleqIntS (k:Nat) (x:List Int) (hz:szT (.l 3 (.i .i64)) x≤140737488351232) (hk:szT (.l 3 (.i .i64)) x+1<k):vf1 k x x=some true:=by
 obtain ⟨k,rfl⟩:∃q,k=q+1:=⟨k-1,by omega⟩
 have hk':x.length+sumL (szT (.i .i64)) x+1<k+1:=hk
 have hz':x.length+sumL (szT (.i .i64)) x≤140737488351232:=hz
 refine (eleqIntS k x x).trans ?_
 rw [if_neg (by simp)]
 exact eqI_loop2 (α:=Int) (L:=LleqIntS_0 k _ _ (x,x)) (fun _ _=>rfl) (a:=x) (by omega) x.length k 0 (by omega) (by omega)
theorem qleqLaw (k:Nat) (x:List Int) (hz:szT sLaw x≤140737488351232) (hk:szT sLaw x+2<k):FleqLaw k x x=some true:=by
 obtain ⟨k,rfl⟩:∃q,k=q+1:=⟨k-1,by omega⟩
 have hk':szT (.l 3 (.i .i64)) x+2<k+1:=hk
 have hz':szT (.l 3 (.i .i64)) x≤140737488351232:=hz
 have g0:vf1 k x x=some true:=qleqIntS k x (by omega) (by omega)
 refine (eleqLaw k x x).trans ?_
 simp only [g0,Option.bind_some,bne_self_eq_false,beq_self_eq_true,Bool.not_true,Bool.false_eq_true,if_false]
theorem qleqPacketS (k:Nat) (x:List I6) (hz:szT (.l 66 sI6) x≤140737488351232) (hk:szT (.l 66 sI6) x+2<k):wr1 k x x=some true:=by
 obtain ⟨k,rfl⟩:∃q,k=q+1:=⟨k-1,by omega⟩
 have hk':x.length+sumL (szT sI6) x+2<k+1:=hk
 have hz':x.length+sumL (szT sI6) x≤140737488351232:=hz
 refine (eleqPacketS k x x).trans ?_
 rw [if_neg (by simp)]
 exact z81 (α:=Int×Int×Int×Int×Int×Int) (L:=LleqPacketS_0 k _ _ (x,x)) (f:=fun y z=>FleqPacket k y z) (fun _ _=>rfl) (a:=x) (fun y hy=>qleqPacket k y (by have:=jd (f:=szT sI6) hy;omega) (by have:=jd (f:=szT sI6) hy;omega)) (by omega) x.length k 0 (by omega) (by omega)
theorem qleqLink (k:Nat) (x:I2) (hz:szT sI2 x≤140737488351232) (hk:szT sI2 x+1<k):FleqLink k x x=some true:=by
 obtain ⟨k,rfl⟩:∃q,k=q+1:=⟨k-1,by omega⟩
 have hk':(szT (.i .i64) x.1+szT (.i .i64) x.2)+1<k+1:=hk
 have hz':(szT (.i .i64) x.1+szT (.i .i64) x.2)≤140737488351232:=hz
 refine (eleqLink k x x).trans ?_
 simp only [Option.bind_some,bne_self_eq_false,beq_self_eq_true,Bool.not_true,Bool.false_eq_true,if_false]
theorem qleqLinkS (k:Nat) (x:List I2) (hz:szT (.l 348 sI2) x≤140737488351232) (hk:szT (.l 348 sI2) x+2<k):FleqLinkS k x x=some true:=by
 obtain ⟨k,rfl⟩:∃q,k=q+1:=⟨k-1,by omega⟩
 have hk':x.length+sumL (szT sI2) x+2<k+1:=hk
 have hz':x.length+sumL (szT sI2) x≤140737488351232:=hz
 refine (eleqLinkS k x x).trans ?_
 rw [if_neg (by simp)]
 exact z81 (α:=Int×Int) (L:=LleqLinkS_0 k _ _ (x,x)) (f:=fun y z=>FleqLink k y z) (fun _ _=>rfl) (a:=x) (fun y hy=>qleqLink k y (by have:=jd (f:=szT sI2) hy;omega) (by have:=jd (f:=szT sI2) hy;omega)) (by omega) x.length k 0 (by omega) (by omega)
theorem qleqSpan (k:Nat) (x:I2) (hz:szT sI2 x≤140737488351232) (hk:szT sI2 x+1<k):FleqSpan k x x=some true:=by
 obtain ⟨k,rfl⟩:∃q,k=q+1:=⟨k-1,by omega⟩
 have hk':(szT (.i .i64) x.1+szT (.i .i64) x.2)+1<k+1:=hk
 have hz':(szT (.i .i64) x.1+szT (.i .i64) x.2)≤140737488351232:=hz
 refine (eleqSpan k x x).trans ?_
 simp only [Option.bind_some,bne_self_eq_false,beq_self_eq_true,Bool.not_true,Bool.false_eq_true,if_false]
theorem qleqTable (k:Nat) (x:Int×(List Int)×List Int) (hz:szT y9 x≤140737488351232) (hk:szT y9 x+2<k):FleqTable k x x=some true:=by
 obtain ⟨k,rfl⟩:∃q,k=q+1:=⟨k-1,by omega⟩
 have hk':(szT (.i .i64) x.1+(szT (.l 3 (.i .i64)) x.2.1+szT (.l 3 (.i .i64)) x.2.2))+2<k+1:=hk
 have hz':(szT (.i .i64) x.1+(szT (.l 3 (.i .i64)) x.2.1+szT (.l 3 (.i .i64)) x.2.2))≤140737488351232:=hz
 have g0:vf1 k x.2.1 x.2.1=some true:=qleqIntS k x.2.1 (by omega) (by omega)
 have g1:vf1 k x.2.2 x.2.2=some true:=qleqIntS k x.2.2 (by omega) (by omega)
 refine (eleqTable k x x).trans ?_
 simp only [g0,g1,Option.bind_some,bne_self_eq_false,beq_self_eq_true,Bool.not_true,Bool.false_eq_true,if_false]
theorem qleqTableS (k:Nat) (x:List (Int×(List Int)×List Int)) (hz:szT (.l 220 y9) x≤140737488351232) (hk:szT (.l 220 y9) x+3<k):FleqTableS k x x=some true:=by
 obtain ⟨k,rfl⟩:∃q,k=q+1:=⟨k-1,by omega⟩
 have hk':x.length+sumL (szT y9) x+3<k+1:=hk
 have hz':x.length+sumL (szT y9) x≤140737488351232:=hz
 refine (eleqTableS k x x).trans ?_
 rw [if_neg (by simp)]
 exact z81 (α:=Int×(List Int)×List Int) (L:=LleqTableS_0 k _ _ (x,x)) (f:=fun y z=>FleqTable k y z) (fun _ _=>rfl) (a:=x) (fun y hy=>qleqTable k y (by have:=jd (f:=szT y9) hy;omega) (by have:=jd (f:=szT y9) hy;omega)) (by omega) x.length k 0 (by omega) (by omega)
theorem qleqPiece (k:Nat) (x:I2×(List I2)×List (Int×(List Int)×List Int)) (hz:szT wk x≤140737488351232) (hk:szT wk x+4<k):FleqPiece k x x=some true:=by
 obtain ⟨k,rfl⟩:∃q,k=q+1:=⟨k-1,by omega⟩
 have hk':(szT sI2 x.1+(szT (.l 348 sI2) x.2.1+szT (.l 220 y9) x.2.2))+4<k+1:=hk
 have hz':(szT sI2 x.1+(szT (.l 348 sI2) x.2.1+szT (.l 220 y9) x.2.2))≤140737488351232:=hz
 have g0:FleqSpan k x.1 x.1=some true:=qleqSpan k x.1 (by omega) (by omega)
 have g1:FleqLinkS k x.2.1 x.2.1=some true:=qleqLinkS k x.2.1 (by omega) (by omega)
 have g2:FleqTableS k x.2.2 x.2.2=some true:=qleqTableS k x.2.2 (by omega) (by omega)
 refine (eleqPiece k x x).trans ?_
 simp only [g0,g1,g2,Option.bind_some,bne_self_eq_false,beq_self_eq_true,Bool.not_true,Bool.false_eq_true,if_false]
theorem qleqPieceS (k:Nat) (x:List (I2×(List I2)×List (Int×(List Int)×List Int))) (hz:szT (.l 198 wk) x≤140737488351232) (hk:szT (.l 198 wk) x+5<k):FleqPieceS k x x=some true:=by
 obtain ⟨k,rfl⟩:∃q,k=q+1:=⟨k-1,by omega⟩
 have hk':x.length+sumL (szT wk) x+5<k+1:=hk
 have hz':x.length+sumL (szT wk) x≤140737488351232:=hz
 refine (eleqPieceS k x x).trans ?_
 rw [if_neg (by simp)]
 exact z81 (α:=I2×(List I2)×List (Int×(List Int)×List Int)) (L:=LleqPieceS_0 k _ _ (x,x)) (f:=fun y z=>FleqPiece k y z) (fun _ _=>rfl) (a:=x) (fun y hy=>qleqPiece k y (by have:=jd (f:=szT wk) hy;omega) (by have:=jd (f:=szT wk) hy;omega)) (by omega) x.length k 0 (by omega) (by omega)
theorem qleqProgram (k:Nat) (x:Int×Int×Int×List (I2×(List I2)×List (Int×(List Int)×List Int))) (hz:szT z7 x≤140737488351232) (hk:szT z7 x+6<k):FleqProgram k x x=some true:=by
 obtain ⟨k,rfl⟩:∃q,k=q+1:=⟨k-1,by omega⟩
 have hk':(szT (.i .i64) x.1+(szT (.i .i64) x.2.1+(szT (.i .i64) x.2.2.1+szT (.l 198 wk) x.2.2.2)))+6<k+1:=hk
 have hz':(szT (.i .i64) x.1+(szT (.i .i64) x.2.1+(szT (.i .i64) x.2.2.1+szT (.l 198 wk) x.2.2.2)))≤140737488351232:=hz
 have g0:FleqPieceS k x.2.2.2 x.2.2.2=some true:=qleqPieceS k x.2.2.2 (by omega) (by omega)
 refine (eleqProgram k x x).trans ?_
 simp only [g0,Option.bind_some,bne_self_eq_false,beq_self_eq_true,Bool.not_true,Bool.false_eq_true,if_false]
theorem qleqQueue (k:Nat) (x:List I6) (hz:szT x71 x≤140737488351232) (hk:szT x71 x+3<k):FleqQueue k x x=some true:=by
 obtain ⟨k,rfl⟩:∃q,k=q+1:=⟨k-1,by omega⟩
 have hk':szT (.l 66 sI6) x+3<k+1:=hk
 have hz':szT (.l 66 sI6) x≤140737488351232:=hz
 have g0:wr1 k x x=some true:=qleqPacketS k x (by omega) (by omega)
 refine (eleqQueue k x x).trans ?_
 simp only [g0,Option.bind_some,bne_self_eq_false,beq_self_eq_true,Bool.not_true,Bool.false_eq_true,if_false]
theorem qleqQueueS (k:Nat) (x:List (List I6)) (hz:szT (.l 140 x71) x≤140737488351232) (hk:szT (.l 140 x71) x+4<k):FleqQueueS k x x=some true:=by
 obtain ⟨k,rfl⟩:∃q,k=q+1:=⟨k-1,by omega⟩
 have hk':x.length+sumL (szT x71) x+4<k+1:=hk
 have hz':x.length+sumL (szT x71) x≤140737488351232:=hz
 refine (eleqQueueS k x x).trans ?_
 rw [if_neg (by simp)]
 exact z81 (α:=List I6) (L:=LleqQueueS_0 k _ _ (x,x)) (f:=fun y z=>FleqQueue k y z) (fun _ _=>rfl) (a:=x) (fun y hy=>qleqQueue k y (by have:=jd (f:=szT x71) hy;omega) (by have:=jd (f:=szT x71) hy;omega)) (by omega) x.length k 0 (by omega) (by omega)
theorem qleqSent (k:Nat) (x:I4) (hz:szT sI4 x≤140737488351232) (hk:szT sI4 x+1<k):FleqSent k x x=some true:=by
 obtain ⟨k,rfl⟩:∃q,k=q+1:=⟨k-1,by omega⟩
 have hk':(szT (.i .i64) x.1+(szT (.i .i64) x.2.1+(szT (.i .i64) x.2.2.1+szT (.i .i64) x.2.2.2)))+1<k+1:=hk
 have hz':(szT (.i .i64) x.1+(szT (.i .i64) x.2.1+(szT (.i .i64) x.2.2.1+szT (.i .i64) x.2.2.2)))≤140737488351232:=hz
 refine (eleqSent k x x).trans ?_
 simp only [Option.bind_some,bne_self_eq_false,beq_self_eq_true,Bool.not_true,Bool.false_eq_true,if_false]
theorem qleqSentS (k:Nat) (x:List I4) (hz:szT (.l 146 sI4) x≤140737488351232) (hk:szT (.l 146 sI4) x+2<k):FleqSentS k x x=some true:=by
 obtain ⟨k,rfl⟩:∃q,k=q+1:=⟨k-1,by omega⟩
 have hk':x.length+sumL (szT sI4) x+2<k+1:=hk
 have hz':x.length+sumL (szT sI4) x≤140737488351232:=hz
 refine (eleqSentS k x x).trans ?_
 rw [if_neg (by simp)]
 exact z81 (α:=Int×Int×Int×Int) (L:=LleqSentS_0 k _ _ (x,x)) (f:=fun y z=>FleqSent k y z) (fun _ _=>rfl) (a:=x) (fun y hy=>qleqSent k y (by have:=jd (f:=szT sI4) hy;omega) (by have:=jd (f:=szT sI4) hy;omega)) (by omega) x.length k 0 (by omega) (by omega)
theorem qleqSat (k:Nat) (x:I4) (hz:szT sI4 x≤140737488351232) (hk:szT sI4 x+1<k):FleqSat k x x=some true:=by
 obtain ⟨k,rfl⟩:∃q,k=q+1:=⟨k-1,by omega⟩
 have hk':(szT (.i .i64) x.1+(szT (.i .i64) x.2.1+(szT (.i .i64) x.2.2.1+szT (.i .i64) x.2.2.2)))+1<k+1:=hk
 have hz':(szT (.i .i64) x.1+(szT (.i .i64) x.2.1+(szT (.i .i64) x.2.2.1+szT (.i .i64) x.2.2.2)))≤140737488351232:=hz
 refine (eleqSat k x x).trans ?_
 simp only [Option.bind_some,bne_self_eq_false,beq_self_eq_true,Bool.not_true,Bool.false_eq_true,if_false]
theorem qleqSatS (k:Nat) (x:List I4) (hz:szT (.l 186 sI4) x≤140737488351232) (hk:szT (.l 186 sI4) x+2<k):FleqSatS k x x=some true:=by
 obtain ⟨k,rfl⟩:∃q,k=q+1:=⟨k-1,by omega⟩
 have hk':x.length+sumL (szT sI4) x+2<k+1:=hk
 have hz':x.length+sumL (szT sI4) x≤140737488351232:=hz
 refine (eleqSatS k x x).trans ?_
 rw [if_neg (by simp)]
 exact z81 (α:=Int×Int×Int×Int) (L:=LleqSatS_0 k _ _ (x,x)) (f:=fun y z=>FleqSat k y z) (fun _ _=>rfl) (a:=x) (fun y hy=>qleqSat k y (by have:=jd (f:=szT sI4) hy;omega) (by have:=jd (f:=szT sI4) hy;omega)) (by omega) x.length k 0 (by omega) (by omega)
theorem qleqSite (k:Nat) (x:I3) (hz:szT sI3 x≤140737488351232) (hk:szT sI3 x+1<k):FleqSite k x x=some true:=by
 obtain ⟨k,rfl⟩:∃q,k=q+1:=⟨k-1,by omega⟩
 have hk':(szT (.i .i64) x.1+(szT (.i .i64) x.2.1+szT (.i .i64) x.2.2))+1<k+1:=hk
 have hz':(szT (.i .i64) x.1+(szT (.i .i64) x.2.1+szT (.i .i64) x.2.2))≤140737488351232:=hz
 refine (eleqSite k x x).trans ?_
 simp only [Option.bind_some,bne_self_eq_false,beq_self_eq_true,Bool.not_true,Bool.false_eq_true,if_false]
theorem qleqSiteS (k:Nat) (x:List I3) (hz:szT (.l 188 sI3) x≤140737488351232) (hk:szT (.l 188 sI3) x+2<k):FleqSiteS k x x=some true:=by
 obtain ⟨k,rfl⟩:∃q,k=q+1:=⟨k-1,by omega⟩
 have hk':x.length+sumL (szT sI3) x+2<k+1:=hk
 have hz':x.length+sumL (szT sI3) x≤140737488351232:=hz
 refine (eleqSiteS k x x).trans ?_
 rw [if_neg (by simp)]
 exact z81 (α:=Int×Int×Int) (L:=LleqSiteS_0 k _ _ (x,x)) (f:=fun y z=>FleqSite k y z) (fun _ _=>rfl) (a:=x) (fun y hy=>qleqSite k y (by have:=jd (f:=szT sI3) hy;omega) (by have:=jd (f:=szT sI3) hy;omega)) (by omega) x.length k 0 (by omega) (by omega)
theorem qleqArc (k:Nat) (x:I2) (hz:szT sI2 x≤140737488351232) (hk:szT sI2 x+1<k):FleqArc k x x=some true:=by
 obtain ⟨k,rfl⟩:∃q,k=q+1:=⟨k-1,by omega⟩
 have hk':(szT (.i .i64) x.1+szT (.i .i64) x.2)+1<k+1:=hk
 have hz':(szT (.i .i64) x.1+szT (.i .i64) x.2)≤140737488351232:=hz
 refine (eleqArc k x x).trans ?_
 simp only [Option.bind_some,bne_self_eq_false,beq_self_eq_true,Bool.not_true,Bool.false_eq_true,if_false]
theorem qleqZone (k:Nat) (x:I3) (hz:szT sZone x≤140737488351232) (hk:szT sZone x+2<k):FleqZone k x x=some true:=by
 obtain ⟨k,rfl⟩:∃q,k=q+1:=⟨k-1,by omega⟩
 have hk':(szT (.i .i64) x.1+szT sI2 x.2)+2<k+1:=hk
 have hz':(szT (.i .i64) x.1+szT sI2 x.2)≤140737488351232:=hz
 have g0:FleqArc k x.2 x.2=some true:=qleqArc k x.2 (by omega) (by omega)
 refine (eleqZone k x x).trans ?_
 simp only [g0,Option.bind_some,bne_self_eq_false,beq_self_eq_true,Bool.not_true,Bool.false_eq_true,if_false]
theorem qleqZoneS (k:Nat) (x:List I3) (hz:szT (.l 193 sZone) x≤140737488351232) (hk:szT (.l 193 sZone) x+3<k):FleqZoneS k x x=some true:=by
 obtain ⟨k,rfl⟩:∃q,k=q+1:=⟨k-1,by omega⟩
 have hk':x.length+sumL (szT sZone) x+3<k+1:=hk
 have hz':x.length+sumL (szT sZone) x≤140737488351232:=hz
 refine (eleqZoneS k x x).trans ?_
 rw [if_neg (by simp)]
 exact z81 (α:=Int×Int×Int) (L:=LleqZoneS_0 k _ _ (x,x)) (f:=fun y z=>FleqZone k y z) (fun _ _=>rfl) (a:=x) (fun y hy=>qleqZone k y (by have:=jd (f:=szT sZone) hy;omega) (by have:=jd (f:=szT sZone) hy;omega)) (by omega) x.length k 0 (by omega) (by omega)
theorem qleqSky (k:Nat) (x:Int×(List I4)×(List I3)×Int×Int×Int×Int×Int×(List I3)×Int) (hz:szT sSky x≤140737488351232) (hk:szT sSky x+4<k):FleqSky k x x=some true:=by
 obtain ⟨k,rfl⟩:∃q,k=q+1:=⟨k-1,by omega⟩
 have hk':(szT (.i .i64) x.1+(szT (.l 186 sI4) x.2.1+(szT (.l 188 sI3) x.2.2.1+(szT (.i .i64) x.2.2.2.1+(szT (.i .i64) x.2.2.2.2.1+(szT (.i .i64) x.2.2.2.2.2.1+(szT (.i .i64) x.2.2.2.2.2.2.1+(szT (.i .i64) x.2.2.2.2.2.2.2.1+(szT (.l 193 sZone) x.2.2.2.2.2.2.2.2.1+szT (.i .i64) x.2.2.2.2.2.2.2.2.2)))))))))+4<k+1:=hk
 have hz':(szT (.i .i64) x.1+(szT (.l 186 sI4) x.2.1+(szT (.l 188 sI3) x.2.2.1+(szT (.i .i64) x.2.2.2.1+(szT (.i .i64) x.2.2.2.2.1+(szT (.i .i64) x.2.2.2.2.2.1+(szT (.i .i64) x.2.2.2.2.2.2.1+(szT (.i .i64) x.2.2.2.2.2.2.2.1+(szT (.l 193 sZone) x.2.2.2.2.2.2.2.2.1+szT (.i .i64) x.2.2.2.2.2.2.2.2.2)))))))))≤140737488351232:=hz
 have g0:FleqSatS k x.2.1 x.2.1=some true:=qleqSatS k x.2.1 (by omega) (by omega)
 have g1:FleqSiteS k x.2.2.1 x.2.2.1=some true:=qleqSiteS k x.2.2.1 (by omega) (by omega)
 have g2:FleqZoneS k x.2.2.2.2.2.2.2.2.1 x.2.2.2.2.2.2.2.2.1=some true:=qleqZoneS k x.2.2.2.2.2.2.2.2.1 (by omega) (by omega)
 refine (eleqSky k x x).trans ?_
 simp only [g0,g1,g2,Option.bind_some,bne_self_eq_false,beq_self_eq_true,Bool.not_true,Bool.false_eq_true,if_false]
theorem qleqStream (k:Nat) (x:Int×Int×List Int) (hz:szT z8 x≤140737488351232) (hk:szT z8 x+2<k):FleqStream k x x=some true:=by
 obtain ⟨k,rfl⟩:∃q,k=q+1:=⟨k-1,by omega⟩
 have hk':(szT (.i .i64) x.1+(szT (.i .i64) x.2.1+szT (.l 3 (.i .i64)) x.2.2))+2<k+1:=hk
 have hz':(szT (.i .i64) x.1+(szT (.i .i64) x.2.1+szT (.l 3 (.i .i64)) x.2.2))≤140737488351232:=hz
 have g0:vf1 k x.2.2 x.2.2=some true:=qleqIntS k x.2.2 (by omega) (by omega)
 refine (eleqStream k x x).trans ?_
 simp only [g0,Option.bind_some,bne_self_eq_false,beq_self_eq_true,Bool.not_true,Bool.false_eq_true,if_false]
theorem qleqStreamS (k:Nat) (x:List (Int×Int×List Int)) (hz:szT (.l 205 z8) x≤140737488351232) (hk:szT (.l 205 z8) x+3<k):FleqStreamS k x x=some true:=by
 obtain ⟨k,rfl⟩:∃q,k=q+1:=⟨k-1,by omega⟩
 have hk':x.length+sumL (szT z8) x+3<k+1:=hk
 have hz':x.length+sumL (szT z8) x≤140737488351232:=hz
 refine (eleqStreamS k x x).trans ?_
 rw [if_neg (by simp)]
 exact z81 (α:=Int×Int×List Int) (L:=LleqStreamS_0 k _ _ (x,x)) (f:=fun y z=>FleqStream k y z) (fun _ _=>rfl) (a:=x) (fun y hy=>qleqStream k y (by have:=jd (f:=szT z8) hy;omega) (by have:=jd (f:=szT z8) hy;omega)) (by omega) x.length k 0 (by omega) (by omega)
theorem qleqWorld (k:Nat) (x:(Int×(List I4)×(List I3)×Int×Int×Int×Int×Int×(List I3)×Int)×(Int×Int×Int×List (I2×(List I2)×List (Int×(List Int)×List Int)))×(List Int)×(List Int)×(List I6)×(List (List I6))×(List I4)×(List Int)×(List (Int×Int×List Int))×(List I4)×Int×Int×(List I6)×List I4) (hz:szT y51 x≤140737488351232) (hk:szT y51 x+7<k):FleqWorld k x x=some true:=by
 obtain ⟨k,rfl⟩:∃q,k=q+1:=⟨k-1,by omega⟩
 have hk':(szT sSky x.1+(szT z7 x.2.1+(szT sLaw x.2.2.1+(szT (.l 3 (.i .i64)) x.2.2.2.1+(szT (.l 159 sI6) x.2.2.2.2.1+(szT (.l 140 x71) x.2.2.2.2.2.1+(szT (.l 85 sI4) x.2.2.2.2.2.2.1+(szT (.l 3 (.i .i64)) x.2.2.2.2.2.2.2.1+(szT (.l 205 z8) x.2.2.2.2.2.2.2.2.1+(szT (.l 86 sI4) x.2.2.2.2.2.2.2.2.2.1+(szT (.i .i64) x.2.2.2.2.2.2.2.2.2.2.1+(szT (.i .i64) x.2.2.2.2.2.2.2.2.2.2.2.1+(szT (.l 66 sI6) x.2.2.2.2.2.2.2.2.2.2.2.2.1+szT (.l 146 sI4) x.2.2.2.2.2.2.2.2.2.2.2.2.2)))))))))))))+7<k+1:=hk
 have hz':(szT sSky x.1+(szT z7 x.2.1+(szT sLaw x.2.2.1+(szT (.l 3 (.i .i64)) x.2.2.2.1+(szT (.l 159 sI6) x.2.2.2.2.1+(szT (.l 140 x71) x.2.2.2.2.2.1+(szT (.l 85 sI4) x.2.2.2.2.2.2.1+(szT (.l 3 (.i .i64)) x.2.2.2.2.2.2.2.1+(szT (.l 205 z8) x.2.2.2.2.2.2.2.2.1+(szT (.l 86 sI4) x.2.2.2.2.2.2.2.2.2.1+(szT (.i .i64) x.2.2.2.2.2.2.2.2.2.2.1+(szT (.i .i64) x.2.2.2.2.2.2.2.2.2.2.2.1+(szT (.l 66 sI6) x.2.2.2.2.2.2.2.2.2.2.2.2.1+szT (.l 146 sI4) x.2.2.2.2.2.2.2.2.2.2.2.2.2)))))))))))))≤140737488351232:=hz
 have g0:FleqSky k x.1 x.1=some true:=qleqSky k x.1 (by omega) (by omega)
 have g1:FleqProgram k x.2.1 x.2.1=some true:=qleqProgram k x.2.1 (by omega) (by omega)
 have g2:FleqLaw k x.2.2.1 x.2.2.1=some true:=qleqLaw k x.2.2.1 (by omega) (by omega)
 have g3:vf1 k x.2.2.2.1 x.2.2.2.1=some true:=qleqIntS k x.2.2.2.1 (by omega) (by omega)
 have g4:FleqBatteryS k x.2.2.2.2.1 x.2.2.2.2.1=some true:=qleqBatteryS k x.2.2.2.2.1 (by omega) (by omega)
 have g5:FleqQueueS k x.2.2.2.2.2.1 x.2.2.2.2.2.1=some true:=qleqQueueS k x.2.2.2.2.2.1 (by omega) (by omega)
 have g6:FleqFlowS k x.2.2.2.2.2.2.1 x.2.2.2.2.2.2.1=some true:=qleqFlowS k x.2.2.2.2.2.2.1 (by omega) (by omega)
 have g7:vf1 k x.2.2.2.2.2.2.2.1 x.2.2.2.2.2.2.2.1=some true:=qleqIntS k x.2.2.2.2.2.2.2.1 (by omega) (by omega)
 have g8:FleqStreamS k x.2.2.2.2.2.2.2.2.1 x.2.2.2.2.2.2.2.2.1=some true:=qleqStreamS k x.2.2.2.2.2.2.2.2.1 (by omega) (by omega)
 have g9:FleqFaultS k x.2.2.2.2.2.2.2.2.2.1 x.2.2.2.2.2.2.2.2.2.1=some true:=qleqFaultS k x.2.2.2.2.2.2.2.2.2.1 (by omega) (by omega)
 have g10:wr1 k x.2.2.2.2.2.2.2.2.2.2.2.2.1 x.2.2.2.2.2.2.2.2.2.2.2.2.1=some true:=qleqPacketS k x.2.2.2.2.2.2.2.2.2.2.2.2.1 (by omega) (by omega)
 have g11:FleqSentS k x.2.2.2.2.2.2.2.2.2.2.2.2.2 x.2.2.2.2.2.2.2.2.2.2.2.2.2=some true:=qleqSentS k x.2.2.2.2.2.2.2.2.2.2.2.2.2 (by omega) (by omega)
 refine (eleqWorld k x x).trans ?_
 simp only [g0,g1,g2,g3,g4,g5,g6,g7,g8,g9,g10,g11,Option.bind_some,bne_self_eq_false,beq_self_eq_true,Bool.not_true,Bool.false_eq_true,if_false]
theorem zlszBatteryS (k:Nat) (x:List I6) (left:Int) (hr:ja 140737488351232 (.l 211 sI6) x) (hk:szT (.l 211 sI6) x+1<k) (h0:0≤left) (h1:left≤1048576):FlszBatteryS k x left=some (szR (szT (.l 211 sI6) x) left):=by
 obtain ⟨k,rfl⟩:∃q,k=q+1:=⟨k-1,by omega⟩
 have hl:x.length≤140737488351232:=(jc hr).1
 have hz:szT (.l 211 sI6) x=x.length:=szT_row (e:=211) (sh:=sI6) rfl x
 exact (elszBatteryS k x left).trans ((sz_leaf hl h0 h1).trans (congrArg (fun n=>some (szR n left)) hz.symm))
theorem zlszFaultS (k:Nat) (x:List I4) (left:Int) (hr:ja 140737488351232 (.l 81 sI4) x) (hk:szT (.l 81 sI4) x+1<k) (h0:0≤left) (h1:left≤1048576):FlszFaultS k x left=some (szR (szT (.l 81 sI4) x) left):=by
 obtain ⟨k,rfl⟩:∃q,k=q+1:=⟨k-1,by omega⟩
 have hl:x.length≤140737488351232:=(jc hr).1
 have hz:szT (.l 81 sI4) x=x.length:=szT_row (e:=81) (sh:=sI4) rfl x
 exact (elszFaultS k x left).trans ((sz_leaf hl h0 h1).trans (congrArg (fun n=>some (szR n left)) hz.symm))
theorem zlszFlowS (k:Nat) (x:List I4) (left:Int) (hr:ja 140737488351232 (.l 79 sI4) x) (hk:szT (.l 79 sI4) x+1<k) (h0:0≤left) (h1:left≤1048576):FlszFlowS k x left=some (szR (szT (.l 79 sI4) x) left):=by
 obtain ⟨k,rfl⟩:∃q,k=q+1:=⟨k-1,by omega⟩
 have hl:x.length≤140737488351232:=(jc hr).1
 have hz:szT (.l 79 sI4) x=x.length:=szT_row (e:=79) (sh:=sI4) rfl x
 exact (elszFlowS k x left).trans ((sz_leaf hl h0 h1).trans (congrArg (fun n=>some (szR n left)) hz.symm))
theorem zlszIntS (k:Nat) (x:List Int) (left:Int) (hr:ja 140737488351232 (.l 3 (.i .i64)) x) (hk:szT (.l 3 (.i .i64)) x+1<k) (h0:0≤left) (h1:left≤1048576):FlszIntS k x left=some (szR (szT (.l 3 (.i .i64)) x) left):=by
 obtain ⟨k,rfl⟩:∃q,k=q+1:=⟨k-1,by omega⟩
 have hl:x.length≤140737488351232:=(jc hr).1
 have hz:szT (.l 3 (.i .i64)) x=x.length:=szT_row (e:=3) (sh:=(.i .i64)) rfl x
 exact (elszIntS k x left).trans ((sz_leaf hl h0 h1).trans (congrArg (fun n=>some (szR n left)) hz.symm))
theorem zlszLaw (k:Nat) (x:List Int) (left:Int) (hr:ja 140737488351232 sLaw x) (hk:szT sLaw x+2<k) (h0:0≤left) (h1:left≤1048576):FlszLaw k x left=some (szR (szT sLaw x) left):=by
 obtain ⟨k,rfl⟩:∃q,k=q+1:=⟨k-1,by omega⟩
 have hk':szT (.l 3 (.i .i64)) x+2<k+1:=hk
 have r0:ja 140737488351232 (.l 3 (.i .i64)) x:=hr
 have ht:szT sLaw x=szT (.l 3 (.i .i64)) x+0:=by
   show szT (.l 3 (.i .i64)) x=_
   omega
 rw [elszLaw,ht]
 exact y11 (zlszIntS k _ _ r0 (by omega) h0 h1) h0 h1 fun p1 q1 w1=>szR_zero q1
theorem zlszPacketS (k:Nat) (x:List I6) (left:Int) (hr:ja 140737488351232 (.l 215 sI6) x) (hk:szT (.l 215 sI6) x+1<k) (h0:0≤left) (h1:left≤1048576):FlszPacketS k x left=some (szR (szT (.l 215 sI6) x) left):=by
 obtain ⟨k,rfl⟩:∃q,k=q+1:=⟨k-1,by omega⟩
 have hl:x.length≤140737488351232:=(jc hr).1
 have hz:szT (.l 215 sI6) x=x.length:=szT_row (e:=215) (sh:=sI6) rfl x
 exact (elszPacketS k x left).trans ((sz_leaf hl h0 h1).trans (congrArg (fun n=>some (szR n left)) hz.symm))
theorem zlszLinkS (k:Nat) (x:List I2) (left:Int) (hr:ja 140737488351232 (.l 357 sI2) x) (hk:szT (.l 357 sI2) x+1<k) (h0:0≤left) (h1:left≤1048576):FlszLinkS k x left=some (szR (szT (.l 357 sI2) x) left):=by
 obtain ⟨k,rfl⟩:∃q,k=q+1:=⟨k-1,by omega⟩
 have hl:x.length≤140737488351232:=(jc hr).1
 have hz:szT (.l 357 sI2) x=x.length:=szT_row (e:=357) (sh:=sI2) rfl x
 exact (elszLinkS k x left).trans ((sz_leaf hl h0 h1).trans (congrArg (fun n=>some (szR n left)) hz.symm))
theorem zlszTable (k:Nat) (x:Int×(List Int)×List Int) (left:Int) (hr:ja 140737488351232 y9 x) (hk:szT y9 x+2<k) (h0:0≤left) (h1:left≤1048576):FlszTable k x left=some (szR (szT y9 x) left):=by
 obtain ⟨k,rfl⟩:∃q,k=q+1:=⟨k-1,by omega⟩
 have hk':(szT (.i .i64) x.1+(szT (.l 3 (.i .i64)) x.2.1+szT (.l 3 (.i .i64)) x.2.2))+2<k+1:=hk
 obtain ⟨r0,r1,r2⟩:ja 140737488351232 (.i .i64) x.1∧ja 140737488351232 (.l 3 (.i .i64)) x.2.1∧ja 140737488351232 (.l 3 (.i .i64)) x.2.2:=hr
 have f0:szT (.i .i64) x.1=0:=zz _ _ rfl
 have ht:szT y9 x=szT (.l 3 (.i .i64)) x.2.1+(szT (.l 3 (.i .i64)) x.2.2+0):=by
   show (szT (.i .i64) x.1+(szT (.l 3 (.i .i64)) x.2.1+szT (.l 3 (.i .i64)) x.2.2))=_
   omega
 rw [elszTable,ht]
 exact y11 (zlszIntS k _ _ r1 (by omega) h0 h1) h0 h1 fun p1 q1 w1=>y11 (zlszIntS k _ _ r2 (by omega) q1 w1) q1 w1 fun p2 q2 w2=>szR_zero q2
theorem zlszTableS (k:Nat) (x:List (Int×(List Int)×List Int)) (left:Int) (hr:ja 140737488351232 (.l 355 y9) x) (hk:szT (.l 355 y9) x+3<k) (h0:0≤left) (h1:left≤1048576):FlszTableS k x left=some (szR (szT (.l 355 y9) x) left):=by
 obtain ⟨k,rfl⟩:∃q,k=q+1:=⟨k-1,by omega⟩
 obtain ⟨hl,hr⟩:x.length≤140737488351232∧∀y ∈ x,ja 140737488351232 y9 y:=jc hr
 have hk':x.length+sumL (szT y9) x+3<k+1:=hk
 have hw:0≤left-(x.length:Int)→IntKind.i64.wrap (left-(x.length:Int))=left-x.length:=fun _=>zm (by omega) (by omega)
 refine (elszTableS k x left).trans (sz_rows (α:=Int×(List Int)×List Int) (s:=szT y9) hl h0 h1 fun hp=> ?_)
 rw [hw hp]
 have:=szS_loop2 (L:=LlszTableS_0 k _ _ x) (f:=fun y p=>FlszTable k y p) (fun _ _=>rfl) (neg:=some (-1)) (fin:=fun p=>some p) (fun _ _ _=>rfl) (fun _=>rfl) (s:=szT y9) (a:=x) (fun y hy p q0 q1=>zlszTable k y p (hr y hy) (by have:=jd (f:=szT y9) hy;omega) q0 q1) hl x.length k 0 (left-x.length) (by omega) (by omega) (by omega) (by omega)
 exact this
theorem zlszPiece (k:Nat) (x:I2×(List I2)×List (Int×(List Int)×List Int)) (left:Int) (hr:ja 140737488351232 xi x) (hk:szT xi x+4<k) (h0:0≤left) (h1:left≤1048576):FlszPiece k x left=some (szR (szT xi x) left):=by
 obtain ⟨k,rfl⟩:∃q,k=q+1:=⟨k-1,by omega⟩
 have hk':(szT sI2 x.1+(szT (.l 357 sI2) x.2.1+szT (.l 355 y9) x.2.2))+4<k+1:=hk
 obtain ⟨r0,r1,r2⟩:ja 140737488351232 sI2 x.1∧ja 140737488351232 (.l 357 sI2) x.2.1∧ja 140737488351232 (.l 355 y9) x.2.2:=hr
 have f0:szT sI2 x.1=0:=zz _ _ rfl
 have ht:szT xi x=szT (.l 357 sI2) x.2.1+(szT (.l 355 y9) x.2.2+0):=by
   show (szT sI2 x.1+(szT (.l 357 sI2) x.2.1+szT (.l 355 y9) x.2.2))=_
   omega
 rw [elszPiece,ht]
 exact y11 (zlszLinkS k _ _ r1 (by omega) h0 h1) h0 h1 fun p1 q1 w1=>y11 (zlszTableS k _ _ r2 (by omega) q1 w1) q1 w1 fun p2 q2 w2=>szR_zero q2
theorem zlszPieceS (k:Nat) (x:List (I2×(List I2)×List (Int×(List Int)×List Int))) (left:Int) (hr:ja 140737488351232 (.l 270 xi) x) (hk:szT (.l 270 xi) x+5<k) (h0:0≤left) (h1:left≤1048576):FlszPieceS k x left=some (szR (szT (.l 270 xi) x) left):=by
 obtain ⟨k,rfl⟩:∃q,k=q+1:=⟨k-1,by omega⟩
 obtain ⟨hl,hr⟩:x.length≤140737488351232∧∀y ∈ x,ja 140737488351232 xi y:=jc hr
 have hk':x.length+sumL (szT xi) x+5<k+1:=hk
 have hw:0≤left-(x.length:Int)→IntKind.i64.wrap (left-(x.length:Int))=left-x.length:=fun _=>zm (by omega) (by omega)
 refine (elszPieceS k x left).trans (sz_rows (α:=I2×(List I2)×List (Int×(List Int)×List Int)) (s:=szT xi) hl h0 h1 fun hp=> ?_)
 rw [hw hp]
 have:=szS_loop2 (L:=LlszPieceS_0 k _ _ x) (f:=fun y p=>FlszPiece k y p) (fun _ _=>rfl) (neg:=some (-1)) (fin:=fun p=>some p) (fun _ _ _=>rfl) (fun _=>rfl) (s:=szT xi) (a:=x) (fun y hy p q0 q1=>zlszPiece k y p (hr y hy) (by have:=jd (f:=szT xi) hy;omega) q0 q1) hl x.length k 0 (left-x.length) (by omega) (by omega) (by omega) (by omega)
 exact this
theorem zlszProgram (k:Nat) (x:Int×Int×Int×List (I2×(List I2)×List (Int×(List Int)×List Int))) (left:Int) (hr:ja 140737488351232 xy x) (hk:szT xy x+6<k) (h0:0≤left) (h1:left≤1048576):FlszProgram k x left=some (szR (szT xy x) left):=by
 obtain ⟨k,rfl⟩:∃q,k=q+1:=⟨k-1,by omega⟩
 have hk':(szT (.i .i64) x.1+(szT (.i .i64) x.2.1+(szT (.i .i64) x.2.2.1+szT (.l 270 xi) x.2.2.2)))+6<k+1:=hk
 obtain ⟨r0,r1,r2,r3⟩:ja 140737488351232 (.i .i64) x.1∧ja 140737488351232 (.i .i64) x.2.1∧ja 140737488351232 (.i .i64) x.2.2.1∧ja 140737488351232 (.l 270 xi) x.2.2.2:=hr
 have f0:szT (.i .i64) x.1=0:=zz _ _ rfl
 have f1:szT (.i .i64) x.2.1=0:=zz _ _ rfl
 have f2:szT (.i .i64) x.2.2.1=0:=zz _ _ rfl
 have ht:szT xy x=szT (.l 270 xi) x.2.2.2+0:=by
   show (szT (.i .i64) x.1+(szT (.i .i64) x.2.1+(szT (.i .i64) x.2.2.1+szT (.l 270 xi) x.2.2.2)))=_
   omega
 rw [elszProgram,ht]
 exact y11 (zlszPieceS k _ _ r3 (by omega) h0 h1) h0 h1 fun p1 q1 w1=>szR_zero q1
theorem zlszQueue (k:Nat) (x:List I6) (left:Int) (hr:ja 140737488351232 jj x) (hk:szT jj x+2<k) (h0:0≤left) (h1:left≤1048576):FlszQueue k x left=some (szR (szT jj x) left):=by
 obtain ⟨k,rfl⟩:∃q,k=q+1:=⟨k-1,by omega⟩
 have hk':szT (.l 215 sI6) x+2<k+1:=hk
 have r0:ja 140737488351232 (.l 215 sI6) x:=hr
 have ht:szT jj x=szT (.l 215 sI6) x+0:=by
   show szT (.l 215 sI6) x=_
   omega
 rw [elszQueue,ht]
 exact y11 (zlszPacketS k _ _ r0 (by omega) h0 h1) h0 h1 fun p1 q1 w1=>szR_zero q1
theorem zlszQueueS (k:Nat) (x:List (List I6)) (left:Int) (hr:ja 140737488351232 (.l 177 jj) x) (hk:szT (.l 177 jj) x+3<k) (h0:0≤left) (h1:left≤1048576):FlszQueueS k x left=some (szR (szT (.l 177 jj) x) left):=by
 obtain ⟨k,rfl⟩:∃q,k=q+1:=⟨k-1,by omega⟩
 obtain ⟨hl,hr⟩:x.length≤140737488351232∧∀y ∈ x,ja 140737488351232 jj y:=jc hr
 have hk':x.length+sumL (szT jj) x+3<k+1:=hk
 have hw:0≤left-(x.length:Int)→IntKind.i64.wrap (left-(x.length:Int))=left-x.length:=fun _=>zm (by omega) (by omega)
 refine (elszQueueS k x left).trans (sz_rows (α:=List I6) (s:=szT jj) hl h0 h1 fun hp=> ?_)
 rw [hw hp]
 have:=szS_loop2 (L:=LlszQueueS_0 k _ _ x) (f:=fun y p=>FlszQueue k y p) (fun _ _=>rfl) (neg:=some (-1)) (fin:=fun p=>some p) (fun _ _ _=>rfl) (fun _=>rfl) (s:=szT jj) (a:=x) (fun y hy p q0 q1=>zlszQueue k y p (hr y hy) (by have:=jd (f:=szT jj) hy;omega) q0 q1) hl x.length k 0 (left-x.length) (by omega) (by omega) (by omega) (by omega)
 exact this
theorem zlszSentS (k:Nat) (x:List I4) (left:Int) (hr:ja 140737488351232 (.l 217 sI4) x) (hk:szT (.l 217 sI4) x+1<k) (h0:0≤left) (h1:left≤1048576):FlszSentS k x left=some (szR (szT (.l 217 sI4) x) left):=by
 obtain ⟨k,rfl⟩:∃q,k=q+1:=⟨k-1,by omega⟩
 have hl:x.length≤140737488351232:=(jc hr).1
 have hz:szT (.l 217 sI4) x=x.length:=szT_row (e:=217) (sh:=sI4) rfl x
 exact (elszSentS k x left).trans ((sz_leaf hl h0 h1).trans (congrArg (fun n=>some (szR n left)) hz.symm))
theorem zlszSatS (k:Nat) (x:List I4) (left:Int) (hr:ja 140737488351232 (.l 273 sI4) x) (hk:szT (.l 273 sI4) x+1<k) (h0:0≤left) (h1:left≤1048576):FlszSatS k x left=some (szR (szT (.l 273 sI4) x) left):=by
 obtain ⟨k,rfl⟩:∃q,k=q+1:=⟨k-1,by omega⟩
 have hl:x.length≤140737488351232:=(jc hr).1
 have hz:szT (.l 273 sI4) x=x.length:=szT_row (e:=273) (sh:=sI4) rfl x
 exact (elszSatS k x left).trans ((sz_leaf hl h0 h1).trans (congrArg (fun n=>some (szR n left)) hz.symm))
theorem zlszSiteS (k:Nat) (x:List I3) (left:Int) (hr:ja 140737488351232 (.l 275 sI3) x) (hk:szT (.l 275 sI3) x+1<k) (h0:0≤left) (h1:left≤1048576):FlszSiteS k x left=some (szR (szT (.l 275 sI3) x) left):=by
 obtain ⟨k,rfl⟩:∃q,k=q+1:=⟨k-1,by omega⟩
 have hl:x.length≤140737488351232:=(jc hr).1
 have hz:szT (.l 275 sI3) x=x.length:=szT_row (e:=275) (sh:=sI3) rfl x
 exact (elszSiteS k x left).trans ((sz_leaf hl h0 h1).trans (congrArg (fun n=>some (szR n left)) hz.symm))
theorem zlszZoneS (k:Nat) (x:List I3) (left:Int) (hr:ja 140737488351232 (.l 279 sZone) x) (hk:szT (.l 279 sZone) x+1<k) (h0:0≤left) (h1:left≤1048576):FlszZoneS k x left=some (szR (szT (.l 279 sZone) x) left):=by
 obtain ⟨k,rfl⟩:∃q,k=q+1:=⟨k-1,by omega⟩
 have hl:x.length≤140737488351232:=(jc hr).1
 have hz:szT (.l 279 sZone) x=x.length:=szT_row (e:=279) (sh:=sZone) rfl x
 exact (elszZoneS k x left).trans ((sz_leaf hl h0 h1).trans (congrArg (fun n=>some (szR n left)) hz.symm))
theorem zlszSky (k:Nat) (x:Int×(List I4)×(List I3)×Int×Int×Int×Int×Int×(List I3)×Int) (left:Int) (hr:ja 140737488351232 sLSky x) (hk:szT sLSky x+2<k) (h0:0≤left) (h1:left≤1048576):FlszSky k x left=some (szR (szT sLSky x) left):=by
 obtain ⟨k,rfl⟩:∃q,k=q+1:=⟨k-1,by omega⟩
 have hk':(szT (.i .i64) x.1+(szT (.l 273 sI4) x.2.1+(szT (.l 275 sI3) x.2.2.1+(szT (.i .i64) x.2.2.2.1+(szT (.i .i64) x.2.2.2.2.1+(szT (.i .i64) x.2.2.2.2.2.1+(szT (.i .i64) x.2.2.2.2.2.2.1+(szT (.i .i64) x.2.2.2.2.2.2.2.1+(szT (.l 279 sZone) x.2.2.2.2.2.2.2.2.1+szT (.i .i64) x.2.2.2.2.2.2.2.2.2)))))))))+2<k+1:=hk
 obtain ⟨r0,r1,r2,r3,r4,r5,r6,r7,r8,r9⟩:ja 140737488351232 (.i .i64) x.1∧ja 140737488351232 (.l 273 sI4) x.2.1∧ja 140737488351232 (.l 275 sI3) x.2.2.1∧ja 140737488351232 (.i .i64) x.2.2.2.1∧ja 140737488351232 (.i .i64) x.2.2.2.2.1∧ja 140737488351232 (.i .i64) x.2.2.2.2.2.1∧ja 140737488351232 (.i .i64) x.2.2.2.2.2.2.1∧ja 140737488351232 (.i .i64) x.2.2.2.2.2.2.2.1∧ja 140737488351232 (.l 279 sZone) x.2.2.2.2.2.2.2.2.1∧ja 140737488351232 (.i .i64) x.2.2.2.2.2.2.2.2.2:=hr
 have f0:szT (.i .i64) x.1=0:=zz _ _ rfl
 have f3:szT (.i .i64) x.2.2.2.1=0:=zz _ _ rfl
 have f4:szT (.i .i64) x.2.2.2.2.1=0:=zz _ _ rfl
 have f5:szT (.i .i64) x.2.2.2.2.2.1=0:=zz _ _ rfl
 have f6:szT (.i .i64) x.2.2.2.2.2.2.1=0:=zz _ _ rfl
 have f7:szT (.i .i64) x.2.2.2.2.2.2.2.1=0:=zz _ _ rfl
 have f9:szT (.i .i64) x.2.2.2.2.2.2.2.2.2=0:=zz _ _ rfl
 have ht:szT sLSky x=szT (.l 273 sI4) x.2.1+(szT (.l 275 sI3) x.2.2.1+(szT (.l 279 sZone) x.2.2.2.2.2.2.2.2.1+0)):=by
   show (szT (.i .i64) x.1+(szT (.l 273 sI4) x.2.1+(szT (.l 275 sI3) x.2.2.1+(szT (.i .i64) x.2.2.2.1+(szT (.i .i64) x.2.2.2.2.1+(szT (.i .i64) x.2.2.2.2.2.1+(szT (.i .i64) x.2.2.2.2.2.2.1+(szT (.i .i64) x.2.2.2.2.2.2.2.1+(szT (.l 279 sZone) x.2.2.2.2.2.2.2.2.1+szT (.i .i64) x.2.2.2.2.2.2.2.2.2)))))))))=_
   omega
 rw [elszSky,ht]
 exact y11 (zlszSatS k _ _ r1 (by omega) h0 h1) h0 h1 fun p1 q1 w1=>y11 (zlszSiteS k _ _ r2 (by omega) q1 w1) q1 w1 fun p2 q2 w2=>y11 (zlszZoneS k _ _ r8 (by omega) q2 w2) q2 w2 fun p3 q3 w3=>szR_zero q3
theorem zlszStream (k:Nat) (x:Int×Int×List Int) (left:Int) (hr:ja 140737488351232 z8 x) (hk:szT z8 x+2<k) (h0:0≤left) (h1:left≤1048576):FlszStream k x left=some (szR (szT z8 x) left):=by
 obtain ⟨k,rfl⟩:∃q,k=q+1:=⟨k-1,by omega⟩
 have hk':(szT (.i .i64) x.1+(szT (.i .i64) x.2.1+szT (.l 3 (.i .i64)) x.2.2))+2<k+1:=hk
 obtain ⟨r0,r1,r2⟩:ja 140737488351232 (.i .i64) x.1∧ja 140737488351232 (.i .i64) x.2.1∧ja 140737488351232 (.l 3 (.i .i64)) x.2.2:=hr
 have f0:szT (.i .i64) x.1=0:=zz _ _ rfl
 have f1:szT (.i .i64) x.2.1=0:=zz _ _ rfl
 have ht:szT z8 x=szT (.l 3 (.i .i64)) x.2.2+0:=by
   show (szT (.i .i64) x.1+(szT (.i .i64) x.2.1+szT (.l 3 (.i .i64)) x.2.2))=_
   omega
 rw [elszStream,ht]
 exact y11 (zlszIntS k _ _ r2 (by omega) h0 h1) h0 h1 fun p1 q1 w1=>szR_zero q1
theorem zlszStreamS (k:Nat) (x:List (Int×Int×List Int)) (left:Int) (hr:ja 140737488351232 (.l 180 z8) x) (hk:szT (.l 180 z8) x+3<k) (h0:0≤left) (h1:left≤1048576):FlszStreamS k x left=some (szR (szT (.l 180 z8) x) left):=by
 obtain ⟨k,rfl⟩:∃q,k=q+1:=⟨k-1,by omega⟩
 obtain ⟨hl,hr⟩:x.length≤140737488351232∧∀y ∈ x,ja 140737488351232 z8 y:=jc hr
 have hk':x.length+sumL (szT z8) x+3<k+1:=hk
 have hw:0≤left-(x.length:Int)→IntKind.i64.wrap (left-(x.length:Int))=left-x.length:=fun _=>zm (by omega) (by omega)
 refine (elszStreamS k x left).trans (sz_rows (α:=Int×Int×List Int) (s:=szT z8) hl h0 h1 fun hp=> ?_)
 rw [hw hp]
 have:=szS_loop2 (L:=LlszStreamS_0 k _ _ x) (f:=fun y p=>FlszStream k y p) (fun _ _=>rfl) (neg:=some (-1)) (fin:=fun p=>some p) (fun _ _ _=>rfl) (fun _=>rfl) (s:=szT z8) (a:=x) (fun y hy p q0 q1=>zlszStream k y p (hr y hy) (by have:=jd (f:=szT z8) hy;omega) q0 q1) hl x.length k 0 (left-x.length) (by omega) (by omega) (by omega) (by omega)
 exact this
theorem zlszWorld (k:Nat) (x:(Int×(List I4)×(List I3)×Int×Int×Int×Int×Int×(List I3)×Int)×(Int×Int×Int×List (I2×(List I2)×List (Int×(List Int)×List Int)))×(List Int)×(List Int)×(List I6)×(List (List I6))×(List I4)×(List Int)×(List (Int×Int×List Int))×(List I4)×Int×Int×(List I6)×List I4) (left:Int) (hr:ja 140737488351232 yz x) (hk:szT yz x+7<k) (h0:0≤left) (h1:left≤1048576):FlszWorld k x left=some (szR (szT yz x) left):=by
 obtain ⟨k,rfl⟩:∃q,k=q+1:=⟨k-1,by omega⟩
 have hk':(szT sLSky x.1+(szT xy x.2.1+(szT sLaw x.2.2.1+(szT (.l 3 (.i .i64)) x.2.2.2.1+(szT (.l 211 sI6) x.2.2.2.2.1+(szT (.l 177 jj) x.2.2.2.2.2.1+(szT (.l 79 sI4) x.2.2.2.2.2.2.1+(szT (.l 3 (.i .i64)) x.2.2.2.2.2.2.2.1+(szT (.l 180 z8) x.2.2.2.2.2.2.2.2.1+(szT (.l 81 sI4) x.2.2.2.2.2.2.2.2.2.1+(szT (.i .i64) x.2.2.2.2.2.2.2.2.2.2.1+(szT (.i .i64) x.2.2.2.2.2.2.2.2.2.2.2.1+(szT (.l 215 sI6) x.2.2.2.2.2.2.2.2.2.2.2.2.1+szT (.l 217 sI4) x.2.2.2.2.2.2.2.2.2.2.2.2.2)))))))))))))+7<k+1:=hk
 obtain ⟨r0,r1,r2,r3,r4,r5,r6,r7,r8,r9,r10,r11,r12,r13⟩:ja 140737488351232 sLSky x.1∧ja 140737488351232 xy x.2.1∧ja 140737488351232 sLaw x.2.2.1∧ja 140737488351232 (.l 3 (.i .i64)) x.2.2.2.1∧ja 140737488351232 (.l 211 sI6) x.2.2.2.2.1∧ja 140737488351232 (.l 177 jj) x.2.2.2.2.2.1∧ja 140737488351232 (.l 79 sI4) x.2.2.2.2.2.2.1∧ja 140737488351232 (.l 3 (.i .i64)) x.2.2.2.2.2.2.2.1∧ja 140737488351232 (.l 180 z8) x.2.2.2.2.2.2.2.2.1∧ja 140737488351232 (.l 81 sI4) x.2.2.2.2.2.2.2.2.2.1∧ja 140737488351232 (.i .i64) x.2.2.2.2.2.2.2.2.2.2.1∧ja 140737488351232 (.i .i64) x.2.2.2.2.2.2.2.2.2.2.2.1∧ja 140737488351232 (.l 215 sI6) x.2.2.2.2.2.2.2.2.2.2.2.2.1∧ja 140737488351232 (.l 217 sI4) x.2.2.2.2.2.2.2.2.2.2.2.2.2:=hr
 have f10:szT (.i .i64) x.2.2.2.2.2.2.2.2.2.2.1=0:=zz _ _ rfl
 have f11:szT (.i .i64) x.2.2.2.2.2.2.2.2.2.2.2.1=0:=zz _ _ rfl
 have ht:szT yz x=szT sLSky x.1+(szT xy x.2.1+(szT sLaw x.2.2.1+(szT (.l 3 (.i .i64)) x.2.2.2.1+(szT (.l 211 sI6) x.2.2.2.2.1+(szT (.l 177 jj) x.2.2.2.2.2.1+(szT (.l 79 sI4) x.2.2.2.2.2.2.1+(szT (.l 3 (.i .i64)) x.2.2.2.2.2.2.2.1+(szT (.l 180 z8) x.2.2.2.2.2.2.2.2.1+(szT (.l 81 sI4) x.2.2.2.2.2.2.2.2.2.1+(szT (.l 215 sI6) x.2.2.2.2.2.2.2.2.2.2.2.2.1+(szT (.l 217 sI4) x.2.2.2.2.2.2.2.2.2.2.2.2.2+0))))))))))):=by
   show (szT sLSky x.1+(szT xy x.2.1+(szT sLaw x.2.2.1+(szT (.l 3 (.i .i64)) x.2.2.2.1+(szT (.l 211 sI6) x.2.2.2.2.1+(szT (.l 177 jj) x.2.2.2.2.2.1+(szT (.l 79 sI4) x.2.2.2.2.2.2.1+(szT (.l 3 (.i .i64)) x.2.2.2.2.2.2.2.1+(szT (.l 180 z8) x.2.2.2.2.2.2.2.2.1+(szT (.l 81 sI4) x.2.2.2.2.2.2.2.2.2.1+(szT (.i .i64) x.2.2.2.2.2.2.2.2.2.2.1+(szT (.i .i64) x.2.2.2.2.2.2.2.2.2.2.2.1+(szT (.l 215 sI6) x.2.2.2.2.2.2.2.2.2.2.2.2.1+szT (.l 217 sI4) x.2.2.2.2.2.2.2.2.2.2.2.2.2)))))))))))))=_
   omega
 rw [elszWorld,ht]
 exact y11 (zlszSky k _ _ r0 (by omega) h0 h1) h0 h1 fun p1 q1 w1=>y11 (zlszProgram k _ _ r1 (by omega) q1 w1) q1 w1 fun p2 q2 w2=>y11 (zlszLaw k _ _ r2 (by omega) q2 w2) q2 w2 fun p3 q3 w3=>y11 (zlszIntS k _ _ r3 (by omega) q3 w3) q3 w3 fun p4 q4 w4=>y11 (zlszBatteryS k _ _ r4 (by omega) q4 w4) q4 w4 fun p5 q5 w5=>y11 (zlszQueueS k _ _ r5 (by omega) q5 w5) q5 w5 fun p6 q6 w6=>y11 (zlszFlowS k _ _ r6 (by omega) q6 w6) q6 w6 fun p7 q7 w7=>y11 (zlszIntS k _ _ r7 (by omega) q7 w7) q7 w7 fun p8 q8 w8=>y11 (zlszStreamS k _ _ r8 (by omega) q8 w8) q8 w8 fun p9 q9 w9=>y11 (zlszFaultS k _ _ r9 (by omega) q9 w9) q9 w9 fun p10 q10 w10=>y11 (zlszPacketS k _ _ r12 (by omega) q10 w10) q10 w10 fun p11 q11 w11=>y11 (zlszSentS k _ _ r13 (by omega) q11 w11) q11 w11 fun p12 q12 w12=>szR_zero q12
theorem tltoBattery (k:Nat) (x:I6) (hz:szT sI6 x≤1048576) (hk:szT sI6 x+1<k):FltoBattery k x=some x:=by
 obtain ⟨k,rfl⟩:∃q,k=q+1:=⟨k-1,by omega⟩
 have hk':(szT (.i .i64) x.1+(szT (.i .i64) x.2.1+(szT (.i .i64) x.2.2.1+(szT (.i .i64) x.2.2.2.1+(szT (.i .i64) x.2.2.2.2.1+szT (.i .i64) x.2.2.2.2.2)))))+1<k+1:=hk
 have hz':(szT (.i .i64) x.1+(szT (.i .i64) x.2.1+(szT (.i .i64) x.2.2.1+(szT (.i .i64) x.2.2.2.1+(szT (.i .i64) x.2.2.2.2.1+szT (.i .i64) x.2.2.2.2.2)))))≤1048576:=hz
 exact eltoBattery k x
theorem tltoBatteryS (k:Nat) (x:List I6) (hz:szT (.l 211 sI6) x≤1048576) (hk:szT (.l 211 sI6) x+2<k):FltoBatteryS k x=some x:=by
 obtain ⟨k,rfl⟩:∃q,k=q+1:=⟨k-1,by omega⟩
 have hk':x.length+sumL (szT sI6) x+2<k+1:=hk
 have hz':x.length+sumL (szT sI6) x≤1048576:=hz
 refine (eltoBatteryS k x).trans ?_
 rw [if_pos (beq_self_eq_true _),if_pos (by omega),if_pos (by simp;omega)]
 exact v11 (α:=Int×Int×Int×Int×Int×Int) (L:=LltoBatteryS_0 k _ x) (f:=fun y=>FltoBattery k y) (fun _ _=>rfl) (a:=x) (fun y hy=>tltoBattery k y (by have:=jd (f:=szT sI6) hy;omega) (by have:=jd (f:=szT sI6) hy;omega)) (by omega) x.length k 0 _ (by omega) (by omega) (by simp) (by simp)
theorem tltoFault (k:Nat) (x:I4) (hz:szT sI4 x≤1048576) (hk:szT sI4 x+1<k):FltoFault k x=some x:=by
 obtain ⟨k,rfl⟩:∃q,k=q+1:=⟨k-1,by omega⟩
 have hk':(szT (.i .i64) x.1+(szT (.i .i64) x.2.1+(szT (.i .i64) x.2.2.1+szT (.i .i64) x.2.2.2)))+1<k+1:=hk
 have hz':(szT (.i .i64) x.1+(szT (.i .i64) x.2.1+(szT (.i .i64) x.2.2.1+szT (.i .i64) x.2.2.2)))≤1048576:=hz
 exact eltoFault k x
theorem tltoFaultS (k:Nat) (x:List I4) (hz:szT (.l 81 sI4) x≤1048576) (hk:szT (.l 81 sI4) x+2<k):FltoFaultS k x=some x:=by
 obtain ⟨k,rfl⟩:∃q,k=q+1:=⟨k-1,by omega⟩
 have hk':x.length+sumL (szT sI4) x+2<k+1:=hk
 have hz':x.length+sumL (szT sI4) x≤1048576:=hz
 refine (eltoFaultS k x).trans ?_
 rw [if_pos (beq_self_eq_true _),if_pos (by omega),if_pos (by simp;omega)]
 exact v11 (α:=Int×Int×Int×Int) (L:=LltoFaultS_0 k _ x) (f:=fun y=>FltoFault k y) (fun _ _=>rfl) (a:=x) (fun y hy=>tltoFault k y (by have:=jd (f:=szT sI4) hy;omega) (by have:=jd (f:=szT sI4) hy;omega)) (by omega) x.length k 0 _ (by omega) (by omega) (by simp) (by simp)
theorem tltoFlow (k:Nat) (x:I4) (hz:szT sI4 x≤1048576) (hk:szT sI4 x+1<k):FltoFlow k x=some x:=by
 obtain ⟨k,rfl⟩:∃q,k=q+1:=⟨k-1,by omega⟩
 have hk':(szT (.i .i64) x.1+(szT (.i .i64) x.2.1+(szT (.i .i64) x.2.2.1+szT (.i .i64) x.2.2.2)))+1<k+1:=hk
 have hz':(szT (.i .i64) x.1+(szT (.i .i64) x.2.1+(szT (.i .i64) x.2.2.1+szT (.i .i64) x.2.2.2)))≤1048576:=hz
 exact eltoFlow k x
theorem tltoFlowS (k:Nat) (x:List I4) (hz:szT (.l 79 sI4) x≤1048576) (hk:szT (.l 79 sI4) x+2<k):FltoFlowS k x=some x:=by
 obtain ⟨k,rfl⟩:∃q,k=q+1:=⟨k-1,by omega⟩
 have hk':x.length+sumL (szT sI4) x+2<k+1:=hk
 have hz':x.length+sumL (szT sI4) x≤1048576:=hz
 refine (eltoFlowS k x).trans ?_
 rw [if_pos (beq_self_eq_true _),if_pos (by omega),if_pos (by simp;omega)]
 exact v11 (α:=Int×Int×Int×Int) (L:=LltoFlowS_0 k _ x) (f:=fun y=>FltoFlow k y) (fun _ _=>rfl) (a:=x) (fun y hy=>tltoFlow k y (by have:=jd (f:=szT sI4) hy;omega) (by have:=jd (f:=szT sI4) hy;omega)) (by omega) x.length k 0 _ (by omega) (by omega) (by simp) (by simp)
theorem tltoIntS (k:Nat) (x:List Int) (hz:szT (.l 3 (.i .i64)) x≤1048576) (hk:szT (.l 3 (.i .i64)) x+1<k):jf1 k x=some x:=by
 obtain ⟨k,rfl⟩:∃q,k=q+1:=⟨k-1,by omega⟩
 have hk':x.length+sumL (szT (.i .i64)) x+1<k+1:=hk
 have hz':x.length+sumL (szT (.i .i64)) x≤1048576:=hz
 refine (eltoIntS k x).trans ?_
 rw [if_pos (beq_self_eq_true _),if_pos (by omega),if_pos (by simp;omega)]
 exact v11 (α:=Int) (L:=LltoIntS_0 k _ x) (f:=fun y=>some y) (fun _ _=>rfl) (a:=x) (fun _ _=>rfl) (by omega) x.length k 0 _ (by omega) (by omega) (by simp) (by simp)
theorem tltoLaw (k:Nat) (x:List Int) (hz:szT sLaw x≤1048576) (hk:szT sLaw x+2<k):FltoLaw k x=some x:=by
 obtain ⟨k,rfl⟩:∃q,k=q+1:=⟨k-1,by omega⟩
 have hk':szT (.l 3 (.i .i64)) x+2<k+1:=hk
 have hz':szT (.l 3 (.i .i64)) x≤1048576:=hz
 have g0:jf1 k x=some x:=tltoIntS k x (by omega) (by omega)
 refine (eltoLaw k x).trans ?_
 simp only [g0,Option.bind_some,bne_self_eq_false,beq_self_eq_true,Bool.not_true,Bool.false_eq_true,if_false]
theorem tltoPacket (k:Nat) (x:I6) (hz:szT sI6 x≤1048576) (hk:szT sI6 x+1<k):FltoPacket k x=some x:=by
 obtain ⟨k,rfl⟩:∃q,k=q+1:=⟨k-1,by omega⟩
 have hk':(szT (.i .i64) x.1+(szT (.i .i64) x.2.1+(szT (.i .i64) x.2.2.1+(szT (.i .i64) x.2.2.2.1+(szT (.i .i64) x.2.2.2.2.1+szT (.i .i64) x.2.2.2.2.2)))))+1<k+1:=hk
 have hz':(szT (.i .i64) x.1+(szT (.i .i64) x.2.1+(szT (.i .i64) x.2.2.1+(szT (.i .i64) x.2.2.2.1+(szT (.i .i64) x.2.2.2.2.1+szT (.i .i64) x.2.2.2.2.2)))))≤1048576:=hz
 exact eltoPacket k x
theorem tltoPacketS (k:Nat) (x:List I6) (hz:szT (.l 215 sI6) x≤1048576) (hk:szT (.l 215 sI6) x+2<k):jq1 k x=some x:=by
 obtain ⟨k,rfl⟩:∃q,k=q+1:=⟨k-1,by omega⟩
 have hk':x.length+sumL (szT sI6) x+2<k+1:=hk
 have hz':x.length+sumL (szT sI6) x≤1048576:=hz
 refine (eltoPacketS k x).trans ?_
 rw [if_pos (beq_self_eq_true _),if_pos (by omega),if_pos (by simp;omega)]
 exact v11 (α:=Int×Int×Int×Int×Int×Int) (L:=LltoPacketS_0 k _ x) (f:=fun y=>FltoPacket k y) (fun _ _=>rfl) (a:=x) (fun y hy=>tltoPacket k y (by have:=jd (f:=szT sI6) hy;omega) (by have:=jd (f:=szT sI6) hy;omega)) (by omega) x.length k 0 _ (by omega) (by omega) (by simp) (by simp)
theorem tltoLink (k:Nat) (x:I2) (hz:szT sI2 x≤1048576) (hk:szT sI2 x+1<k):FltoLink k x=some x:=by
 obtain ⟨k,rfl⟩:∃q,k=q+1:=⟨k-1,by omega⟩
 have hk':(szT (.i .i64) x.1+szT (.i .i64) x.2)+1<k+1:=hk
 have hz':(szT (.i .i64) x.1+szT (.i .i64) x.2)≤1048576:=hz
 exact eltoLink k x
theorem tltoLinkS (k:Nat) (x:List I2) (hz:szT (.l 357 sI2) x≤1048576) (hk:szT (.l 357 sI2) x+2<k):FltoLinkS k x=some x:=by
 obtain ⟨k,rfl⟩:∃q,k=q+1:=⟨k-1,by omega⟩
 have hk':x.length+sumL (szT sI2) x+2<k+1:=hk
 have hz':x.length+sumL (szT sI2) x≤1048576:=hz
 refine (eltoLinkS k x).trans ?_
 rw [if_pos (beq_self_eq_true _),if_pos (by omega),if_pos (by simp;omega)]
 exact v11 (α:=Int×Int) (L:=LltoLinkS_0 k _ x) (f:=fun y=>FltoLink k y) (fun _ _=>rfl) (a:=x) (fun y hy=>tltoLink k y (by have:=jd (f:=szT sI2) hy;omega) (by have:=jd (f:=szT sI2) hy;omega)) (by omega) x.length k 0 _ (by omega) (by omega) (by simp) (by simp)
theorem tltoSpan (k:Nat) (x:I2) (hz:szT sI2 x≤1048576) (hk:szT sI2 x+1<k):FltoSpan k x=some x:=by
 obtain ⟨k,rfl⟩:∃q,k=q+1:=⟨k-1,by omega⟩
 have hk':(szT (.i .i64) x.1+szT (.i .i64) x.2)+1<k+1:=hk
 have hz':(szT (.i .i64) x.1+szT (.i .i64) x.2)≤1048576:=hz
 exact eltoSpan k x
theorem tltoTable (k:Nat) (x:Int×(List Int)×List Int) (hz:szT y9 x≤1048576) (hk:szT y9 x+2<k):FltoTable k x=some x:=by
 obtain ⟨k,rfl⟩:∃q,k=q+1:=⟨k-1,by omega⟩
 have hk':(szT (.i .i64) x.1+(szT (.l 3 (.i .i64)) x.2.1+szT (.l 3 (.i .i64)) x.2.2))+2<k+1:=hk
 have hz':(szT (.i .i64) x.1+(szT (.l 3 (.i .i64)) x.2.1+szT (.l 3 (.i .i64)) x.2.2))≤1048576:=hz
 have g0:jf1 k x.2.1=some x.2.1:=tltoIntS k x.2.1 (by omega) (by omega)
 have g1:jf1 k x.2.2=some x.2.2:=tltoIntS k x.2.2 (by omega) (by omega)
 refine (eltoTable k x).trans ?_
 simp only [g0,g1,Option.bind_some,bne_self_eq_false,beq_self_eq_true,Bool.not_true,Bool.false_eq_true,if_false]
theorem tltoTableS (k:Nat) (x:List (Int×(List Int)×List Int)) (hz:szT (.l 355 y9) x≤1048576) (hk:szT (.l 355 y9) x+3<k):FltoTableS k x=some x:=by
 obtain ⟨k,rfl⟩:∃q,k=q+1:=⟨k-1,by omega⟩
 have hk':x.length+sumL (szT y9) x+3<k+1:=hk
 have hz':x.length+sumL (szT y9) x≤1048576:=hz
 refine (eltoTableS k x).trans ?_
 rw [if_pos (beq_self_eq_true _),if_pos (by omega),if_pos (by simp;omega)]
 exact v11 (α:=Int×(List Int)×List Int) (L:=LltoTableS_0 k _ x) (f:=fun y=>FltoTable k y) (fun _ _=>rfl) (a:=x) (fun y hy=>tltoTable k y (by have:=jd (f:=szT y9) hy;omega) (by have:=jd (f:=szT y9) hy;omega)) (by omega) x.length k 0 _ (by omega) (by omega) (by simp) (by simp)
theorem tltoPiece (k:Nat) (x:I2×(List I2)×List (Int×(List Int)×List Int)) (hz:szT xi x≤1048576) (hk:szT xi x+4<k):FltoPiece k x=some x:=by
 obtain ⟨k,rfl⟩:∃q,k=q+1:=⟨k-1,by omega⟩
 have hk':(szT sI2 x.1+(szT (.l 357 sI2) x.2.1+szT (.l 355 y9) x.2.2))+4<k+1:=hk
 have hz':(szT sI2 x.1+(szT (.l 357 sI2) x.2.1+szT (.l 355 y9) x.2.2))≤1048576:=hz
 have g0:FltoSpan k x.1=some x.1:=tltoSpan k x.1 (by omega) (by omega)
 have g1:FltoLinkS k x.2.1=some x.2.1:=tltoLinkS k x.2.1 (by omega) (by omega)
 have g2:FltoTableS k x.2.2=some x.2.2:=tltoTableS k x.2.2 (by omega) (by omega)
 refine (eltoPiece k x).trans ?_
 simp only [g0,g1,g2,Option.bind_some,bne_self_eq_false,beq_self_eq_true,Bool.not_true,Bool.false_eq_true,if_false]
theorem tltoPieceS (k:Nat) (x:List (I2×(List I2)×List (Int×(List Int)×List Int))) (hz:szT (.l 270 xi) x≤1048576) (hk:szT (.l 270 xi) x+5<k):FltoPieceS k x=some x:=by
 obtain ⟨k,rfl⟩:∃q,k=q+1:=⟨k-1,by omega⟩
 have hk':x.length+sumL (szT xi) x+5<k+1:=hk
 have hz':x.length+sumL (szT xi) x≤1048576:=hz
 refine (eltoPieceS k x).trans ?_
 rw [if_pos (beq_self_eq_true _),if_pos (by omega),if_pos (by simp;omega)]
 exact v11 (α:=I2×(List I2)×List (Int×(List Int)×List Int)) (L:=LltoPieceS_0 k _ x) (f:=fun y=>FltoPiece k y) (fun _ _=>rfl) (a:=x) (fun y hy=>tltoPiece k y (by have:=jd (f:=szT xi) hy;omega) (by have:=jd (f:=szT xi) hy;omega)) (by omega) x.length k 0 _ (by omega) (by omega) (by simp) (by simp)
theorem tltoProgram (k:Nat) (x:Int×Int×Int×List (I2×(List I2)×List (Int×(List Int)×List Int))) (hz:szT xy x≤1048576) (hk:szT xy x+6<k):FltoProgram k x=some x:=by
 obtain ⟨k,rfl⟩:∃q,k=q+1:=⟨k-1,by omega⟩
 have hk':(szT (.i .i64) x.1+(szT (.i .i64) x.2.1+(szT (.i .i64) x.2.2.1+szT (.l 270 xi) x.2.2.2)))+6<k+1:=hk
 have hz':(szT (.i .i64) x.1+(szT (.i .i64) x.2.1+(szT (.i .i64) x.2.2.1+szT (.l 270 xi) x.2.2.2)))≤1048576:=hz
 have g0:FltoPieceS k x.2.2.2=some x.2.2.2:=tltoPieceS k x.2.2.2 (by omega) (by omega)
 refine (eltoProgram k x).trans ?_
 simp only [g0,Option.bind_some,bne_self_eq_false,beq_self_eq_true,Bool.not_true,Bool.false_eq_true,if_false]
theorem tltoQueue (k:Nat) (x:List I6) (hz:szT jj x≤1048576) (hk:szT jj x+3<k):FltoQueue k x=some x:=by
 obtain ⟨k,rfl⟩:∃q,k=q+1:=⟨k-1,by omega⟩
 have hk':szT (.l 215 sI6) x+3<k+1:=hk
 have hz':szT (.l 215 sI6) x≤1048576:=hz
 have g0:jq1 k x=some x:=tltoPacketS k x (by omega) (by omega)
 refine (eltoQueue k x).trans ?_
 simp only [g0,Option.bind_some,bne_self_eq_false,beq_self_eq_true,Bool.not_true,Bool.false_eq_true,if_false]
theorem tltoQueueS (k:Nat) (x:List (List I6)) (hz:szT (.l 177 jj) x≤1048576) (hk:szT (.l 177 jj) x+4<k):FltoQueueS k x=some x:=by
 obtain ⟨k,rfl⟩:∃q,k=q+1:=⟨k-1,by omega⟩
 have hk':x.length+sumL (szT jj) x+4<k+1:=hk
 have hz':x.length+sumL (szT jj) x≤1048576:=hz
 refine (eltoQueueS k x).trans ?_
 rw [if_pos (beq_self_eq_true _),if_pos (by omega),if_pos (by simp;omega)]
 exact v11 (α:=List I6) (L:=LltoQueueS_0 k _ x) (f:=fun y=>FltoQueue k y) (fun _ _=>rfl) (a:=x) (fun y hy=>tltoQueue k y (by have:=jd (f:=szT jj) hy;omega) (by have:=jd (f:=szT jj) hy;omega)) (by omega) x.length k 0 _ (by omega) (by omega) (by simp) (by simp)
theorem tltoSent (k:Nat) (x:I4) (hz:szT sI4 x≤1048576) (hk:szT sI4 x+1<k):FltoSent k x=some x:=by
 obtain ⟨k,rfl⟩:∃q,k=q+1:=⟨k-1,by omega⟩
 have hk':(szT (.i .i64) x.1+(szT (.i .i64) x.2.1+(szT (.i .i64) x.2.2.1+szT (.i .i64) x.2.2.2)))+1<k+1:=hk
 have hz':(szT (.i .i64) x.1+(szT (.i .i64) x.2.1+(szT (.i .i64) x.2.2.1+szT (.i .i64) x.2.2.2)))≤1048576:=hz
 exact eltoSent k x
theorem tltoSentS (k:Nat) (x:List I4) (hz:szT (.l 217 sI4) x≤1048576) (hk:szT (.l 217 sI4) x+2<k):FltoSentS k x=some x:=by
 obtain ⟨k,rfl⟩:∃q,k=q+1:=⟨k-1,by omega⟩
 have hk':x.length+sumL (szT sI4) x+2<k+1:=hk
 have hz':x.length+sumL (szT sI4) x≤1048576:=hz
 refine (eltoSentS k x).trans ?_
 rw [if_pos (beq_self_eq_true _),if_pos (by omega),if_pos (by simp;omega)]
 exact v11 (α:=Int×Int×Int×Int) (L:=LltoSentS_0 k _ x) (f:=fun y=>FltoSent k y) (fun _ _=>rfl) (a:=x) (fun y hy=>tltoSent k y (by have:=jd (f:=szT sI4) hy;omega) (by have:=jd (f:=szT sI4) hy;omega)) (by omega) x.length k 0 _ (by omega) (by omega) (by simp) (by simp)
theorem tltoSat (k:Nat) (x:I4) (hz:szT sI4 x≤1048576) (hk:szT sI4 x+1<k):FltoSat k x=some x:=by
 obtain ⟨k,rfl⟩:∃q,k=q+1:=⟨k-1,by omega⟩
 have hk':(szT (.i .i64) x.1+(szT (.i .i64) x.2.1+(szT (.i .i64) x.2.2.1+szT (.i .i64) x.2.2.2)))+1<k+1:=hk
 have hz':(szT (.i .i64) x.1+(szT (.i .i64) x.2.1+(szT (.i .i64) x.2.2.1+szT (.i .i64) x.2.2.2)))≤1048576:=hz
 exact eltoSat k x
theorem tltoSatS (k:Nat) (x:List I4) (hz:szT (.l 273 sI4) x≤1048576) (hk:szT (.l 273 sI4) x+2<k):FltoSatS k x=some x:=by
 obtain ⟨k,rfl⟩:∃q,k=q+1:=⟨k-1,by omega⟩
 have hk':x.length+sumL (szT sI4) x+2<k+1:=hk
 have hz':x.length+sumL (szT sI4) x≤1048576:=hz
 refine (eltoSatS k x).trans ?_
 rw [if_pos (beq_self_eq_true _),if_pos (by omega),if_pos (by simp;omega)]
 exact v11 (α:=Int×Int×Int×Int) (L:=LltoSatS_0 k _ x) (f:=fun y=>FltoSat k y) (fun _ _=>rfl) (a:=x) (fun y hy=>tltoSat k y (by have:=jd (f:=szT sI4) hy;omega) (by have:=jd (f:=szT sI4) hy;omega)) (by omega) x.length k 0 _ (by omega) (by omega) (by simp) (by simp)
theorem tltoSite (k:Nat) (x:I3) (hz:szT sI3 x≤1048576) (hk:szT sI3 x+1<k):FltoSite k x=some x:=by
 obtain ⟨k,rfl⟩:∃q,k=q+1:=⟨k-1,by omega⟩
 have hk':(szT (.i .i64) x.1+(szT (.i .i64) x.2.1+szT (.i .i64) x.2.2))+1<k+1:=hk
 have hz':(szT (.i .i64) x.1+(szT (.i .i64) x.2.1+szT (.i .i64) x.2.2))≤1048576:=hz
 exact eltoSite k x
theorem tltoSiteS (k:Nat) (x:List I3) (hz:szT (.l 275 sI3) x≤1048576) (hk:szT (.l 275 sI3) x+2<k):FltoSiteS k x=some x:=by
 obtain ⟨k,rfl⟩:∃q,k=q+1:=⟨k-1,by omega⟩
 have hk':x.length+sumL (szT sI3) x+2<k+1:=hk
 have hz':x.length+sumL (szT sI3) x≤1048576:=hz
 refine (eltoSiteS k x).trans ?_
 rw [if_pos (beq_self_eq_true _),if_pos (by omega),if_pos (by simp;omega)]
 exact v11 (α:=Int×Int×Int) (L:=LltoSiteS_0 k _ x) (f:=fun y=>FltoSite k y) (fun _ _=>rfl) (a:=x) (fun y hy=>tltoSite k y (by have:=jd (f:=szT sI3) hy;omega) (by have:=jd (f:=szT sI3) hy;omega)) (by omega) x.length k 0 _ (by omega) (by omega) (by simp) (by simp)
theorem tltoArc (k:Nat) (x:I2) (hz:szT sI2 x≤1048576) (hk:szT sI2 x+1<k):FltoArc k x=some x:=by
 obtain ⟨k,rfl⟩:∃q,k=q+1:=⟨k-1,by omega⟩
 have hk':(szT (.i .i64) x.1+szT (.i .i64) x.2)+1<k+1:=hk
 have hz':(szT (.i .i64) x.1+szT (.i .i64) x.2)≤1048576:=hz
 exact eltoArc k x
theorem tltoZone (k:Nat) (x:I3) (hz:szT sZone x≤1048576) (hk:szT sZone x+2<k):FltoZone k x=some x:=by
 obtain ⟨k,rfl⟩:∃q,k=q+1:=⟨k-1,by omega⟩
 have hk':(szT (.i .i64) x.1+szT sI2 x.2)+2<k+1:=hk
 have hz':(szT (.i .i64) x.1+szT sI2 x.2)≤1048576:=hz
 have g0:FltoArc k x.2=some x.2:=tltoArc k x.2 (by omega) (by omega)
 refine (eltoZone k x).trans ?_
 simp only [g0,Option.bind_some,bne_self_eq_false,beq_self_eq_true,Bool.not_true,Bool.false_eq_true,if_false]
theorem tltoZoneS (k:Nat) (x:List I3) (hz:szT (.l 279 sZone) x≤1048576) (hk:szT (.l 279 sZone) x+3<k):FltoZoneS k x=some x:=by
 obtain ⟨k,rfl⟩:∃q,k=q+1:=⟨k-1,by omega⟩
 have hk':x.length+sumL (szT sZone) x+3<k+1:=hk
 have hz':x.length+sumL (szT sZone) x≤1048576:=hz
 refine (eltoZoneS k x).trans ?_
 rw [if_pos (beq_self_eq_true _),if_pos (by omega),if_pos (by simp;omega)]
 exact v11 (α:=Int×Int×Int) (L:=LltoZoneS_0 k _ x) (f:=fun y=>FltoZone k y) (fun _ _=>rfl) (a:=x) (fun y hy=>tltoZone k y (by have:=jd (f:=szT sZone) hy;omega) (by have:=jd (f:=szT sZone) hy;omega)) (by omega) x.length k 0 _ (by omega) (by omega) (by simp) (by simp)
theorem tltoSky (k:Nat) (x:Int×(List I4)×(List I3)×Int×Int×Int×Int×Int×(List I3)×Int) (hz:szT sLSky x≤1048576) (hk:szT sLSky x+4<k):FltoSky k x=some x:=by
 obtain ⟨k,rfl⟩:∃q,k=q+1:=⟨k-1,by omega⟩
 have hk':(szT (.i .i64) x.1+(szT (.l 273 sI4) x.2.1+(szT (.l 275 sI3) x.2.2.1+(szT (.i .i64) x.2.2.2.1+(szT (.i .i64) x.2.2.2.2.1+(szT (.i .i64) x.2.2.2.2.2.1+(szT (.i .i64) x.2.2.2.2.2.2.1+(szT (.i .i64) x.2.2.2.2.2.2.2.1+(szT (.l 279 sZone) x.2.2.2.2.2.2.2.2.1+szT (.i .i64) x.2.2.2.2.2.2.2.2.2)))))))))+4<k+1:=hk
 have hz':(szT (.i .i64) x.1+(szT (.l 273 sI4) x.2.1+(szT (.l 275 sI3) x.2.2.1+(szT (.i .i64) x.2.2.2.1+(szT (.i .i64) x.2.2.2.2.1+(szT (.i .i64) x.2.2.2.2.2.1+(szT (.i .i64) x.2.2.2.2.2.2.1+(szT (.i .i64) x.2.2.2.2.2.2.2.1+(szT (.l 279 sZone) x.2.2.2.2.2.2.2.2.1+szT (.i .i64) x.2.2.2.2.2.2.2.2.2)))))))))≤1048576:=hz
 have g0:FltoSatS k x.2.1=some x.2.1:=tltoSatS k x.2.1 (by omega) (by omega)
 have g1:FltoSiteS k x.2.2.1=some x.2.2.1:=tltoSiteS k x.2.2.1 (by omega) (by omega)
 have g2:FltoZoneS k x.2.2.2.2.2.2.2.2.1=some x.2.2.2.2.2.2.2.2.1:=tltoZoneS k x.2.2.2.2.2.2.2.2.1 (by omega) (by omega)
 refine (eltoSky k x).trans ?_
 simp only [g0,g1,g2,Option.bind_some,bne_self_eq_false,beq_self_eq_true,Bool.not_true,Bool.false_eq_true,if_false]
theorem tltoStream (k:Nat) (x:Int×Int×List Int) (hz:szT z8 x≤1048576) (hk:szT z8 x+2<k):FltoStream k x=some x:=by
 obtain ⟨k,rfl⟩:∃q,k=q+1:=⟨k-1,by omega⟩
 have hk':(szT (.i .i64) x.1+(szT (.i .i64) x.2.1+szT (.l 3 (.i .i64)) x.2.2))+2<k+1:=hk
 have hz':(szT (.i .i64) x.1+(szT (.i .i64) x.2.1+szT (.l 3 (.i .i64)) x.2.2))≤1048576:=hz
 have g0:jf1 k x.2.2=some x.2.2:=tltoIntS k x.2.2 (by omega) (by omega)
 refine (eltoStream k x).trans ?_
 simp only [g0,Option.bind_some,bne_self_eq_false,beq_self_eq_true,Bool.not_true,Bool.false_eq_true,if_false]
theorem tltoStreamS (k:Nat) (x:List (Int×Int×List Int)) (hz:szT (.l 180 z8) x≤1048576) (hk:szT (.l 180 z8) x+3<k):FltoStreamS k x=some x:=by
 obtain ⟨k,rfl⟩:∃q,k=q+1:=⟨k-1,by omega⟩
 have hk':x.length+sumL (szT z8) x+3<k+1:=hk
 have hz':x.length+sumL (szT z8) x≤1048576:=hz
 refine (eltoStreamS k x).trans ?_
 rw [if_pos (beq_self_eq_true _),if_pos (by omega),if_pos (by simp;omega)]
 exact v11 (α:=Int×Int×List Int) (L:=LltoStreamS_0 k _ x) (f:=fun y=>FltoStream k y) (fun _ _=>rfl) (a:=x) (fun y hy=>tltoStream k y (by have:=jd (f:=szT z8) hy;omega) (by have:=jd (f:=szT z8) hy;omega)) (by omega) x.length k 0 _ (by omega) (by omega) (by simp) (by simp)
theorem tltoWorld (k:Nat) (x:(Int×(List I4)×(List I3)×Int×Int×Int×Int×Int×(List I3)×Int)×(Int×Int×Int×List (I2×(List I2)×List (Int×(List Int)×List Int)))×(List Int)×(List Int)×(List I6)×(List (List I6))×(List I4)×(List Int)×(List (Int×Int×List Int))×(List I4)×Int×Int×(List I6)×List I4) (hz:szT yz x≤1048576) (hk:szT yz x+7<k):FltoWorld k x=some x:=by
 obtain ⟨k,rfl⟩:∃q,k=q+1:=⟨k-1,by omega⟩
 have hk':(szT sLSky x.1+(szT xy x.2.1+(szT sLaw x.2.2.1+(szT (.l 3 (.i .i64)) x.2.2.2.1+(szT (.l 211 sI6) x.2.2.2.2.1+(szT (.l 177 jj) x.2.2.2.2.2.1+(szT (.l 79 sI4) x.2.2.2.2.2.2.1+(szT (.l 3 (.i .i64)) x.2.2.2.2.2.2.2.1+(szT (.l 180 z8) x.2.2.2.2.2.2.2.2.1+(szT (.l 81 sI4) x.2.2.2.2.2.2.2.2.2.1+(szT (.i .i64) x.2.2.2.2.2.2.2.2.2.2.1+(szT (.i .i64) x.2.2.2.2.2.2.2.2.2.2.2.1+(szT (.l 215 sI6) x.2.2.2.2.2.2.2.2.2.2.2.2.1+szT (.l 217 sI4) x.2.2.2.2.2.2.2.2.2.2.2.2.2)))))))))))))+7<k+1:=hk
 have hz':(szT sLSky x.1+(szT xy x.2.1+(szT sLaw x.2.2.1+(szT (.l 3 (.i .i64)) x.2.2.2.1+(szT (.l 211 sI6) x.2.2.2.2.1+(szT (.l 177 jj) x.2.2.2.2.2.1+(szT (.l 79 sI4) x.2.2.2.2.2.2.1+(szT (.l 3 (.i .i64)) x.2.2.2.2.2.2.2.1+(szT (.l 180 z8) x.2.2.2.2.2.2.2.2.1+(szT (.l 81 sI4) x.2.2.2.2.2.2.2.2.2.1+(szT (.i .i64) x.2.2.2.2.2.2.2.2.2.2.1+(szT (.i .i64) x.2.2.2.2.2.2.2.2.2.2.2.1+(szT (.l 215 sI6) x.2.2.2.2.2.2.2.2.2.2.2.2.1+szT (.l 217 sI4) x.2.2.2.2.2.2.2.2.2.2.2.2.2)))))))))))))≤1048576:=hz
 have g0:FltoSky k x.1=some x.1:=tltoSky k x.1 (by omega) (by omega)
 have g1:FltoProgram k x.2.1=some x.2.1:=tltoProgram k x.2.1 (by omega) (by omega)
 have g2:FltoLaw k x.2.2.1=some x.2.2.1:=tltoLaw k x.2.2.1 (by omega) (by omega)
 have g3:jf1 k x.2.2.2.1=some x.2.2.2.1:=tltoIntS k x.2.2.2.1 (by omega) (by omega)
 have g4:FltoBatteryS k x.2.2.2.2.1=some x.2.2.2.2.1:=tltoBatteryS k x.2.2.2.2.1 (by omega) (by omega)
 have g5:FltoQueueS k x.2.2.2.2.2.1=some x.2.2.2.2.2.1:=tltoQueueS k x.2.2.2.2.2.1 (by omega) (by omega)
 have g6:FltoFlowS k x.2.2.2.2.2.2.1=some x.2.2.2.2.2.2.1:=tltoFlowS k x.2.2.2.2.2.2.1 (by omega) (by omega)
 have g7:jf1 k x.2.2.2.2.2.2.2.1=some x.2.2.2.2.2.2.2.1:=tltoIntS k x.2.2.2.2.2.2.2.1 (by omega) (by omega)
 have g8:FltoStreamS k x.2.2.2.2.2.2.2.2.1=some x.2.2.2.2.2.2.2.2.1:=tltoStreamS k x.2.2.2.2.2.2.2.2.1 (by omega) (by omega)
 have g9:FltoFaultS k x.2.2.2.2.2.2.2.2.2.1=some x.2.2.2.2.2.2.2.2.2.1:=tltoFaultS k x.2.2.2.2.2.2.2.2.2.1 (by omega) (by omega)
 have g10:jq1 k x.2.2.2.2.2.2.2.2.2.2.2.2.1=some x.2.2.2.2.2.2.2.2.2.2.2.2.1:=tltoPacketS k x.2.2.2.2.2.2.2.2.2.2.2.2.1 (by omega) (by omega)
 have g11:FltoSentS k x.2.2.2.2.2.2.2.2.2.2.2.2.2=some x.2.2.2.2.2.2.2.2.2.2.2.2.2:=tltoSentS k x.2.2.2.2.2.2.2.2.2.2.2.2.2 (by omega) (by omega)
 refine (eltoWorld k x).trans ?_
 simp only [g0,g1,g2,g3,g4,g5,g6,g7,g8,g9,g10,g11,Option.bind_some,bne_self_eq_false,beq_self_eq_true,Bool.not_true,Bool.false_eq_true,if_false]
end Go.Proofs.YtkgjmgaccfmhpaaGreat.World
