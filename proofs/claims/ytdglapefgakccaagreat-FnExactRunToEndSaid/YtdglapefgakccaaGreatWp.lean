/- Plain lemmas: sizes, copies and comparisons of the law's data. No condition. -/
import Derived.Test.YtdglapefgakccaaGreatWb
set_option linter.unusedSimpArgs false
set_option linter.unusedVariables false
namespace Go.Proofs.YtdglapefgakccaaGreat.World
open Go Go.V Go.Proofs
open Go.IntKind (i64 u64)
set_option maxRecDepth 100000
theorem kp {k:Nat} (h:0<k):∃q,k=q+1:=⟨k-1,by omega⟩
theorem qleqBattery:QQ 1 sI6 FleqBattery:=QQ.s (CQ.n,CQ.n,CQ.n,CQ.n,CQ.n,CQ.n) (fun k x y=>by kernel_rfl)
theorem qleqBatteryS:QQ 2 (.l 119 sI6) FleqBatteryS:=QQ.l (L:=Lq E 71 Tryz.f71 27 119 sI6) qleqBattery (fun k x=>by kernel_rfl) (fun k x n v=>by kernel_rfl)
theorem qleqFault:QQ 1 sI4 FleqFault:=QQ.s (CQ.n,CQ.n,CQ.n,CQ.n) (fun k x y=>by kernel_rfl)
theorem qleqFaultS:QQ 2 (.l 90 sI4) FleqFaultS:=QQ.l (L:=Lq E 75 Tryz.f75 27 90 sI4) qleqFault (fun k x=>by kernel_rfl) (fun k x n v=>by kernel_rfl)
theorem qleqFlow:QQ 1 sI4 FleqFlow:=QQ.s (CQ.n,CQ.n,CQ.n,CQ.n) (fun k x y=>by kernel_rfl)
theorem qleqFlowS:QQ 2 (.l 89 sI4) FleqFlowS:=QQ.l (L:=Lq E 73 Tryz.f73 27 89 sI4) qleqFlow (fun k x=>by kernel_rfl) (fun k x n v=>by kernel_rfl)
theorem qleqIntS:QQ 1 (.l 3 (.i .i64)) FleqIntS:=QQ.i (L:=Lq E 18 Tryz.f18 26 3 (.i .i64)) (fun k x=>by kernel_rfl) (fun k x n v=>by kernel_rfl)
theorem qleqLaw:QQ 2 sLaw FleqLaw:=QQ.s (CQ.c qleqIntS) (fun k x y=>by kernel_rfl)
theorem qleqPacket:QQ 1 sI6 FleqPacket:=QQ.s (CQ.n,CQ.n,CQ.n,CQ.n,CQ.n,CQ.n) (fun k x y=>by kernel_rfl)
theorem qleqPacketS:QQ 2 (.l 229 sI6) FleqPacketS:=QQ.l (L:=Lq E 76 Tryz.f76 27 229 sI6) qleqPacket (fun k x=>by kernel_rfl) (fun k x n v=>by kernel_rfl)
theorem qleqLink:QQ 1 sI2 FleqLink:=QQ.s (CQ.n,CQ.n) (fun k x y=>by kernel_rfl)
theorem qleqLinkS:QQ 2 (.l 288 sI2) FleqLinkS:=QQ.l (L:=Lq E 376 Tryz.f376 27 288 sI2) qleqLink (fun k x=>by kernel_rfl) (fun k x n v=>by kernel_rfl)
theorem qleqSpan:QQ 1 sI2 FleqSpan:=QQ.s (CQ.n,CQ.n) (fun k x y=>by kernel_rfl)
theorem qleqTable:QQ 2 sTable FleqTable:=QQ.s (CQ.n,CQ.c qleqIntS,CQ.c qleqIntS) (fun k x y=>by kernel_rfl)
theorem qleqTableS:QQ 3 (.l 290 sTable) FleqTableS:=QQ.l (L:=Lq E 377 Tryz.f377 27 290 sTable) qleqTable (fun k x=>by kernel_rfl) (fun k x n v=>by kernel_rfl)
theorem qleqPiece:QQ 4 sPiece FleqPiece:=QQ.s (CQ.c qleqSpan,CQ.c qleqLinkS,CQ.c qleqTableS) (fun k x y=>by kernel_rfl)
theorem qleqPieceS:QQ 5 (.l 198 sPiece) FleqPieceS:=QQ.l (L:=Lq E 186 Tryz.f186 27 198 sPiece) qleqPiece (fun k x=>by kernel_rfl) (fun k x n v=>by kernel_rfl)
theorem qleqProgram:QQ 6 m0 FleqProgram:=QQ.s (CQ.n,CQ.n,CQ.n,CQ.c qleqPieceS) (fun k x y=>by kernel_rfl)
theorem qleqQueue:QQ 3 J0 FleqQueue:=QQ.s (CQ.c qleqPacketS) (fun k x y=>by kernel_rfl)
theorem qleqQueueS:QQ 4 (.l 117 J0) FleqQueueS:=QQ.l (L:=Lq E 72 Tryz.f72 27 117 J0) qleqQueue (fun k x=>by kernel_rfl) (fun k x n v=>by kernel_rfl)
theorem qleqSent:QQ 1 sI4 FleqSent:=QQ.s (CQ.n,CQ.n,CQ.n,CQ.n) (fun k x y=>by kernel_rfl)
theorem qleqSentS:QQ 2 (.l 168 sI4) FleqSentS:=QQ.l (L:=Lq E 77 Tryz.f77 27 168 sI4) qleqSent (fun k x=>by kernel_rfl) (fun k x n v=>by kernel_rfl)
theorem qleqSat:QQ 1 sI4 FleqSat:=QQ.s (CQ.n,CQ.n,CQ.n,CQ.n) (fun k x y=>by kernel_rfl)
theorem qleqSatS:QQ 2 (.l 181 sI4) FleqSatS:=QQ.l (L:=Lq E 78 Tryz.f78 27 181 sI4) qleqSat (fun k x=>by kernel_rfl) (fun k x n v=>by kernel_rfl)
theorem qleqSite:QQ 1 sI3 FleqSite:=QQ.s (CQ.n,CQ.n,CQ.n) (fun k x y=>by kernel_rfl)
theorem qleqSiteS:QQ 2 (.l 183 sI3) FleqSiteS:=QQ.l (L:=Lq E 79 Tryz.f79 27 183 sI3) qleqSite (fun k x=>by kernel_rfl) (fun k x n v=>by kernel_rfl)
theorem qleqArc:QQ 1 sI2 FleqArc:=QQ.s (CQ.n,CQ.n) (fun k x y=>by kernel_rfl)
theorem qleqZone:QQ 2 sZone FleqZone:=QQ.s (CQ.n,CQ.c qleqArc) (fun k x y=>by kernel_rfl)
theorem qleqZoneS:QQ 3 (.l 188 sZone) FleqZoneS:=QQ.l (L:=Lq E 80 Tryz.f80 27 188 sZone) qleqZone (fun k x=>by kernel_rfl) (fun k x n v=>by kernel_rfl)
theorem qleqSky:QQ 4 sSky FleqSky:=QQ.s (CQ.n,CQ.c qleqSatS,CQ.c qleqSiteS,CQ.n,CQ.n,CQ.n,CQ.n,CQ.n,CQ.c qleqZoneS,CQ.n) (fun k x y=>by kernel_rfl)
theorem qleqStream:QQ 2 T0 FleqStream:=QQ.s (CQ.n,CQ.n,CQ.c qleqIntS) (fun k x y=>by kernel_rfl)
theorem qleqStreamS:QQ 3 (.l 225 T0) FleqStreamS:=QQ.l (L:=Lq E 74 Tryz.f74 27 225 T0) qleqStream (fun k x=>by kernel_rfl) (fun k x n v=>by kernel_rfl)
theorem qleqWorld:QQ 7 Q0 FleqWorld:=QQ.s (CQ.c qleqSky,CQ.c qleqProgram,CQ.c qleqLaw,CQ.c qleqIntS,CQ.c qleqBatteryS,CQ.c qleqQueueS,CQ.c qleqFlowS,CQ.c qleqIntS,CQ.c qleqStreamS,CQ.c qleqFaultS,CQ.n,CQ.n,CQ.c qleqPacketS,CQ.c qleqSentS) (fun k x y=>by kernel_rfl)
theorem hlheldBatteryS:HH 1 119 sI6 FlheldBatteryS:=HH.l (L:=Lz E 96 Tryz.f96 67 119 sI6) (CD.a (CD.n,CD.n,CD.n,CD.n,CD.n,CD.n)) (fun k x m=>by kernel_rfl) (fun k x n v=>by kernel_rfl)
theorem hlheldFaultS:HH 1 90 sI4 FlheldFaultS:=HH.l (L:=Lz E 100 Tryz.f100 49 90 sI4) (CD.a (CD.n,CD.n,CD.n,CD.n)) (fun k x m=>by kernel_rfl) (fun k x n v=>by kernel_rfl)
theorem hlheldFlowS:HH 1 89 sI4 FlheldFlowS:=HH.l (L:=Lz E 98 Tryz.f98 49 89 sI4) (CD.a (CD.n,CD.n,CD.n,CD.n)) (fun k x m=>by kernel_rfl) (fun k x n v=>by kernel_rfl)
theorem hlheldIntS:HH 1 3 (.i .i64) FlheldIntS:=HH.l (L:=Lz E 95 Tryz.f95 21 3 (.i .i64)) (CD.n) (fun k x m=>by kernel_rfl) (fun k x n v=>by kernel_rfl)
theorem hlheldLaw (k:Nat) (x:List Int) (m:Int) (h0:0<=m) (hB:m+16*szT sLaw x<=1152921504606846976) (hz:szT sLaw x<=140737488351232) (hk:szT sLaw x+2<k):FlheldLaw k (mkT sLaw x m).1 m=some (mkT sLaw x m).2:=by
 obtain ⟨k,rfl⟩:=kp (by omega:0<k)
 have es:szT sLaw x=szT (.l 3 (.i .i64)) x:=rfl;rw [es] at hB hz hk;have b0:=mkT_le (.l 3 (.i .i64)) x m rfl;have g0:=hlheldIntS k x m (by omega) (by omega) (by omega) (by omega)
 have n0:decide ((mkT (.l 3 (.i .i64)) x m).2<0)=false:=by rw [vZ];omega
 refine (elheldLaw k _ m).trans ?_
 refine (congrArg (fun z=>Option.bind z _) g0).trans ?_
 rw [rZ];refine (eY (by rw [n0];decide)).trans ?_
 rfl
theorem hlheldPacketS:HH 1 229 sI6 FlheldPacketS:=HH.l (L:=Lz E 101 Tryz.f101 67 229 sI6) (CD.a (CD.n,CD.n,CD.n,CD.n,CD.n,CD.n)) (fun k x m=>by kernel_rfl) (fun k x n v=>by kernel_rfl)
theorem hlheldLinkS:HH 1 288 sI2 FlheldLinkS:=HH.l (L:=Lz E 302 Tryz.f302 31 288 sI2) (CD.a (CD.n,CD.n)) (fun k x m=>by kernel_rfl) (fun k x n v=>by kernel_rfl)
theorem hlheldTableS:HH 2 290 sTable FlheldTableS:=HH.l (L:=Lz E 303 Tryz.f303 40 290 sTable) (CD.a (CD.n,CD.r hlheldIntS,CD.r hlheldIntS)) (fun k x m=>by kernel_rfl) (fun k x n v=>by kernel_rfl)
theorem hlheldPieceS:HH 3 198 sPiece FlheldPieceS:=HH.l (L:=Lz E 201 Tryz.f201 51 198 sPiece) (CD.a (CD.a (CD.n,CD.n),CD.r hlheldLinkS,CD.r hlheldTableS)) (fun k x m=>by kernel_rfl) (fun k x n v=>by kernel_rfl)
theorem hlheldProgram (k:Nat) (x:Int×Int×Int×List (I2×(List I2)×List (Int×(List Int)×List Int))) (m:Int) (h0:0<=m) (hB:m+16*szT m0 x<=1152921504606846976) (hz:szT m0 x<=140737488351232) (hk:szT m0 x+4<k):FlheldProgram k (mkT m0 x m).1 m=some (mkT m0 x m).2:=by
 obtain ⟨k,rfl⟩:=kp (by omega:0<k)
 have es:szT m0 x=(0+(0+(0+szT (.l 198 sPiece) x.2.2.2))):=rfl;rw [es] at hB hz hk;have b0:=mkT_le (.l 198 sPiece) x.2.2.2 m rfl;have g0:=hlheldPieceS k x.2.2.2 m (by omega) (by omega) (by omega) (by omega)
 have n0:decide ((mkT (.l 198 sPiece) x.2.2.2 m).2<0)=false:=by rw [vZ];omega
 refine (elheldProgram k _ m).trans ?_
 refine (congrArg (fun z=>Option.bind z _) g0).trans ?_
 rw [rZ];refine (eY (by rw [n0];decide)).trans ?_
 rfl
theorem hlheldQueueS:HH 2 117 J0 FlheldQueueS:=HH.l (L:=Lz E 97 Tryz.f97 22 117 J0) (CD.a (CD.r hlheldPacketS)) (fun k x m=>by kernel_rfl) (fun k x n v=>by kernel_rfl)
theorem hlheldSentS:HH 1 168 sI4 FlheldSentS:=HH.l (L:=Lz E 102 Tryz.f102 49 168 sI4) (CD.a (CD.n,CD.n,CD.n,CD.n)) (fun k x m=>by kernel_rfl) (fun k x n v=>by kernel_rfl)
theorem hlheldSatS:HH 1 181 sI4 FlheldSatS:=HH.l (L:=Lz E 198 Tryz.f198 49 181 sI4) (CD.a (CD.n,CD.n,CD.n,CD.n)) (fun k x m=>by kernel_rfl) (fun k x n v=>by kernel_rfl)
theorem hlheldSiteS:HH 1 183 sI3 FlheldSiteS:=HH.l (L:=Lz E 199 Tryz.f199 40 183 sI3) (CD.a (CD.n,CD.n,CD.n)) (fun k x m=>by kernel_rfl) (fun k x n v=>by kernel_rfl)
theorem hlheldZoneS:HH 1 188 sZone FlheldZoneS:=HH.l (L:=Lz E 200 Tryz.f200 42 188 sZone) (CD.a (CD.n,CD.a (CD.n,CD.n))) (fun k x m=>by kernel_rfl) (fun k x n v=>by kernel_rfl)
theorem hlheldSky (k:Nat) (x:Int×(List I4)×(List I3)×Int×Int×Int×Int×Int×(List I3)×Int) (m:Int) (h0:0<=m) (hB:m+16*szT sSky x<=1152921504606846976) (hz:szT sSky x<=140737488351232) (hk:szT sSky x+2<k):FlheldSky k (mkT sSky x m).1 m=some (mkT sSky x m).2:=by
 obtain ⟨k,rfl⟩:=kp (by omega:0<k)
 have es:szT sSky x=(0+(szT (.l 181 sI4) x.2.1+(szT (.l 183 sI3) x.2.2.1+(0+(0+(0+(0+(0+(szT (.l 188 sZone) x.2.2.2.2.2.2.2.2.1+0))))))))):=rfl;rw [es] at hB hz hk;have b0:=mkT_le (.l 181 sI4) x.2.1 m rfl;have b1:=mkT_le (.l 183 sI3) x.2.2.1 ((mkT (.l 181 sI4) x.2.1 m).2) rfl;have b2:=mkT_le (.l 188 sZone) x.2.2.2.2.2.2.2.2.1 ((mkT (.l 183 sI3) x.2.2.1 (mkT (.l 181 sI4) x.2.1 m).2).2) rfl;have g0:=hlheldSatS k x.2.1 m (by omega) (by omega) (by omega) (by omega)
 have g1:=hlheldSiteS k x.2.2.1 ((mkT (.l 181 sI4) x.2.1 m).2) (by omega) (by omega) (by omega) (by omega)
 have g2:=hlheldZoneS k x.2.2.2.2.2.2.2.2.1 ((mkT (.l 183 sI3) x.2.2.1 (mkT (.l 181 sI4) x.2.1 m).2).2) (by omega) (by omega) (by omega) (by omega)
 have n0:decide ((mkT (.l 181 sI4) x.2.1 m).2<0)=false:=by rw [vZ];omega
 have n1:decide ((mkT (.l 183 sI3) x.2.2.1 ((mkT (.l 181 sI4) x.2.1 m).2)).2<0)=false:=by rw [vZ];omega
 have n2:decide ((mkT (.l 188 sZone) x.2.2.2.2.2.2.2.2.1 ((mkT (.l 183 sI3) x.2.2.1 (mkT (.l 181 sI4) x.2.1 m).2).2)).2<0)=false:=by rw [vZ];omega
 refine (elheldSky k _ m).trans ?_
 refine (congrArg (fun z=>Option.bind z _) g0).trans ?_
 rw [rZ];refine (eY (by rw [n0];decide)).trans ?_
 refine (congrArg (fun z=>Option.bind z _) g1).trans ?_
 rw [rZ];refine (eY (by rw [n1];decide)).trans ?_
 refine (congrArg (fun z=>Option.bind z _) g2).trans ?_
 rw [rZ];refine (eY (by rw [n2];decide)).trans ?_
 rfl
theorem hlheldStreamS:HH 2 225 T0 FlheldStreamS:=HH.l (L:=Lz E 99 Tryz.f99 40 225 T0) (CD.a (CD.n,CD.n,CD.r hlheldIntS)) (fun k x m=>by kernel_rfl) (fun k x n v=>by kernel_rfl)
theorem hlheldWorld (k:Nat) (x:(Int×(List I4)×(List I3)×Int×Int×Int×Int×Int×(List I3)×Int)×(Int×Int×Int×List (I2×(List I2)×List (Int×(List Int)×List Int)))×(List Int)×(List Int)×(List I6)×(List (List I6))×(List I4)×(List Int)×(List (Int×Int×List Int))×(List I4)×Int×Int×(List I6)×List I4) (m:Int) (h0:0<=m) (hB:m+16*szT Q0 x<=1152921504606846976) (hz:szT Q0 x<=140737488351232) (hk:szT Q0 x+5<k):FlheldWorld k (mkT Q0 x m).1 m=some (mkT Q0 x m).2:=by
 obtain ⟨k,rfl⟩:=kp (by omega:0<k)
 have es:szT Q0 x=(szT sSky x.1+(szT m0 x.2.1+(szT sLaw x.2.2.1+(szT (.l 3 (.i .i64)) x.2.2.2.1+(szT (.l 119 sI6) x.2.2.2.2.1+(szT (.l 117 J0) x.2.2.2.2.2.1+(szT (.l 89 sI4) x.2.2.2.2.2.2.1+(szT (.l 3 (.i .i64)) x.2.2.2.2.2.2.2.1+(szT (.l 225 T0) x.2.2.2.2.2.2.2.2.1+(szT (.l 90 sI4) x.2.2.2.2.2.2.2.2.2.1+(0+(0+(szT (.l 229 sI6) x.2.2.2.2.2.2.2.2.2.2.2.2.1+szT (.l 168 sI4) x.2.2.2.2.2.2.2.2.2.2.2.2.2))))))))))))):=rfl
 rw [es] at hB hz hk;have b0:=mkT_le sSky x.1 m rfl;have b1:=mkT_le m0 x.2.1 ((mkT sSky x.1 m).2) rfl;have b2:=mkT_le sLaw x.2.2.1 ((mkT m0 x.2.1 (mkT sSky x.1 m).2).2) rfl;have b3:=mkT_le (.l 3 (.i .i64)) x.2.2.2.1 ((mkT sLaw x.2.2.1 (mkT m0 x.2.1 (mkT sSky x.1 m).2).2).2) rfl;have b4:=mkT_le (.l 119 sI6) x.2.2.2.2.1 ((mkT (.l 3 (.i .i64)) x.2.2.2.1 (mkT sLaw x.2.2.1 (mkT m0 x.2.1 (mkT sSky x.1 m).2).2).2).2) rfl
 have b5:=mkT_le (.l 117 J0) x.2.2.2.2.2.1 ((mkT (.l 119 sI6) x.2.2.2.2.1 (mkT (.l 3 (.i .i64)) x.2.2.2.1 (mkT sLaw x.2.2.1 (mkT m0 x.2.1 (mkT sSky x.1 m).2).2).2).2).2) rfl;have b6:=mkT_le (.l 89 sI4) x.2.2.2.2.2.2.1 ((mkT (.l 117 J0) x.2.2.2.2.2.1 (mkT (.l 119 sI6) x.2.2.2.2.1 (mkT (.l 3 (.i .i64)) x.2.2.2.1 (mkT sLaw x.2.2.1 (mkT m0 x.2.1 (mkT sSky x.1 m).2).2).2).2).2).2) rfl
 have b7:=mkT_le (.l 3 (.i .i64)) x.2.2.2.2.2.2.2.1 ((mkT (.l 89 sI4) x.2.2.2.2.2.2.1 (mkT (.l 117 J0) x.2.2.2.2.2.1 (mkT (.l 119 sI6) x.2.2.2.2.1 (mkT (.l 3 (.i .i64)) x.2.2.2.1 (mkT sLaw x.2.2.1 (mkT m0 x.2.1 (mkT sSky x.1 m).2).2).2).2).2).2).2) rfl;have b8:=mkT_le (.l 225 T0) x.2.2.2.2.2.2.2.2.1 ((mkT (.l 3 (.i .i64)) x.2.2.2.2.2.2.2.1 (mkT (.l 89 sI4) x.2.2.2.2.2.2.1 (mkT (.l 117 J0) x.2.2.2.2.2.1 (mkT (.l 119 sI6) x.2.2.2.2.1 (mkT (.l 3 (.i .i64)) x.2.2.2.1 (mkT sLaw x.2.2.1 (mkT m0 x.2.1 (mkT sSky x.1 m).2).2).2).2).2).2).2).2) rfl
 have b9:=mkT_le (.l 90 sI4) x.2.2.2.2.2.2.2.2.2.1 ((mkT (.l 225 T0) x.2.2.2.2.2.2.2.2.1 (mkT (.l 3 (.i .i64)) x.2.2.2.2.2.2.2.1 (mkT (.l 89 sI4) x.2.2.2.2.2.2.1 (mkT (.l 117 J0) x.2.2.2.2.2.1 (mkT (.l 119 sI6) x.2.2.2.2.1 (mkT (.l 3 (.i .i64)) x.2.2.2.1 (mkT sLaw x.2.2.1 (mkT m0 x.2.1 (mkT sSky x.1 m).2).2).2).2).2).2).2).2).2) rfl;have b10:=mkT_le (.l 229 sI6) x.2.2.2.2.2.2.2.2.2.2.2.2.1 ((mkT (.l 90 sI4) x.2.2.2.2.2.2.2.2.2.1 (mkT (.l 225 T0) x.2.2.2.2.2.2.2.2.1 (mkT (.l 3 (.i .i64)) x.2.2.2.2.2.2.2.1 (mkT (.l 89 sI4) x.2.2.2.2.2.2.1 (mkT (.l 117 J0) x.2.2.2.2.2.1 (mkT (.l 119 sI6) x.2.2.2.2.1 (mkT (.l 3 (.i .i64)) x.2.2.2.1 (mkT sLaw x.2.2.1 (mkT m0 x.2.1 (mkT sSky x.1 m).2).2).2).2).2).2).2).2).2).2) rfl
 have b11:=mkT_le (.l 168 sI4) x.2.2.2.2.2.2.2.2.2.2.2.2.2 ((mkT (.l 229 sI6) x.2.2.2.2.2.2.2.2.2.2.2.2.1 (mkT (.l 90 sI4) x.2.2.2.2.2.2.2.2.2.1 (mkT (.l 225 T0) x.2.2.2.2.2.2.2.2.1 (mkT (.l 3 (.i .i64)) x.2.2.2.2.2.2.2.1 (mkT (.l 89 sI4) x.2.2.2.2.2.2.1 (mkT (.l 117 J0) x.2.2.2.2.2.1 (mkT (.l 119 sI6) x.2.2.2.2.1 (mkT (.l 3 (.i .i64)) x.2.2.2.1 (mkT sLaw x.2.2.1 (mkT m0 x.2.1 (mkT sSky x.1 m).2).2).2).2).2).2).2).2).2).2).2) rfl
 have g0:=hlheldSky k x.1 m (by omega) (by omega) (by omega) (by omega)
 have g1:=hlheldProgram k x.2.1 ((mkT sSky x.1 m).2) (by omega) (by omega) (by omega) (by omega)
 have g2:=hlheldLaw k x.2.2.1 ((mkT m0 x.2.1 (mkT sSky x.1 m).2).2) (by omega) (by omega) (by omega) (by omega)
 have g3:=hlheldIntS k x.2.2.2.1 ((mkT sLaw x.2.2.1 (mkT m0 x.2.1 (mkT sSky x.1 m).2).2).2) (by omega) (by omega) (by omega) (by omega)
 have g4:=hlheldBatteryS k x.2.2.2.2.1 ((mkT (.l 3 (.i .i64)) x.2.2.2.1 (mkT sLaw x.2.2.1 (mkT m0 x.2.1 (mkT sSky x.1 m).2).2).2).2) (by omega) (by omega) (by omega) (by omega)
 have g5:=hlheldQueueS k x.2.2.2.2.2.1 ((mkT (.l 119 sI6) x.2.2.2.2.1 (mkT (.l 3 (.i .i64)) x.2.2.2.1 (mkT sLaw x.2.2.1 (mkT m0 x.2.1 (mkT sSky x.1 m).2).2).2).2).2) (by omega) (by omega) (by omega) (by omega)
 have g6:=hlheldFlowS k x.2.2.2.2.2.2.1 ((mkT (.l 117 J0) x.2.2.2.2.2.1 (mkT (.l 119 sI6) x.2.2.2.2.1 (mkT (.l 3 (.i .i64)) x.2.2.2.1 (mkT sLaw x.2.2.1 (mkT m0 x.2.1 (mkT sSky x.1 m).2).2).2).2).2).2) (by omega) (by omega) (by omega) (by omega)
 have g7:=hlheldIntS k x.2.2.2.2.2.2.2.1 ((mkT (.l 89 sI4) x.2.2.2.2.2.2.1 (mkT (.l 117 J0) x.2.2.2.2.2.1 (mkT (.l 119 sI6) x.2.2.2.2.1 (mkT (.l 3 (.i .i64)) x.2.2.2.1 (mkT sLaw x.2.2.1 (mkT m0 x.2.1 (mkT sSky x.1 m).2).2).2).2).2).2).2) (by omega) (by omega) (by omega) (by omega)
 have g8:=hlheldStreamS k x.2.2.2.2.2.2.2.2.1 ((mkT (.l 3 (.i .i64)) x.2.2.2.2.2.2.2.1 (mkT (.l 89 sI4) x.2.2.2.2.2.2.1 (mkT (.l 117 J0) x.2.2.2.2.2.1 (mkT (.l 119 sI6) x.2.2.2.2.1 (mkT (.l 3 (.i .i64)) x.2.2.2.1 (mkT sLaw x.2.2.1 (mkT m0 x.2.1 (mkT sSky x.1 m).2).2).2).2).2).2).2).2) (by omega) (by omega) (by omega) (by omega)
 have g9:=hlheldFaultS k x.2.2.2.2.2.2.2.2.2.1 ((mkT (.l 225 T0) x.2.2.2.2.2.2.2.2.1 (mkT (.l 3 (.i .i64)) x.2.2.2.2.2.2.2.1 (mkT (.l 89 sI4) x.2.2.2.2.2.2.1 (mkT (.l 117 J0) x.2.2.2.2.2.1 (mkT (.l 119 sI6) x.2.2.2.2.1 (mkT (.l 3 (.i .i64)) x.2.2.2.1 (mkT sLaw x.2.2.1 (mkT m0 x.2.1 (mkT sSky x.1 m).2).2).2).2).2).2).2).2).2) (by omega) (by omega) (by omega) (by omega)
 have g10:=hlheldPacketS k x.2.2.2.2.2.2.2.2.2.2.2.2.1 ((mkT (.l 90 sI4) x.2.2.2.2.2.2.2.2.2.1 (mkT (.l 225 T0) x.2.2.2.2.2.2.2.2.1 (mkT (.l 3 (.i .i64)) x.2.2.2.2.2.2.2.1 (mkT (.l 89 sI4) x.2.2.2.2.2.2.1 (mkT (.l 117 J0) x.2.2.2.2.2.1 (mkT (.l 119 sI6) x.2.2.2.2.1 (mkT (.l 3 (.i .i64)) x.2.2.2.1 (mkT sLaw x.2.2.1 (mkT m0 x.2.1 (mkT sSky x.1 m).2).2).2).2).2).2).2).2).2).2) (by omega) (by omega) (by omega) (by omega)
 have g11:=hlheldSentS k x.2.2.2.2.2.2.2.2.2.2.2.2.2 ((mkT (.l 229 sI6) x.2.2.2.2.2.2.2.2.2.2.2.2.1 (mkT (.l 90 sI4) x.2.2.2.2.2.2.2.2.2.1 (mkT (.l 225 T0) x.2.2.2.2.2.2.2.2.1 (mkT (.l 3 (.i .i64)) x.2.2.2.2.2.2.2.1 (mkT (.l 89 sI4) x.2.2.2.2.2.2.1 (mkT (.l 117 J0) x.2.2.2.2.2.1 (mkT (.l 119 sI6) x.2.2.2.2.1 (mkT (.l 3 (.i .i64)) x.2.2.2.1 (mkT sLaw x.2.2.1 (mkT m0 x.2.1 (mkT sSky x.1 m).2).2).2).2).2).2).2).2).2).2).2) (by omega) (by omega) (by omega) (by omega)
 have n0:decide ((mkT sSky x.1 m).2<0)=false:=by rw [vZ];omega
 have n1:decide ((mkT m0 x.2.1 ((mkT sSky x.1 m).2)).2<0)=false:=by rw [vZ];omega
 have n2:decide ((mkT sLaw x.2.2.1 ((mkT m0 x.2.1 (mkT sSky x.1 m).2).2)).2<0)=false:=by rw [vZ];omega
 have n3:decide ((mkT (.l 3 (.i .i64)) x.2.2.2.1 ((mkT sLaw x.2.2.1 (mkT m0 x.2.1 (mkT sSky x.1 m).2).2).2)).2<0)=false:=by rw [vZ];omega
 have n4:decide ((mkT (.l 119 sI6) x.2.2.2.2.1 ((mkT (.l 3 (.i .i64)) x.2.2.2.1 (mkT sLaw x.2.2.1 (mkT m0 x.2.1 (mkT sSky x.1 m).2).2).2).2)).2<0)=false:=by rw [vZ];omega
 have n5:decide ((mkT (.l 117 J0) x.2.2.2.2.2.1 ((mkT (.l 119 sI6) x.2.2.2.2.1 (mkT (.l 3 (.i .i64)) x.2.2.2.1 (mkT sLaw x.2.2.1 (mkT m0 x.2.1 (mkT sSky x.1 m).2).2).2).2).2)).2<0)=false:=by rw [vZ];omega
 have n6:decide ((mkT (.l 89 sI4) x.2.2.2.2.2.2.1 ((mkT (.l 117 J0) x.2.2.2.2.2.1 (mkT (.l 119 sI6) x.2.2.2.2.1 (mkT (.l 3 (.i .i64)) x.2.2.2.1 (mkT sLaw x.2.2.1 (mkT m0 x.2.1 (mkT sSky x.1 m).2).2).2).2).2).2)).2<0)=false:=by rw [vZ];omega
 have n7:decide ((mkT (.l 3 (.i .i64)) x.2.2.2.2.2.2.2.1 ((mkT (.l 89 sI4) x.2.2.2.2.2.2.1 (mkT (.l 117 J0) x.2.2.2.2.2.1 (mkT (.l 119 sI6) x.2.2.2.2.1 (mkT (.l 3 (.i .i64)) x.2.2.2.1 (mkT sLaw x.2.2.1 (mkT m0 x.2.1 (mkT sSky x.1 m).2).2).2).2).2).2).2)).2<0)=false:=by rw [vZ];omega
 have n8:decide ((mkT (.l 225 T0) x.2.2.2.2.2.2.2.2.1 ((mkT (.l 3 (.i .i64)) x.2.2.2.2.2.2.2.1 (mkT (.l 89 sI4) x.2.2.2.2.2.2.1 (mkT (.l 117 J0) x.2.2.2.2.2.1 (mkT (.l 119 sI6) x.2.2.2.2.1 (mkT (.l 3 (.i .i64)) x.2.2.2.1 (mkT sLaw x.2.2.1 (mkT m0 x.2.1 (mkT sSky x.1 m).2).2).2).2).2).2).2).2)).2<0)=false:=by rw [vZ];omega
 have n9:decide ((mkT (.l 90 sI4) x.2.2.2.2.2.2.2.2.2.1 ((mkT (.l 225 T0) x.2.2.2.2.2.2.2.2.1 (mkT (.l 3 (.i .i64)) x.2.2.2.2.2.2.2.1 (mkT (.l 89 sI4) x.2.2.2.2.2.2.1 (mkT (.l 117 J0) x.2.2.2.2.2.1 (mkT (.l 119 sI6) x.2.2.2.2.1 (mkT (.l 3 (.i .i64)) x.2.2.2.1 (mkT sLaw x.2.2.1 (mkT m0 x.2.1 (mkT sSky x.1 m).2).2).2).2).2).2).2).2).2)).2<0)=false:=by rw [vZ];omega
 have n10:decide ((mkT (.l 229 sI6) x.2.2.2.2.2.2.2.2.2.2.2.2.1 ((mkT (.l 90 sI4) x.2.2.2.2.2.2.2.2.2.1 (mkT (.l 225 T0) x.2.2.2.2.2.2.2.2.1 (mkT (.l 3 (.i .i64)) x.2.2.2.2.2.2.2.1 (mkT (.l 89 sI4) x.2.2.2.2.2.2.1 (mkT (.l 117 J0) x.2.2.2.2.2.1 (mkT (.l 119 sI6) x.2.2.2.2.1 (mkT (.l 3 (.i .i64)) x.2.2.2.1 (mkT sLaw x.2.2.1 (mkT m0 x.2.1 (mkT sSky x.1 m).2).2).2).2).2).2).2).2).2).2)).2<0)=false:=by rw [vZ];omega
 have n11:decide ((mkT (.l 168 sI4) x.2.2.2.2.2.2.2.2.2.2.2.2.2 ((mkT (.l 229 sI6) x.2.2.2.2.2.2.2.2.2.2.2.2.1 (mkT (.l 90 sI4) x.2.2.2.2.2.2.2.2.2.1 (mkT (.l 225 T0) x.2.2.2.2.2.2.2.2.1 (mkT (.l 3 (.i .i64)) x.2.2.2.2.2.2.2.1 (mkT (.l 89 sI4) x.2.2.2.2.2.2.1 (mkT (.l 117 J0) x.2.2.2.2.2.1 (mkT (.l 119 sI6) x.2.2.2.2.1 (mkT (.l 3 (.i .i64)) x.2.2.2.1 (mkT sLaw x.2.2.1 (mkT m0 x.2.1 (mkT sSky x.1 m).2).2).2).2).2).2).2).2).2).2).2)).2<0)=false:=by rw [vZ];omega
 refine (elheldWorld k _ m).trans ?_
 refine (congrArg (fun z=>Option.bind z _) g0).trans ?_
 rw [rZ];refine (eY (by rw [n0];decide)).trans ?_
 refine (congrArg (fun z=>Option.bind z _) g1).trans ?_
 rw [rZ];refine (eY (by rw [n1];decide)).trans ?_
 refine (congrArg (fun z=>Option.bind z _) g2).trans ?_
 rw [rZ];refine (eY (by rw [n2];decide)).trans ?_
 refine (congrArg (fun z=>Option.bind z _) g3).trans ?_
 rw [rZ];refine (eY (by rw [n3];decide)).trans ?_
 refine (congrArg (fun z=>Option.bind z _) g4).trans ?_
 rw [rZ];refine (eY (by rw [n4];decide)).trans ?_
 refine (congrArg (fun z=>Option.bind z _) g5).trans ?_
 rw [rZ];refine (eY (by rw [n5];decide)).trans ?_
 refine (congrArg (fun z=>Option.bind z _) g6).trans ?_
 rw [rZ];refine (eY (by rw [n6];decide)).trans ?_
 refine (congrArg (fun z=>Option.bind z _) g7).trans ?_
 rw [rZ];refine (eY (by rw [n7];decide)).trans ?_
 refine (congrArg (fun z=>Option.bind z _) g8).trans ?_
 rw [rZ];refine (eY (by rw [n8];decide)).trans ?_
 refine (congrArg (fun z=>Option.bind z _) g9).trans ?_
 rw [rZ];refine (eY (by rw [n9];decide)).trans ?_
 refine (congrArg (fun z=>Option.bind z _) g10).trans ?_
 rw [rZ];refine (eY (by rw [n10];decide)).trans ?_
 refine (congrArg (fun z=>Option.bind z _) g11).trans ?_
 rw [rZ];refine (eY (by rw [n11];decide)).trans ?_
 rfl
theorem mlmarkBatteryS:MM 1 119 sI6 FlmarkBatteryS:=MM.l (L:=Lm E 85 Tryz.f85 55 119 sI6) (CM.a (CM.n,CM.n,CM.n,CM.n,CM.n,CM.n)) (fun k x m=>by kernel_rfl) (fun k n v=>by kernel_rfl)
theorem mlmarkFaultS:MM 1 90 sI4 FlmarkFaultS:=MM.l (L:=Lm E 89 Tryz.f89 41 90 sI4) (CM.a (CM.n,CM.n,CM.n,CM.n)) (fun k x m=>by kernel_rfl) (fun k n v=>by kernel_rfl)
theorem mlmarkFlowS:MM 1 89 sI4 FlmarkFlowS:=MM.l (L:=Lm E 87 Tryz.f87 41 89 sI4) (CM.a (CM.n,CM.n,CM.n,CM.n)) (fun k x m=>by kernel_rfl) (fun k n v=>by kernel_rfl)
theorem mlmarkIntS:MM 1 3 (.i .i64) FlmarkIntS:=MM.l (L:=Lm E 21 Tryz.f21 19 3 (.i .i64)) (CM.n) (fun k x m=>by kernel_rfl) (fun k n v=>by kernel_rfl)
theorem mlmarkLaw (k:Nat) (x:List Int) (m:Int) (h0:0<=m) (hB:m+16*szT sLaw x<=1152921504606846976) (hz:szT sLaw x<=140737488351232) (hk:szT sLaw x+2<k):FlmarkLaw k x m=(some ((mkT sLaw x m).2,(mkT sLaw x m).1):Option (Int×List Int)):=by
 obtain ⟨k,rfl⟩:=kp (by omega:0<k)
 have es:szT sLaw x=szT (.l 3 (.i .i64)) x:=rfl;rw [es] at hB hz hk;have b0:=mkT_le (.l 3 (.i .i64)) x m rfl;have g0:=mlmarkIntS k x m (by omega) (by omega) (by omega) (by omega)
 exact (elmarkLaw k x m).trans (TT.c g0 <| rfl)
theorem mlmarkPacketS:MM 1 229 sI6 FlmarkPacketS:=MM.l (L:=Lm E 90 Tryz.f90 55 229 sI6) (CM.a (CM.n,CM.n,CM.n,CM.n,CM.n,CM.n)) (fun k x m=>by kernel_rfl) (fun k n v=>by kernel_rfl)
theorem mlmarkLinkS:MM 1 288 sI2 FlmarkLinkS:=MM.l (L:=Lm E 300 Tryz.f300 27 288 sI2) (CM.a (CM.n,CM.n)) (fun k x m=>by kernel_rfl) (fun k n v=>by kernel_rfl)
theorem mlmarkTableS:MM 2 290 sTable FlmarkTableS:=MM.l (L:=Lm E 301 Tryz.f301 34 290 sTable) (CM.a (CM.n,CM.r mlmarkIntS,CM.r mlmarkIntS)) (fun k x m=>by kernel_rfl) (fun k n v=>by kernel_rfl)
theorem mlmarkPieceS:MM 3 198 sPiece FlmarkPieceS:=MM.l (L:=Lm E 197 Tryz.f197 43 198 sPiece) (CM.a (CM.a (CM.n,CM.n),CM.r mlmarkLinkS,CM.r mlmarkTableS)) (fun k x m=>by kernel_rfl) (fun k n v=>by kernel_rfl)
theorem mlmarkProgram (k:Nat) (x:Int×Int×Int×List (I2×(List I2)×List (Int×(List Int)×List Int))) (m:Int) (h0:0<=m) (hB:m+16*szT m0 x<=1152921504606846976) (hz:szT m0 x<=140737488351232) (hk:szT m0 x+4<k):FlmarkProgram k x m=(some ((mkT m0 x m).2,((mkT m0 x m).1).2.2.2):Option (Int×List (I2×(List I2)×List (Int×(List Int)×List Int)))):=by
 obtain ⟨k,rfl⟩:=kp (by omega:0<k)
 have es:szT m0 x=(0+(0+(0+szT (.l 198 sPiece) x.2.2.2))):=rfl;rw [es] at hB hz hk;have b0:=mkT_le (.l 198 sPiece) x.2.2.2 m rfl;have g0:=mlmarkPieceS k x.2.2.2 m (by omega) (by omega) (by omega) (by omega)
 exact (elmarkProgram k x m).trans (TT.c g0 <| rfl)
theorem mlmarkQueueS:MM 2 117 J0 FlmarkQueueS:=MM.l (L:=Lm E 86 Tryz.f86 20 117 J0) (CM.a (CM.r mlmarkPacketS)) (fun k x m=>by kernel_rfl) (fun k n v=>by kernel_rfl)
theorem mlmarkSentS:MM 1 168 sI4 FlmarkSentS:=MM.l (L:=Lm E 91 Tryz.f91 41 168 sI4) (CM.a (CM.n,CM.n,CM.n,CM.n)) (fun k x m=>by kernel_rfl) (fun k n v=>by kernel_rfl)
theorem mlmarkSatS:MM 1 181 sI4 FlmarkSatS:=MM.l (L:=Lm E 81 Tryz.f81 41 181 sI4) (CM.a (CM.n,CM.n,CM.n,CM.n)) (fun k x m=>by kernel_rfl) (fun k n v=>by kernel_rfl)
theorem mlmarkSiteS:MM 1 183 sI3 FlmarkSiteS:=MM.l (L:=Lm E 82 Tryz.f82 34 183 sI3) (CM.a (CM.n,CM.n,CM.n)) (fun k x m=>by kernel_rfl) (fun k n v=>by kernel_rfl)
theorem mlmarkZoneS:MM 1 188 sZone FlmarkZoneS:=MM.l (L:=Lm E 83 Tryz.f83 36 188 sZone) (CM.a (CM.n,CM.a (CM.n,CM.n))) (fun k x m=>by kernel_rfl) (fun k n v=>by kernel_rfl)
theorem mlmarkSky (k:Nat) (x:Int×(List I4)×(List I3)×Int×Int×Int×Int×Int×(List I3)×Int) (m:Int) (h0:0<=m) (hB:m+16*szT sSky x<=1152921504606846976) (hz:szT sSky x<=140737488351232) (hk:szT sSky x+2<k):FlmarkSky k x m=(some ((mkT sSky x m).2,((mkT sSky x m).1).2.1,((mkT sSky x m).1).2.2.1,((mkT sSky x m).1).2.2.2.2.2.2.2.2.1):Option (Int×(List I4)×(List I3)×List I3)):=by
 obtain ⟨k,rfl⟩:=kp (by omega:0<k)
 have es:szT sSky x=(0+(szT (.l 181 sI4) x.2.1+(szT (.l 183 sI3) x.2.2.1+(0+(0+(0+(0+(0+(szT (.l 188 sZone) x.2.2.2.2.2.2.2.2.1+0))))))))):=rfl;rw [es] at hB hz hk;have b0:=mkT_le (.l 181 sI4) x.2.1 m rfl;have b1:=mkT_le (.l 183 sI3) x.2.2.1 ((mkT (.l 181 sI4) x.2.1 m).2) rfl;have b2:=mkT_le (.l 188 sZone) x.2.2.2.2.2.2.2.2.1 ((mkT (.l 183 sI3) x.2.2.1 (mkT (.l 181 sI4) x.2.1 m).2).2) rfl;have g0:=mlmarkSatS k x.2.1 m (by omega) (by omega) (by omega) (by omega)
 have g1:=mlmarkSiteS k x.2.2.1 ((mkT (.l 181 sI4) x.2.1 m).2) (by omega) (by omega) (by omega) (by omega)
 have g2:=mlmarkZoneS k x.2.2.2.2.2.2.2.2.1 ((mkT (.l 183 sI3) x.2.2.1 (mkT (.l 181 sI4) x.2.1 m).2).2) (by omega) (by omega) (by omega) (by omega)
 exact (elmarkSky k x m).trans (TT.c g0 <| TT.c g1 <| TT.c g2 <| rfl)
theorem mlmarkStreamS:MM 2 225 T0 FlmarkStreamS:=MM.l (L:=Lm E 88 Tryz.f88 34 225 T0) (CM.a (CM.n,CM.n,CM.r mlmarkIntS)) (fun k x m=>by kernel_rfl) (fun k n v=>by kernel_rfl)
theorem mlmarkWorld (k:Nat) (x:(Int×(List I4)×(List I3)×Int×Int×Int×Int×Int×(List I3)×Int)×(Int×Int×Int×List (I2×(List I2)×List (Int×(List Int)×List Int)))×(List Int)×(List Int)×(List I6)×(List (List I6))×(List I4)×(List Int)×(List (Int×Int×List Int))×(List I4)×Int×Int×(List I6)×List I4) (m:Int) (h0:0<=m) (hB:m+16*szT Q0 x<=1152921504606846976) (hz:szT Q0 x<=140737488351232) (hk:szT Q0 x+5<k):FlmarkWorld k x m=(some ((mkT Q0 x m).2,(((mkT Q0 x m).1).1).2.1,(((mkT Q0 x m).1).1).2.2.1,(((mkT Q0 x m).1).1).2.2.2.2.2.2.2.2.1,(((mkT Q0 x m).1).2.1).2.2.2,((mkT Q0 x m).1).2.2.1,((mkT Q0 x m).1).2.2.2.1,((mkT Q0 x m).1).2.2.2.2.1,((mkT Q0 x m).1).2.2.2.2.2.1,((mkT Q0 x m).1).2.2.2.2.2.2.1,((mkT Q0 x m).1).2.2.2.2.2.2.2.1,((mkT Q0 x m).1).2.2.2.2.2.2.2.2.1,((mkT Q0 x m).1).2.2.2.2.2.2.2.2.2.1,((mkT Q0 x m).1).2.2.2.2.2.2.2.2.2.2.2.2.1,((mkT Q0 x m).1).2.2.2.2.2.2.2.2.2.2.2.2.2):Option (Int×(List I4)×(List I3)×(List I3)×(List (I2×(List I2)×List (Int×(List Int)×List Int)))×(List Int)×(List Int)×(List I6)×(List (List I6))×(List I4)×(List Int)×(List (Int×Int×List Int))×(List I4)×(List I6)×List I4)):=by
 obtain ⟨k,rfl⟩:=kp (by omega:0<k)
 have es:szT Q0 x=(szT sSky x.1+(szT m0 x.2.1+(szT sLaw x.2.2.1+(szT (.l 3 (.i .i64)) x.2.2.2.1+(szT (.l 119 sI6) x.2.2.2.2.1+(szT (.l 117 J0) x.2.2.2.2.2.1+(szT (.l 89 sI4) x.2.2.2.2.2.2.1+(szT (.l 3 (.i .i64)) x.2.2.2.2.2.2.2.1+(szT (.l 225 T0) x.2.2.2.2.2.2.2.2.1+(szT (.l 90 sI4) x.2.2.2.2.2.2.2.2.2.1+(0+(0+(szT (.l 229 sI6) x.2.2.2.2.2.2.2.2.2.2.2.2.1+szT (.l 168 sI4) x.2.2.2.2.2.2.2.2.2.2.2.2.2))))))))))))):=rfl
 rw [es] at hB hz hk;have b0:=mkT_le sSky x.1 m rfl;have b1:=mkT_le m0 x.2.1 ((mkT sSky x.1 m).2) rfl;have b2:=mkT_le sLaw x.2.2.1 ((mkT m0 x.2.1 (mkT sSky x.1 m).2).2) rfl;have b3:=mkT_le (.l 3 (.i .i64)) x.2.2.2.1 ((mkT sLaw x.2.2.1 (mkT m0 x.2.1 (mkT sSky x.1 m).2).2).2) rfl;have b4:=mkT_le (.l 119 sI6) x.2.2.2.2.1 ((mkT (.l 3 (.i .i64)) x.2.2.2.1 (mkT sLaw x.2.2.1 (mkT m0 x.2.1 (mkT sSky x.1 m).2).2).2).2) rfl
 have b5:=mkT_le (.l 117 J0) x.2.2.2.2.2.1 ((mkT (.l 119 sI6) x.2.2.2.2.1 (mkT (.l 3 (.i .i64)) x.2.2.2.1 (mkT sLaw x.2.2.1 (mkT m0 x.2.1 (mkT sSky x.1 m).2).2).2).2).2) rfl;have b6:=mkT_le (.l 89 sI4) x.2.2.2.2.2.2.1 ((mkT (.l 117 J0) x.2.2.2.2.2.1 (mkT (.l 119 sI6) x.2.2.2.2.1 (mkT (.l 3 (.i .i64)) x.2.2.2.1 (mkT sLaw x.2.2.1 (mkT m0 x.2.1 (mkT sSky x.1 m).2).2).2).2).2).2) rfl
 have b7:=mkT_le (.l 3 (.i .i64)) x.2.2.2.2.2.2.2.1 ((mkT (.l 89 sI4) x.2.2.2.2.2.2.1 (mkT (.l 117 J0) x.2.2.2.2.2.1 (mkT (.l 119 sI6) x.2.2.2.2.1 (mkT (.l 3 (.i .i64)) x.2.2.2.1 (mkT sLaw x.2.2.1 (mkT m0 x.2.1 (mkT sSky x.1 m).2).2).2).2).2).2).2) rfl;have b8:=mkT_le (.l 225 T0) x.2.2.2.2.2.2.2.2.1 ((mkT (.l 3 (.i .i64)) x.2.2.2.2.2.2.2.1 (mkT (.l 89 sI4) x.2.2.2.2.2.2.1 (mkT (.l 117 J0) x.2.2.2.2.2.1 (mkT (.l 119 sI6) x.2.2.2.2.1 (mkT (.l 3 (.i .i64)) x.2.2.2.1 (mkT sLaw x.2.2.1 (mkT m0 x.2.1 (mkT sSky x.1 m).2).2).2).2).2).2).2).2) rfl
 have b9:=mkT_le (.l 90 sI4) x.2.2.2.2.2.2.2.2.2.1 ((mkT (.l 225 T0) x.2.2.2.2.2.2.2.2.1 (mkT (.l 3 (.i .i64)) x.2.2.2.2.2.2.2.1 (mkT (.l 89 sI4) x.2.2.2.2.2.2.1 (mkT (.l 117 J0) x.2.2.2.2.2.1 (mkT (.l 119 sI6) x.2.2.2.2.1 (mkT (.l 3 (.i .i64)) x.2.2.2.1 (mkT sLaw x.2.2.1 (mkT m0 x.2.1 (mkT sSky x.1 m).2).2).2).2).2).2).2).2).2) rfl;have b10:=mkT_le (.l 229 sI6) x.2.2.2.2.2.2.2.2.2.2.2.2.1 ((mkT (.l 90 sI4) x.2.2.2.2.2.2.2.2.2.1 (mkT (.l 225 T0) x.2.2.2.2.2.2.2.2.1 (mkT (.l 3 (.i .i64)) x.2.2.2.2.2.2.2.1 (mkT (.l 89 sI4) x.2.2.2.2.2.2.1 (mkT (.l 117 J0) x.2.2.2.2.2.1 (mkT (.l 119 sI6) x.2.2.2.2.1 (mkT (.l 3 (.i .i64)) x.2.2.2.1 (mkT sLaw x.2.2.1 (mkT m0 x.2.1 (mkT sSky x.1 m).2).2).2).2).2).2).2).2).2).2) rfl
 have b11:=mkT_le (.l 168 sI4) x.2.2.2.2.2.2.2.2.2.2.2.2.2 ((mkT (.l 229 sI6) x.2.2.2.2.2.2.2.2.2.2.2.2.1 (mkT (.l 90 sI4) x.2.2.2.2.2.2.2.2.2.1 (mkT (.l 225 T0) x.2.2.2.2.2.2.2.2.1 (mkT (.l 3 (.i .i64)) x.2.2.2.2.2.2.2.1 (mkT (.l 89 sI4) x.2.2.2.2.2.2.1 (mkT (.l 117 J0) x.2.2.2.2.2.1 (mkT (.l 119 sI6) x.2.2.2.2.1 (mkT (.l 3 (.i .i64)) x.2.2.2.1 (mkT sLaw x.2.2.1 (mkT m0 x.2.1 (mkT sSky x.1 m).2).2).2).2).2).2).2).2).2).2).2) rfl
 have g0:=mlmarkSky k x.1 m (by omega) (by omega) (by omega) (by omega)
 have g1:=mlmarkProgram k x.2.1 ((mkT sSky x.1 m).2) (by omega) (by omega) (by omega) (by omega)
 have g2:=mlmarkLaw k x.2.2.1 ((mkT m0 x.2.1 (mkT sSky x.1 m).2).2) (by omega) (by omega) (by omega) (by omega)
 have g3:=mlmarkIntS k x.2.2.2.1 ((mkT sLaw x.2.2.1 (mkT m0 x.2.1 (mkT sSky x.1 m).2).2).2) (by omega) (by omega) (by omega) (by omega)
 have g4:=mlmarkBatteryS k x.2.2.2.2.1 ((mkT (.l 3 (.i .i64)) x.2.2.2.1 (mkT sLaw x.2.2.1 (mkT m0 x.2.1 (mkT sSky x.1 m).2).2).2).2) (by omega) (by omega) (by omega) (by omega)
 have g5:=mlmarkQueueS k x.2.2.2.2.2.1 ((mkT (.l 119 sI6) x.2.2.2.2.1 (mkT (.l 3 (.i .i64)) x.2.2.2.1 (mkT sLaw x.2.2.1 (mkT m0 x.2.1 (mkT sSky x.1 m).2).2).2).2).2) (by omega) (by omega) (by omega) (by omega)
 have g6:=mlmarkFlowS k x.2.2.2.2.2.2.1 ((mkT (.l 117 J0) x.2.2.2.2.2.1 (mkT (.l 119 sI6) x.2.2.2.2.1 (mkT (.l 3 (.i .i64)) x.2.2.2.1 (mkT sLaw x.2.2.1 (mkT m0 x.2.1 (mkT sSky x.1 m).2).2).2).2).2).2) (by omega) (by omega) (by omega) (by omega)
 have g7:=mlmarkIntS k x.2.2.2.2.2.2.2.1 ((mkT (.l 89 sI4) x.2.2.2.2.2.2.1 (mkT (.l 117 J0) x.2.2.2.2.2.1 (mkT (.l 119 sI6) x.2.2.2.2.1 (mkT (.l 3 (.i .i64)) x.2.2.2.1 (mkT sLaw x.2.2.1 (mkT m0 x.2.1 (mkT sSky x.1 m).2).2).2).2).2).2).2) (by omega) (by omega) (by omega) (by omega)
 have g8:=mlmarkStreamS k x.2.2.2.2.2.2.2.2.1 ((mkT (.l 3 (.i .i64)) x.2.2.2.2.2.2.2.1 (mkT (.l 89 sI4) x.2.2.2.2.2.2.1 (mkT (.l 117 J0) x.2.2.2.2.2.1 (mkT (.l 119 sI6) x.2.2.2.2.1 (mkT (.l 3 (.i .i64)) x.2.2.2.1 (mkT sLaw x.2.2.1 (mkT m0 x.2.1 (mkT sSky x.1 m).2).2).2).2).2).2).2).2) (by omega) (by omega) (by omega) (by omega)
 have g9:=mlmarkFaultS k x.2.2.2.2.2.2.2.2.2.1 ((mkT (.l 225 T0) x.2.2.2.2.2.2.2.2.1 (mkT (.l 3 (.i .i64)) x.2.2.2.2.2.2.2.1 (mkT (.l 89 sI4) x.2.2.2.2.2.2.1 (mkT (.l 117 J0) x.2.2.2.2.2.1 (mkT (.l 119 sI6) x.2.2.2.2.1 (mkT (.l 3 (.i .i64)) x.2.2.2.1 (mkT sLaw x.2.2.1 (mkT m0 x.2.1 (mkT sSky x.1 m).2).2).2).2).2).2).2).2).2) (by omega) (by omega) (by omega) (by omega)
 have g10:=mlmarkPacketS k x.2.2.2.2.2.2.2.2.2.2.2.2.1 ((mkT (.l 90 sI4) x.2.2.2.2.2.2.2.2.2.1 (mkT (.l 225 T0) x.2.2.2.2.2.2.2.2.1 (mkT (.l 3 (.i .i64)) x.2.2.2.2.2.2.2.1 (mkT (.l 89 sI4) x.2.2.2.2.2.2.1 (mkT (.l 117 J0) x.2.2.2.2.2.1 (mkT (.l 119 sI6) x.2.2.2.2.1 (mkT (.l 3 (.i .i64)) x.2.2.2.1 (mkT sLaw x.2.2.1 (mkT m0 x.2.1 (mkT sSky x.1 m).2).2).2).2).2).2).2).2).2).2) (by omega) (by omega) (by omega) (by omega)
 have g11:=mlmarkSentS k x.2.2.2.2.2.2.2.2.2.2.2.2.2 ((mkT (.l 229 sI6) x.2.2.2.2.2.2.2.2.2.2.2.2.1 (mkT (.l 90 sI4) x.2.2.2.2.2.2.2.2.2.1 (mkT (.l 225 T0) x.2.2.2.2.2.2.2.2.1 (mkT (.l 3 (.i .i64)) x.2.2.2.2.2.2.2.1 (mkT (.l 89 sI4) x.2.2.2.2.2.2.1 (mkT (.l 117 J0) x.2.2.2.2.2.1 (mkT (.l 119 sI6) x.2.2.2.2.1 (mkT (.l 3 (.i .i64)) x.2.2.2.1 (mkT sLaw x.2.2.1 (mkT m0 x.2.1 (mkT sSky x.1 m).2).2).2).2).2).2).2).2).2).2).2) (by omega) (by omega) (by omega) (by omega)
 exact (elmarkWorld k x m).trans (TT.c g0 <| TT.c g1 <| TT.c g2 <| TT.c g3 <| TT.c g4 <| TT.c g5 <| TT.c g6 <| TT.c g7 <| TT.c g8 <| TT.c g9 <| TT.c g10 <| TT.c g11 <| rfl)
theorem zlszBatteryS:SS 1 (.l 252 sI6) FlszBatteryS:=SS.s rfl (fun k x p=>by kernel_rfl)
theorem zlszFaultS:SS 1 (.l 85 sI4) FlszFaultS:=SS.s rfl (fun k x p=>by kernel_rfl)
theorem zlszFlowS:SS 1 (.l 83 sI4) FlszFlowS:=SS.s rfl (fun k x p=>by kernel_rfl)
theorem zlszIntS:SS 1 (.l 3 (.i .i64)) FlszIntS:=SS.s rfl (fun k x p=>by kernel_rfl)
theorem zlszLaw:SS 2 sLaw FlszLaw:=SS.a (CZ.c zlszIntS) (fun k x p=>by kernel_rfl)
theorem zlszPacketS:SS 1 (.l 256 sI6) FlszPacketS:=SS.s rfl (fun k x p=>by kernel_rfl)
theorem zlszLinkS:SS 1 (.l 382 sI2) FlszLinkS:=SS.s rfl (fun k x p=>by kernel_rfl)
theorem zlszTable:SS 2 sTable FlszTable:=SS.a (CZ.n,CZ.c zlszIntS,CZ.c zlszIntS) (fun k x p=>by kernel_rfl)
theorem zlszTableS:SS 3 (.l 380 sTable) FlszTableS:=SS.l (L:=Lz E 379 Tryz.f379 27 380 sTable) zlszTable (fun k x p=>by kernel_rfl) (fun k x n v=>by kernel_rfl)
theorem zlszPiece:SS 4 sLPiece FlszPiece:=SS.a (CZ.n,CZ.c zlszLinkS,CZ.c zlszTableS) (fun k x p=>by kernel_rfl)
theorem zlszPieceS:SS 5 (.l 311 sLPiece) FlszPieceS:=SS.l (L:=Lz E 202 Tryz.f202 27 311 sLPiece) zlszPiece (fun k x p=>by kernel_rfl) (fun k x n v=>by kernel_rfl)
theorem zlszProgram:SS 6 sLProgram FlszProgram:=SS.a (CZ.n,CZ.n,CZ.n,CZ.c zlszPieceS) (fun k x p=>by kernel_rfl)
theorem zlszQueue:SS 2 sLQueue FlszQueue:=SS.a (CZ.c zlszPacketS) (fun k x p=>by kernel_rfl)
theorem zlszQueueS:SS 3 (.l 238 sLQueue) FlszQueueS:=SS.l (L:=Lz E 105 Tryz.f105 27 238 sLQueue) zlszQueue (fun k x p=>by kernel_rfl) (fun k x n v=>by kernel_rfl)
theorem zlszSentS:SS 1 (.l 258 sI4) FlszSentS:=SS.s rfl (fun k x p=>by kernel_rfl)
theorem zlszSatS:SS 1 (.l 207 sI4) FlszSatS:=SS.s rfl (fun k x p=>by kernel_rfl)
theorem zlszSiteS:SS 1 (.l 209 sI3) FlszSiteS:=SS.s rfl (fun k x p=>by kernel_rfl)
theorem zlszZoneS:SS 1 (.l 213 sZone) FlszZoneS:=SS.s rfl (fun k x p=>by kernel_rfl)
theorem zlszSky:SS 2 sLSky FlszSky:=SS.a (CZ.n,CZ.c zlszSatS,CZ.c zlszSiteS,CZ.n,CZ.n,CZ.n,CZ.n,CZ.n,CZ.c zlszZoneS,CZ.n) (fun k x p=>by kernel_rfl)
theorem zlszStream:SS 2 T0 FlszStream:=SS.a (CZ.n,CZ.n,CZ.c zlszIntS) (fun k x p=>by kernel_rfl)
theorem zlszStreamS:SS 3 (.l 240 T0) FlszStreamS:=SS.l (L:=Lz E 107 Tryz.f107 27 240 T0) zlszStream (fun k x p=>by kernel_rfl) (fun k x n v=>by kernel_rfl)
theorem zlszWorld:SS 7 sLWorld FlszWorld:=SS.a (CZ.c zlszSky,CZ.c zlszProgram,CZ.c zlszLaw,CZ.c zlszIntS,CZ.c zlszBatteryS,CZ.c zlszQueueS,CZ.c zlszFlowS,CZ.c zlszIntS,CZ.c zlszStreamS,CZ.c zlszFaultS,CZ.n,CZ.n,CZ.c zlszPacketS,CZ.c zlszSentS) (fun k x p=>by kernel_rfl)
theorem tltoBattery:TT 1 sI6 FltoBattery:=TT.s (CT.n,CT.n,CT.n,CT.n,CT.n,CT.n) (fun k x=>by kernel_rfl)
theorem tltoBatteryS:TT 2 (.l 252 sI6) FltoBatteryS:=TT.l (sh:=sI6) (L:=Lt E 118 Tryz.f118 23 252 sI6 119 sI6) (b:=48) (z:=((0,0,0,0,0,0):I6)) tltoBattery (fun k x=>by kernel_rfl) (fun k x n v=>by kernel_rfl)
theorem tltoFault:TT 1 sI4 FltoFault:=TT.s (CT.n,CT.n,CT.n,CT.n) (fun k x=>by kernel_rfl)
theorem tltoFaultS:TT 2 (.l 85 sI4) FltoFaultS:=TT.l (sh:=sI4) (L:=Lt E 122 Tryz.f122 23 85 sI4 90 sI4) (b:=32) (z:=((0,0,0,0):I4)) tltoFault (fun k x=>by kernel_rfl) (fun k x n v=>by kernel_rfl)
theorem tltoFlow:TT 1 sI4 FltoFlow:=TT.s (CT.n,CT.n,CT.n,CT.n) (fun k x=>by kernel_rfl)
theorem tltoFlowS:TT 2 (.l 83 sI4) FltoFlowS:=TT.l (sh:=sI4) (L:=Lt E 120 Tryz.f120 23 83 sI4 89 sI4) (b:=32) (z:=((0,0,0,0):I4)) tltoFlow (fun k x=>by kernel_rfl) (fun k x n v=>by kernel_rfl)
theorem tltoIntS:TT 1 (.l 3 (.i .i64)) FltoIntS:=TT.l (sh:=(.i .i64)) (L:=Lt E 13 Tryz.f13 22 3 (.i .i64) 3 (.i .i64)) (b:=8) (z:=(0:Int)) TT.o (fun k x=>by kernel_rfl) (fun k x n v=>by kernel_rfl)
theorem tltoLaw:TT 2 sLaw FltoLaw:=TT.s (CT.c tltoIntS) (fun k x=>by kernel_rfl)
theorem tltoPacket:TT 1 sI6 FltoPacket:=TT.s (CT.n,CT.n,CT.n,CT.n,CT.n,CT.n) (fun k x=>by kernel_rfl)
theorem tltoPacketS:TT 2 (.l 256 sI6) FltoPacketS:=TT.l (sh:=sI6) (L:=Lt E 123 Tryz.f123 23 256 sI6 229 sI6) (b:=48) (z:=((0,0,0,0,0,0):I6)) tltoPacket (fun k x=>by kernel_rfl) (fun k x n v=>by kernel_rfl)
theorem tltoLink:TT 1 sI2 FltoLink:=TT.s (CT.n,CT.n) (fun k x=>by kernel_rfl)
theorem tltoLinkS:TT 2 (.l 382 sI2) FltoLinkS:=TT.l (sh:=sI2) (L:=Lt E 384 Tryz.f384 23 382 sI2 288 sI2) (b:=16) (z:=((0,0):I2)) tltoLink (fun k x=>by kernel_rfl) (fun k x n v=>by kernel_rfl)
theorem tltoSpan:TT 1 sI2 FltoSpan:=TT.s (CT.n,CT.n) (fun k x=>by kernel_rfl)
theorem tltoTable:TT 2 sTable FltoTable:=TT.s (CT.n,CT.c tltoIntS,CT.c tltoIntS) (fun k x=>by kernel_rfl)
theorem tltoTableS:TT 3 (.l 380 sTable) FltoTableS:=TT.l (sh:=sTable) (L:=Lt E 385 Tryz.f385 23 380 sTable 290 sTable) (b:=56) (z:=((0,[],[]):Int×(List Int)×List Int)) tltoTable (fun k x=>by kernel_rfl) (fun k x n v=>by kernel_rfl)
theorem tltoPiece:TT 4 sLPiece FltoPiece:=TT.s (CT.c tltoSpan,CT.c tltoLinkS,CT.c tltoTableS) (fun k x=>by kernel_rfl)
theorem tltoPieceS:TT 5 (.l 311 sLPiece) FltoPieceS:=TT.l (sh:=sLPiece) (L:=Lt E 218 Tryz.f218 23 311 sLPiece 198 sPiece) (b:=64) (z:=(((0,0),[],[]):I2×(List I2)×List (Int×(List Int)×List Int))) tltoPiece (fun k x=>by kernel_rfl) (fun k x n v=>by kernel_rfl)
theorem tltoProgram:TT 6 sLProgram FltoProgram:=TT.s (CT.n,CT.n,CT.n,CT.c tltoPieceS) (fun k x=>by kernel_rfl)
theorem tltoQueue:TT 3 sLQueue FltoQueue:=TT.s (CT.c tltoPacketS) (fun k x=>by kernel_rfl)
theorem tltoQueueS:TT 4 (.l 238 sLQueue) FltoQueueS:=TT.l (sh:=sLQueue) (L:=Lt E 119 Tryz.f119 23 238 sLQueue 117 J0) (b:=24) (z:=([]:List I6)) tltoQueue (fun k x=>by kernel_rfl) (fun k x n v=>by kernel_rfl)
theorem tltoSent:TT 1 sI4 FltoSent:=TT.s (CT.n,CT.n,CT.n,CT.n) (fun k x=>by kernel_rfl)
theorem tltoSentS:TT 2 (.l 258 sI4) FltoSentS:=TT.l (sh:=sI4) (L:=Lt E 124 Tryz.f124 23 258 sI4 168 sI4) (b:=32) (z:=((0,0,0,0):I4)) tltoSent (fun k x=>by kernel_rfl) (fun k x n v=>by kernel_rfl)
theorem tltoSat:TT 1 sI4 FltoSat:=TT.s (CT.n,CT.n,CT.n,CT.n) (fun k x=>by kernel_rfl)
theorem tltoSatS:TT 2 (.l 207 sI4) FltoSatS:=TT.l (sh:=sI4) (L:=Lt E 56 Tryz.f56 23 207 sI4 181 sI4) (b:=32) (z:=((0,0,0,0):I4)) tltoSat (fun k x=>by kernel_rfl) (fun k x n v=>by kernel_rfl)
theorem tltoSite:TT 1 sI3 FltoSite:=TT.s (CT.n,CT.n,CT.n) (fun k x=>by kernel_rfl)
theorem tltoSiteS:TT 2 (.l 209 sI3) FltoSiteS:=TT.l (sh:=sI3) (L:=Lt E 57 Tryz.f57 23 209 sI3 183 sI3) (b:=24) (z:=((0,0,0):I3)) tltoSite (fun k x=>by kernel_rfl) (fun k x n v=>by kernel_rfl)
theorem tltoArc:TT 1 sI2 FltoArc:=TT.s (CT.n,CT.n) (fun k x=>by kernel_rfl)
theorem tltoZone:TT 2 sZone FltoZone:=TT.s (CT.n,CT.c tltoArc) (fun k x=>by kernel_rfl)
theorem tltoZoneS:TT 3 (.l 213 sZone) FltoZoneS:=TT.l (sh:=sZone) (L:=Lt E 58 Tryz.f58 23 213 sZone 188 sZone) (b:=24) (z:=((0,(0,0)):I3)) tltoZone (fun k x=>by kernel_rfl) (fun k x n v=>by kernel_rfl)
theorem tltoSky:TT 4 sLSky FltoSky:=TT.s (CT.n,CT.c tltoSatS,CT.c tltoSiteS,CT.n,CT.n,CT.n,CT.n,CT.n,CT.c tltoZoneS,CT.n) (fun k x=>by kernel_rfl)
theorem tltoStream:TT 2 T0 FltoStream:=TT.s (CT.n,CT.n,CT.c tltoIntS) (fun k x=>by kernel_rfl)
theorem tltoStreamS:TT 3 (.l 240 T0) FltoStreamS:=TT.l (sh:=T0) (L:=Lt E 121 Tryz.f121 23 240 T0 225 T0) (b:=40) (z:=((0,0,[]):Int×Int×List Int)) tltoStream (fun k x=>by kernel_rfl) (fun k x n v=>by kernel_rfl)
theorem tltoWorld:TT 7 sLWorld FltoWorld:=TT.s (CT.c tltoSky,CT.c tltoProgram,CT.c tltoLaw,CT.c tltoIntS,CT.c tltoBatteryS,CT.c tltoQueueS,CT.c tltoFlowS,CT.c tltoIntS,CT.c tltoStreamS,CT.c tltoFaultS,CT.n,CT.n,CT.c tltoPacketS,CT.c tltoSentS) (fun k x=>by kernel_rfl)
end Go.Proofs.YtdglapefgakccaaGreat.World
