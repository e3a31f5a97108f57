/- Plain lemmas for the law, part 1. No condition. -/
import Derived.Test.YtdglapefgakccaaGreatWp
set_option linter.unusedSimpArgs false
set_option linter.unusedVariables false
namespace Go.Proofs.YtdglapefgakccaaGreat.World
open Go Go.V Go.Proofs
set_option maxRecDepth 100000
set_option maxHeartbeats 4000000
abbrev TW:=TWorld
abbrev TT:Type:=Int×(List Int)×List Int
theorem bs {α β:Type} {o:Option α} {v:α} {f:α->Option β} (h:o=some v):o.bind f=f v:=by rw [h];rfl
theorem pred {k d:Nat} (h:d+1<=k):∃q,k=q+1:=⟨k-1,by omega⟩
def isIdx (a b:Int):Bool:=decide (a>=0)&&decide (a<b)
def inR (n a b:Int):Bool:=decide (a<=n)&&decide (n<=b)
theorem fiisIndex {k:Nat} (a b:Int) (hk:1<=k):FiisIndex k a b=some (isIdx a b):=by
 obtain ⟨k,rfl⟩:=pred (d:=0) hk;rw [eiisIndex];unfold isIdx;cases decide (a>=0)<;>rfl
theorem fiInRange {k:Nat} (n a b:Int) (hk:1<=k):FiInRange k n a b=some (inR n a b):=by
 obtain ⟨k,rfl⟩:=pred (d:=0) hk;rw [eiInRange];unfold inR;cases decide (a<=n)<;>rfl
theorem inR_last {len:Nat} (n:Int) (h:len<=140737488351232):inR n 0 (IntKind.i64.wrap ((len:Int)-1))=isIdx n (len:Int):=by
 rw [wrap_id (by omega) (by omega)]
 unfold inR isIdx;have e:decide (n<=(len:Int)-1)=decide (n<(len:Int)):=by
  by_cases h:n<(len:Int)
  · rw [yZ h,yZ (by omega)]
  · rw [vZ h,vZ (by omega)]
 rw [e]
theorem isIdx_pos {n:Int} {len:Nat} (h:isIdx n (len:Int)=true):0<=n/\n.toNat<len:=by
 unfold isIdx at h;simp only [sZ,pZ] at h;omega
theorem fsl1In {k:Nat} (n a b:Int) (hk:1<=k):Fsl1In k n a b=some (inR n a b):=by
 obtain ⟨k,rfl⟩:=pred (d:=0) hk;rw [esl1In];unfold inR;show (if ((decide (a<=n))==true)=true then _ else _)=_
 cases decide (a<=n)<;>rfl
theorem fgClone_int {k:Nat} (x:List (Int)) (hl:x.length<=549755813888) (hk:1<=k):FgClone_int k x=some x:=by
 obtain ⟨k,rfl⟩:=pred (d:=0) hk;rw [egClone_int,dY (by omega),clone_eq]
theorem ficloneTable {k:Nat} (x:Int×(List Int)×List Int) (h1:x.2.1.length<=549755813888) (h2:x.2.2.length<=549755813888) (hk:2<=k):FicloneTable k x=some x:=by
 obtain ⟨k,rfl⟩:=pred (d:=1) hk;rw [eicloneTable,fgClone_int _ h1 (by omega),rZ,fgClone_int _ h2 (by omega),rZ]
theorem fsl15Copy {k:Nat} (x:Int×(List Int)×List Int) (h1:x.2.1.length<=549755813888) (h2:x.2.2.length<=549755813888) (hk:1<=k):Fsl15Copy k x=some x:=by
 obtain ⟨k,rfl⟩:=pred (d:=0) hk;rw [esl15Copy,dY (by omega),dY (by omega)]
def isSpan (s:Int×Int):Bool:=decide (s.1>=0)&&(decide (s.2<=1000)&&decide (s.1<s.2))
def inSpan (s:Int×Int) (t:Int):Bool:=isSpan s&&(decide (s.1<=t)&&decide (t<s.2))
theorem fsIsSpan {k:Nat} (s:Int×Int) (hk:1<=k):FsIsSpan k s=some (isSpan s):=by
 obtain ⟨k,rfl⟩:=pred (d:=0) hk;rw [esIsSpan];unfold isSpan;cases decide (s.1>=0)
 · rfl
 · cases decide (s.2<=1000)<;>rfl
theorem fiIsSpan {k:Nat} (s:Int×Int) (hk:1<=k):FiIsSpan k s=some (isSpan s):=by
 obtain ⟨k,rfl⟩:=pred (d:=0) hk;rw [eiIsSpan];unfold isSpan;cases decide (s.1>=0)
 · rfl
 · cases decide (s.2<=1000)<;>rfl
theorem fsInSpan {k:Nat} (s:Int×Int) (t:Int) (hk:2<=k):FsInSpan k s t=some (inSpan s t):=by
 obtain ⟨k,rfl⟩:=pred (d:=1) hk;rw [esInSpan,fsIsSpan s (by omega),rZ]
 unfold inSpan;cases isSpan s
 · rfl
 · cases decide (s.1<=t)<;>rfl
theorem fiInSpan {k:Nat} (s:Int×Int) (t:Int) (hk:2<=k):FiInSpan k s t=some (inSpan s t):=by
 obtain ⟨k,rfl⟩:=pred (d:=1) hk;rw [eiInSpan,fiIsSpan s (by omega),rZ]
 unfold inSpan;cases isSpan s
 · rfl
 · cases decide (s.1<=t)<;>rfl
def pieceAt (p:TProgram) (t:Int):Int:=findFrom (fun x:TPiece=>inSpan x.1 t) 0 p.2.2.2
theorem fsPieceAt {k:Nat} (p:TProgram) (t:Int) (hl:p.2.2.2.length<=549755813888) (hk:p.2.2.2.length+4<=k):FsPieceAt k p t=some (pieceAt p t):=by
 obtain ⟨k,rfl⟩:=pred (d:=0) (show 1<=k by omega)
 refine (esPieceAt k p t).trans (row_i (L:=LsPieceAt_0 k _ _ _) (a:=p.2.2.2) (fun i l=>some (findFrom (fun x:TPiece=>inSpan x.1 t) i l)) (fun _ _=>rfl) (by omega) rfl (fun n i x r h0 ht hw hi hx ih=> ?_) (by omega))
 refine (bs (fsInSpan x.1 t (by omega))).trans ?_
 show (if inSpan x.1 t=true then some (i:Int) else _)=some (if inSpan x.1 t=true then (i:Int) else findFrom (fun x:TPiece=>inSpan x.1 t) (i+1) r)
 rw [hw,ih];by_cases h:inSpan x.1 t=true
 · rw [dY h,dY h]
 · rw [eY h,eY h]
theorem fiPieceAt {k:Nat} (p:TProgram) (t:Int) (hl:p.2.2.2.length<=549755813888) (hk:p.2.2.2.length+6<=k):FiPieceAt k p t=some (pieceAt p t):=by
 obtain ⟨k,rfl⟩:=pred (d:=1) (show 2<=k by omega)
 refine (eiPieceAt k p t).trans ((bs ?_).trans rfl)
 obtain ⟨k,rfl⟩:=pred (d:=0) (show 1<=k by omega)
 refine (egIndexFunc_Piecev_iPieceAt_1 k _ t).trans (row_i (L:=LgIndexFunc_Piecev_iPieceAt_1_0 k _ _ _) (a:=p.2.2.2) (fun i l=>some (findFrom (fun x:TPiece=>inSpan x.1 t) i l)) (fun _ _=>rfl) (by omega) rfl (fun n i x r h0 ht hw hi hx ih=> ?_) (by omega))
 obtain ⟨k,rfl⟩:=pred (d:=0) (show 1<=k by omega)
 refine (bs ((eiPieceAt_1v k x t).trans ((bs (fiInSpan x.1 t (by omega))).trans rfl))).trans ?_
 show (if inSpan x.1 t=true then some (i:Int) else _)=some (if inSpan x.1 t=true then (i:Int) else findFrom (fun x:TPiece=>inSpan x.1 t) (i+1) r)
 rw [hw,ih];by_cases h:inSpan x.1 t=true
 · rw [dY h,dY h]
 · rw [eY h,eY h]
def inPc (a b:Int) (x:TPiece):Bool:=isSpan x.1&&(decide (a<=b)&&(decide (x.1.1<=b)&&decide (a<x.1.2)))
def pcs (a b:Int):Nat->List TPiece->List Int
 | _,[]=>[]
 | i,x::r=>if inPc a b x=true then (i:Int)::pcs a b (i+1) r else pcs a b (i+1) r
theorem pcs_len (a b:Int):∀(l:List TPiece) (i:Nat),(pcs a b i l).length<=l.length
  | [],i=>by simp [pcs]
  | x::r,i=>by
    have:=pcs_len a b r (i+1)
    rw [pcs];split<;>simp<;>omega
theorem fsPiecesIn {k:Nat} (p:TProgram) (a b:Int) (hl:p.2.2.2.length<=549755813888) (hk:p.2.2.2.length+4<=k):FsPiecesIn k p a b=some (pcs a b 0 p.2.2.2):=by
  obtain ⟨k,rfl⟩:=pred (d:=0) (show 1<=k by omega)
  refine (esPiecesIn k p a b).trans ((row_inv0 (L:=LsPiecesIn_0 k _ _) (a:=p.2.2.2) (fun (s:List Int) i=>(i,s)) (fun s i l=>some (s++pcs a b i l)) (fun s i=>s.length<=i) (fun _ _ _=>rfl) (by omega) (fun s _=>by simp [pcs]) (fun n i s x r hI h0 ht hw hi hx ih=> ?_) (by omega) [] (by simp)).trans (by simp))
  refine (bs (fsIsSpan x.1 (by omega))).trans ?_
  dsimp only;rw [hw,pcs];have hn:=ih s (by omega)
  unfold inPc;cases isSpan x.1 with
  | false=>simpa using hn
  | true=>
    cases decide (a<=b) with
    | false=>simpa using hn
    | true=>
      cases decide (x.1.1<=b) with
      | false=>simpa using hn
      | true=>
        cases decide (a<x.1.2) with
        | false=>simpa using hn
        | true=>
          have hn:=ih (s++[(i:Int)]) (by simp;omega)
          rw [dY (by decide),dY (by decide),dY (by decide),dY rfl,dY (by simp;omega),dY (by decide),hn]
          simp
theorem fiPiecesIn {k:Nat} (p:TProgram) (a b:Int) (hl:p.2.2.2.length<=549755813888) (hk:p.2.2.2.length+4<=k):FiPiecesIn k p a b=some (pcs a b 0 p.2.2.2):=by
  obtain ⟨k,rfl⟩:=pred (d:=0) (show 1<=k by omega)
  refine (eiPiecesIn k p a b).trans ((row_inv0 (L:=LiPiecesIn_0 k _ _) (a:=p.2.2.2) (fun (s:List Int) i=>(i,s)) (fun s i l=>some (s++pcs a b i l)) (fun s i=>s.length<=i) (fun _ _ _=>rfl) (by omega) (fun s _=>by simp [pcs]) (fun n i s x r hI h0 ht hw hi hx ih=> ?_) (by omega) [] (by simp)).trans (by simp))
  refine (bs (fiIsSpan x.1 (by omega))).trans ?_
  dsimp only;rw [hw,pcs];have hn:=ih s (by omega)
  unfold inPc;have hgt:decide (x.1.2>a)=decide (a<x.1.2):=rfl;rw [hgt];cases isSpan x.1 with
  | false=>simpa using hn
  | true=>
    cases decide (a<=b) with
    | false=>simpa using hn
    | true=>
      cases decide (x.1.1<=b) with
      | false=>simpa using hn
      | true=>
        cases decide (a<x.1.2) with
        | false=>simpa using hn
        | true=>
          have hn:=ih (s++[(i:Int)]) (by simp;omega)
          rw [dY (by decide),dY (by decide),dY (by decide),dY rfl,dY (by simp;omega),dY (by decide),hn]
          simp
theorem pcs_mem (a b:Int):∀(l:List TPiece) (i j:Nat) (x:TPiece),l[j]? =some x->inPc a b x=true->((i+j:Nat):Int) ∈ pcs a b i l
  | [],i,j,x,h,_=>by simp at h
  | y::r,i,0,x,h,hp=>by
    simp only [List.getElem?_cons_zero,nZ] at h
    subst h;rw [pcs,dY hp];simp
  | y::r,i,j+1,x,h,hp=>by
    have:=pcs_mem a b r (i+1) j x (by simpa using h) hp
    rw [pcs];have e:((i+(j+1):Nat):Int)=((i+1+j:Nat):Int):=by congr 1;omega
    rw [e];split
    · exact fZ _ this
    · exact this
def tbl (p:TProgram) (a d:Int):Option TT:=if isIdx a (p.2.2.2.length:Int)=true then match p.2.2.2[a.toNat]? with
 | some x=>if isIdx d (x.2.2.length:Int)=true then x.2.2[d.toNat]? else none
 | none=>none
 else none
def tblR (p:TProgram) (a d:Int):TT×Bool:=match tbl p a d with
 | some t=>(t,true)
 | none=>((0,[],[]),false)
theorem fTableIn {k N:Nat} (p:TProgram) (a d:Int) (hr:rowsLe N sProgram p) (hN:N<=549755813888) (hk:N+5<=k):FsTableIn k p a d=some (tblR p a d)/\FiTableIn k p a d=some (tblR p a d)/\(tblR p a d).1.2.2.length<=N:=by
  obtain ⟨k,rfl⟩:=pred (d:=0) (show 1<=k by omega)
  obtain ⟨h1',h2⟩:=rowsLe_row hr.2.2.2;have h1:p.2.2.2.length<=N:=h1';have es:=(esTableIn k p a d).trans (bs (fsl1In _ _ _ (by omega)))
  have ei:=(eiTableIn k p a d).trans (bs (fiisIndex _ _ (by omega)))
  rw [inR_last a (by omega)] at es
  unfold tblR tbl;cases hI:isIdx a (p.2.2.2.length:Int) with
  | false=>
    rw [hI] at es ei;exact ⟨es,ei,by simp⟩
  | true=>
    rw [hI] at es ei;obtain ⟨a0,a1⟩:=isIdx_pos hI;have hx:=h2 _ (tZ a1);obtain ⟨g1',g2⟩:=rowsLe_row hx.2.2;have g1:(p.2.2.2[a.toNat]).2.2.length<=N:=g1';have es:=es.trans ((dY rfl).trans ((dY a0).trans ((ix_at a1 _).trans (bs (fsl1In _ _ _ (by omega))))))
    have ei:=ei.trans ((dY rfl).trans ((dY a0).trans ((ix_at a1 _).trans (bs (fiisIndex _ _ (by omega))))))
    rw [inR_last d (by omega)] at es
    rw [dY rfl,dZ a1]
    dsimp only;cases hJ:isIdx d ((p.2.2.2[a.toNat]).2.2.length:Int) with
    | false=>
      rw [hJ] at es ei;exact ⟨es.trans (dY rfl),ei.trans (dY rfl),by simp⟩
    | true=>
      rw [hJ] at es ei;obtain ⟨d0,d1⟩:=isIdx_pos hJ;have hy:=g2 _ (tZ d1);have e1:((p.2.2.2[a.toNat]).2.2[d.toNat]).2.1.length<=N:=(rowsLe_row hy.2.1).1;have e2:((p.2.2.2[a.toNat]).2.2[d.toNat]).2.2.length<=N:=(rowsLe_row hy.2.2).1;rw [dY rfl,dZ d1]
      dsimp only;exact ⟨es.trans ((eY (by decide)).trans ((dY a0).trans ((ix_at a1 _).trans ((dY d0).trans ((ix_at d1 _).trans (bs (fsl15Copy _ (by omega) (by omega) (by omega)))))))),
        ei.trans ((eY (by decide)).trans ((dY a0).trans ((ix_at a1 _).trans ((dY d0).trans ((ix_at d1 _).trans (bs (ficloneTable _ (by omega) (by omega) (by omega)))))))),e2⟩
/-- What the pieces' tables lay together. -/
def mixS (p:TProgram) (d:Int) (l:List Int):List (List Int):=l.filterMap fun a=>(tbl p a d).map (·.2.2)
def mixI (p:TProgram) (d:Int) (l:List Int):List (List Int):=l.map fun a=>(tblR p a d).1.2.2
theorem mixS_len (p:TProgram) (d:Int) (l:List Int):(mixS p d l).length<=l.length:=List.length_filterMap_le _ _
theorem tblR_some {p:TProgram} {a d:Int} {t:TT} (h:tbl p a d=some t):tblR p a d=(t,true):=by unfold tblR;rw [h]
theorem tblR_none {p:TProgram} {a d:Int} (h:tbl p a d=none):tblR p a d=((0,[],[]),false):=by unfold tblR;rw [h]
def mxl (l:List (List Int)):Int:=l.foldl (fun s x=>mx s (x.length:Int)) 0
theorem mx_le (a b c:Int):mx a b<=c↔a<=c/\b<=c:=by unfold mx;split<;>omega
theorem le_mx (a b:Int):a<=mx a b/\b<=mx a b:=by unfold mx;split<;>omega
theorem mxl_ge:∀(l:List (List Int)) (s:Int),s<=l.foldl (fun s x=>mx s (x.length:Int)) s/\∀x ∈ l,(x.length:Int)<=l.foldl (fun s x=>mx s (x.length:Int)) s
  | [],s=>by simp
  | x::r,s=>by
    obtain ⟨h1,h2⟩:=mxl_ge r (mx s (x.length:Int))
    have:=le_mx s (x.length:Int)
    refine ⟨by simp only [List.foldl_cons];omega,fun y hy=> ?_⟩
    simp only [List.foldl_cons];rcases zZ.1 hy with rfl | hy
    · omega
    · exact h2 y hy
theorem mxl_le {N:Int}:∀(l:List (List Int)) (s:Int),s<=N->(∀x ∈ l,(x.length:Int)<=N)->l.foldl (fun s x=>mx s (x.length:Int)) s<=N
 | [],s,h,_=>h
 | x::r,s,h,hl=>mxl_le r _ ((mx_le _ _ _).2 ⟨h,hl x (by simp)⟩) fun y hy=>hl y (fZ _ hy)
theorem iu0 {R:Type} {k:Nat} (X:ViUnionHasLoop_0->Option R) (l:List (List Int)) (hl:l.length<=549755813888) (hk:l.length<k):LiUnionHasLoop_0 k X (l,l,(l.length:Int)) k (0,0)=X (mxl l,(l.length:Int)):=by
 refine (row_s0 (L:=LiUnionHasLoop_0 k X _) (a:=l) (fun (s:Int) i=>(s,i)) (X:=fun s i=>X (s,i)) (fun s i l=>X (l.foldl (fun s x=>mx s (x.length:Int)) s,((i+l.length:Nat):Int))) (fun _ _ _=>rfl) (by omega) (fun s=>by simp) (fun n i s x r h0 ht hw hi hx ih=> ?_) hk 0).trans (by simp [mxl])
 dsimp only;rw [hw,ih];simp only [List.foldl_cons,List.length_cons]
 congr 3
 omega
/-- Does the node lead to one that is there? -/
def ld (g:List Bool) (n:Int) (x:Nat) (row:List Int):Bool:=match row[x]? with
 | some y=>isIdx y n&& !(g.getD y.toNat true)
 | none=>false
theorem iu3 {R:Type} {k:Nat} (X:ViUnionHasLoop_3->Option R) (c:CiUnionHasLoop_3) (l:List (List Int)) (n:Int) (x:Nat) (g:List Bool) (h1:c.2.2.2.2.2.2.2.2.2.1=l) (h2:c.2.2.2.2.2.2.2.2.2.2.1=(l.length:Int)) (h3:c.2.2.2.2.2.2.2.2.2.2.2=g) (h4:c.2.2.2.1=(x:Int)) (h5:c.2.1=n)
    (hg:(g.length:Int)=n) (hl:l.length<=549755813888) (hk:l.length+2<=k):LiUnionHasLoop_3 k X c k (false,0)=X (l.any (ld g n x),(l.length:Int)):=by
  subst h1;generalize hl0:c.2.2.2.2.2.2.2.2.2.1=l at*;refine (row_s0 (L:=LiUnionHasLoop_3 k X c) (a:=l) (fun (s:Bool) i=>(s,i)) (X:=fun s i=>X (s,i)) (fun s i l=>X (s || l.any (ld g n x),((i+l.length:Nat):Int))) (body:=fun m s i x2=>if (s==false)=true then if ((decide (c.2.2.2.1<(x2.length:Int)))==true)=true then if 0<=c.2.2.2.1 then ix x2 c.2.2.2.1.toNat fun x3=>(FiisIndex k x3 c.2.1).bind fun p4=>if (p4==true)=true then if 0<=c.2.2.2.1 then ix x2 c.2.2.2.1.toNat fun x5=>if 0<=x5 then if x5<(c.2.2.2.2.2.2.2.2.2.2.2.length:Int) then ix c.2.2.2.2.2.2.2.2.2.2.2 x5.toNat fun x6=>LiUnionHasLoop_3 k X c m ((!x6),(IntKind.i64.wrap (i+1))) else none else none else none else LiUnionHasLoop_3 k X c m (false,(IntKind.i64.wrap (i+1))) else none else LiUnionHasLoop_3 k X c m (false,(IntKind.i64.wrap (i+1))) else LiUnionHasLoop_3 k X c m (true,(IntKind.i64.wrap (i+1)))) (fun m s i=>by rw [<-h2,<-hl0];rfl) (by omega) (fun s=>by simp) (fun m i s row r h0 ht hw hi hx ih=> ?_) (by omega) false).trans (by simp)
  rw [h3,h4,h5,hw];cases s with
  | true=>
    rw [eY (by decide),ih]
    simp only [List.length_cons,Bool.true_or]
    congr 3
    omega
  | false=>
    have hfin:∀b:Bool,b=ld g n x row->X (b || r.any (ld g n x),((i+1+r.length:Nat):Int))=X (false || (row::r).any (ld g n x),((i+(row::r).length:Nat):Int)):=by
      rintro b rfl
      simp only [List.length_cons,Bool.false_or,List.any_cons]
      congr 3
      omega
    rw [dY (by decide)]
    by_cases hx1:x<row.length
    · have c1:((decide ((x:Int)<(row.length:Int)))==true)=true:=by simp;omega
      have e1:((x:Int)).toNat=x:=by simp
      have hrow:row[x]? =some row[x]:=dZ hx1
      rw [dY c1,dY (by omega),e1,ix_at hx1,fiisIndex _ _ (by omega),rZ]
      cases hI:isIdx row[x] n with
      | false=>
        rw [eY (by decide),ih]
        exact hfin false (by unfold ld;rw [hrow];simp [hI])
      | true=>
        have hI':=hI;rw [<-hg] at hI';obtain ⟨y0,y1⟩:=isIdx_pos hI';rw [dY (by decide),dY (by omega),ix_at hx1,dY y0,dY (by omega),ix_at y1,ih]
        exact hfin _ (by unfold ld;rw [hrow];simp [hI,List.getD,dZ y1])
    · have c1:¬((decide ((x:Int)<(row.length:Int)))==true)=true:=by simp;omega
      rw [eY c1,ih];exact hfin false (by unfold ld;rw [List.getElem?_eq_none (by omega)])
/-- One round. -/
def rnd (l:List (List Int)) (n:Int):Nat->Nat->Bool×List Bool->Bool×List Bool
 | 0,_,s=>s
 | m+1,x,s=>rnd l n m (x+1) (if s.2.getD x true=true then s else if l.any (ld s.2 n x)=true then s else (true,s.2.set x true))
theorem rnd_len (l:List (List Int)) (n:Int):∀(m x:Nat) (s:Bool×List Bool),(rnd l n m x s).2.length=s.2.length
  | 0,_,s=>rfl
  | m+1,x,s=>by
    rw [rnd,rnd_len l n m];split
    · rfl
    · split
      · rfl
      · simp
theorem iu2 {R:Type} {k:Nat} (X:ViUnionHasLoop_2->Option R) (c:CiUnionHasLoop_2) (l:List (List Int)) (n:Nat) (h1:c.1=l) (h2:c.2.1=(n:Int)) (h3:c.2.2.2.2.2=(n:Int)) (hl:l.length<=549755813888) (hn:n<=549755813888) (hk:l.length+3<=k):
    ∀(m q x:Nat) (ch:Bool) (g:List Bool),x+m=n->m<q->g.length=n->LiUnionHasLoop_2 k X c q (ch,(x:Int),g)=X ((rnd l (n:Int) m x (ch,g)).1,(n:Int),(rnd l (n:Int) m x (ch,g)).2):=by
  intro m;induction m with
  | zero=>
    intro q x ch g h hq hg;obtain ⟨q,rfl⟩:∃z,q=z+1:=⟨q-1,by omega⟩
    obtain rfl:x=n:=by omega
    refine (eY (show ¬decide ((x:Int)<c.2.2.2.2.2)=true by rw [h3];simp)).trans rfl
  | succ m ih=>
    intro q x ch g h hq hg;obtain ⟨q,rfl⟩:∃z,q=z+1:=⟨q-1,by omega⟩
    have hx:x<g.length:=by omega
    have e1:((x:Int)).toNat=x:=by simp
    have e2:IntKind.i64.wrap ((x:Int)+1)=((x+1:Nat):Int):=by rw [wrap_id (by omega) (by omega)];omega
    have p0:(0:Int)<=(x:Int):=by omega
    have p1:(x:Int)<(g.length:Int):=by omega
    refine (dY (show decide ((x:Int)<c.2.2.2.2.2)=true by rw [h3];simp;omega)).trans ((dY p0).trans ((dY p1).trans ?_))
    dsimp only;rw [e1,ix_at hx,rnd];have hgx:g.getD x true=g[x]:=by simp [List.getD,dZ hx]
    rw [hgx,e2];by_cases hb:g[x]=true
    · rw [dY hb,dY hb];exact ih q (x+1) ch g (by omega) (by omega) hg
    · rw [eY hb,eY hb];refine (iu3 _ _ l (n:Int) x g h1 (by rw [h1]) rfl rfl h2 (by rw [hg]) hl (by omega)).trans ?_
      by_cases ha:l.any (ld g (n:Int) x)=true
      · rw [dY ha];refine (eY (show ¬(!(l.any (ld g (n:Int) x)))=true by rw [ha];decide)).trans ?_
        exact ih q (x+1) ch g (by omega) (by omega) hg
      · rw [eY ha];refine (dY (show (!(l.any (ld g (n:Int) x)))=true by simpa using ha)).trans ((dY p0).trans ((dY p1).trans ?_))
        rw [ix_at hx];exact ih q (x+1) true (g.set x true) (by omega) (by omega) (by simpa using hg)
/-- Nodes that lead to one another. -/
def Closed (l:List (List Int)) (R:Nat->Prop):Prop:=∀x,R x->∃row ∈ l,∃y:Nat,row[x]? =some (y:Int)/\R y
theorem rnd_keep {l:List (List Int)} {n:Int} {R:Nat->Prop} (hR:Closed l R) (hn:∀x,R x->(x:Int)<n):∀(m x:Nat) (s:Bool×List Bool),(∀y,R y->s.2.getD y true=false)->∀y,R y->(rnd l n m x s).2.getD y true=false
  | 0,_,s,h=>h
  | m+1,x,s,h=>by
    rw [rnd];refine rnd_keep hR hn m (x+1) _ ?_
    split
    · exact h
    · split
      · exact h
      · rename_i hna;intro y hy;by_cases e:y=x
        · exfalso;subst e;obtain ⟨row,hrow,z,hz,hRz⟩:=hR y hy;apply hna
          refine List.any_eq_true.2 ⟨row,hrow,?_⟩
          unfold ld;rw [hz]
          have:=hn z hRz
          simp only [isIdx,Int.toNat_natCast,h z hRz,Bool.not_false,Bool.and_true,sZ,pZ];omega
        · have:=h y hy
          rw [List.getD_eq_getElem?_getD] at this ⊢
          simp only [List.getElem?_set,eY (Ne.symm e)]
          exact this
theorem rnd_mono {l:List (List Int)} {n:Int}:∀(m x:Nat) (s:Bool×List Bool),s.1=true->(rnd l n m x s).1=true
  | 0,_,s,h=>h
  | m+1,x,s,h=>by
    rw [rnd];refine rnd_mono m (x+1) _ ?_
    split
    · exact h
    · split
      · exact h
      · rfl
theorem rnd_fix {l:List (List Int)} {n:Int}:∀(m x:Nat) (g:List Bool),(rnd l n m x (false,g)).1=false->(rnd l n m x (false,g)).2=g/\∀y,x<=y->y<x+m->g.getD y true=false->l.any (ld g n y)=true
  | 0,x,g,h=>⟨rfl,fun y h1 h2=>by omega⟩
  | m+1,x,g,h=>by
    rw [rnd] at h ⊢;by_cases h1:g.getD x true=true
    · rw [dY h1] at h ⊢;obtain ⟨h2,h3⟩:=rnd_fix m (x+1) g h;refine ⟨h2,fun y hy1 hy2 hy=> ?_⟩
      by_cases e:y=x
      · subst e;rw [h1] at hy;cases hy
      · exact h3 y (by omega) (by omega) hy
    · rw [eY h1] at h ⊢;by_cases h4:l.any (ld g n x)=true
      · rw [dY h4] at h ⊢;obtain ⟨h2,h3⟩:=rnd_fix m (x+1) g h;refine ⟨h2,fun y hy1 hy2 hy=> ?_⟩
        by_cases e:y=x
        · subst e;exact h4
        · exact h3 y (by omega) (by omega) hy
      · rw [eY h4] at h;rw [rnd_mono m (x+1) _ rfl] at h;cases h
theorem rnd_less {l:List (List Int)} {n:Int}:∀(m x:Nat) (s:Bool×List Bool),(rnd l n m x s).2.count false<=s.2.count false/\(s.1=false->(rnd l n m x s).1=true->(rnd l n m x s).2.count false<s.2.count false)
  | 0,x,s=>⟨cY _,fun h1 h2=>by rw [rnd,h1] at h2;cases h2⟩
  | m+1,x,s=>by
    rw [rnd];by_cases h1:s.2.getD x true=true
    · rw [dY h1];exact rnd_less m (x+1) s
    · rw [eY h1];by_cases h4:l.any (ld s.2 n x)=true
      · rw [dY h4];exact rnd_less m (x+1) s
      · rw [eY h4];have hlt:x<s.2.length:=by
          apply Classical.byContradiction
          intro hx;apply h1
          simp [List.getD,List.getElem?_eq_none (by omega:s.2.length<=x)]
        have hf:s.2[x]=false:=by
          have:¬s.2[x]=true:=by simpa [List.getD,dZ hlt] using h1
          simpa using this
        have hc:(s.2.set x true).count false+1=s.2.count false:=by
          have:=List.count_set (l:=s.2) (i:=x) (a:=true) (b:=false) hlt
          have hpos:0<s.2.count false:=List.count_pos_iff.2 (by rw [<-hf];exact tZ hlt)
          rw [this,hf];simp
          omega
        have:=(rnd_less (l:=l) (n:=n) m (x+1) (true,s.2.set x true)).1
        simp only at this
        exact ⟨by omega,fun _ _=>by omega⟩
theorem iu1f {R:Type} {k:Nat} (X:ViUnionHasLoop_1->Option R) (c:CiUnionHasLoop_1) (q:Nat) (g:List Bool):LiUnionHasLoop_1 k X c (q+1) (false,g)=X (false,g):=by
 show BiUnionHasLoop_1 k X c _ (false,g)=_
 unfold BiUnionHasLoop_1;exact eY (by simp)
theorem iu1t {R:Type} {k:Nat} (X:ViUnionHasLoop_1->Option R) (c:CiUnionHasLoop_1) (q:Nat) (g:List Bool):LiUnionHasLoop_1 k X c (q+1) (true,g)=LiUnionHasLoop_2 k (fun (v2:Bool×Int×(List Bool))=>LiUnionHasLoop_1 k X c q (v2.1,v2.2.2)) (c.1,c.2.1,c.2.2.1,c.2.2.2.1,c.2.2.2.2,c.2.1) k (false,0,g):=by
 show BiUnionHasLoop_1 k X c _ (true,g)=_
 unfold BiUnionHasLoop_1;exact dY rfl
theorem iu1 {R:Type} {k:Nat} (X:ViUnionHasLoop_1->Option R) (c:CiUnionHasLoop_1) (l:List (List Int)) (n:Nat) (h1:c.1=l) (h2:c.2.1=(n:Int)) (hl:l.length<=549755813888) (hn:n<=549755813888) (hk:l.length+n+5<=k):
    ∀(m q:Nat) (ch:Bool) (g:List Bool),g.count false<=m->m+2<=q->g.length=n->(ch=false->∀y,y<n->g.getD y true=false->l.any (ld g (n:Int) y)=true)->
      ∃g',LiUnionHasLoop_1 k X c q (ch,g)=X (false,g')/\g'.length=n/\(∀y,y<n->g'.getD y true=false->l.any (ld g' (n:Int) y)=true)/\∀Rr,Closed l Rr->(∀x,Rr x->(x:Int)<(n:Int))->(∀y,Rr y->g.getD y true=false)->∀y,Rr y->g'.getD y true=false:=by
  intro m;induction m with
  | zero=>
    intro q ch g hc hq hg hfix;obtain ⟨q,rfl⟩:∃z,q=z+2:=⟨q-2,by omega⟩
    cases ch with
    | false=>exact ⟨g,iu1f X c _ g,hg,hfix rfl,fun _ _ _ h=>h⟩
    | true=>
      have e:=(iu1t X c _ g).trans (iu2 (k:=k) (fun (v2:Bool×Int×(List Bool))=>LiUnionHasLoop_1 k X c (q+1) (v2.1,v2.2.2)) (c.1,c.2.1,c.2.2.1,c.2.2.2.1,c.2.2.2.2,c.2.1) l n h1 h2 h2 hl hn (by omega) n k 0 false g (by omega) (by omega) hg)
      have hless:=(rnd_less (l:=l) (n:=(n:Int)) n 0 (false,g)).2 rfl;have hf:(rnd l (n:Int) n 0 (false,g)).1=false:=by
        cases hx:(rnd l (n:Int) n 0 (false,g)).1 with
        | false=>rfl
        | true=>have:=hless hx;simp only at this;omega
      obtain ⟨f1,f2⟩:=rnd_fix n 0 g hf;have e':LiUnionHasLoop_1 k X c (q+2) (true,g)=X (false,g):=by
        refine Eq.trans (b:=LiUnionHasLoop_1 k X c (q+1) ((rnd l (n:Int) n 0 (false,g)).1,(rnd l (n:Int) n 0 (false,g)).2)) e ?_
        rw [hf,f1];exact iu1f X c _ g
      exact ⟨g,e',hg,fun y hy=>f2 y (by omega) (by omega),fun _ _ _ h=>h⟩
  | succ m ih=>
    intro q ch g hc hq hg hfix;obtain ⟨q,rfl⟩:∃z,q=z+1:=⟨q-1,by omega⟩
    cases ch with
    | false=>exact ⟨g,iu1f X c _ g,hg,hfix rfl,fun _ _ _ h=>h⟩
    | true=>
      have e:=(iu1t X c _ g).trans (iu2 (k:=k) (fun (v2:Bool×Int×(List Bool))=>LiUnionHasLoop_1 k X c q (v2.1,v2.2.2)) (c.1,c.2.1,c.2.2.1,c.2.2.2.1,c.2.2.2.2,c.2.1) l n h1 h2 h2 hl hn (by omega) n k 0 false g (by omega) (by omega) hg)
      have hlen:=rnd_len l (n:Int) n 0 (false,g);have hless:=rnd_less (l:=l) (n:=(n:Int)) n 0 (false,g);have hm:(rnd l (n:Int) n 0 (false,g)).1=true->(rnd l (n:Int) n 0 (false,g)).2.count false<=m:=fun hx=>by have:=hless.2 rfl hx;simp only at this;omega
      cases hx:(rnd l (n:Int) n 0 (false,g)).1 with
      | true=>
        obtain ⟨g',e1,e2,e3,e4⟩:=ih q (rnd l (n:Int) n 0 (false,g)).1 (rnd l (n:Int) n 0 (false,g)).2 (hm hx) (by omega) (by rw [hlen];exact hg) (fun h=>by rw [hx] at h;cases h)
        exact ⟨g',Eq.trans (b:=LiUnionHasLoop_1 k X c q ((rnd l (n:Int) n 0 (false,g)).1,(rnd l (n:Int) n 0 (false,g)).2)) e e1,e2,e3,fun Rr a b h=>e4 Rr a b (rnd_keep a b n 0 (false,g) h)⟩
      | false=>
        obtain ⟨f1,f2⟩:=rnd_fix n 0 g hx;obtain ⟨q,rfl⟩:∃z,q=z+1:=⟨q-1,by omega⟩
        have e':LiUnionHasLoop_1 k X c (q+1+1) (true,g)=X (false,g):=by
          refine Eq.trans (b:=LiUnionHasLoop_1 k X c (q+1) ((rnd l (n:Int) n 0 (false,g)).1,(rnd l (n:Int) n 0 (false,g)).2)) e ?_
          rw [hx,f1];exact iu1f X c _ g
        exact ⟨g,e',hg,fun y hy=>f2 y (by omega) (by omega),fun _ _ _ h=>h⟩
theorem iu4 {k:Nat} (c:CiUnionHasLoop_4) (g:List Bool) (h1:c.2.2.2.2.2.2.1=(g.length:Int)) (h2:c.2.2.2.2.2.2.2=g) (hl:g.length<=549755813888) (hk:g.length<k):LiUnionHasLoop_4 k (fun (v4:Int) (x1:Bool)=>some true) (fun (v4:Int)=>some false) c k 0=some (g.any fun b=> !b):=by
 refine row_i (L:=LiUnionHasLoop_4 k _ _ c) (a:=g) (fun _ l=>some (l.any fun b=> !b)) (body:=fun n i x=>if i<(g.length:Int) then if (!x)=true then some true else LiUnionHasLoop_4 k (fun (v4:Int) (x1:Bool)=>some true) (fun (v4:Int)=>some false) c n (IntKind.i64.wrap (i+1)) else none) (X:=fun _=>some false) (fun n i=> ?_) (by omega) rfl (fun n i x r h0 ht hw hi hx ih=> ?_) hk
 · show BiUnionHasLoop_4 k _ _ c _ i=_
   unfold BiUnionHasLoop_4;rw [h1,h2];by_cases c1:decide (i<(g.length:Int))=true
   · rw [dY c1,dY c1];by_cases c2:0<=i
     · rw [dY c2,dY c2];have c3:i<(g.length:Int):=by simpa using c1
       rw [dY c3]
       have:i.toNat<g.length:=by omega
       rw [ix_at this,ix_at this,dY c3]
     · rw [eY c2,eY c2]
   · rw [eY c1,eY c1]
 · rw [dY (by omega),hw,ih,List.any_cons]
   cases x<;>rfl
theorem fiUnion {k N:Nat} (l:List (List Int)) (hl:l.length<=N) (hx:∀x ∈ l,x.length<=N) (hN:N<=549755813888) (hk:2*N+20<=k):∃b,FiUnionHasLoop k l=some b/\(b=true->∃R x,Closed l R/\R x)/\(∀R x,Closed l R->R x->b=true):=by
  obtain ⟨k,rfl⟩:=pred (d:=0) (show 1<=k by omega)
  obtain ⟨m1,m2⟩:=mxl_ge l 0;have m3:=mxl_le (N:=(N:Int)) l 0 (by omega) (fun x h=>by have:=hx x h;omega)
  obtain ⟨n,hn⟩:∃n:Nat,mxl l=(n:Int):=⟨(mxl l).toNat,by unfold mxl at*;omega⟩
  have hnN:n<=N:=by unfold mxl at hn;omega
  have hlt:∀x ∈ l,x.length<=n:=fun x h=>by have:=m2 x h;unfold mxl at hn;omega
  have e0:=(eiUnionHasLoop k l).trans (iu0 _ l (by omega) (by omega))
  rw [hn] at e0;have e1:=e0.trans ((dY (beq_self_eq_true _)).trans ((dY (show (0:Int)<=(n:Int) by omega)).trans (dY (show 1*((n:Int)).toNat<=281474976710656 by simp;omega))))
  have hrep:∀y,y<n->(List.replicate ((n:Int)).toNat false).getD y true=false:=fun y hy=>by simp [List.getD,List.getElem?_replicate,hy]
  obtain ⟨g,g1,g2,g3,g4⟩:=iu1 (k:=k) (fun (v1:Bool×(List Bool))=>LiUnionHasLoop_4 k (fun (v4:Int) (x1:Bool)=>some true) (fun (v4:Int)=>some false) (l,(n:Int),v1.1,l,(l.length:Int),(l.length:Int),(n:Int),v1.2) k 0) (l,(n:Int),l,(l.length:Int),(l.length:Int)) l n rfl rfl (by omega) (by omega) (by omega) n k true (List.replicate ((n:Int)).toNat false) (by simp [List.count_replicate]) (by omega) (by simp) (fun h=>by cases h)
  have e2:=e1.trans (g1.trans (iu4 _ g (by rw [g2]) rfl (by omega) (by omega)))
  refine ⟨_,e2,fun hb=> ?_,fun R x hR hx0=> ?_⟩
  · obtain ⟨b,hb1,hb2⟩:=List.any_eq_true.1 hb;have hbf:b=false:=by simpa using hb2
    subst hbf;obtain ⟨x,hxl,hxe⟩:=List.getElem_of_mem hb1;refine ⟨fun y=>y<n/\g.getD y true=false,x,fun y hy=> ?_,by omega,by simp [List.getD,dZ hxl,hxe]⟩
    obtain ⟨row,hrow,hld⟩:=List.any_eq_true.1 (g3 y hy.1 hy.2);unfold ld at hld;cases hz:row[y]? with
    | none=>rw [hz] at hld;cases hld
    | some z=>
      rw [hz] at hld;simp only [sZ,Bool.not_eq_true'] at hld;obtain ⟨z0,z1⟩:=isIdx_pos hld.1;exact ⟨row,hrow,z.toNat,by rw [hz];congr 1;omega,z1,hld.2⟩
  · have hRn:∀y,R y->(y:Int)<(n:Int):=fun y hy=>by
      obtain ⟨row,hrow,z,hz,_⟩:=hR y hy
      have:=(List.getElem?_eq_some_iff.1 hz).1
      have:=hlt row hrow
      omega
    have:=g4 R hR hRn (fun y hy=>hrep y (by have:=hRn y hy;omega)) x hx0
    have hxn:=hRn x hx0;have hxl:x<g.length:=by omega
    refine List.any_eq_true.2 ⟨g[x],tZ hxl,?_⟩
    have:g[x]=false:=by simpa [List.getD,dZ hxl] using this
    rw [this];rfl
inductive Pth (E:Nat->Nat->Prop):Nat->Nat->Prop
 | one {a b:Nat}:E a b->Pth E a b
 | more {a b c:Nat}:Pth E a b->E b c->Pth E a c
def Ed (nx:List Int) (x y:Nat):Prop:=nx[x]? =some (y:Int)/\y<nx.length
theorem fsMax {k:Nat} (a b:Int) (hk:1<=k):FsMax k a b=some (mx a b):=by
 obtain ⟨k,rfl⟩:=pred (d:=0) hk;rw [esMax];unfold mx;by_cases h:a<b
 · rw [dY (by simpa using h),dY h]
 · rw [eY (by simpa using h),eY h]
theorem fsl18Size {k:Nat} (l:List (List Int)) (hl:l.length<=549755813888) (hk:l.length+3<=k):Fsl18Size k l=some (mxl l):=by
 obtain ⟨k,rfl⟩:=pred (d:=0) (show 1<=k by omega)
 refine (esl18Size k l).trans (row_s0 (L:=Lsl18Size_0 k _ _) (a:=l) (fun (s:Int) i=>(s,i)) (fun s i l=>some (l.foldl (fun s x=>mx s (x.length:Int)) s)) (fun _ _ _=>rfl) (by omega) (fun s=>by simp) (fun n i s x r h0 ht hw hi hx ih=> ?_) (by omega) 0)
 refine (bs (fsMax _ _ (by omega))).trans ?_
 rw [hw,ih];rfl
theorem fsl15Has {k:Nat} (l:List Int) (x:Int) (hl:l.length<=549755813888) (hk:l.length+2<=k):Fsl15Has k l x=some (l.any fun y=>y==x):=by
 obtain ⟨k,rfl⟩:=pred (d:=0) (show 1<=k by omega)
 refine (esl15Has k l x).trans (row_i (L:=Lsl15Has_0 k _ _ _) (a:=l) (fun _ l=>some (l.any fun y=>y==x)) (fun _ _=>rfl) (by omega) rfl (fun n i y r h0 ht hw hi hx ih=> ?_) (by omega))
 show (if (y==x)=true then some true else _)=_
 rw [hw,ih,List.any_cons];cases (y==x)<;>rfl
theorem nodup_le:∀(n:Nat) (l:List Int),l.Nodup->(∀x ∈ l,0<=x/\x<(n:Int))->l.length<=n
  | 0,l,_,h=>by
    cases l with
    | nil=>simp
    | cons x r=>have:=h x (by simp);omega
  | n+1,l,hd,h=>by
    have h1:=nodup_le n (l.erase (n:Int)) (hd.erase _) (fun x hx=>by
      have hx':=(List.Nodup.mem_erase_iff hd).1 hx
      have:=h x hx'.2
      have hne:=hx'.1;omega)
    by_cases hm:(n:Int) ∈ l
    · rw [List.length_erase_of_mem hm] at h1;omega
    · rw [List.erase_of_not_mem hm] at h1;omega
/-- An edge of one of the rows. -/
def Un (l:List (List Int)) (x y:Nat):Prop:=(∃row ∈ l,row[x]? =some (y:Int))/\(y:Int)<mxl l
/-- A set of nodes, as a row. -/
structure Nodes (n:Nat) (s:List Int):Prop where
 nodup:s.Nodup
 range:∀x ∈ s,0<=x/\x<(n:Int)
theorem Nodes.len {n:Nat} {s:List Int} (h:Nodes n s):s.length<=n:=nodup_le n s h.nodup h.range
theorem Nodes.snoc {n:Nat} {s:List Int} (h:Nodes n s) {x:Int} (hx:isIdx x (n:Int)=true) (hn:(s.any fun y=>y==x)=false):Nodes n (s++[x]):=by
 have hnm:x ∉ s:=fun hm=>by
  have:(s.any fun y=>y==x)=true:=List.any_eq_true.2 ⟨x,hm,by simp⟩
  rw [hn] at this;cases this
 unfold isIdx at hx;simp only [sZ,pZ] at hx;refine ⟨qZ.2 ⟨h.nodup,by simp,?_⟩,fun y hy=> ?_⟩
 · rintro a ha b hb rfl
   have hax:a=x:=by simpa using hb
   rw [hax] at ha;exact hnm ha
 · rcases wZ.1 hy with hy | hy
   · exact h.range y hy
   · have:y=x:=by simpa using hy
     subst this;exact ⟨by omega,by omega⟩
theorem fsSteps {k N:Nat} (l:List (List Int)) (n x:Nat) (hn:mxl l=(n:Int)) (hl:l.length<=N) (hN:N<=549755813888) (hnN:n<=N) (hk:N+10<=k):∃st,Fsl18Steps k l (n:Int) (x:Int)=some st/\Nodes n st/\(∀y:Nat,Un l x y->(y:Int) ∈ st)/\∀y ∈ st,Un l x y.toNat:=by
  obtain ⟨k,rfl⟩:=pred (d:=0) (show 1<=k by omega)
  have key:∀(m q i:Nat) (out:List Int),i+m=l.length->m<q->Nodes n out->(∀y ∈ out,Un l x y.toNat)->∃st,Lsl18Steps_0 k (fun (v0:Int×(List Int))=>some v0.2) (l,(n:Int),(x:Int)) q ((i:Int),out)=some st/\Nodes n st/\(∀y ∈ out,y ∈ st)/\(∀y:Nat,(∃row ∈ l.drop i,row[x]? =some (y:Int))->(y:Int)<mxl l->(y:Int) ∈ st)/\∀y ∈ st,Un l x y.toNat:=by
    intro m;induction m with
    | zero=>
      intro q i out h hq ho hu;obtain ⟨q,rfl⟩:∃z,q=z+1:=⟨q-1,by omega⟩
      refine ⟨out,eY (show ¬decide ((i:Int)<(l.length:Int))=true by simp;omega),ho,fun _ h=>h,fun y hy _=> ?_,hu⟩
      obtain ⟨row,hr,_⟩:=hy;rw [List.drop_eq_nil_of_le (by omega)] at hr
      simp at hr
    | succ m ih=>
      intro q i out h hq ho hu;obtain ⟨q,rfl⟩:∃z,q=z+1:=⟨q-1,by omega⟩
      have hi:i<l.length:=by omega
      have c:decide ((i:Int)<(l.length:Int))=true:=by simp;omega
      have h0:(0:Int)<=(i:Int):=by omega
      have x0:(0:Int)<=(x:Int):=by omega
      have hg:l[i]? =some l[i]:=dZ hi
      have e2:IntKind.i64.wrap ((i:Int)+1)=((i+1:Nat):Int):=by rw [wrap_id (by omega) (by omega)];omega
      have hol:=ho.len;have hdrop:l.drop i=l[i]::l.drop (i+1):=cZ hi;have skip:(∀y:Nat,l[i][x]? =some (y:Int)->(y:Int)<mxl l->(y:Int) ∈ out)->∃st,Lsl18Steps_0 k (fun (v0:Int×(List Int))=>some v0.2) (l,(n:Int),(x:Int)) q (IntKind.i64.wrap ((i:Int)+1),out)=some st/\Nodes n st/\(∀y ∈ out,y ∈ st)/\(∀y:Nat,(∃row ∈ l.drop i,row[x]? =some (y:Int))->(y:Int)<mxl l->(y:Int) ∈ st)/\∀y ∈ st,Un l x y.toNat:=by
        intro hy;obtain ⟨st,s1,s2,s3,s4,s5⟩:=ih q (i+1) out (by omega) (by omega) ho hu
        refine ⟨st,by rw [e2];exact s1,s2,s3,fun y hr hlt=> ?_,s5⟩
        obtain ⟨row,hr,hrow⟩:=hr;rw [hdrop] at hr;rcases zZ.1 hr with rfl | hr
        · exact s3 _ (hy y hrow hlt)
        · exact s4 y ⟨row,hr,hrow⟩ hlt
      by_cases hx:x<l[i].length
      · have c1:((decide ((x:Int)<(l[i].length:Int)))==true)=true:=by simp;omega
        have hrow:l[i][x]? =some l[i][x]:=dZ hx
        have hI1:Fsl1In k l[i][x] 0 (IntKind.i64.wrap ((n:Int)-1))=some (isIdx l[i][x] (n:Int)):=by rw [fsl1In _ _ _ (by omega),inR_last _ (by omega)]
        cases hI:isIdx l[i][x] (n:Int) with
        | false=>
          rw [hI] at hI1;obtain ⟨st,s1,s2⟩:=skip (fun y hy hlt=>by
            rw [hrow] at hy;have hy':l[i][x]=(y:Int):=xZ hy;rw [hn] at hlt;rw [hy'] at hI;simp [isIdx] at hI;omega)
          exact ⟨st,(dY c).trans ((dY h0).trans ((ix_some (n:=i) hg _).trans ((dY c1).trans ((dY h0).trans ((ix_some (n:=i) hg _).trans ((dY x0).trans ((ix_some (n:=x) hrow _).trans ((bs hI1).trans ((eY (by decide)).trans s1))))))))),s2⟩
        | true=>
          rw [hI] at hI1;have hH:Fsl15Has k out l[i][x]=some (out.any fun y=>y==l[i][x]):=fsl15Has _ _ (by omega) (by omega)
          cases ha:(out.any fun y=>y==l[i][x]) with
          | true=>
            rw [ha] at hH;obtain ⟨st,s1,s2⟩:=skip (fun y hy hlt=>by
              rw [hrow] at hy;have hy:=xZ hy;obtain ⟨z,hz,hze⟩:=List.any_eq_true.1 ha
              have:z=(y:Int):=by rw [<-hy];simpa using hze
              rw [<-this];exact hz)
            exact ⟨st,(dY c).trans ((dY h0).trans ((ix_some (n:=i) hg _).trans ((dY c1).trans ((dY h0).trans ((ix_some (n:=i) hg _).trans ((dY x0).trans ((ix_some (n:=x) hrow _).trans ((bs hI1).trans ((dY rfl).trans ((dY h0).trans ((ix_some (n:=i) hg _).trans ((dY x0).trans ((ix_some (n:=x) hrow _).trans ((bs hH).trans ((eY (by decide)).trans s1))))))))))))))),s2⟩
          | false=>
            rw [ha] at hH;have c8:(out.length+([l[i][x]]).length)*8<=140737488355328:=by simp;omega
            have hI':=isIdx_pos hI;obtain ⟨st,s1,s2,s3,s4,s5⟩:=ih q (i+1) (out++[l[i][x]]) (by omega) (by omega) (ho.snoc hI ha) (fun y hy=>by
              rcases wZ.1 hy with hy | hy
              · exact hu y hy
              · rw [kZ.1 hy];refine ⟨⟨l[i],tZ hi,?_⟩,?_⟩
                · rw [hrow];congr 1;omega
                · rw [hn];omega)
            rw [<-e2] at s1;refine ⟨st,(dY c).trans ((dY h0).trans ((ix_some (n:=i) hg _).trans ((dY c1).trans ((dY h0).trans ((ix_some (n:=i) hg _).trans ((dY x0).trans ((ix_some (n:=x) hrow _).trans ((bs hI1).trans ((dY rfl).trans ((dY h0).trans ((ix_some (n:=i) hg _).trans ((dY x0).trans ((ix_some (n:=x) hrow _).trans ((bs hH).trans ((dY rfl).trans ((dY h0).trans ((ix_some (n:=i) hg _).trans ((dY x0).trans ((ix_some (n:=x) hrow _).trans ((dY c8).trans s1)))))))))))))))))))),s2,fun y hy=>s3 y (gZ _ hy),fun y hr hlt=> ?_,s5⟩
            obtain ⟨row,hr,hrw⟩:=hr;rw [hdrop] at hr;rcases zZ.1 hr with rfl | hr
            · rw [hrow] at hrw;rw [<-xZ hrw];exact s3 _ (by simp)
            · exact s4 y ⟨row,hr,hrw⟩ hlt
      · have c1:¬((decide ((x:Int)<(l[i].length:Int)))==true)=true:=by simp;omega
        obtain ⟨st,s1,s2⟩:=skip (fun y hy _=>by rw [List.getElem?_eq_none (by omega)] at hy;cases hy)
        exact ⟨st,(dY c).trans ((dY h0).trans ((ix_some (n:=i) hg _).trans ((eY c1).trans s1))),s2⟩
  obtain ⟨st,s1,s2,s3,s4,s5⟩:=key l.length k 0 [] (by omega) (by omega) ⟨List.nodup_nil,by simp⟩ (by simp)
  exact ⟨st,(esl18Steps k l _ _).trans s1,s2,fun y hy=>s4 y (by simpa using hy.1) hy.2,s5⟩
theorem us2 {R:Type} {k N n:Nat} (X:VsUnionHasLoop_2->Option R) (c:CsUnionHasLoop_2) (more:List Int) (hc:c.2.2.2.2=more) (hm:Nodes n more) (hnN:n<=N) (hN:N<=549755813888) (hk:N+10<=k):
    ∀(m q j:Nat) (seen:List Int),j+m=more.length->m<q->Nodes n seen->∃e,LsUnionHasLoop_2 k X c q ((j:Int),seen)=X ((more.length:Int),seen++e)/\Nodes n (seen++e)/\(∀y ∈ more.drop j,y ∈ seen++e)/\∀y ∈ e,y ∈ more:=by
  intro m;induction m with
  | zero=>
    intro q j seen h hq hs;obtain ⟨q,rfl⟩:∃z,q=z+1:=⟨q-1,by omega⟩
    obtain rfl:j=more.length:=by omega
    refine ⟨[],?_,by simpa using hs,by simp,by simp⟩
    rw [List.append_nil];exact eY (show ¬decide ((more.length:Int)<(c.2.2.2.2.length:Int))=true by rw [hc];simp)
  | succ m ih=>
    intro q j seen h hq hs;obtain ⟨q,rfl⟩:∃z,q=z+1:=⟨q-1,by omega⟩
    have hml:=hm.len;have hsl:=hs.len;have hj:j<more.length:=by omega
    have hg:c.2.2.2.2[j]? =some more[j]:=by rw [hc];exact dZ hj
    have p0:(0:Int)<=(j:Int):=by omega
    have p1:(j:Int)<(c.2.2.2.2.length:Int):=by rw [hc];omega
    have e2:IntKind.i64.wrap ((j:Int)+1)=((j+1:Nat):Int):=by rw [wrap_id (by omega) (by omega)];omega
    have hd:more.drop j=more[j]::more.drop (j+1):=cZ hj;have hH:Fsl15Has k seen more[j]=some (seen.any fun y=>y==more[j]):=fsl15Has _ _ (by omega) (by omega)
    cases ha:(seen.any fun y=>y==more[j]) with
    | true=>
      rw [ha] at hH;obtain ⟨e,e1,e3,e4,e5⟩:=ih q (j+1) seen (by omega) (by omega) hs
      rw [<-e2] at e1;refine ⟨e,(dY (yZ p1)).trans ((dY p0).trans ((dY p1).trans ((ix_some (n:=j) hg _).trans ((bs hH).trans ((eY (by decide)).trans e1))))),e3,fun y hy=> ?_,e5⟩
      rw [hd] at hy;rcases zZ.1 hy with rfl | hy
      · obtain ⟨z,hz,hze⟩:=List.any_eq_true.1 ha
        have:z=more[j]:=by simpa using hze
        rw [<-this];exact gZ _ hz
      · exact e4 y hy
    | false=>
      rw [ha] at hH;have hI:isIdx more[j] (n:Int)=true:=by
        have:=hm.range more[j] (tZ hj)
        simp [isIdx];omega
      have c8:(seen.length+([more[j]]).length)*8<=140737488355328:=by simp;omega
      obtain ⟨e,e1,e3,e4,e5⟩:=ih q (j+1) (seen++[more[j]]) (by omega) (by omega) (hs.snoc hI ha)
      rw [<-e2] at e1;refine ⟨more[j]::e,?_,by simpa using e3,fun y hy=> ?_,fun y hy=> ?_⟩
      · refine ((dY (yZ p1)).trans ((dY p0).trans ((dY p1).trans ((ix_some (n:=j) hg _).trans ((bs hH).trans ((dY rfl).trans ((dY p0).trans ((dY p1).trans ((ix_some (n:=j) hg _).trans ((dY c8).trans e1)))))))))).trans ?_
        simp
      · rw [hd] at hy;rcases zZ.1 hy with rfl | hy
        · simp
        · simpa using e4 y hy
      · rcases zZ.1 hy with rfl | hy
        · exact tZ hj
        · exact e5 y hy
theorem us1 {k N n:Nat} (Y:Option Bool) (l:List (List Int)) (i:Nat) (hn:mxl l=(n:Int)) (hl:l.length<=N) (hnN:n<=N) (hN:N<=549755813888) (hk:N+15<=k):
    ∀(m q j:Nat) (seen:List Int),j+m=n+1->m<q->j<=seen.length->Nodes n seen->(∀a,a<j->∀z,seen[a]? =some z->z≠(i:Int)/\∀y:Nat,Un l z.toNat y->(y:Int) ∈ seen)->(∀z ∈ seen,Pth (Un l) i z.toNat)->
      (LsUnionHasLoop_1 k (fun (v1:Int×(List Int)) (x3:Int)=>some true) (fun (v1:Int×(List Int))=>Y) (l,(n:Int),(i:Int)) q ((j:Int),seen)=some true/\Pth (Un l) i i)\/
        (LsUnionHasLoop_1 k (fun (v1:Int×(List Int)) (x3:Int)=>some true) (fun (v1:Int×(List Int))=>Y) (l,(n:Int),(i:Int)) q ((j:Int),seen)=Y/\∃S:List Int,(∀y ∈ seen,y ∈ S)/\(∀y ∈ S,y≠(i:Int))/\∀z ∈ S,∀y:Nat,Un l z.toNat y->(y:Int) ∈ S):=by
  intro m;induction m with
  | zero=>
    intro q j seen h hq hj hs hp hpt
    have:=hs.len
    omega
  | succ m ih=>
    intro q j seen h hq hj hs hp hpt;obtain ⟨q,rfl⟩:∃z,q=z+1:=⟨q-1,by omega⟩
    have hsl:=hs.len;by_cases hjl:j=seen.length
    · subst hjl;refine .inr ⟨eY (show ¬decide ((seen.length:Int)<(seen.length:Int))=true by simp),seen,fun y hy=>hy,fun y hy=> ?_,fun z hz=> ?_⟩
      · obtain ⟨a,ha,hae⟩:=List.getElem_of_mem hy;exact (hp a ha y (by rw [dZ ha,hae])).1
      · obtain ⟨a,ha,hae⟩:=List.getElem_of_mem hz;exact (hp a ha z (by rw [dZ ha,hae])).2
    · have hjlt:j<seen.length:=by omega
      have hg:seen[j]? =some seen[j]:=dZ hjlt
      have p0:(0:Int)<=(j:Int):=by omega
      have p1:(j:Int)<(seen.length:Int):=by omega
      have e2:IntKind.i64.wrap ((j:Int)+1)=((j+1:Nat):Int):=by rw [wrap_id (by omega) (by omega)];omega
      by_cases hd:(seen[j]==(i:Int))=true
      · have hP:=hpt _ (tZ hjlt);rw [show seen[j]=(i:Int) by simpa using hd] at hP
        exact .inl ⟨(dY (yZ p1)).trans ((dY p0).trans ((dY p1).trans ((ix_some (n:=j) hg _).trans (dY hd)))),by simpa using hP⟩
      · have hr:=hs.range seen[j] (tZ hjlt);obtain ⟨x,hx⟩:∃x:Nat,seen[j]=(x:Int):=⟨seen[j].toNat,by omega⟩
        obtain ⟨st,s1,s2,s3,s4⟩:=fsSteps (k:=k) l n x hn hl hN hnN (by omega)
        rw [<-hx] at s1;obtain ⟨e,e1,e3,e4,e5⟩:=us2 (k:=k) (N:=N) (n:=n) (fun (v2:Int×(List Int))=>LsUnionHasLoop_1 k (fun (v1:Int×(List Int)) (x3:Int)=>some true) (fun (v1:Int×(List Int))=>Y) (l,(n:Int),(i:Int)) q ((IntKind.i64.wrap ((j:Int)+1)),v2.2)) (l,(n:Int),(i:Int),(j:Int),st) st rfl s2 hnN hN (by omega) st.length k 0 seen (by omega) (by have:=s2.len;omega) hs
        have hstep:LsUnionHasLoop_1 k (fun (v1:Int×(List Int)) (x3:Int)=>some true) (fun (v1:Int×(List Int))=>Y) (l,(n:Int),(i:Int)) (q+1) ((j:Int),seen)=LsUnionHasLoop_1 k (fun (v1:Int×(List Int)) (x3:Int)=>some true) (fun (v1:Int×(List Int))=>Y) (l,(n:Int),(i:Int)) q (((j+1:Nat):Int),seen++e):=by
          rw [<-e2];exact (dY (yZ p1)).trans ((dY p0).trans ((dY p1).trans ((ix_some (n:=j) hg _).trans ((eY hd).trans ((dY p0).trans ((dY p1).trans ((ix_some (n:=j) hg _).trans ((bs s1).trans e1))))))))
        rw [hstep];have hpre:∀a z,a<j->(seen++e)[a]? =some z->seen[a]? =some z:=fun a z ha hz=>by rw [List.getElem?_append_left (by omega)] at hz;exact hz
        rcases ih q (j+1) (seen++e) (by omega) (by omega) (by simp;omega) e3 (fun a ha z hz=>by
          by_cases haj:a=j
          · subst haj;rw [List.getElem?_append_left hjlt,hg] at hz
            have hz:=xZ hz;subst hz;refine ⟨by simpa using hd,fun y hy=> ?_⟩
            rw [hx] at hy;exact e4 _ (by simpa using s3 y (by simpa using hy))
          · obtain ⟨q1,q2⟩:=hp a (by omega) z (hpre a z (by omega) hz)
            exact ⟨q1,fun y hy=>gZ _ (q2 y hy)⟩) (fun z hz=>by
          rcases wZ.1 hz with hz | hz
          · exact hpt z hz
          · have hP:=hpt _ (tZ hjlt);rw [hx] at hP;exact .more (by simpa using hP) (s4 z (e5 z hz))) with r | ⟨r,S,t1,t2,t3⟩
        · exact .inl r
        · exact .inr ⟨r,S,fun y hy=>t1 y (gZ _ hy),t2,t3⟩
theorem fsUnion {k N:Nat} (l:List (List Int)) (hl:l.length<=N) (hx:∀x ∈ l,x.length<=N) (hN:N<=549755813888) (hk:N+30<=k):∃b,FsUnionHasLoop k l=some b/\(b=false->∀i,¬Pth (Un l) i i)/\(b=true->∃i,Pth (Un l) i i):=by
  obtain ⟨k,rfl⟩:=pred (d:=0) (show 1<=k by omega)
  obtain ⟨m1,m2⟩:=mxl_ge l 0;have m3:=mxl_le (N:=(N:Int)) l 0 (by omega) (fun x h=>by have:=hx x h;omega)
  obtain ⟨n,hn⟩:∃n:Nat,mxl l=(n:Int):=⟨(mxl l).toNat,by unfold mxl at*;omega⟩
  have hnN:n<=N:=by unfold mxl at hn;omega
  have e0:=(esUnionHasLoop k l).trans (bs (fsl18Size l (by omega) (by omega)))
  rw [hn] at e0;have key:∀(m q i:Nat),i+m=n->m<q->(∀a,a<i->¬Pth (Un l) a a)->∃b,LsUnionHasLoop_0 k (fun (v0:Int) (p2:List Int) (v1:Int×(List Int)) (x3:Int)=>some true) (fun (v0:Int)=>some false) (l,(n:Int)) q (i:Int)=some b/\(b=false->∀i,¬Pth (Un l) i i)/\(b=true->∃i,Pth (Un l) i i):=by
    intro m;induction m with
    | zero=>
      intro q i h hq hp;obtain ⟨q,rfl⟩:∃z,q=z+1:=⟨q-1,by omega⟩
      refine ⟨false,eY (show ¬decide ((i:Int)<(n:Int))=true by simp;omega),fun _ a ha=> ?_,fun h=>by cases h⟩
      have:(a:Int)<mxl l:=by
        cases ha with
        | one h=>exact h.2
        | more _ h=>exact h.2
      rw [hn] at this;exact hp a (by omega) ha
    | succ m ih=>
      intro q i h hq hp;obtain ⟨q,rfl⟩:∃z,q=z+1:=⟨q-1,by omega⟩
      have c:decide ((i:Int)<(n:Int))=true:=by simp;omega
      have e2:IntKind.i64.wrap ((i:Int)+1)=((i+1:Nat):Int):=by rw [wrap_id (by omega) (by omega)];omega
      obtain ⟨st,s1,s2,s3,s4⟩:=fsSteps (k:=k) l n i hn hl hN hnN (by omega)
      rcases us1 (k:=k) (LsUnionHasLoop_0 k (fun (v0:Int) (p2:List Int) (v1:Int×(List Int)) (x3:Int)=>some true) (fun (v0:Int)=>some false) (l,(n:Int)) q (IntKind.i64.wrap ((i:Int)+1))) l i hn hl hnN hN (by omega) (n+1) k 0 st (by omega) (by omega) (by omega) s2 (fun a ha=>by omega) (fun z hz=> .one (s4 z hz)) with ⟨r,rp⟩ | ⟨r,S,t1,t2,t3⟩
      · exact ⟨true,(dY c).trans ((bs s1).trans r),(fun h=>by cases h),fun _=>⟨i,rp⟩⟩
      · obtain ⟨b,b1,b2⟩:=ih q (i+1) (by omega) (by omega) (fun a ha hpt=>by
          by_cases e:a=i
          · subst e;have all:∀y:Nat,Pth (Un l) a y->(y:Int) ∈ S:=by
              intro y hy;induction hy with
              | one h=>exact t1 _ (s3 _ h)
              | more _ h ih=>exact t3 _ ih _ (by simpa using h)
            exact t2 _ (all a hpt) rfl
          · exact hp a (by omega) hpt)
        rw [<-e2] at b1;exact ⟨b,(dY c).trans ((bs s1).trans (r.trans b1)),b2⟩
  obtain ⟨b,b1,b2⟩:=key n k 0 (by omega) (by omega) (fun a ha=>by omega)
  exact ⟨b,e0.trans b1,b2⟩
theorem own_if {R:Type} (i n:Int) (A B:Option R):(if decide (i<n)=true then if 0<=i then if i<n then A else none else none else B)=if decide (i<n)=true then if 0<=i then A else none else B:=by
 by_cases h:i<n
 · rw [dY h]
 · rw [eY (by simpa using h),eY (by simpa using h)]
theorem mixS_mem {N:Nat} {p:TProgram} {d:Int} (hr:rowsLe N sProgram p) (hN:N<=549755813888) (l:List Int):∀x ∈ mixS p d l,x.length<=N:=by
  intro x hx;obtain ⟨a,ha,he⟩:=List.mem_filterMap.1 hx;have h3:=(fTableIn (k:=N+5) p a d hr hN (cY _)).2.2;cases ht:tbl p a d with
  | none=>rw [ht] at he;cases he
  | some t=>
    rw [ht] at he;rw [tblR_some ht] at h3
    obtain rfl:t.2.2=x:=by simpa using he
    exact h3
theorem mixI_mem {N:Nat} {p:TProgram} {d:Int} (hr:rowsLe N sProgram p) (hN:N<=549755813888) (l:List Int):∀x ∈ mixI p d l,x.length<=N:=by
 intro x hx;obtain ⟨a,ha,he⟩:=List.mem_map.1 hx;have h3:=(fTableIn (k:=N+5) p a d hr hN (cY _)).2.2;rw [he] at h3;exact h3
theorem fsSafe {k N:Nat} (p:TProgram) (d a b:Int) (hr:rowsLe N sProgram p) (hN:N<=549755813888) (hk:N+40<=k):
    ∃c,FsIsSafeMix k p d a b=some c/\(c=true↔∀i,¬Pth (Un (mixS p d (pcs a b 0 p.2.2.2))) i i):=by
  obtain ⟨k,rfl⟩:=pred (d:=0) (show 1<=k by omega)
  have h1:p.2.2.2.length<=N:=(rowsLe_row hr.2.2.2).1;have hp:=pcs_len a b p.2.2.2 0;have hm:=mixS_len p d (pcs a b 0 p.2.2.2);obtain ⟨c,c1,c2,c3⟩:=fsUnion (k:=k) (mixS p d (pcs a b 0 p.2.2.2)) (N:=N) (by omega) (mixS_mem hr hN _) hN (by omega)
  have e0:=(esIsSafeMix k p d a b).trans (bs (fsPiecesIn p a b (by omega) (by omega)))
  refine ⟨!c,e0.trans ?_,fun h=>c2 (by simpa using h),fun h=> ?_⟩
  rotate_left
  · cases hc:c with
    | false=>rfl
    | true=>
      obtain ⟨i,hi⟩:=c3 hc;exact absurd hi (h i)
  generalize hl:pcs a b 0 p.2.2.2=l at*;refine (row_inv0 (L:=LsIsSafeMix_0 k (fun v0=>(FsUnionHasLoop k v0.2).bind fun p2=>some (!p2)) (d,p,l)) (a:=l) (fun (s:List (List Int)) i=>(i,s)) (fun s i r=>(FsUnionHasLoop k (s++mixS p d r)).bind fun p2=>some (!p2)) (X:=fun s _=>(FsUnionHasLoop k s).bind fun p2=>some (!p2)) (fun s i=>s.length<=i) (fun _ _ _=>own_if _ _ _ _) (by omega) (fun s _=>by simp [mixS]) (fun n i s x r hI h0 ht hw hi hx ih=> ?_) (by omega) [] (by simp)).trans ?_
  · dsimp only;refine (bs (fTableIn p x d hr hN (by omega)).1).trans ?_
    rw [hw];cases hq:tbl p x d with
    | none=>
      rw [tblR_none hq,eY (by decide),ih s (by omega)]
      show _=(FsUnionHasLoop k (s++(x::r).filterMap _)).bind _
      rw [List.filterMap_cons,hq];rfl
    | some t=>
      rw [tblR_some hq,dY rfl,dY (by simp;omega),ih _ (by simp;omega)]
      show _=(FsUnionHasLoop k (s++(x::r).filterMap _)).bind _
      rw [List.filterMap_cons,hq];simp [mixS]
  · show (FsUnionHasLoop k ([]++mixS p d l)).bind _=_
    rw [List.nil_append,c1];rfl
theorem fiSafe {k N:Nat} (p:TProgram) (d a b:Int) (hr:rowsLe N sProgram p) (hN:N<=549755813888) (hk:2*N+40<=k):
    ∃c,FiIsSafeMix k p d a b=some c/\(c=true↔∀R i,Closed (mixI p d (pcs a b 0 p.2.2.2)) R->¬R i):=by
  obtain ⟨k,rfl⟩:=pred (d:=0) (show 1<=k by omega)
  have h1:p.2.2.2.length<=N:=(rowsLe_row hr.2.2.2).1;have hp:=pcs_len a b p.2.2.2 0;obtain ⟨c,c1,c3,c2⟩:=fiUnion (k:=k) (mixI p d (pcs a b 0 p.2.2.2)) (N:=N) (by simp only [mixI,List.length_map];omega) (mixI_mem hr hN _) hN (by omega)
  have e0:=(eiIsSafeMix k p d a b).trans (bs (fiPiecesIn p a b (by omega) (by omega)))
  refine ⟨!c,e0.trans ?_,fun h R i hR hi=>(by have:=c2 R i hR hi;rw [this] at h;cases h),fun h=> ?_⟩
  rotate_left
  · cases hc:c with
    | false=>rfl
    | true=>
      obtain ⟨R,x,h1,h2⟩:=c3 hc;exact absurd h2 (h R x h1)
  generalize hl:pcs a b 0 p.2.2.2=l at*;refine (row_inv0 (L:=LiIsSafeMix_0 k (fun v0=>(FiUnionHasLoop k v0.2).bind fun p2=>some (!p2)) (d,(l.length:Int),p,l)) (a:=l) (fun (s:List (List Int)) i=>(i,s)) (fun s i r=>(FiUnionHasLoop k (s++mixI p d r)).bind fun p2=>some (!p2)) (X:=fun s _=>(FiUnionHasLoop k s).bind fun p2=>some (!p2)) (fun s i=>s.length<=i) (fun _ _ _=>own_if _ _ _ _) (by omega) (fun s _=>by simp [mixI]) (fun n i s x r hI h0 ht hw hi hx ih=> ?_) (by omega) [] (by simp)).trans ?_
  · dsimp only;refine (bs (fTableIn p x d hr hN (by omega)).2.1).trans ?_
    rw [hw,dY (by simp;omega),ih _ (by simp;omega)]
    simp [mixI]
  · show (FiUnionHasLoop k ([]++mixI p d l)).bind _=_
    rw [List.nil_append,c1];rfl
theorem Pth.first {E:Nat->Nat->Prop} {a b:Nat} (h:Pth E a b):∃c,E a c/\(c=b\/Pth E c b):=by
  induction h with
  | one h=>exact ⟨_,h,.inl rfl⟩
  | more _ e ih=>
    obtain ⟨c,h1,h2⟩:=ih;rcases h2 with rfl | h2
    · exact ⟨_,h1,.inr (.one e)⟩
    · exact ⟨_,h1,.inr (.more h2 e)⟩
def key (ds:List Int) (x:Int):Int:=(ds[x.toNat]?).getD 0
def ltx (ds:List Int) (x y:Int):Prop:=key ds x<key ds y\/(key ds x=key ds y/\x<y)
inductive Blks (ds:List Int) (bs:Nat):List Int->List Int->Prop
 | last {A B:List Int}:A.length<=bs->B.Perm A->B.Pairwise (ltx ds)->Blks ds bs A B
 | cons {A B xs v:List Int}:A.length=bs->B.Perm A->B.Pairwise (ltx ds)->Blks ds bs xs v->Blks ds bs (A++xs) (B++v)
theorem Blks.perm {ds:List Int} {bs:Nat} {xs v:List Int} (h:Blks ds bs xs v):v.Perm xs:=by
 induction h with
 | last _ h _=>exact h
 | cons _ h _ _ ih=>exact h.append ih
theorem Blks.nil {ds:List Int} {bs:Nat}:Blks ds bs [] []:= .last (by simp) List.Perm.nil List.Pairwise.nil
theorem Blks.split {ds:List Int} {bs:Nat} {xs v:List Int} (h:Blks ds bs xs v) (hl:bs<=xs.length):∃A xs' B v',xs=A++xs'/\v=B++v'/\A.length=bs/\B.Perm A/\B.Pairwise (ltx ds)/\Blks ds bs xs' v':=by
 cases h with
 | last h1 h2 h3=>exact ⟨xs,[],v,[],by simp,by simp,by omega,h2,h3,.nil⟩
 | cons h1 h2 h3 h4=>exact ⟨_,_,_,_,rfl,rfl,h1,h2,h3,h4⟩
theorem Blks.one {ds:List Int} {bs:Nat} {xs v:List Int} (h:Blks ds bs xs v) (hl:xs.length<=bs) (h0:0<bs):v.Perm xs/\v.Pairwise (ltx ds):=by
  cases h with
  | last h1 h2 h3=>exact ⟨h2,h3⟩
  | @cons A B xs v h1 h2 h3 h4=>
    have hx:xs=[]:=List.eq_nil_of_length_eq_zero (by simp at hl;omega)
    subst hx;have hv:v=[]:=by have:=h4.perm;simpa using this
    subst hv;exact ⟨by simpa using h2,by simpa using h3⟩
def downAt (n t:Int) (x:Int×Int×Int×Int):Bool:=x.1==n&&(x.2.1== -1&&inSpan x.2.2 t)
def down (l:List (Int×Int×Int×Int)) (n t:Int):Bool:=l.any (downAt n t)
theorem fsl31Now {k:Nat} (x:Int×Int×Int×Int) (t:Int) (hk:3<=k):Fsl31Now k x t=some (inSpan x.2.2 t):=by
 obtain ⟨k,rfl⟩:=pred (d:=2) hk;rw [esl31Now,fsInSpan _ _ (by omega)]
 rfl
theorem fsIsDown {k:Nat} (l:List (Int×Int×Int×Int)) (n t:Int) (hl:l.length<=140737488351232) (hk:l.length+5<=k):FsIsDown k l n t=some (down l n t):=by
 obtain ⟨k,rfl⟩:=pred (d:=0) (show 1<=k by omega)
 refine (esIsDown k l n t).trans (row_i (a:=l) (fun _ l=>some (l.any (downAt n t))) (fun _ _=>rfl) hl rfl (fun m i x r h0 hn hw hi hx ih=> ?_) (by omega))
 dsimp only;simp only [hw,ih,hn,ix_some hx,dY h0,List.any_cons,fsl31Now x t (show 3<=k by omega),rZ]
 unfold downAt;cases x.1==n<;>cases x.2.1== -1<;>cases inSpan x.2.2 t<;>rfl
theorem fiIsDown {k:Nat} (l:List (Int×Int×Int×Int)) (n t:Int) (hl:l.length<=140737488351232) (hk:l.length+5<=k):FiIsDown k l n t=some (down l n t):=by
 obtain ⟨k,rfl⟩:=pred (d:=0) (show 1<=k by omega)
 refine (eiIsDown k l n t).trans (row_i (a:=l) (fun _ l=>some (l.any (downAt n t))) (fun _ _=>rfl) hl rfl (fun m i x r h0 hn hw hi hx ih=> ?_) (by omega))
 dsimp only;simp only [hw,ih,List.any_cons,fiInSpan x.2.2 t (show 2<=k by omega),rZ]
 unfold downAt;cases x.1==n<;>cases x.2.1== -1<;>cases inSpan x.2.2 t<;>rfl
def cutAt (a b t:Int) (x:Int×Int×Int×Int):Bool:=((x.1==a&&x.2.1==b) || (x.1==b&&x.2.1==a))&&inSpan x.2.2 t
def cut (l:List (Int×Int×Int×Int)) (a b t:Int):Bool:=l.any (cutAt a b t) || (down l a t || down l b t)
theorem fsIsCut {k:Nat} (l:List (Int×Int×Int×Int)) (a b t:Int) (hl:l.length<=140737488351232) (hk:l.length+6<=k):FsIsCut k l a b t=some (cut l a b t):=by
 obtain ⟨k,rfl⟩:=pred (d:=0) (show 1<=k by omega)
 rw [esIsCut,fsIsDown l a t hl (by omega),fsIsDown l b t hl (by omega)]
 simp only [rZ];refine (row_i (a:=l) (fun _ m=>some (m.any (cutAt a b t) || (down l a t || down l b t))) (fun _ _=>rfl) hl ?_ (fun m i x r h0 hn hw hi hx ih=> ?_) (by omega))
 · cases down l a t<;>cases down l b t<;>rfl
 · dsimp only;simp only [hw,ih,hn,ix_some hx,dY h0,List.any_cons,fsl31Now x t (show 3<=k by omega),rZ]
   unfold cutAt;cases x.1==a<;>cases x.2.1==b<;>cases x.1==b<;>cases x.2.1==a<;>cases inSpan x.2.2 t<;>rfl
theorem fiIsCut {k:Nat} (l:List (Int×Int×Int×Int)) (a b t:Int) (hl:l.length<=140737488351232) (hk:l.length+6<=k):FiIsCut k l a b t=some (cut l a b t):=by
 obtain ⟨k,rfl⟩:=pred (d:=0) (show 1<=k by omega)
 rw [eiIsCut,fiIsDown l a t hl (by omega),fiIsDown l b t hl (by omega)]
 simp only [rZ];refine (row_i (a:=l) (fun _ m=>some (m.any (cutAt a b t) || (down l a t || down l b t))) (fun _ _=>rfl) hl ?_ (fun m i x r h0 hn hw hi hx ih=> ?_) (by omega))
 · cases down l a t<;>cases down l b t<;>rfl
 · dsimp only;simp only [hw,ih,List.any_cons,fiInSpan x.2.2 t (show 2<=k by omega),rZ]
   unfold cutAt;cases x.1==a<;>cases x.2.1==b<;>cases x.1==b<;>cases x.2.1==a<;>cases inSpan x.2.2 t<;>rfl
theorem fiisNumber {k:Nat} (n:Int) (hk:2<=k):FiisNumber k n=some (inR n 1 12):=by
 obtain ⟨k,rfl⟩:=pred (d:=1) hk;rw [eiisNumber,fiInRange _ _ _ (by omega)]
 rfl
theorem fiisSkewed {k:Nat} (p:TProgram) (t:Int) (hk:2<=k):FiisSkewed k p t=some (inR p.2.2.1 0 5&&inR t 0 1000):=by
  obtain ⟨k,rfl⟩:=pred (d:=1) hk;have e0:=(eiisSkewed k p t).trans (bs (fiInRange _ _ _ (by omega)))
  cases h:inR p.2.2.1 0 5 with
  | false=>rw [h] at e0;exact e0
  | true=>
    rw [h] at e0;exact e0.trans ((dY rfl).trans ((bs (fiInRange _ _ _ (by omega))).trans (by simp)))
def lnk (a b:Int) (x:Int×Int):Bool:=(x.1==a&&x.2==b) || (x.1==b&&x.2==a)
def hasL (p:TProgram) (i a b:Int):Bool:=if isIdx i (p.2.2.2.length:Int)=true then match p.2.2.2[i.toNat]? with
 | some x=>x.2.1.any (lnk a b)
 | none=>false
 else false
theorem eq2 (x:Int×Int) (a b:Int):eqT sI2 x (a,b)=(x.1==a&&x.2==b):=by
 rfl
theorem fsHasLink {k N:Nat} (p:TProgram) (i a b:Int) (hr:rowsLe N sProgram p) (hN:N<=549755813888) (hk:N+5<=k):FsHasLink k p i a b=some (hasL p i a b):=by
 obtain ⟨k,rfl⟩:=pred (d:=0) (show 1<=k by omega)
 obtain ⟨h1,h2⟩:=rowsLe_row hr.2.2.2;have h1:p.2.2.2.length<=N:=h1;have es:=(esHasLink k p i a b).trans (bs (fsl1In _ _ _ (by omega)))
 rw [inR_last _ (by omega)] at es
 unfold hasL;by_cases hx:isIdx i (p.2.2.2.length:Int)=true
 · obtain ⟨x0,x1⟩:=isIdx_pos hx;have hg:p.2.2.2[i.toNat]? =some p.2.2.2[i.toNat]:=dZ x1
   have hl:(p.2.2.2[i.toNat]).2.1.length<=N:=(rowsLe_row ((h2 _ (tZ x1)).2.1)).1;rw [dY hx,hg];refine es.trans ((eY (by rw [hx];decide)).trans ((dY x0).trans ((ix_some hg _).trans ?_)))
   dsimp only;generalize (p.2.2.2[i.toNat]).2.1=l at hl;refine row_i (L:=LsHasLink_0 k _ _ _ _) (a:=l) (fun _ l=>some (l.any (lnk a b))) (fun _ _=>rfl) (by omega) rfl (fun n i x r h0 ht hw hi hx ih=> ?_) (by omega)
   have hx':l[(i:Int).toNat]? =some x:=by rw [ht];exact hx
   show (if ((eqT sI2 x (a,b))==false)=true then _ else some true)=_
   rw [eq2,dY h0,ix_some hx',eq2,hw,ih,List.any_cons];unfold lnk;cases (x.1==a&&x.2==b)<;>cases hh:(x.1==b&&x.2==a)<;>simp
 · have hx':isIdx i (p.2.2.2.length:Int)=false:=by simpa using hx
   rw [eY hx];exact es.trans (dY (by rw [hx'];rfl))
theorem fiHasLink {k N:Nat} (p:TProgram) (i a b:Int) (hr:rowsLe N sProgram p) (hN:N<=549755813888) (hk:N+8<=k):FiHasLink k p i a b=some (hasL p i a b):=by
 obtain ⟨k,rfl⟩:=pred (d:=0) (show 1<=k by omega)
 obtain ⟨h1,h2⟩:=rowsLe_row hr.2.2.2;have h1:p.2.2.2.length<=N:=h1;have es:=(eiHasLink k p i a b).trans (bs (fiisIndex _ _ (by omega)))
 unfold hasL;by_cases hx:isIdx i (p.2.2.2.length:Int)=true
 · obtain ⟨x0,x1⟩:=isIdx_pos hx;have hg:p.2.2.2[i.toNat]? =some p.2.2.2[i.toNat]:=dZ x1
   have hl:(p.2.2.2[i.toNat]).2.1.length<=N:=(rowsLe_row ((h2 _ (tZ x1)).2.1)).1;rw [dY hx,hg];refine es.trans ((dY (by rw [hx];rfl)).trans ((dY x0).trans ((ix_some hg _).trans ?_)))
   dsimp only;generalize (p.2.2.2[i.toNat]).2.1=l at hl;have hc:FgContainsFunc_Linkv_iHasLink_1 k l a b=some (l.any (lnk a b)):=by
    obtain ⟨k,rfl⟩:=pred (d:=0) (show 1<=k by omega)
    refine (egContainsFunc_Linkv_iHasLink_1 k l a b).trans ((bs (v:=findFrom (lnk a b) 0 l) ?_).trans (by rw [findFrom_any]))
    obtain ⟨k,rfl⟩:=pred (d:=0) (show 1<=k by omega)
    refine (egIndexFunc_Linkv_iHasLink_1 k l a b).trans (row_i (L:=LgIndexFunc_Linkv_iHasLink_1_0 k _ _ _) (a:=l) (fun i l=>some (findFrom (lnk a b) i l)) (fun _ _=>rfl) (by omega) rfl (fun n i x r h0 ht hw hi hx ih=> ?_) (by omega))
    obtain ⟨k,rfl⟩:=pred (d:=0) (show 1<=k by omega)
    have hv:FiHasLink_1v (k+1) x a b=some (lnk a b x):=by
     rw [eiHasLink_1v];unfold lnk;cases h1:(x.1==a)<;>cases h2:(x.2==b)<;>cases h3:(x.1==b)<;>cases h4:(x.2==a)<;>rfl
    refine (bs hv).trans ?_
    rw [hw,ih];show _=some (if lnk a b x=true then (i:Int) else findFrom (lnk a b) (i+1) r)
    by_cases h:lnk a b x=true
    · rw [dY h,dY h]
    · rw [eY h,eY h]
   exact (bs hc).trans rfl
 · have hx':isIdx i (p.2.2.2.length:Int)=false:=by simpa using hx
   rw [eY hx];exact es.trans (eY (by rw [hx'];decide))
def linkd (p:TProgram) (a b t:Int):Bool:=hasL p (pieceAt p t) a b
theorem fsIsLinked {k N:Nat} (p:TProgram) (a b t:Int) (hr:rowsLe N sProgram p) (hN:N<=549755813888) (hk:N+12<=k):FsIsLinked k p a b t=some (linkd p a b t):=by
 obtain ⟨k,rfl⟩:=pred (d:=0) (show 1<=k by omega)
 have h1:p.2.2.2.length<=N:=(rowsLe_row hr.2.2.2).1;exact (esIsLinked k p a b t).trans ((bs (fsPieceAt p t (by omega) (by omega))).trans (bs (fsHasLink p _ a b hr hN (by omega))))
theorem fiIsLinked {k N:Nat} (p:TProgram) (a b t:Int) (hr:rowsLe N sProgram p) (hN:N<=549755813888) (hk:N+12<=k):FiIsLinked k p a b t=some (linkd p a b t):=by
 obtain ⟨k,rfl⟩:=pred (d:=0) (show 1<=k by omega)
 have h1:p.2.2.2.length<=N:=(rowsLe_row hr.2.2.2).1;exact (eiIsLinked k p a b t).trans ((bs (fiPieceAt p t (by omega) (by omega))).trans (bs (fiHasLink p _ a b hr hN (by omega))))
def cnt (a:Int):List Int->Nat
 | []=>0
 | x::r=>if x<a then cnt a r+1 else 0
theorem cnt_le (a:Int):∀(l:List Int),cnt a l<=l.length
  | []=>cY 0
  | x::r=>by
    have:=cnt_le a r
    unfold cnt;split
    · simpa using this
    · omega
def insU (x:Int) (l:List Int):List Int:=if l[cnt x l]? =some x then l else l.take (cnt x l)++[x]++l.drop (cnt x l)
def insR (x:Int):List Int->List Int
 | []=>[x]
 | y::r=>if y<x then y::insR x r else if y=x then y::r else x::y::r
theorem insU_eq (x:Int):∀(l:List Int),insU x l=insR x l
  | []=>rfl
  | y::r=>by
    have ih:=insU_eq x r;unfold insU at ih ⊢;unfold insR;by_cases h:y<x
    · have hc:cnt x (y::r)=cnt x r+1:=by rw [cnt,dY h]
      rw [hc,dY h,<-ih,List.getElem?_cons_succ]
      by_cases h2:r[cnt x r]? =some x
      · rw [dY h2,dY h2]
      · rw [eY h2,eY h2];simp
    · have hc:cnt x (y::r)=0:=by rw [cnt,eY h]
      rw [hc,eY h];by_cases h2:y=x
      · rw [dY (by simp [h2]),dY h2]
      · rw [eY (by simp [h2]),eY h2];simp
theorem insR_mem (x z:Int):∀(l:List Int),z ∈ insR x l↔z=x\/z ∈ l
  | []=>by simp [insR]
  | y::r=>by
    have ih:=insR_mem x z r;unfold insR;by_cases h:y<x
    · rw [dY h,zZ,ih,zZ];constructor
      · rintro (h | h | h)<;>simp [h]
      · rintro (h | h | h)<;>simp [h]
    · rw [eY h];by_cases h2:y=x
      · rw [dY h2,h2];simp
      · rw [eY h2];simp
theorem insR_sorted (x:Int):∀(l:List Int),l.Pairwise (· < ·)->(insR x l).Pairwise (· < ·)
  | [],_=>List.pairwise_singleton _ _
  | y::r,h=>by
    obtain ⟨h1,h2⟩:=List.pairwise_cons.1 h;unfold insR;by_cases hy:y<x
    · rw [dY hy];refine List.pairwise_cons.2 ⟨fun z hz=> ?_,insR_sorted x r h2⟩
      rcases (insR_mem x z r).1 hz with rfl | hz
      · exact hy
      · exact h1 z hz
    · rw [eY hy];by_cases hx:y=x
      · rw [dY hx];exact h
      · rw [eY hx];refine List.pairwise_cons.2 ⟨fun z hz=> ?_,h⟩
        rcases zZ.1 hz with rfl | hz
        · omega
        · have:=h1 z hz;omega
theorem insR_len (x:Int):∀(l:List Int),(insR x l).length<=l.length+1
  | []=>by simp [insR]
  | y::r=>by
    have:=insR_len x r
    unfold insR;split
    · simpa using this
    · split<;>simp
theorem inc_ext {l r:List Int} (hl:l.Pairwise (· < ·)) (hr:r.Pairwise (· < ·)) (h:∀x,x ∈ l↔x ∈ r):l=r:=by
 have nl:l.Nodup:=hl.imp fun h=>by omega
 have nr:r.Nodup:=hr.imp fun h=>by omega
 exact List.Perm.eq_of_pairwise (le:=(· < ·)) (fun a b _ _ h1 h2=>by omega) hl hr ((List.perm_ext_iff_of_nodup nl nr).2 h)
theorem compact_inc (zs:List Int) (hs:zs.Pairwise (· <= ·)):(compactB zs).Pairwise (· < ·)/\∀x,x ∈ compactB zs↔x ∈ zs:=by
  have hget:∀j (h:j<zs.length),zs.toArray[j]! =zs[j]:=fun j h=>by simp [h]
  have mono:∀i j,i<=j->j<zs.length->zs.toArray[i]! <=zs.toArray[j]! :=fun i j hij hj=>by
    rw [hget i (by omega),hget j hj]
    rcases Nat.lt_or_eq_of_le hij with h | h
    · exact List.pairwise_iff_getElem.1 hs i j (by omega) hj h
    · subst h;exact Int.le_refl _
  have key:∀m,m<=zs.length->(Lib.compactUpTo zs.toArray m).Pairwise (· < ·)/\∀x,x ∈ Lib.compactUpTo zs.toArray m↔∃j,j<m/\zs.toArray[j]! =x:=by
    intro m;induction m with
    | zero=>intro _;exact ⟨List.Pairwise.nil,fun x=>by simp [Lib.compactUpTo]⟩
    | succ m ih=>
      intro hm;obtain ⟨h1,h2⟩:=ih (by omega)
      rw [Lib.compactUpTo_succ];by_cases hk:Lib.keeps zs.toArray m=true
      · rw [dY hk];refine ⟨List.pairwise_append.2 ⟨h1,List.pairwise_singleton _ _,fun x hx y hy=> ?_⟩,fun x=> ?_⟩
        · obtain ⟨j,hj,rfl⟩:=(h2 x).1 hx;rw [kZ.1 hy];have hne:zs.toArray[m]! ≠zs.toArray[m-1]! :=by
            have hk':=hk;unfold Lib.keeps at hk';rcases of_decide_eq_true hk' with h | h
            · omega
            · exact h
          have a1:=mono j (m-1) (by omega) (by omega)
          have a2:=mono (m-1) m (by omega) (by omega)
          omega
        · rw [wZ,h2,kZ];constructor
          · rintro (⟨j,hj,h⟩ | h)
            · exact ⟨j,by omega,h⟩
            · exact ⟨m,by omega,h.symm⟩
          · rintro ⟨j,hj,h⟩
            by_cases e:j=m
            · subst e;exact .inr h.symm
            · exact .inl ⟨j,by omega,h⟩
      · rw [eY hk,List.append_nil];refine ⟨h1,fun x=> ?_⟩
        have hk':¬(m=0\/zs.toArray[m]! ≠zs.toArray[m-1]!):=fun h=>hk (by unfold Lib.keeps;exact yZ h)
        rw [h2];constructor
        · rintro ⟨j,hj,h⟩
          exact ⟨j,by omega,h⟩
        · rintro ⟨j,hj,h⟩
          by_cases e:j=m
          · subst e;refine ⟨j-1,by omega,?_⟩
            have:zs.toArray[j]! =zs.toArray[j-1]! :=Classical.byContradiction fun hn=>hk' (.inr hn)
            rw [<-this];exact h
          · exact ⟨j,by omega,h⟩
  obtain ⟨h1,h2⟩:=key zs.length (cY _);refine ⟨h1,fun x=>(h2 x).trans ?_⟩
  constructor
  · rintro ⟨j,hj,rfl⟩
    rw [hget j hj];exact tZ hj
  · intro hx;obtain ⟨j,hj,rfl⟩:=List.getElem_of_mem hx;exact ⟨j,hj,hget j hj⟩
theorem sorted_compact (zs:List Int):(compactB (sortB zs)).Pairwise (· < ·)/\∀x,x ∈ compactB (sortB zs)↔x ∈ zs:=by
 have hs:(sortB zs).Pairwise (· <= ·):=by
  have:=List.pairwise_mergeSort (le:=fun x y:Int=>decide (x<=y)) (fun a b c h1 h2=>by simp at*;omega) (fun a b=>by simp;omega) zs
  exact this.imp fun h=>by simpa using h
 obtain ⟨h1,h2⟩:=compact_inc (sortB zs) hs;exact ⟨h1,fun x=>(h2 x).trans (List.mergeSort_perm zs _).mem_iff⟩
def nbStep (a:Int) (out:List Int) (x:Int×Int):List Int:=if (x.1==a)=true then insR x.2 out else if (x.2==a)=true then insR x.1 out else out
def nb (g:List (Int×Int)) (a:Int):List Int:=g.foldl (nbStep a) []
def nbApp (a:Int) (out:List Int) (x:Int×Int):List Int:=if (x.1==a)=true then (if (x.2==a)=true then (out++[x.2])++[x.1] else out++[x.2]) else if (x.2==a)=true then out++[x.1] else out
def nbr (a:Int) (x:Int×Int) (y:Int):Prop:=(x.1=a/\y=x.2)\/(x.2=a/\y=x.1)
theorem nbStep_mem (a:Int) (x:Int×Int) (out:List Int) (y:Int):y ∈ nbStep a out x↔nbr a x y\/y ∈ out:=by
 unfold nbStep nbr;by_cases h1:x.1=a
 · rw [dY (by simp [h1]),insR_mem]
   constructor
   · rintro (h | h)
     · exact .inl (.inl ⟨h1,h⟩)
     · exact .inr h
   · rintro ((⟨_,h⟩ | ⟨h2,h⟩) | h)
     · exact .inl h
     · exact .inl (by omega)
     · exact .inr h
 · rw [eY (by simp [h1])]
   by_cases h2:x.2=a
   · rw [dY (by simp [h2]),insR_mem]
     constructor
     · rintro (h | h)
       · exact .inl (.inr ⟨h2,h⟩)
       · exact .inr h
     · rintro ((⟨h3,_⟩ | ⟨_,h⟩) | h)
       · exact absurd h3 h1
       · exact .inl h
       · exact .inr h
   · rw [eY (by simp [h2])]
     constructor
     · exact .inr
     · rintro ((⟨h3,_⟩ | ⟨h3,_⟩) | h)
       · exact absurd h3 h1
       · exact absurd h3 h2
       · exact h
theorem nbApp_mem (a:Int) (x:Int×Int) (out:List Int) (y:Int):y ∈ nbApp a out x↔nbr a x y\/y ∈ out:=by
 unfold nbApp nbr;by_cases h1:x.1=a
 · rw [dY (by simp [h1])]
   by_cases h2:x.2=a
   · rw [dY (by simp [h2])]
     simp only [wZ,kZ];constructor
     · rintro ((h | h) | h)
       · exact .inr h
       · exact .inl (.inl ⟨h1,h⟩)
       · exact .inl (.inr ⟨h2,h⟩)
     · rintro ((⟨_,h⟩ | ⟨_,h⟩) | h)
       · exact .inl (.inr h)
       · exact .inr h
       · exact .inl (.inl h)
   · rw [eY (by simp [h2])]
     simp only [wZ,kZ];constructor
     · rintro (h | h)
       · exact .inr h
       · exact .inl (.inl ⟨h1,h⟩)
     · rintro ((⟨_,h⟩ | ⟨h3,_⟩) | h)
       · exact .inr h
       · exact absurd h3 h2
       · exact .inl h
 · rw [eY (by simp [h1])]
   by_cases h2:x.2=a
   · rw [dY (by simp [h2])]
     simp only [wZ,kZ];constructor
     · rintro (h | h)
       · exact .inr h
       · exact .inl (.inr ⟨h2,h⟩)
     · rintro ((⟨h3,_⟩ | ⟨_,h⟩) | h)
       · exact absurd h3 h1
       · exact .inr h
       · exact .inl h
   · rw [eY (by simp [h2])]
     constructor
     · exact .inr
     · rintro ((⟨h3,_⟩ | ⟨h3,_⟩) | h)
       · exact absurd h3 h1
       · exact absurd h3 h2
       · exact h
theorem fold_mem {f:List Int->(Int×Int)->List Int} {a:Int} (hf:∀out x y,y ∈ f out x↔nbr a x y\/y ∈ out) (y:Int):∀(g:List (Int×Int)) (out:List Int),y ∈ g.foldl f out↔(∃x ∈ g,nbr a x y)\/y ∈ out
  | [],out=>by simp
  | x::g,out=>by
    rw [List.foldl_cons,fold_mem hf y g,hf];constructor
    · rintro (⟨z,hz,h⟩ | h | h)
      · exact .inl ⟨z,fZ _ hz,h⟩
      · exact .inl ⟨x,by simp,h⟩
      · exact .inr h
    · rintro (⟨z,hz,h⟩ | h)
      · rcases zZ.1 hz with rfl | hz
        · exact .inr (.inl h)
        · exact .inl ⟨z,hz,h⟩
      · exact .inr (.inr h)
theorem nbStep_inc (a:Int) (x:Int×Int) {out:List Int} (h:out.Pairwise (· < ·)):(nbStep a out x).Pairwise (· < ·):=by
 unfold nbStep;split
 · exact insR_sorted _ _ h
 · split
   · exact insR_sorted _ _ h
   · exact h
theorem nbStep_len (a:Int) (x:Int×Int) (out:List Int):(nbStep a out x).length<=out.length+1:=by
 unfold nbStep;split
 · exact insR_len _ _
 · split
   · exact insR_len _ _
   · omega
theorem fold_inc (a:Int):∀(g:List (Int×Int)) (out:List Int),out.Pairwise (· < ·)->(g.foldl (nbStep a) out).Pairwise (· < ·)/\(g.foldl (nbStep a) out).length<=out.length+g.length
  | [],out,h=>⟨h,by simp⟩
  | x::g,out,h=>by
    obtain ⟨h1,h2⟩:=fold_inc a g _ (nbStep_inc a x h)
    have:=nbStep_len a x out
    exact ⟨h1,by simp at h2 ⊢;omega⟩
theorem nb_inc (g:List (Int×Int)) (a:Int):(nb g a).Pairwise (· < ·):=(fold_inc a g [] List.Pairwise.nil).1
theorem nb_len (g:List (Int×Int)) (a:Int):(nb g a).length<=g.length:=by unfold nb;simpa using (fold_inc a g [] List.Pairwise.nil).2
theorem nb_eq (g:List (Int×Int)) (a:Int):compactB (sortB (g.foldl (nbApp a) []))=nb g a:=by
 obtain ⟨h1,h2⟩:=sorted_compact (g.foldl (nbApp a) []);refine inc_ext h1 (nb_inc g a) fun x=> ?_
 unfold nb;rw [h2,fold_mem (fun out x y=>nbApp_mem a x out y) x g [],fold_mem (fun out x y=>nbStep_mem a x out y) x g []]
theorem fiNeighborsIn {k:Nat} (g:List (Int×Int)) (a:Int) (hl:g.length<=549755813888) (hk:g.length+5<=k):FiNeighborsIn k g a=some (nb g a):=by
  obtain ⟨k,rfl⟩:=pred (d:=0) (show 1<=k by omega)
  have hout:∀(l:List (Int×Int)) (o:List Int),(l.foldl (nbApp a) o).length<=o.length+2*l.length:=by
    intro l;induction l with
    | nil=>intro o;simp
    | cons x l ih=>
      intro o;have h1:=ih (nbApp a o x);have h2:(nbApp a o x).length<=o.length+2:=by
        unfold nbApp;split
        · split<;>simp
        · split<;>simp
      simp only [List.foldl_cons,List.length_cons];omega
  have hfin:((FgSort_int k (g.foldl (nbApp a) [])).bind fun p1=>(FgCompact_int k p1).bind fun p2=>some p2)=some (nb g a):=by
    have:=hout g []
    obtain ⟨k,rfl⟩:=pred (d:=0) (show 1<=k by omega)
    rw [egSort_int,dY (by simp at this;omega),rZ,egCompact_int,rZ,nb_eq]
  refine (eiNeighborsIn k g a).trans ((row_inv0 (L:=LiNeighborsIn_0 k _ _) (a:=g) (fun (s:List Int) i=>(i,s)) (fun s i r=>(FgSort_int k (r.foldl (nbApp a) s)).bind fun p1=>(FgCompact_int k p1).bind fun p2=>some p2) (X:=fun s _=>(FgSort_int k s).bind fun p1=>(FgCompact_int k p1).bind fun p2=>some p2) (fun s i=>s.length<=2*i) (fun _ _ _=>rfl) (by omega) (fun s _=>rfl) (fun n i s x r hI h0 ht hw hi hx ih=> ?_) (by omega) [] (by simp)).trans hfin)
  dsimp only;rw [hw,List.foldl_cons];unfold nbApp;by_cases h1:(x.1==a)=true
  · rw [dY h1,dY (by simp;omega),dY h1]
    by_cases h2:(x.2==a)=true
    · rw [dY h2,dY (by simp;omega),dY h2]
      exact ih _ (by simp;omega)
    · rw [eY h2,eY h2];exact ih _ (by simp;omega)
  · rw [eY h1,eY h1];by_cases h2:(x.2==a)=true
    · rw [dY h2,dY (by simp;omega),dY h2]
      exact ih _ (by simp;omega)
    · rw [eY h2,eY h2];exact ih _ (by omega)
def insT {R:Type} (K:List Int->Option R) (out:List Int) (c x:Int):Option R:=if 0<=c then if c<=(out.length:Int) then if (0+((out.take c.toNat).drop ((0:Int).toNat)).length)*8<=140737488355328 then if (((out.take c.toNat).drop ((0:Int).toNat)).length+([x]).length)*8<=140737488355328 then if 0<=c then if c<=(out.length:Int) then if (out.length:Int)<=(out.length:Int) then if ((((out.take c.toNat).drop ((0:Int).toNat))++[x]).length+((out.take ((out.length:Int).toNat)).drop c.toNat).length)*8<=140737488355328 then K ((((out.take c.toNat).drop ((0:Int).toNat))++[x])++((out.take ((out.length:Int).toNat)).drop c.toNat)) else none else none else none else none else none else none else none else none
theorem insT_eq {R:Type} (K:List Int->Option R) (out:List Int) (c:Nat) (x:Int) (hc:c<=out.length) (hl:out.length<=1099511627776):insT K out (c:Int) x=K (out.take c++[x]++out.drop c):=by
 have e1:((out.take (c:Int).toNat).drop ((0:Int).toNat))=out.take c:=by simp
 have e2:((out.take ((out.length:Int).toNat)).drop (c:Int).toNat)=out.drop c:=by simp
 have t1:(out.take c).length<=out.length:=by simp;omega
 have t2:(out.drop c).length<=out.length:=by simp
 have t3:([x]:List Int).length=1:=rfl;have t4:(out.take c++[x]).length<=out.length+1:=by simp;omega
 unfold insT;rw [e1,e2,dY (by omega),dY (by omega),dY (by omega),dY (by omega),dY (by omega),dY (by omega),dY (Int.le_refl _),dY (by omega)]
def chkT {R:Type} (K:List Int->Option R) (out:List Int) (c x:Int):Option R:=if ((c==(out.length:Int))==false)=true then if 0<=c then if c<(out.length:Int) then ix out c.toNat fun x4=>if (x4 !=x)=true then insT K out c x else K out else none else none else insT K out c x
theorem chkT_eq {R:Type} (K:List Int->Option R) (out:List Int) (x:Int) (hl:out.length<=1099511627776):chkT K out ((cnt x out:Nat):Int) x=K (insR x out):=by
 have hc:=cnt_le x out;rw [<-insU_eq];unfold chkT insU;by_cases h:cnt x out=out.length
 · have c1:¬(((((cnt x out:Nat):Int))==(out.length:Int))==false)=true:=by rw [h];simp
   rw [eY c1,insT_eq K out _ x hc hl,eY (by rw [h];simp)]
 · have c1:(((((cnt x out:Nat):Int))==(out.length:Int))==false)=true:=by
    have:(((cnt x out:Nat):Int)==(out.length:Int))=false:=by simp;omega
    rw [this];rfl
   have hlt:cnt x out<out.length:=by omega
   have hg:out[cnt x out]? =some out[cnt x out]:=dZ hlt
   rw [dY c1,dY (by omega),dY (by omega),ix_some (n:=(((cnt x out:Nat):Int)).toNat) (x:=out[cnt x out]) (by simp [hg]),hg]
   by_cases he:out[cnt x out]=x
   · rw [eY (by simp [he]),dY (by rw [he])]
   · rw [dY (by simp [he]),insT_eq K out _ x hc hl,eY (by simp [he])]
theorem nbLoop {R:Type} {k:Nat} (X0:VsNeighborsIn_1->Int->Option R) (X1:VsNeighborsIn_1->Option R) (c:CsNeighborsIn_1) (hX:∀v x,X0 v x=X1 v) (hl:c.2.2.2.2.length<=549755813888) (hk:c.2.2.2.2.length<k):LsNeighborsIn_1 k X0 X1 c k 0=X1 ((cnt c.2.2.2.1 c.2.2.2.2:Nat):Int):=by
 refine (row_i (L:=LsNeighborsIn_1 k X0 X1 c) (X:=X1) (a:=c.2.2.2.2) (body:=fun n i x=>if (decide (x<c.2.2.2.1))=true then LsNeighborsIn_1 k X0 X1 c n (IntKind.i64.wrap (i+1)) else X0 i x) (fun i l=>X1 ((i+cnt c.2.2.2.1 l:Nat):Int)) (fun n i=> ?_) (by omega) rfl (fun n i x r h0 ht hw hi hx ih=> ?_) hk).trans (by simp)
 · show (if ((decide (i<(c.2.2.2.2.length:Int)))==true)=true then _ else _)=_
   rw [beq_true];exact own_if _ _ _ _
 · show (if (decide (x<c.2.2.2.1))=true then _ else _)=_
   unfold cnt;by_cases h:x<c.2.2.2.1
   · rw [dY (yZ h),dY h,hw,ih]
     congr 2;omega
   · rw [eY (by rw [vZ h];decide),eY h]
     exact hX _ _
theorem fsNeighborsIn {k:Nat} (g:List (Int×Int)) (a:Int) (hl:g.length<=549755813888) (hk:g.length+5<=k):FsNeighborsIn k g a=some (nb g a):=by
 obtain ⟨k,rfl⟩:=pred (d:=0) (show 1<=k by omega)
 refine (esNeighborsIn k g a).trans ((row_inv0 (L:=LsNeighborsIn_0 k _ _) (a:=g) (fun (s:List Int) i=>(i,s)) (fun s i r=>some (r.foldl (nbStep a) s)) (X:=fun s _=>some s) (fun s i=>s.length<=i) (fun _ _ _=>rfl) (by omega) (fun s _=>rfl) (fun n i s x r hI h0 ht hw hi hx ih=> ?_) (by omega) [] (by simp)).trans rfl)
 have hx':g[(i:Int).toNat]? =some x:=by rw [ht];exact hx
 dsimp only;rw [List.foldl_cons];by_cases h1:(x.1==a)=true
 · have hst:nbStep a s x=insR x.2 s:=by unfold nbStep;rw [dY h1]
   have hlen:=nbStep_len a x s;rw [dY h1,dY h0,ix_some hx'];refine (nbLoop _ _ _ (by intros;rfl) (by show s.length<=_;omega) (by show s.length<_;omega)).trans ?_
   refine (chkT_eq (fun o=>LsNeighborsIn_0 k (fun v0=>some v0.2) (g,a) n (IntKind.i64.wrap ((i:Int)+1),o)) s x.2 (by omega)).trans ?_
   rw [hw,<-hst];exact ih _ (by omega)
 · rw [eY h1,dY h0,ix_some hx'];by_cases h2:(x.2==a)=true
   · have hst:nbStep a s x=insR x.1 s:=by unfold nbStep;rw [eY h1,dY h2]
     have hlen:=nbStep_len a x s;rw [dY h2,dY h0,ix_some hx'];refine (nbLoop _ _ _ (by intros;rfl) (by show s.length<=_;omega) (by show s.length<_;omega)).trans ?_
     refine (chkT_eq (fun o=>LsNeighborsIn_0 k (fun v0=>some v0.2) (g,a) n (IntKind.i64.wrap ((i:Int)+1),o)) s x.1 (by omega)).trans ?_
     rw [hw,<-hst];exact ih _ (by omega)
   · have hst:nbStep a s x=s:=by unfold nbStep;rw [eY h1,eY h2]
     rw [eY h2,hw,hst];exact ih _ (by omega)
theorem fgContains_int {k:Nat} (l:List Int) (x:Int) (hl:l.length<=549755813888) (hk:l.length+3<=k):FgContains_int k l x=some (l.any fun y=>y==x):=by
 obtain ⟨k,rfl⟩:=pred (d:=1) (show 2<=k by omega)
 refine (egContains_int k l x).trans ((bs (v:=findFrom (fun y=>y==x) 0 l) ?_).trans (by rw [findFrom_any]))
 obtain ⟨k,rfl⟩:=pred (d:=0) (show 1<=k by omega)
 refine (egIndex_int k l x).trans (row_i (L:=LgIndex_int_0 k _ _ _) (a:=l) (fun i l=>some (findFrom (fun y=>y==x) i l)) (fun _ _=>rfl) (by omega) rfl (fun n i y r h0 ht hw hi hx ih=> ?_) (by omega))
 show (if (x==y)=true then some (i:Int) else _)=some (if (y==x)=true then (i:Int) else findFrom (fun y=>y==x) (i+1) r)
 rw [hw,ih,show (x==y)=(y==x) by rw [Bool.eq_iff_iff,beq_iff_eq,beq_iff_eq];exact eq_comm]
 by_cases h:(y==x)=true
 · rw [dY h,dY h]
 · rw [eY h,eY h]
def nodes (s:TSky):Int:=IntKind.i64.wrap ((s.2.1.length:Int)+(s.2.2.1.length:Int))
def site (s:TSky) (n:Int):Bool:=inR n (s.2.1.length:Int) (IntKind.i64.wrap (nodes s-1))
theorem fiNodesOf {k:Nat} (s:TSky) (hk:1<=k):FiNodesOf k s=some (nodes s):=by
 obtain ⟨k,rfl⟩:=pred (d:=0) hk;exact eiNodesOf k s
theorem fsNodesOf {k:Nat} (s:TSky) (hk:1<=k):FsNodesOf k s=some (nodes s):=by
 obtain ⟨k,rfl⟩:=pred (d:=0) hk;exact esNodesOf k s
theorem fiIsSite {k:Nat} (s:TSky) (n:Int) (hk:2<=k):FiIsSite k s n=some (site s n):=by
 obtain ⟨k,rfl⟩:=pred (d:=1) hk;rw [eiIsSite,fiNodesOf s (by omega),rZ,fiInRange _ _ _ (by omega)]
 rfl
theorem fsIsSite {k:Nat} (s:TSky) (n:Int) (hk:2<=k):FsIsSite k s n=some (site s n):=by
 obtain ⟨k,rfl⟩:=pred (d:=1) hk;rw [esIsSite,fsNodesOf s (by omega),rZ,fsl1In _ _ _ (by omega)]
 rfl
abbrev qDone (w:TW):=w.2.2.2.2.2.2.2.2.2.2.2.2.1
abbrev qLog (w:TW):=w.2.2.2.2.2.2.2.2.2.2.2.2.2
abbrev qQueues (w:TW):=w.2.2.2.2.2.1
theorem tmod_neg' (a:Int) (h:a<0):a.tmod 360= -((-a)%360):=by
 have:a= -(-a):=by omega
 rw [this,Int.neg_tmod,Int.tmod_eq_emod_of_nonneg (by omega)]
 simp
def angle (n:Int):Int:=n%360
theorem angle_range (n:Int):0<=angle n/\angle n<360:=by unfold angle;omega
theorem fsMod {k:Nat} (n:Int) (hk:2<=k):FsMod k n 360=some (angle n):=by
 obtain ⟨k,rfl⟩:=pred (d:=1) hk;rw [esMod,fsl1In _ _ _ (by omega)]
 have e:inR 360 1 1000000000000=true:=by decide
 rw [e,rZ,eY (by decide),eY (by decide),eY (by decide)]
 congr 1
 unfold angle;by_cases h:0<=n
 · rw [Int.tmod_eq_emod_of_nonneg h,wrap_id (by omega) (by omega),Int.tmod_eq_emod_of_nonneg (by omega)]
   omega
 · rw [tmod_neg' n (by omega),wrap_id (by omega) (by omega),Int.tmod_eq_emod_of_nonneg (by omega)]
   omega
theorem fiMod {k:Nat} (n:Int) (hk:2<=k):FiMod k n 360=some (angle n):=by
 obtain ⟨k,rfl⟩:=pred (d:=1) hk;rw [eiMod,fiInRange _ _ _ (by omega)]
 have e:inR 360 1 1000000000000=true:=by decide
 rw [e,rZ,eY (by decide),eY (by decide)]
 unfold angle;by_cases h:0<=n
 · rw [Int.tmod_eq_emod_of_nonneg h,eY (by simp;omega)]
 · rw [tmod_neg' n (by omega)]
   split
   · rename_i h2;simp only [pZ] at h2;rw [wrap_id (by omega) (by omega)]
     congr 1
     omega
   · rename_i h2;simp only [pZ] at h2
     congr 1
     omega
theorem fsAngleOf {k:Nat} (n:Int) (hk:3<=k):FsAngleOf k n=some (angle n):=by
 obtain ⟨k,rfl⟩:=pred (d:=2) hk;rw [esAngleOf,fsMod _ (by omega)]
 rfl
theorem fiAngleOf {k:Nat} (n:Int) (hk:3<=k):FiAngleOf k n=some (angle n):=by
 obtain ⟨k,rfl⟩:=pred (d:=2) hk;rw [eiAngleOf,fiMod _ (by omega)]
 rfl
def inArc (x:Int×Int) (a:Int):Bool:=decide (angle (angle a-angle x.1)<=x.2)
theorem angle_sub (a b:Int):IntKind.i64.wrap (angle a-angle b)=angle a-angle b:=by
 have:=angle_range a
 have:=angle_range b
 exact wrap_id (by omega) (by omega)
def speed (v:Int):Int:=if inR v (-60) 60 then v else 0
theorem fsl6Speed {k:Nat} (v:Int) (hk:2<=k):Fsl6Speed k v=some (speed v):=by
 obtain ⟨k,rfl⟩:=pred (d:=1) hk;rw [esl6Speed,fsl1In _ _ _ (by omega),rZ]
 unfold speed;cases inR v (-60) 60<;>rfl
theorem fispeedOf {k:Nat} (s:Int×Int×Int×Int) (hk:2<=k):FispeedOf k s=some (speed s.2.2.1):=by
 obtain ⟨k,rfl⟩:=pred (d:=1) hk;rw [eispeedOf,fiInRange _ _ _ (by omega),rZ]
 unfold speed;cases inR s.2.2.1 (-60) 60<;>rfl
def placeAt (s:Int×Int×Int×Int) (t:Int):Int:=angle (IntKind.i64.wrap (angle s.2.1+IntKind.i64.wrap (speed s.2.2.1*(if inR t 0 1000 then t else 0))))
theorem fsPlaceAt {k:Nat} (s:Int×Int×Int×Int) (t:Int) (hk:4<=k):FsPlaceAt k s t=some (placeAt s t):=by
 obtain ⟨k,rfl⟩:=pred (d:=3) hk;simp only [esPlaceAt,fsl1In t 0 1000 (show 1<=k by omega),rZ,fsAngleOf s.2.1 (show 3<=k by omega),fsl6Speed s.2.2.1 (show 2<=k by omega)]
 unfold placeAt;cases inR t 0 1000
 · simp only [Bool.not_false,if_true,Bool.false_eq_true,if_false];rw [fsAngleOf _ (by omega)]
   rfl
 · simp only [Bool.not_true,if_true,Bool.false_eq_true,if_false];rw [fsAngleOf _ (by omega)]
   rfl
theorem fiPlaceAt {k:Nat} (s:Int×Int×Int×Int) (t:Int) (hk:4<=k):FiPlaceAt k s t=some (placeAt s t):=by
 obtain ⟨k,rfl⟩:=pred (d:=3) hk;simp only [eiPlaceAt,fiInRange t 0 1000 (show 1<=k by omega),rZ,fiAngleOf s.2.1 (show 3<=k by omega),fispeedOf s (show 2<=k by omega)]
 unfold placeAt;cases inR t 0 1000
 · simp only [Bool.not_false,if_true,Bool.false_eq_true,if_false];rw [fiAngleOf _ (by omega)]
   rfl
 · simp only [Bool.not_true,if_true,Bool.false_eq_true,if_false];rw [fiAngleOf _ (by omega)]
   rfl
def widen (x:Int×Int) (by_:Int):Int×Int:=if inR by_ 0 360&&inR x.2 0 359 then (angle (IntKind.i64.wrap (angle x.1-by_)),mn (IntKind.i64.wrap (x.2+IntKind.i64.wrap (2*by_))) 359) else (angle x.1,x.2)
theorem fsWidenArc {k:Nat} (x:Int×Int) (n:Int) (hk:4<=k):FsWidenArc k x n=some (widen x n):=by
 obtain ⟨k,rfl⟩:=pred (d:=3) hk;simp only [esWidenArc,fsl1In n 0 360 (show 1<=k by omega),fsl1In x.2 0 359 (show 1<=k by omega),rZ,fsAngleOf x.1 (show 3<=k by omega),fsAngleOf (IntKind.i64.wrap (angle x.1-n)) (show 3<=k by omega)]
 obtain ⟨k,rfl⟩:=pred (d:=2) (show 3<=k by omega)
 rw [esMin];unfold widen mn;cases inR n 0 360
 · rfl
 · cases inR x.2 0 359
   · rfl
   · simp only [Bool.not_true,beq_self_eq_true,if_true,Bool.false_eq_true,if_false,Bool.and_self];generalize IntKind.i64.wrap (x.2+IntKind.i64.wrap (2*n))=z;by_cases h1:z<359
     · rw [dY (by simpa using h1),rZ,eY (by omega)]
     · rw [eY (by simpa using h1),rZ]
       by_cases h2:359<z
       · rw [dY h2]
       · rw [eY h2]
         have:z=359:=by omega
         rw [this]
theorem fiisWidth {k:Nat} (n:Int) (hk:2<=k):FiisWidth k n=some (inR n 0 359):=by
 obtain ⟨k,rfl⟩:=pred (d:=1) hk;rw [eiisWidth,fiInRange _ _ _ (by omega)]
 rfl
theorem fiWidenArc {k:Nat} (x:Int×Int) (n:Int) (hk:4<=k):FiWidenArc k x n=some (widen x n):=by
 obtain ⟨k,rfl⟩:=pred (d:=3) hk;simp only [eiWidenArc,fiInRange n 0 360 (show 1<=k by omega),fiisWidth x.2 (show 2<=k by omega),rZ,fiAngleOf x.1 (show 3<=k by omega),fiAngleOf (IntKind.i64.wrap (angle x.1-n)) (show 3<=k by omega)]
 unfold widen;cases inR n 0 360
 · rfl
 · cases inR x.2 0 359<;>rfl
def placesAt (s:Int×Int×Int×Int) (t:Int):Int×Int:=widen (placeAt s t,0) s.2.2.2
theorem fsPlacesAt {k:Nat} (s:Int×Int×Int×Int) (t:Int) (hk:5<=k):FsPlacesAt k s t=some (placesAt s t):=by
 obtain ⟨k,rfl⟩:=pred (d:=4) hk;rw [esPlacesAt,fsPlaceAt _ _ (by omega),rZ,fsWidenArc _ _ (by omega)]
 rfl
theorem fiPlacesAt {k:Nat} (s:Int×Int×Int×Int) (t:Int) (hk:5<=k):FiPlacesAt k s t=some (placesAt s t):=by
 obtain ⟨k,rfl⟩:=pred (d:=4) hk;rw [eiPlacesAt,fiPlaceAt _ _ (by omega),rZ,fiWidenArc _ _ (by omega)]
 rfl
/-- Where a satellite may be. -/
def satAt (s:TSky) (n t:Int):Int×Int:=match s.2.1[n.toNat]? with
 | some x=>placesAt x t
 | none=>(0,0)
def isSat (s:TSky) (n:Int):Bool:=isIdx n (s.2.1.length:Int)
theorem fsNodeAt {k:Nat} (s:TSky) (n t:Int) (hl:s.2.1.length<=140737488351232) (h:isSat s n=true) (hk:6<=k):FsNodeAt k s n t=some (satAt s n t):=by
 obtain ⟨k,rfl⟩:=pred (d:=5) hk;have h':isIdx n (s.2.1.length:Int)=true:=h;obtain ⟨h0,h1⟩:=isIdx_pos h';rw [esNodeAt,fsl1In _ _ _ (by omega),inR_last _ hl,h',rZ,dY rfl,dY h0,ix_at h1,fsPlacesAt _ _ (by omega)]
 unfold satAt;rw [dZ h1]
 rfl
theorem fiisSatellite {k:Nat} (s:TSky) (n:Int) (hl:s.2.1.length<=140737488351232) (hk:2<=k):FiisSatellite k s n=some (isSat s n):=by
 obtain ⟨k,rfl⟩:=pred (d:=1) hk;rw [eiisSatellite,fiInRange _ _ _ (by omega),inR_last _ hl]
 rfl
theorem fiNodeAt {k:Nat} (s:TSky) (n t:Int) (hl:s.2.1.length<=140737488351232) (h:isSat s n=true) (hk:6<=k):FiNodeAt k s n t=some (satAt s n t):=by
 obtain ⟨k,rfl⟩:=pred (d:=5) hk;have h':isIdx n (s.2.1.length:Int)=true:=h;obtain ⟨h0,h1⟩:=isIdx_pos h';rw [eiNodeAt,fiisSatellite _ _ hl (by omega),h,rZ,dY rfl,dY h0,ix_at h1,fiPlacesAt _ _ (by omega)]
 unfold satAt;rw [dZ h1]
 rfl
theorem fsMin {k:Nat} (a b:Int) (hk:1<=k):FsMin k a b=some (mn a b):=by
 obtain ⟨k,rfl⟩:=pred (d:=0) hk;rw [esMin];unfold mn;by_cases h:b<a
 · rw [dY (by simpa using h),dY h]
 · rw [eY (by simpa using h),eY h]
def middle (x:Int×Int):Int:=if inR x.2 0 359 then angle (IntKind.i64.wrap (angle x.1+IntKind.i64.wrap (x.2.tdiv 2))) else angle x.1
theorem fsMiddleOf {k:Nat} (x:Int×Int) (hk:4<=k):FsMiddleOf k x=some (middle x):=by
 obtain ⟨k,rfl⟩:=pred (d:=3) hk;simp only [esMiddleOf,fsl1In x.2 0 359 (show 1<=k by omega),rZ,fsAngleOf x.1 (show 3<=k by omega)]
 unfold middle;cases inR x.2 0 359
 · rfl
 · simp only [Bool.not_true,Bool.false_eq_true,if_false,if_true];rw [fsAngleOf _ (by omega)]
   rfl
theorem fiMiddleOf {k:Nat} (x:Int×Int) (hk:4<=k):FiMiddleOf k x=some (middle x):=by
 obtain ⟨k,rfl⟩:=pred (d:=3) hk;simp only [eiMiddleOf,fiisWidth x.2 (show 2<=k by omega),rZ,fiAngleOf x.1 (show 3<=k by omega)]
 unfold middle;cases inR x.2 0 359
 · rfl
 · simp only [Bool.not_true,Bool.false_eq_true,if_false,if_true];rw [fiAngleOf _ (by omega)]
   rfl
def sunAt (s:TSky) (t:Int):Int:=placeAt (0,0,s.2.2.2.2.2.2.1,0) t
theorem fsSunAt {k:Nat} (s:TSky) (t:Int) (hk:5<=k):FsSunAt k s t=some (sunAt s t):=by
 obtain ⟨k,rfl⟩:=pred (d:=4) hk;rw [esSunAt,fsPlaceAt _ _ (by omega)]
 rfl
theorem fiSunAt {k:Nat} (s:TSky) (t:Int) (hk:5<=k):FiSunAt k s t=some (sunAt s t):=by
 obtain ⟨k,rfl⟩:=pred (d:=4) hk;rw [eiSunAt,fiPlaceAt _ _ (by omega)]
 rfl
def gap (a b:Int):Int:=mn (angle (IntKind.i64.wrap (angle a-angle b))) (IntKind.i64.wrap (360-angle (IntKind.i64.wrap (angle a-angle b))))
theorem fsGapOf {k:Nat} (a b:Int) (hk:4<=k):FsGapOf k a b=some (gap a b):=by
 obtain ⟨k,rfl⟩:=pred (d:=3) hk;rw [esGapOf,fsAngleOf _ (by omega),rZ,fsAngleOf _ (by omega),rZ,fsAngleOf _ (by omega),rZ,fsMin _ _ (by omega)]
 rfl
theorem fiGapOf {k:Nat} (a b:Int) (hk:4<=k):FiGapOf k a b=some (gap a b):=by
 obtain ⟨k,rfl⟩:=pred (d:=3) hk;rw [eiGapOf,fiAngleOf _ (by omega),rZ,fiAngleOf _ (by omega),rZ,fiAngleOf _ (by omega),rZ]
 rfl
/-- 0: in the sun; 2: dark. -/
def shade (lim g w:Int):Int:=if decide (IntKind.i64.wrap (g-IntKind.i64.wrap (w.tdiv 2))>lim)=true then 0 else if decide (IntKind.i64.wrap (g+IntKind.i64.wrap (w.tdiv 2))<=lim)=true then 2 else 1
def shadow (s:TSky) (n t:Int):Int:=if isSat s n then shade s.2.2.2.2.2.2.2.1 (gap (middle (satAt s n t)) (IntKind.i64.wrap (sunAt s t+180))) (satAt s n t).2 else 0
theorem fsShadowAt {k:Nat} (s:TSky) (n t:Int) (hl:s.2.1.length<=140737488351232) (hk:8<=k):FsShadowAt k s n t=some (shadow s n t):=by
  obtain ⟨k,rfl⟩:=pred (d:=7) hk;rw [esShadowAt,fsl1In _ _ _ (by omega),inR_last _ hl,rZ]
  unfold shadow;cases h:isSat s n with
  | false=>
    have h':isIdx n (s.2.1.length:Int)=false:=h;rw [h'];rfl
  | true=>
    have h':isIdx n (s.2.1.length:Int)=true:=h;rw [h'];simp only [Bool.not_true,Bool.false_eq_true,if_false,if_true];rw [fsNodeAt s n t hl h (by omega),rZ,fsMiddleOf _ (by omega),rZ,fsSunAt _ _ (by omega),rZ,fsGapOf _ _ (by omega),rZ]
    unfold shade;split
    · rfl
    · split<;>rfl
theorem fiShadowAt {k:Nat} (s:TSky) (n t:Int) (hl:s.2.1.length<=140737488351232) (hk:8<=k):FiShadowAt k s n t=some (shadow s n t):=by
  obtain ⟨k,rfl⟩:=pred (d:=7) hk;rw [eiShadowAt,fiisSatellite s n hl (by omega),rZ]
  unfold shadow;cases h:isSat s n with
  | false=>rfl
  | true=>
    simp only [Bool.not_true,Bool.false_eq_true,if_false,if_true];rw [fiNodeAt s n t hl h (by omega),rZ,fiMiddleOf _ (by omega),rZ,fiSunAt _ _ (by omega),rZ,fiGapOf _ _ (by omega),rZ]
    unfold shade;split
    · rfl
    · split<;>rfl
def sput (xs:List (Int×Int)) (t:Int):List (Int×Int):=match xs[xs.length-1]? with
 | none=>[(t,IntKind.i64.wrap (t+1))]
 | some y=>if y.2==t then xs.set (xs.length-1) (y.1,IntKind.i64.wrap (t+1)) else xs++[(t,IntKind.i64.wrap (t+1))]
theorem sput_len (xs:List (Int×Int)) (t:Int):(sput xs t).length<=xs.length+1:=by
 unfold sput;split
 · simp
 · split<;>simp
theorem last_at {xs:List (Int×Int)} (h0:0<xs.length) (h:xs.length<=549755813888):IntKind.i64.wrap ((xs.length:Int)-1)=((xs.length-1:Nat):Int):=by
 rw [wrap_id (by omega) (by omega)]
 omega
theorem fsl4Put {k:Nat} (xs:List (Int×Int)) (t:Int) (hl:xs.length<=549755813888) (hk:1<=k):Fsl4Put k xs t=some (sput xs t):=by
 obtain ⟨k,rfl⟩:=pred (d:=0) hk;rw [esl4Put];unfold sput;by_cases h:0<xs.length
 · have e1:decide ((xs.length:Int)>0)=true:=by simp;omega
   have e2:((xs.length-1:Nat):Int).toNat=xs.length-1:=by simp
   have h1:xs.length-1<xs.length:=by omega
   rw [e1,dY (show (true==true)=true from rfl),last_at h hl,dY (by omega),dY (by omega),e2,ix_at h1,dZ h1]
   simp only
   by_cases hq:(xs[xs.length-1].2==t)=true
   · rw [dY hq,dY hq,dY (by omega),dY (by omega),ix_at h1]
   · rw [eY hq,eY hq,dY (by simp;omega)]
 · have e1:decide ((xs.length:Int)>0)=false:=vZ (by omega)
   have e0:xs=[]:=List.eq_nil_of_length_eq_zero (by omega)
   subst e0;rfl
/-- The spans of the ticks i, i + 1, .. (m of them) where p holds. -/
def litFrom (p:Int->Bool):List (Int×Int)->Nat->Nat->List (Int×Int)
 | xs,_,0=>xs
 | xs,i,m+1=>litFrom p (if p (i:Int) then sput xs (i:Int) else xs) (i+1) m
theorem lit_len (p:Int->Bool):∀(m i:Nat) (xs:List (Int×Int)),(litFrom p xs i m).length<=xs.length+m
  | 0,i,xs=>by simp [litFrom]
  | m+1,i,xs=>by
    have:=lit_len p m (i+1) (if p (i:Int) then sput xs (i:Int) else xs)
    have h2:=sput_len xs (i:Int);simp only [litFrom];split at this<;>rename_i h<;>simp only [h] at* <;>simp at* <;>omega
def lit (s:TSky) (n T:Int):List (Int×Int):=litFrom (fun t=>shadow s n t==0) [] 0 (mn T 1000).toNat
theorem lit_le (s:TSky) (n T:Int):(lit s n T).length<=1000:=by
 have h:=lit_len (fun t=>shadow s n t==0) (mn T 1000).toNat 0 []
 have:mn T 1000<=1000:=by unfold mn;split<;>omega
 simp only [List.length_nil] at h;unfold lit;omega
theorem loop105 {k:Nat} (s:TSky) (n:Int) (hl:s.2.1.length<=140737488351232) (hk:8<=k) (N:Nat) (hN:N<=1000):∀(m q i:Nat) (xs:List (Int×Int)),i+m=N->m<q->xs.length+m<=549755813888->
    LsLitSpans_0 k (fun (v0:Int×(List (Int×Int)))=>some v0.2) (n,(N:Int),s) q ((i:Int),xs)=some (litFrom (fun t=>shadow s n t==0) xs i m)
  | 0,q+1,i,xs,h,_,_=>by
    show (if decide ((i:Int)<(N:Int))=true then _ else _)=_
    rw [eY (by simp;omega)]
    rfl
  | m+1,q+1,i,xs,h,hq,hx=>by
    show (if decide ((i:Int)<(N:Int))=true then (FsShadowAt k s n (i:Int)).bind _ else _)=_
    rw [dY (by simp;omega),fsShadowAt s n _ hl hk,rZ]
    have hw:IntKind.i64.wrap ((i:Int)+1)=((i+1:Nat):Int):=by rw [wrap_id (by omega) (by omega)];omega
    have h2:=sput_len xs (i:Int);simp only [litFrom];split
    · rw [fsl4Put xs _ (by omega) (by omega),rZ]
      simp only [hw];exact loop105 s n hl hk N hN m q (i+1) _ (by omega) (by omega) (by omega)
    · simp only [hw];exact loop105 s n hl hk N hN m q (i+1) _ (by omega) (by omega) (by omega)
theorem fsl8Ticks {k:Nat} (T:Int) (hk:1<=k):Fsl8Ticks (k+1) 0 T=some (0,((mn T 1000).toNat:Int)):=by
 rw [esl8Ticks,fsMax _ _ hk,rZ,fsMin _ _ hk,rZ,fsMin _ _ hk,rZ,fsMax _ _ hk,rZ]
 congr 1
 refine Prod.ext ?_ ?_
 · rfl
 · show mx 0 (mn 1000 T)=_
   unfold mx mn;split<;>split<;>(try split)<;>omega
theorem fsLitSpans {k:Nat} (s:TSky) (n T:Int) (hl:s.2.1.length<=140737488351232) (hk:1010<=k):FsLitSpans k s n 0 T=some (lit s n T):=by
 obtain ⟨k,rfl⟩:=pred (d:=1009) hk;have hN:(mn T 1000).toNat<=1000:=by
  have:mn T 1000<=1000:=by unfold mn;split<;>omega
  omega
 obtain ⟨k,rfl⟩:=pred (d:=1008) (show 1009<=k by omega)
 rw [esLitSpans,fsl8Ticks _ (by omega),rZ]
 exact loop105 s n hl (by omega) _ hN (mn T 1000).toNat (k+1) 0 [] (by omega) (by omega) (by simp;omega)
theorem fiLitSpans_1v {k:Nat} (s:TSky) (n t:Int) (hl:s.2.1.length<=140737488351232) (hk:9<=k):FiLitSpans_1v k t s.1 s.2.1 s.2.2.1 s.2.2.2.1 s.2.2.2.2.1 s.2.2.2.2.2.1 s.2.2.2.2.2.2.1 s.2.2.2.2.2.2.2.1 s.2.2.2.2.2.2.2.2.1 s.2.2.2.2.2.2.2.2.2 n=some (shadow s n t==0):=by
 obtain ⟨k,rfl⟩:=pred (d:=8) hk;rw [eiLitSpans_1v,fiShadowAt _ _ _ hl (by omega)]
 rfl
theorem loop191 {k:Nat} (s:TSky) (n T:Int) (hl:s.2.1.length<=140737488351232) (hk:9<=k) (N:Nat) (hN:N<=1000) (hT:(mn T 1000).toNat=N):∀(m q i:Nat) (xs:List (Int×Int)),i+m=N->m<q->xs.length+m<=549755813888->
    LispansWherev_iLitSpans_1_0 k (fun (v0:Int×(List (Int×Int)))=>some v0.2) (T,s.1,s.2.1,s.2.2.1,s.2.2.2.1,s.2.2.2.2.1,s.2.2.2.2.2.1,s.2.2.2.2.2.2.1,s.2.2.2.2.2.2.2.1,s.2.2.2.2.2.2.2.2.1,s.2.2.2.2.2.2.2.2.2,n) q ((i:Int),xs)=some (litFrom (fun t=>shadow s n t==0) xs i m)
  | 0,q+1,i,xs,h,_,_=>by
    show (if decide ((i:Int)<mn T 1000)=true then _ else _)=_
    rw [eY (by simp;omega)]
    rfl
  | m+1,q+1,i,xs,h,hq,hx=>by
    show (if decide ((i:Int)<mn T 1000)=true then (FiLitSpans_1v k (i:Int) s.1 s.2.1 s.2.2.1 s.2.2.2.1 s.2.2.2.2.1 s.2.2.2.2.2.1 s.2.2.2.2.2.2.1 s.2.2.2.2.2.2.2.1 s.2.2.2.2.2.2.2.2.1 s.2.2.2.2.2.2.2.2.2 n).bind _ else _)=_
    rw [dY (by simp;omega),fiLitSpans_1v s n _ hl hk,rZ]
    have hw:IntKind.i64.wrap ((i:Int)+1)=((i+1:Nat):Int):=by rw [wrap_id (by omega) (by omega)];omega
    have h2:=sput_len xs (i:Int);simp only [litFrom];by_cases hs:(shadow s n (i:Int)==0)=true
    · rw [dY hs,hs,eY (by decide)]
      have ih:=loop191 s n T hl hk N hN hT m q (i+1) (sput xs (i:Int)) (by omega) (by omega) (by omega)
      rw [<-ih];unfold sput;by_cases h0:0<xs.length
      · have h1:xs.length-1<xs.length:=by omega
        have e2:((xs.length-1:Nat):Int).toNat=xs.length-1:=by simp
        have e1:decide (((xs.length-1:Nat):Int)>=0)=true:=by simp
        rw [last_at h0 (by omega),e1,dY (show (true==true)=true from rfl),dY (by omega),dY (by omega),e2,ix_at h1,dZ h1]
        simp only
        by_cases hq:(xs[xs.length-1].2==(i:Int))=true
        · rw [dY hq,dY (by omega),dY (by omega),ix_at h1,dY (by omega),dY (by omega),ix_at h1,dY hq,hw]
          have:xs[xs.length-1].2=(i:Int):=by simpa using hq
          rw [this,hw]
        · rw [eY hq,eY hq,dY (by simp;omega),hw]
      · have e0:xs=[]:=List.eq_nil_of_length_eq_zero (by omega)
        subst e0;rw [eY (show ¬(decide (IntKind.i64.wrap ((([]:List (Int×Int)).length:Int)-1)>=0)==true)=true from by decide),dY (by simp),hw]
        rfl
    · have hs':(shadow s n (i:Int)==0)=false:=by simpa using hs
      rw [eY hs,hs',dY (by decide),hw]
      exact loop191 s n T hl hk N hN hT m q (i+1) xs (by omega) (by omega) (by omega)
theorem fiLitSpans {k:Nat} (s:TSky) (n T:Int) (hl:s.2.1.length<=140737488351232) (hk:1011<=k):FiLitSpans k s n 0 T=some (lit s n T):=by
 obtain ⟨k,rfl⟩:=pred (d:=1010) hk;have hN:(mn T 1000).toNat<=1000:=by
  have:mn T 1000<=1000:=by unfold mn;split<;>omega
  omega
 obtain ⟨k,rfl⟩:=pred (d:=1009) (show 1010<=k by omega)
 rw [eiLitSpans,eispansWherev_iLitSpans_1];have e:mx 0 0=((0:Nat):Int):=rfl;rw [e,loop191 s n T hl (by omega) _ hN rfl (mn T 1000).toNat k 0 [] (by omega) (by omega) (by simp;omega)]
 rfl
def litOf (w:TW) (n:Int):List (Int×Int):=lit w.1 n w.2.2.2.2.2.2.2.2.2.2.2.1
theorem fsLitOf {k:Nat} (w:TW) (n:Int) (hl:w.1.2.1.length<=140737488351232) (hk:1011<=k):FsLitOf k w n=some (litOf w n):=by
 obtain ⟨k,rfl⟩:=pred (d:=1010) hk;rw [esLitOf,fsLitSpans _ _ _ hl (by omega)]
 rfl
theorem fiLitOf {k:Nat} (w:TW) (n:Int) (hl:w.1.2.1.length<=140737488351232) (hk:1012<=k):FiLitOf k w n=some (litOf w n):=by
 obtain ⟨k,rfl⟩:=pred (d:=1011) hk;rw [eiLitOf,fiLitSpans _ _ _ hl (by omega)]
 rfl
def inSpans (xs:List (Int×Int)) (t:Int):Bool:=xs.any fun s=>inSpan s t
theorem fsInSpans {k:Nat} (xs:List (Int×Int)) (t:Int) (hl:xs.length<=140737488351232) (hk:xs.length+4<=k):FsInSpans k xs t=some (inSpans xs t):=by
 obtain ⟨k,rfl⟩:=pred (d:=0) (show 1<=k by omega)
 refine (esInSpans k xs t).trans (row_i (a:=xs) (fun _ l=>some (inSpans l t)) (fun _ _=>rfl) hl rfl (fun m i x r h0 hn hw hi hx ih=> ?_) (by omega))
 dsimp only;rw [hw,ih,fsInSpan _ _ (by omega),rZ]
 unfold inSpans;rw [List.any_cons];cases inSpan x t<;>rfl
def tickRow (p:Nat->Bool):List Bool:=(List.range 1000).map p
theorem tick_set (p:Nat->Bool) {j:Nat} (hj:j<1000):(tickRow p).set j true=tickRow fun u=>p u || u==j:=by
 unfold tickRow;apply List.ext_getElem
 · simp
 · intro u h1 h2;simp only [List.length_set,List.length_map,List.length_range] at h1;rw [List.getElem_set];simp only [List.getElem_map,List.getElem_range];by_cases e:j=u
   · subst e;simp
   · rw [eY e]
     have:(u==j)=false:=by simp;omega
     rw [this,Bool.or_false]
theorem loop256_1 {k:Nat} {R:Type} (X:Viticks_1->Option R) (c:Citicks_1) (N:Nat) (hN:N<=1000) (hc:c.2.2.2.2=(N:Int)):∀(m q i:Nat) (p:Nat->Bool),i+m=N->m<q->
    Liticks_1 k X c q ((i:Int),tickRow p)=X ((N:Int),tickRow fun u=>p u || (decide (i<=u)&&decide (u<N)))
  | 0,q+1,i,p,h,_=>by
    show (if decide ((i:Int)<c.2.2.2.2)=true then _ else _)=_
    rw [hc,eY (by simp;omega)]
    have e:(fun u=>p u || (decide (i<=u)&&decide (u<N)))=p:=by
      funext u
      have:(decide (i<=u)&&decide (u<N))=false:=by simp;omega
      rw [this,Bool.or_false]
    have hi:i=N:=by omega
    rw [e,hi]
  | m+1,q+1,i,p,h,hq=>by
    show (if decide ((i:Int)<c.2.2.2.2)=true then (if 0<=(i:Int) then (if (i:Int)<((tickRow p).length:Int) then ix (tickRow p) (i:Int).toNat fun _=>Liticks_1 k X c q ((IntKind.i64.wrap ((i:Int)+1)),((tickRow p).set (i:Int).toNat true)) else none) else none) else _)=_
    have hlen:(tickRow p).length=1000:=by simp [tickRow]
    have hn:(i:Int).toNat=i:=by simp
    rw [hc,dY (by simp;omega),dY (by omega),dY (by omega),hn,ix_at (by omega),tick_set p (by omega)]
    have hw:IntKind.i64.wrap ((i:Int)+1)=((i+1:Nat):Int):=by rw [wrap_id (by omega) (by omega)];omega
    rw [hw,loop256_1 X c N hN hc m q (i+1) _ (by omega) (by omega)]
    congr 2
    refine congrArg tickRow (funext fun u=> ?_)
    by_cases e:u=i
    · subst e
      have:decide (u<N)=true:=by simp;omega
      simp [this]
    · have e1:(u==i)=false:=by simp [e]
      have e2:decide (i+1<=u)=decide (i<=u):=by
        by_cases h:i<=u
        · rw [yZ h,yZ (by omega)]
        · rw [vZ h,vZ (by omega)]
      rw [e1,e2,Bool.or_false]
theorem fiticks {k:Nat} (xs:List (Int×Int)) (hl:xs.length<=140737488351232) (hk:xs.length+1010<=k):Fiticks k xs=some (tickRow fun u=>inSpans xs (u:Int)):=by
  obtain ⟨k,rfl⟩:=pred (d:=0) (show 1<=k by omega)
  have e0:List.replicate (1000:Int).toNat false=tickRow fun _=>false:=by
    unfold tickRow;rw [List.map_const'];simp
  refine (eiticks k xs).trans ?_
  rw [e0];refine (row_s0 (S:=Nat->Bool) (a:=xs) (fun p i=>(i,tickRow p)) (fun p _ l=>some (tickRow fun u=>p u || inSpans l (u:Int))) (fun _ _ _=>rfl) hl (fun p=>by simp [inSpans]) (fun m i p x r h0 hn hw hi hx ih=> ?_) (by omega) (fun _=>false)).trans ?_
  · dsimp only;rw [fiIsSpan _ (by omega),rZ,hw]
    cases hs:isSpan x with
    | false=>
      rw [eY (by decide),ih]
      have e:∀u:Int,inSpan x u=false:=fun u=>by unfold inSpan;rw [hs];rfl
      simp [inSpans,e]
    | true=>
      have hs':=hs;unfold isSpan at hs';simp only [sZ,pZ] at hs';rw [dY rfl];obtain ⟨a,ha⟩:∃a:Nat,x.1=(a:Int):=⟨x.1.toNat,by omega⟩
      obtain ⟨b,hb⟩:∃b:Nat,x.2=(b:Int):=⟨x.2.toNat,by omega⟩
      rw [ha,loop256_1 _ _ b (by omega) hb (b-a) _ a p (by omega) (by omega)]
      simp only
      rw [ih]
      congr 1
      refine congrArg tickRow (funext fun u=> ?_)
      have e:inSpan x (u:Int)=(decide (a<=u)&&decide (u<b)):=by
        unfold inSpan;rw [hs,ha,hb,Bool.true_and]
        congr 1
        · by_cases h:a<=u
          · rw [yZ h,yZ (by omega)]
          · rw [vZ h,vZ (by omega)]
        · by_cases h:u<b
          · rw [yZ h,yZ (by omega)]
          · rw [vZ h,vZ (by omega)]
      unfold inSpans;rw [List.any_cons,e,Bool.or_assoc]
  · simp
abbrev TB:=Int×Int×Int×Int×Int×Int
def needStep (b:TB) (xs:List (Int×Int)) (u v:Int):Int:=if inSpans xs u then mx 0 (IntKind.i64.wrap (IntKind.i64.wrap (v+b.2.2.2.1)-b.2.2.2.2.2)) else mx 0 (IntKind.i64.wrap (v+b.2.2.2.1))
/-- What is needed at tick lo, m ticks ahead of the end. -/
def needFrom (b:TB) (xs:List (Int×Int)):Nat->Nat->Int
 | _,0=>0
 | lo,m+1=>needStep b xs (lo:Int) (needFrom b xs (lo+1) m)
theorem need_at (b:TB) (xs:List (Int×Int)) {lo m n:Nat} (h:m+1<=n):needFrom b xs (lo+m) (n-m)=needStep b xs ((lo+m:Nat):Int) (needFrom b xs (lo+(m+1)) (n-(m+1))):=by
 have:n-m=(n-(m+1))+1:=by omega
 rw [this,needFrom];rfl
theorem loopsNeedAt {k:Nat} (b:TB) (xs:List (Int×Int)) (hl:xs.length<=1000) (hk:1004<=k) (lo n:Nat) (hn:lo+n<=1000):∀(m q:Nat),m<=n->m<q->
    LsNeedAt_0 k (fun (v0:Int×Int)=>some v0.1) (xs,(lo:Int),b) q (needFrom b xs (lo+m) (n-m),((lo+m:Nat):Int)-1)=some (needFrom b xs lo n)
  | 0,q+1,_,_=>by
    show (if decide (((lo+0:Nat):Int)-1>=(lo:Int))=true then _ else _)=_
    rw [eY (by simp;omega)]
    rfl
  | m+1,q+1,hm,hq=>by
    have e:((lo+(m+1):Nat):Int)-1=((lo+m:Nat):Int):=by omega
    rw [e];show (if decide (((lo+m:Nat):Int)>=(lo:Int))=true then (FsInSpans k xs ((lo+m:Nat):Int)).bind _ else _)=_
    have hw:IntKind.i64.wrap (((lo+m:Nat):Int)-1)=((lo+m:Nat):Int)-1:=wrap_id (by omega) (by omega)
    rw [dY (by simp;omega),fsInSpans _ _ (by omega) (by omega),rZ]
    have ih:=loopsNeedAt b xs hl hk lo n hn m q (by omega) (by omega)
    rw [need_at b xs hm] at ih;unfold needStep at ih;cases hs:inSpans xs ((lo+m:Nat):Int) with
    | true=>
      rw [dY rfl,fsMax _ _ (by omega),rZ,hw]
      rw [hs,dY rfl] at ih;exact ih
    | false=>
      rw [eY (by decide),fsMax _ _ (by omega),rZ,hw]
      rw [hs,eY (by decide)] at ih
      exact ih
def rates (b:TB):Bool:=inR b.2.2.2.1 0 100&&inR b.2.2.2.2.2 0 100
theorem fsl22Rates {k:Nat} (b:TB) (hk:2<=k):Fsl22Rates k b=some (rates b):=by
 obtain ⟨k,rfl⟩:=pred (d:=1) hk;rw [esl22Rates,fsl1In _ _ _ (by omega),rZ]
 unfold rates;cases inR b.2.2.2.1 0 100
 · rfl
 · rw [dY (show (true==true)=true from rfl),fsl1In _ _ _ (by omega)]
   rfl
def needAt (b:TB) (xs:List (Int×Int)) (lo hi:Int):Int:=if rates b then if lo<0 then 0 else if hi>1000 then 0 else if hi<=lo then 0 else needFrom b xs lo.toNat (hi-lo).toNat else 0
theorem fsNeedAt {k:Nat} (b:TB) (xs:List (Int×Int)) (lo hi:Int) (hl:xs.length<=1000) (hk:1006<=k):FsNeedAt k b xs lo hi=some (needAt b xs lo hi):=by
 obtain ⟨k,rfl⟩:=pred (d:=1005) hk;rw [esNeedAt,fsl22Rates _ (by omega),rZ]
 unfold needAt;cases rates b
 · rfl
 · rw [dY (show ((!true)==false)=true from rfl),dY rfl]
   by_cases h1:lo<0
   · rw [eY (by simp;omega),dY h1]
   · rw [dY (by simp;omega),eY h1]
     by_cases h2:hi>1000
     · rw [eY (by simp;omega),dY h2]
     · rw [dY (by simp;omega),eY h2]
       by_cases h3:hi<=lo
       · rw [dY (by simpa using h3),dY h3]
       · rw [eY (by simpa using h3),eY h3]
         obtain ⟨a,rfl⟩:∃a:Nat,lo=(a:Int):=⟨lo.toNat,by omega⟩
         obtain ⟨c,rfl⟩:∃c:Nat,hi=(c:Int):=⟨hi.toNat,by omega⟩
         have e1:((c:Int)-(a:Int)).toNat=c-a:=by omega
         have e2:(a:Int).toNat=a:=by simp
         have:=loopsNeedAt b xs hl (show 1004<=k by omega) a (c-a) (by omega) (c-a) k (by omega) (by omega)
         rw [show a+(c-a)=c by omega,show c-a-(c-a)=0 by omega] at this
         rw [e1,e2,wrap_id (by omega) (by omega)]
         exact this
theorem loopineeds {k:Nat} (b:TB) (xs:List (Int×Int)) (lo n:Nat) (hn:lo+n<=1000):∀(m q:Nat) (out:List Int),m<=n->m<q->out.length=n+1->out[m]? =some (needFrom b xs (lo+m) (n-m))->
    ∃out',Lineeds_0 k (fun (v0:Int×(List Int))=>some v0.2) ((lo:Int),tickRow (fun u=>inSpans xs (u:Int)),b) q (((lo+m:Nat):Int)-1,out)=some out'/\out'[0]? =some (needFrom b xs lo n)
  | 0,q+1,out,_,_,_,h0=>by
    refine ⟨out,?_,h0⟩
    show (if decide (((lo+0:Nat):Int)-1>=(lo:Int))=true then _ else _)=_
    rw [eY (by simp;omega)]
  | m+1,q+1,out,hm,hq,hlen,h0=>by
    have hm1:m+1<out.length:=by omega
    have hm0:m<out.length:=by omega
    have e:((lo+(m+1):Nat):Int)-1=((lo+m:Nat):Int):=by omega
    have h0':out[m+1]=needFrom b xs (lo+(m+1)) (n-(m+1)):=by
      rw [dZ hm1] at h0
      exact xZ h0
    obtain ⟨out',h1,h2⟩:=loopineeds (k:=k) b xs lo n hn m q (out.set m (needFrom b xs (lo+m) (n-m))) (by omega) (by omega) (by simpa using hlen) (by rw [List.getElem?_set];simp [hm0])
    refine ⟨out',?_,h2⟩
    rw [<-h1,e];have hw:IntKind.i64.wrap (((lo+m:Nat):Int)-1)=((lo+m:Nat):Int)-1:=wrap_id (by omega) (by omega)
    have hw1:IntKind.i64.wrap (((lo+m:Nat):Int)-(lo:Int))=(m:Int):=by rw [wrap_id (by omega) (by omega)];omega
    have hw2:IntKind.i64.wrap ((m:Int)+1)=((m+1:Nat):Int):=by rw [wrap_id (by omega) (by omega)];omega
    have hn1:((m+1:Nat):Int).toNat=m+1:=by simp
    have hn0:(m:Int).toNat=m:=by simp
    have hnu:((lo+m:Nat):Int).toNat=lo+m:=by omega
    have htl:(tickRow (fun u=>inSpans xs (u:Int))).length=1000:=by simp [tickRow]
    have ht:(tickRow (fun u=>inSpans xs (u:Int)))[lo+m]'(by omega)=inSpans xs ((lo+m:Nat):Int):=by simp [tickRow]
    show (Bineeds_0 k (fun (v0:Int×(List Int))=>some v0.2) ((lo:Int),tickRow (fun u=>inSpans xs (u:Int)),b) (Lineeds_0 k (fun (v0:Int×(List Int))=>some v0.2) ((lo:Int),tickRow (fun u=>inSpans xs (u:Int)),b) q) (((lo+m:Nat):Int),out))=_
    unfold Bineeds_0;dsimp only;rw [dY (by simp;omega),hw1,hw2,hn1,hn0,hnu,hw,dY (by omega),dY (by omega),ix_at hm1,h0',dY (by omega),ix_at (by omega),ht,need_at b xs hm]
    unfold needStep;split
    · rename_i hs;rw [dY (by omega),dY (by omega),ix_at hm0]
    · rename_i hs;rw [dY (by omega),dY (by omega),ix_at hm0]
theorem fineeds {k:Nat} (b:TB) (xs:List (Int×Int)) (lo hi:Int) (hl:xs.length<=1000) (hk:2012<=k):∃out,Fineeds k b xs lo hi=some out/\out[0]? =some (needAt b xs lo hi):=by
 obtain ⟨k,rfl⟩:=pred (d:=2011) hk;rw [eineeds,fiInRange _ _ _ (by omega),rZ]
 unfold needAt rates;cases h0:inR b.2.2.2.1 0 100
 · exact ⟨_,rfl,rfl⟩
 · rw [dY (show ((!true)==false)=true from rfl),fiInRange _ _ _ (by omega),rZ]
   cases h0':inR b.2.2.2.2.2 0 100
   · exact ⟨_,rfl,rfl⟩
   · rw [dY (show ((!true)==false)=true from rfl),dY (show (true&&true)=true from rfl)]
     by_cases h1:lo<0
     · rw [eY (by simp;omega),dY h1];exact ⟨_,rfl,rfl⟩
     · rw [dY (by simp;omega),eY h1]
       by_cases h2:hi>1000
       · rw [eY (by simp;omega),dY h2];exact ⟨_,rfl,rfl⟩
       · rw [dY (by simp;omega),eY h2]
         by_cases h3:hi<=lo
         · rw [dY (by simpa using h3),dY h3];exact ⟨_,rfl,rfl⟩
         · rw [eY (by simp;omega),eY h3,fiticks _ (by omega) (by omega),rZ]
           obtain ⟨a,rfl⟩:∃a:Nat,lo=(a:Int):=⟨lo.toNat,by omega⟩
           obtain ⟨c,rfl⟩:∃c:Nat,hi=(c:Int):=⟨hi.toNat,by omega⟩
           have e1:((c:Int)-(a:Int)).toNat=c-a:=by omega
           have e2:(a:Int).toNat=a:=by simp
           have hw:IntKind.i64.wrap (IntKind.i64.wrap ((c:Int)-(a:Int))+1)=((c-a+1:Nat):Int):=by
            rw [wrap_id (n:=(c:Int)-(a:Int)) (by omega) (by omega),wrap_id (by omega) (by omega)]
            omega
           have hw1:IntKind.i64.wrap ((c:Int)-1)=((a+(c-a):Nat):Int)-1:=by rw [wrap_id (by omega) (by omega)];omega
           have hn1:((c-a+1:Nat):Int).toNat=c-a+1:=by simp
           rw [hw,dY (beq_self_eq_true _),dY (by omega),hn1,dY (by omega),hw1,e1,e2]
           exact loopineeds b xs a (c-a) (by omega) (c-a) k _ (by omega) (by omega) (by simp) (by rw [show c-a-(c-a)=0 by omega];rw [List.getElem?_replicate];simp [needFrom])
theorem fiNeedAt {k:Nat} (b:TB) (xs:List (Int×Int)) (lo hi:Int) (hl:xs.length<=1000) (hk:2013<=k):FiNeedAt k b xs lo hi=some (needAt b xs lo hi):=by
 obtain ⟨k,rfl⟩:=pred (d:=2012) hk;obtain ⟨out,h1,h2⟩:=fineeds (k:=k) b xs lo hi hl (by omega)
 rw [eiNeedAt,h1,rZ];have hlt:0<out.length:=by
  rcases Nat.eq_zero_or_pos out.length with h | h
  · rw [List.getElem?_eq_none (by omega)] at h2;cases h2
  · exact h
 rw [dY (by omega)]
 unfold ix;rw [show (0:Int).toNat=0 from rfl,h2]
theorem litOf_le (w:TW) (n:Int):(litOf w n).length<=1000:=lit_le _ _ _
def needNow (w:TW) (n:Int):Int:=if isIdx n (w.2.2.2.2.1.length:Int) then match w.2.2.2.2.1[n.toNat]? with
 | some b=>needAt b (litOf w n) w.2.2.2.2.2.2.2.2.2.2.1 w.2.2.2.2.2.2.2.2.2.2.2.1
 | none=>0
 else 0
theorem fiNeedNow {k:Nat} (w:TW) (n:Int) (h1:w.1.2.1.length<=549755813888) (h2:w.2.2.2.2.1.length<=549755813888) (hk:2020<=k):FiNeedNow k w n=some (needNow w n):=by
  obtain ⟨k,rfl⟩:=pred (d:=2019) hk;rw [eiNeedNow,fiisIndex _ _ (by omega),rZ]
  unfold needNow;cases h:isIdx n (w.2.2.2.2.1.length:Int) with
  | false=>rfl
  | true=>
    obtain ⟨h0,hlt⟩:=isIdx_pos h;rw [eY (by decide),dY h0,ix_at hlt,dZ hlt,fiLitOf w n (by omega) (by omega),rZ,fiNeedAt _ _ _ _ (litOf_le w n) (by omega)]
    rfl
def isBat (b:TB):Bool:=inR b.2.2.2.1 0 100&&(inR b.2.2.2.2.1 0 100&&(inR b.2.2.2.2.2 0 100&&(inR b.2.1 0 10000&&(inR b.2.2.1 0 b.2.1&&inR b.1 b.2.2.1 b.2.1))))
theorem fsIsBattery {k:Nat} (b:TB) (hk:3<=k):FsIsBattery k b=some (isBat b):=by
 obtain ⟨k,rfl⟩:=pred (d:=2) hk;simp only [esIsBattery,fsl22Rates b (show 2<=k by omega),rZ,fsl1In _ _ _ (show 1<=k by omega)]
 unfold isBat rates;cases inR b.2.2.2.1 0 100<;>cases inR b.2.2.2.2.1 0 100<;>cases inR b.2.2.2.2.2 0 100<;>cases inR b.2.1 0 10000<;>cases inR b.2.2.1 0 b.2.1<;>rfl
theorem fiIsBattery {k:Nat} (b:TB) (hk:2<=k):FiIsBattery k b=some (isBat b):=by
 obtain ⟨k,rfl⟩:=pred (d:=1) hk;simp only [eiIsBattery,rZ,fiInRange _ _ _ (show 1<=k by omega)]
 unfold isBat;cases inR b.2.2.2.1 0 100<;>cases inR b.2.2.2.2.1 0 100<;>cases inR b.2.2.2.2.2 0 100<;>cases inR b.2.1 0 10000<;>cases inR b.2.2.1 0 b.2.1<;>rfl
abbrev TPk:Type:=Int×Int×Int×Int×Int×Int
def p1 (x:TPk):Bool:=x.2.2.2.2.2==1
def p2 (x:TPk):Bool:=x.2.2.2.2.2 !=1
/-- A world's size. -/
theorem szW (w:TW):szT sWorld w=szT sSky w.1+(szT sProgram w.2.1+(szT sLaw w.2.2.1+(w.2.2.2.1.length+(w.2.2.2.2.1.length+(szT (.l 0 sQueue) w.2.2.2.2.2.1+(w.2.2.2.2.2.2.1.length+(w.2.2.2.2.2.2.2.1.length+(szT (.l 0 sStream) w.2.2.2.2.2.2.2.2.1+(w.2.2.2.2.2.2.2.2.2.1.length+(0+(0+(w.2.2.2.2.2.2.2.2.2.2.2.2.1.length+w.2.2.2.2.2.2.2.2.2.2.2.2.2.length)))))))))))):=by
 have h:szT sWorld w=szT sSky w.1+(szT sProgram w.2.1+(szT sLaw w.2.2.1+(szT (.l 0 (.i .i64)) w.2.2.2.1+(szT (.l 0 sI6) w.2.2.2.2.1+(szT (.l 0 sQueue) w.2.2.2.2.2.1+(szT (.l 0 sI4) w.2.2.2.2.2.2.1+(szT (.l 0 (.i .i64)) w.2.2.2.2.2.2.2.1+(szT (.l 0 sStream) w.2.2.2.2.2.2.2.2.1+(szT (.l 0 sI4) w.2.2.2.2.2.2.2.2.2.1+(0+(0+(szT (.l 0 sI6) w.2.2.2.2.2.2.2.2.2.2.2.2.1+szT (.l 0 sI4) w.2.2.2.2.2.2.2.2.2.2.2.2.2)))))))))))):=rfl
 have f1 (xs:List Int):szT (.l 0 (.i .i64)) xs=xs.length:=szT_row (e:=0) (sh:= .i .i64) rfl xs;have f4 (xs:List (Int×Int×Int×Int)):szT (.l 0 sI4) xs=xs.length:=szT_row (e:=0) (sh:=sI4) rfl xs;have f6 (xs:List (Int×Int×Int×Int×Int×Int)):szT (.l 0 sI6) xs=xs.length:=szT_row (e:=0) (sh:=sI6) rfl xs;rw [h,f1,f1,f4,f4,f4,f6,f6]
theorem num64 {n:Int} (h:Go.V.inR .i64 n): -9223372036854775808<=n/\n<=9223372036854775807:=by
 have e1:IntKind.i64.min= -9223372036854775808:=by decide
 have e2:IntKind.i64.max=9223372036854775807:=by decide
 rw [<-e1,<-e2];exact h
def isFault (x:Int×Int×Int×Int) (nodes:Int):Bool:=isIdx x.1 nodes&&(inR x.2.1 (-1) (IntKind.i64.wrap (nodes-1))&&(x.2.1 !=x.1&&isSpan x.2.2))
theorem fiIsFault {k:Nat} (x:Int×Int×Int×Int) (n:Int) (hk:2<=k):FiIsFault k x n=some (isFault x n):=by
 obtain ⟨k,rfl⟩:=pred (d:=1) hk;rw [eiIsFault,fiisIndex _ _ (by omega),rZ]
 unfold isFault;cases isIdx x.1 n
 · rfl
 · rw [dY (beq_self_eq_true _),fiInRange _ _ _ (by omega),rZ]
   cases inR x.2.1 (-1) (IntKind.i64.wrap (n-1))
   · rfl
   · rw [dY (beq_self_eq_true _),fiIsSpan _ (by omega)]
     cases (x.2.1 !=x.1)<;>rfl
theorem fsIsFault {k:Nat} (x:Int×Int×Int×Int) (n:Int) (hn: -9223372036854775808<=n/\n<=9223372036854775807) (hk:2<=k):FsIsFault k x n=some (isFault x n):=by
 obtain ⟨k,rfl⟩:=pred (d:=1) hk;rw [esIsFault,fsIsSpan _ (by omega)]
 unfold isFault isIdx inR;by_cases h1:x.1>=0
 · rw [yZ h1,dY (beq_self_eq_true _)];by_cases h2:x.1<n
   · rw [yZ h2,dY (beq_self_eq_true _),wrap_id (by omega) (by omega)]
     by_cases h3:x.2.1>=-1
     · rw [yZ h3,dY (beq_self_eq_true _)];by_cases h4:x.2.1<n
       · rw [yZ h4,dY (beq_self_eq_true _),yZ (show x.2.1<=n-1 by omega)]
         by_cases h5:x.1=x.2.1
         · rw [h5];simp
         · have a1:(x.1 !=x.2.1)=true:=by simp [h5]
           have a2:(x.2.1 !=x.1)=true:=by simp;omega
           rw [a1,a2];rfl
       · rw [vZ h4,vZ (show ¬x.2.1<=n-1 by omega)]
         rfl
     · rw [vZ h3];rfl
   · rw [vZ h2];rfl
 · rw [vZ h1];rfl
def flowIdx (l:List (Int×Int×Int×Int)) (id:Int):Int:=findFrom (fun x=>x.1==id) 0 l
theorem fsl33Flow {k:Nat} (w:TW) (id:Int) (hl:w.2.2.2.2.2.2.1.length<=549755813888) (hk:w.2.2.2.2.2.2.1.length+2<=k):Fsl33Flow k w id=some (flowIdx w.2.2.2.2.2.2.1 id):=by
 obtain ⟨k,rfl⟩:=pred (d:=0) (show 1<=k by omega)
 refine (esl33Flow k w id).trans (row_i (L:=Lsl33Flow_0 k _ _ _) (a:=w.2.2.2.2.2.2.1) (fun i l=>some (findFrom (fun x=>x.1==id) i l)) (fun _ _=>rfl) (by omega) rfl (fun n i x r h0 ht hw hi hx ih=> ?_) (by omega))
 show (if (x.1==id)=true then some (i:Int) else _)=_
 rw [hw,ih];show _=some (if (x.1==id)=true then (i:Int) else findFrom (fun x=>x.1==id) (i+1) r)
 by_cases h:(x.1==id)=true
 · rw [dY h,dY h]
 · rw [eY h,eY h]
theorem fiflowAt {k:Nat} (w:TW) (id:Int) (hl:w.2.2.2.2.2.2.1.length<=549755813888) (hk:w.2.2.2.2.2.2.1.length+4<=k):FiflowAt k w id=some (flowIdx w.2.2.2.2.2.2.1 id):=by
 obtain ⟨k,rfl⟩:=pred (d:=1) (show 2<=k by omega)
 refine (eiflowAt k w id).trans ((bs ?_).trans rfl)
 obtain ⟨k,rfl⟩:=pred (d:=0) (show 1<=k by omega)
 refine (egIndexFunc_Flowv_iflowAt_1 k _ id).trans (row_i (L:=LgIndexFunc_Flowv_iflowAt_1_0 k _ _ _) (a:=w.2.2.2.2.2.2.1) (fun i l=>some (findFrom (fun x=>x.1==id) i l)) (fun _ _=>rfl) (by omega) rfl (fun n i x r h0 ht hw hi hx ih=> ?_) (by omega))
 obtain ⟨k,rfl⟩:=pred (d:=0) (show 1<=k by omega)
 refine (bs (eiflowAt_1v k x id)).trans ?_
 show (if (x.1==id)=true then some (i:Int) else _)=_
 rw [hw,ih];show _=some (if (x.1==id)=true then (i:Int) else findFrom (fun x=>x.1==id) (i+1) r)
 by_cases h:(x.1==id)=true
 · rw [dY h,dY h]
 · rw [eY h,eY h]
def sumI (l:List Int):Int:=l.foldl (fun s x=>IntKind.i64.wrap (s+x)) 0
theorem fisumOf {k:Nat} (l:List Int) (hl:l.length<=549755813888) (hk:l.length+2<=k):FisumOf k l=some (sumI l):=by
 obtain ⟨k,rfl⟩:=pred (d:=0) (show 1<=k by omega)
 refine (eisumOf k l).trans (row_s0 (L:=LisumOf_0 k _ _) (a:=l) (fun (s:Int) i=>(s,i)) (fun s _ l=>some (l.foldl (fun s x=>IntKind.i64.wrap (s+x)) s)) (fun _ _ _=>rfl) (by omega) (fun _=>rfl) (fun n i s x r h0 ht hw hi hx ih=> ?_) (by omega) 0)
 dsimp only;rw [hw,ih];rfl
def isPacket (x:Int×Int×Int×Int×Int×Int) (n:Int):Bool:=inR x.1 0 9999&&(inR x.2.1 0 9999&&(inR x.2.2.1 0 9999&&(isIdx x.2.2.2.1 n&&(isIdx x.2.2.2.2.1 n&&(x.2.2.2.1 !=x.2.2.2.2.1&&inR x.2.2.2.2.2 0 1)))))
theorem fiIsPacket {k:Nat} (x:Int×Int×Int×Int×Int×Int) (n:Int) (hk:2<=k):FiIsPacket k x n=some (isPacket x n):=by
 obtain ⟨k,rfl⟩:=pred (d:=1) hk;rw [eiIsPacket,fiInRange _ _ _ (by omega),fiInRange _ _ _ (by omega),fiInRange _ _ _ (by omega),fiInRange _ _ _ (by omega),fiisIndex _ _ (by omega),fiisIndex _ _ (by omega)]
 simp only [rZ];unfold isPacket;cases inR x.1 0 9999<;>try rfl
 cases inR x.2.1 0 9999<;>try rfl
 cases inR x.2.2.1 0 9999<;>try rfl
 cases isIdx x.2.2.2.1 n<;>try rfl
 cases isIdx x.2.2.2.2.1 n<;>try rfl
 cases (x.2.2.2.1 !=x.2.2.2.2.1)<;>rfl
theorem fsIsPacket {k:Nat} (x:Int×Int×Int×Int×Int×Int) (n:Int) (hk:2<=k):FsIsPacket k x n=some (isPacket x n):=by
 obtain ⟨k,rfl⟩:=pred (d:=1) hk;rw [esIsPacket,fsl1In _ _ _ (by omega),fsl1In _ _ _ (by omega),fsl1In _ _ _ (by omega),fsl1In _ _ _ (by omega)]
 simp only [rZ];unfold isPacket isIdx;cases inR x.1 0 9999<;>try rfl
 cases inR x.2.1 0 9999<;>try rfl
 cases inR x.2.2.1 0 9999<;>try rfl
 cases decide (x.2.2.2.1>=0)<;>try rfl
 cases decide (x.2.2.2.1<n)<;>try rfl
 cases decide (x.2.2.2.2.1>=0)<;>try rfl
 cases decide (x.2.2.2.2.1<n)<;>try rfl
 cases (x.2.2.2.1 !=x.2.2.2.2.1)<;>rfl
abbrev TF:Type:=Int×Int×Int×Int
def isFlow (f:TF) (n:Int):Bool:=inR f.1 0 9999&&(isIdx f.2.1 n&&(isIdx f.2.2.1 n&&(f.2.1 !=f.2.2.1&&inR f.2.2.2 0 1)))
theorem fiIsFlow {k:Nat} (f:TF) (n:Int) (hk:2<=k):FiIsFlow k f n=some (isFlow f n):=by
 obtain ⟨k,rfl⟩:=pred (d:=1) hk;rw [eiIsFlow,fiInRange _ _ _ (by omega),fiInRange _ _ _ (by omega),fiisIndex _ _ (by omega),fiisIndex _ _ (by omega)]
 simp only [rZ];unfold isFlow;cases inR f.1 0 9999<;>try rfl
 cases isIdx f.2.1 n<;>try rfl
 cases isIdx f.2.2.1 n<;>try rfl
 cases (f.2.1 !=f.2.2.1)<;>rfl
theorem fsIsFlow {k:Nat} (f:TF) (n:Int) (hk:2<=k):FsIsFlow k f n=some (isFlow f n):=by
 obtain ⟨k,rfl⟩:=pred (d:=1) hk;rw [esIsFlow,fsl1In _ _ _ (by omega),fsl1In _ _ _ (by omega)]
 simp only [rZ];unfold isFlow isIdx;cases inR f.1 0 9999<;>try rfl
 cases decide (f.2.1>=0)<;>try rfl
 cases decide (f.2.1<n)<;>try rfl
 cases decide (f.2.2.1>=0)<;>try rfl
 cases decide (f.2.2.1<n)<;>try rfl
 cases (f.2.1 !=f.2.2.1)<;>rfl
theorem wrap_pred {i:Nat} (h0:0<i) (h:i<=549755813888):IntKind.i64.wrap ((i:Int)-1)=((i-1:Nat):Int):=by
 rw [wrap_id (by omega) (by omega)];omega
abbrev TSt:Type:=Int×Int×List Int
def chk (w:List Int) (f:Int):Nat->List Int->Bool
 | _,[]=>true
 | i,x::r=>if x<=f then false else if x>9999 then false else if 0<i/\(w[i-1]?).getD 0>=x then false else chk w f (i+1) r
theorem chk_cons (w:List Int) (f:Int) (i:Nat) (x:Int) (r:List Int):chk w f i (x::r)=if x<=f then false else if x>9999 then false else if 0<i/\(w[i-1]?).getD 0>=x then false else chk w f (i+1) r:=rfl
def isSt (a:TSt):Bool:=inR a.1 0 10000&&(inR a.2.1 0 10000&&(decide ((a.2.2.length:Int)<=20)&&chk a.2.2 a.2.1 0 a.2.2))
theorem fsIsStream {k:Nat} (a:TSt) (hl:a.2.2.length<=549755813888) (hk:a.2.2.length+3<=k):FsIsStream k a=some (isSt a):=by
 obtain ⟨k,rfl⟩:=pred (d:=1) (show 2<=k by omega)
 refine (esIsStream k a).trans ?_
 rw [fsl1In _ _ _ (by omega),fsl1In _ _ _ (by omega)]
 refine (row_i (L:=LsIsStream_0 k _ _ _ _ _) (a:=a.2.2) (fun i l=>some (inR a.1 0 10000&&(inR a.2.1 0 10000&&(decide ((a.2.2.length:Int)<=20)&&chk a.2.2 a.2.1 i l)))) (fun _ _=>rfl) (by omega) ?_ (fun n i x r h0 ht hw hi hx ih=> ?_) (by omega)).trans rfl
 · show (if (inR a.1 0 10000==true)=true then (if (inR a.2.1 0 10000==true)=true then some (decide ((a.2.2.length:Int)<=20)) else some false) else some false)=some (inR a.1 0 10000&&(inR a.2.1 0 10000&&(decide ((a.2.2.length:Int)<=20)&&true)))
   cases inR a.1 0 10000<;>cases inR a.2.1 0 10000<;>simp
 have hx':a.2.2[(i:Int).toNat]? =some x:=by rw [ht];exact hx
 rw [chk_cons];show (if ((decide (x<=a.2.1))==false)=true then _ else _)=_
 by_cases h1:x<=a.2.1
 · rw [eY (by rw [yZ h1];decide),dY h1];simp
 rw [dY (by rw [vZ h1];rfl),eY h1]
 refine (dY h0).trans ((ix_some hx' _).trans ?_)
 by_cases h2:x>9999
 · refine (eY (by rw [yZ h2];decide)).trans ?_
   rw [dY h2];simp
 refine (dY (by rw [vZ h2];rfl)).trans ?_
 rw [eY h2];by_cases hi0:0<i
 · have hd:(decide ((i:Int)>0)==true)=true:=by rw [yZ (by omega)];rfl
   refine (dY hd).trans ?_
   rw [wrap_pred hi0 (by omega)]
   have hp:i-1<a.2.2.length:=by omega
   have hy:a.2.2[((i-1:Nat):Int).toNat]? =some a.2.2[i-1]:=by rw [show ((i-1:Nat):Int).toNat=i-1 by omega];exact dZ hp
   refine (dY (by omega)).trans ((ix_some hy _).trans ((dY h0).trans ((ix_some hx' _).trans ?_)))
   have hg:(a.2.2[i-1]?).getD 0=a.2.2[i-1]:=by rw [dZ hp];rfl
   rw [hg];by_cases h3:a.2.2[i-1]>=x
   · refine (dY (yZ h3)).trans ?_
     rw [dY ⟨hi0,h3⟩];simp
   · refine (eY (by rw [vZ h3];decide)).trans ?_
     rw [eY (fun h=>h3 h.2),hw]
     exact ih
 · have hd:¬(decide ((i:Int)>0)==true)=true:=by rw [vZ (by omega)];decide
   refine (eY hd).trans ?_
   rw [eY (fun h=>hi0 h.1),hw]
   exact ih
theorem fiIsStream {k:Nat} (a:TSt) (hl:a.2.2.length<=549755813888) (hk:a.2.2.length+3<=k):FiIsStream k a=some (isSt a):=by
 obtain ⟨k,rfl⟩:=pred (d:=1) (show 2<=k by omega)
 refine (eiIsStream k a).trans ((bs (fiInRange _ _ _ (by omega))).trans ?_)
 unfold isSt;cases hA:inR a.1 0 10000 with
 | false=>rfl
 | true=>
 refine (dY rfl).trans ((bs (fiInRange _ _ _ (by omega))).trans ?_)
 cases hB:inR a.2.1 0 10000 with
 | false=>rfl
 | true=>
 refine (dY rfl).trans ?_
 by_cases hL:(a.2.2.length:Int)>20
 · refine (dY (yZ hL)).trans ?_
   rw [vZ (show ¬(a.2.2.length:Int)<=20 by omega)];rfl
 refine (eY (by rw [vZ hL];decide)).trans ?_
 rw [yZ (show (a.2.2.length:Int)<=20 by omega)]
 refine (row_i (L:=LiIsStream_0 k _ _ _ _ _) (a:=a.2.2) (fun i l=>some (chk a.2.2 a.2.1 i l)) (fun _ _=>rfl) (by omega) rfl (fun n i x r h0 ht hw hi hx ih=> ?_) (by omega)).trans rfl
 rw [chk_cons];show (if ((decide (x<=a.2.1))==false)=true then _ else _)=_
 by_cases h1:x<=a.2.1
 · rw [eY (by rw [yZ h1];decide),dY h1]
 rw [dY (by rw [vZ h1];rfl),eY h1]
 by_cases h2:x>9999
 · refine (eY (by rw [yZ h2];decide)).trans ?_
   rw [dY h2]
 refine (dY (by rw [vZ h2];rfl)).trans ?_
 rw [eY h2];by_cases hi0:0<i
 · have hd:(decide ((i:Int)>0)==true)=true:=by rw [yZ (by omega)];rfl
   refine (dY hd).trans ?_
   rw [wrap_pred hi0 (by omega)]
   have hp:i-1<a.2.2.length:=by omega
   have hy:a.2.2[((i-1:Nat):Int).toNat]? =some a.2.2[i-1]:=by rw [show ((i-1:Nat):Int).toNat=i-1 by omega];exact dZ hp
   refine (dY (by omega)).trans ((ix_some hy _).trans ?_)
   have hg:(a.2.2[i-1]?).getD 0=a.2.2[i-1]:=by rw [dZ hp];rfl
   rw [hg];by_cases h3:a.2.2[i-1]>=x
   · refine (dY (yZ h3)).trans ?_
     rw [dY ⟨hi0,h3⟩]
   · refine (eY (by rw [vZ (show ¬x<=a.2.2[i-1] from h3)];decide)).trans ?_
     rw [eY (fun h=>h3 h.2),hw]
     exact ih
 · have hd:¬(decide ((i:Int)>0)==true)=true:=by rw [vZ (by omega)];decide
   refine (eY hd).trans ?_
   rw [eY (fun h=>hi0 h.1),hw]
   exact ih
theorem inR_true {n a b:Int} (h:inR n a b=true):a<=n/\n<=b:=by
 unfold inR at h;simpa [sZ] using h
def offOk (p:TProgram) (x:Int):Bool:=inR p.2.2.1 0 5&&inR x (-p.2.2.1) p.2.2.1
theorem neg_wrap {n:Int} (h:inR n 0 5=true):IntKind.i64.wrap (0-n)= -n:=by
 obtain ⟨a,b⟩:=inR_true h;rw [wrap_id (by omega) (by omega)]
 omega
theorem fsAreOffsets {k:Nat} (p:TProgram) (l:List Int) (hl:l.length<=549755813888) (hk:l.length+3<=k):FsAreOffsets k p l=some (l.all (offOk p)&&((l.length:Int)==p.1)):=by
  obtain ⟨k,rfl⟩:=pred (d:=0) (show 1<=k by omega)
  refine (esAreOffsets k p l).trans ?_
  have h1:∀(q:Nat),1<=q->Fsl1In q p.2.2.1 0 5=some (inR p.2.2.1 0 5):=fun q hq=>fsl1In _ _ _ hq
  cases hI:inR p.2.2.1 0 5 with
  | false=>
    obtain ⟨k,rfl⟩:=pred (d:=0) (show 1<=k by omega)
    rw [hI] at h1;cases l with
    | nil=>rfl
    | cons x r=>
      refine (dY (show decide ((0:Int)<((x::r).length:Int))=true by simp)).trans ((bs (h1 (k+1) (by omega))).trans ?_)
      simp [offOk,hI]
  | true=>
    rw [hI] at h1;refine row_i (L:=LsAreOffsets_0 k (fun (v0:Int) (p1:Bool) (x2:Int) (p3:Bool)=>some false) (fun (v0:Int) (p1:Bool)=>some false) (fun (v0:Int)=>some ((l.length:Int)==p.1)) (l,p)) (a:=l) (X:=fun _=>some ((l.length:Int)==p.1)) (body:=fun n i x2=>(Fsl1In k x2 (IntKind.i64.wrap (0-p.2.2.1)) p.2.2.1).bind fun p3=>if (!p3)=true then some false else LsAreOffsets_0 k (fun (v0:Int) (p1:Bool) (x2:Int) (p3:Bool)=>some false) (fun (v0:Int) (p1:Bool)=>some false) (fun (v0:Int)=>some ((l.length:Int)==p.1)) (l,p) n (IntKind.i64.wrap (i+1))) (fun _ r=>some (r.all (offOk p)&&((l.length:Int)==p.1))) (fun n i=> ?_) (by omega) rfl (fun n i x r h0 ht hw hi hx ih=> ?_) (by omega)
    · show (if decide (i<(l.length:Int))=true then (Fsl1In k p.2.2.1 0 5).bind _ else _)=_
      rw [h1 k (by omega)]
      rfl
    · rw [neg_wrap hI,fsl1In _ _ _ (by omega),rZ,hw,ih,List.all_cons]
      unfold offOk;rw [hI];cases inR x (-p.2.2.1) p.2.2.1<;>rfl
theorem fiAreOffsets {k:Nat} (p:TProgram) (l:List Int) (hl:l.length<=549755813888) (hk:l.length+3<=k):FiAreOffsets k p l=some (l.all (offOk p)&&((l.length:Int)==p.1)):=by
  obtain ⟨k,rfl⟩:=pred (d:=0) (show 1<=k by omega)
  refine (eiAreOffsets k p l).trans ?_
  cases hn:((l.length:Int)==p.1) with
  | false=>rw [dY (by simp only [bne,hn];rfl)];simp
  | true=>
    rw [eY (by simp only [bne,hn];decide),Bool.and_true]
    refine row_i (L:=LiAreOffsets_0 k (fun (v0:Int) (x1:Int) (p2:Bool) (p3:Bool)=>some false) (fun (v0:Int) (x1:Int) (p2:Bool)=>some false) (fun (v0:Int)=>some true) (l,(l.length:Int),p)) (a:=l) (fun _ r=>some (r.all (offOk p))) (fun _ _=>rfl) (by omega) rfl (fun n i x r h0 ht hw hi hx ih=> ?_) (by omega)
    refine (bs (fiInRange _ _ _ (by omega))).trans ?_
    dsimp only;rw [List.all_cons];unfold offOk at ih ⊢;cases hI:inR p.2.2.1 0 5 with
    | false=>rfl
    | true=>
      rw [dY (by decide),neg_wrap hI,fiInRange _ _ _ (by omega),rZ,hw,ih,hI]
      cases inR x (-p.2.2.1) p.2.2.1<;>rfl
instance decT:DecidableEq (Int×(List Int)×List Int):=inferInstance
instance decTs:DecidableEq (List (Int×(List Int)×List Int)):=inferInstance
theorem if1 {a b:Int} {o e:Option Bool} {Q:Prop} [Decidable Q] (h:o=some (decide Q)) (he:e=some false):(if ((a==b)==true)=true then o else e)=some (decide (a=b/\Q)):=by
 by_cases hab:a=b
 · rw [dY (by simp [hab]),h];simp [hab]
 · rw [eY (by simp [hab]),he];simp [hab]
theorem ifd {P Q:Prop} [Decidable P] [Decidable Q] {o e:Option Bool} (h:o=some (decide Q)) (he:e=some false):(if (decide P==true)=true then o else e)=some (decide (P/\Q)):=by
 by_cases hab:P
 · rw [dY (by simp [hab]),h];simp [hab]
 · rw [eY (by simp [hab]),he];simp [hab]
theorem lenN {α:Type} [DecidableEq α] {x y:List α} (h:¬x.length=y.length):some false=some (decide (x=y)):=by
 congr 1
 exact (vZ fun e=>h (by rw [e])).symm
theorem ite_dec {α:Type} [DecidableEq α] {x y:List α}:(if x=y then some true else some false)=some (decide (x=y)):=by by_cases e:x=y<;>simp [e]
theorem fgEqual_int {k:Nat} (x y:List (Int)) (hl:x.length<=549755813888) (hk:x.length+2<=k):FgEqual_int k x y=some (decide (x=y)):=by
 obtain ⟨k,rfl⟩:=pred (d:=0) (show 1<=k by omega)
 refine (egEqual_int k x y).trans ?_
 by_cases h:x.length=y.length
 · rw [eY (by simp [h])]
   refine (eq_loop (L:=LgEqual_int_0 k _ _ _) (x:=x) (y:=y) (Y:=some true) (N:=some false) (fun _ _=>rfl) rfl (fun n i a b ha hb hw=> ?_) h (by omega) (by omega)).trans ite_dec
   show (if (a !=b)=true then some false else _)=_
   rw [hw];by_cases e:a=b<;>simp [e]
 · rw [dY (by simp;omega)]
   exact lenN h
theorem fsEqualInts {k:Nat} (x y:List (Int)) (hl:x.length<=549755813888) (hk:x.length+2<=k):FsEqualInts k x y=some (decide (x=y)):=by
 obtain ⟨k,rfl⟩:=pred (d:=0) (show 1<=k by omega)
 refine (esEqualInts k x y).trans ?_
 by_cases h:x.length=y.length
 · rw [eY (by simp [h])]
   refine (eq_loop (L:=LsEqualInts_0 k _ _ _) (x:=x) (y:=y) (Y:=some true) (N:=some false) (fun _ _=>rfl) rfl (fun n i a b ha hb hw=> ?_) h (by omega) (by omega)).trans ite_dec
   show (if (a !=b)=true then some false else _)=_
   rw [hw];by_cases e:a=b<;>simp [e]
 · rw [dY (by simp;omega)]
   exact lenN h
theorem fiEqualTables {k N:Nat} (x y:Int×(List Int)×List Int) (hr:rowsLe N sTable x) (hN:N<=549755813888) (hk:N+3<=k):FiEqualTables k x y=some (decide (x=y)):=by
 obtain ⟨k,rfl⟩:=pred (d:=0) (show 1<=k by omega)
 have h1:x.2.1.length<=N:=(rowsLe_row (e:=0) (sh:= .i .i64) hr.2.1).1;have h2:x.2.2.length<=N:=(rowsLe_row (e:=0) (sh:= .i .i64) hr.2.2).1;refine (eiEqualTables k x y).trans ((if1 (Q:=x.2.1=y.2.1/\x.2.2=y.2.2) ((bs (fgEqual_int x.2.1 y.2.1 (by omega) (by omega))).trans (ifd ((bs (fgEqual_int x.2.2 y.2.2 (by omega) (by omega))).trans rfl) rfl)) rfl).trans ?_)
 simp only [Prod.ext_iff]
theorem fsEqualTables {k N:Nat} (x y:Int×(List Int)×List Int) (hr:rowsLe N sTable x) (hN:N<=549755813888) (hk:N+3<=k):FsEqualTables k x y=some (decide (x=y)):=by
 obtain ⟨k,rfl⟩:=pred (d:=0) (show 1<=k by omega)
 have h1:x.2.1.length<=N:=(rowsLe_row (e:=0) (sh:= .i .i64) hr.2.1).1;have h2:x.2.2.length<=N:=(rowsLe_row (e:=0) (sh:= .i .i64) hr.2.2).1;refine (esEqualTables k x y).trans ((if1 (Q:=x.2.1=y.2.1/\x.2.2=y.2.2) ((bs (fsEqualInts x.2.1 y.2.1 (by omega) (by omega))).trans (ifd ((bs (fsEqualInts x.2.2 y.2.2 (by omega) (by omega))).trans rfl) rfl)) rfl).trans ?_)
 simp only [Prod.ext_iff]
theorem fgEqualFunc_Tablev_iEqualTables {k N:Nat} (x y:List (Int×(List Int)×List Int)) (hr:rowsLe N (.l 0 sTable) x) (hN:N<=549755813888) (hk:N+5<=k):FgEqualFunc_Tablev_iEqualTables k x y=some (decide (x=y)):=by
 obtain ⟨k,rfl⟩:=pred (d:=0) (show 1<=k by omega)
 obtain ⟨hl',hx⟩:=rowsLe_row hr;have hl:x.length<=N:=hl';refine (egEqualFunc_Tablev_iEqualTables k x y).trans ?_
 by_cases h:x.length=y.length
 · rw [eY (by simp [h])]
   refine (eq_loop (L:=LgEqualFunc_Tablev_iEqualTables_0 k _ _ _) (x:=x) (y:=y) (Y:=some true) (N:=some false) (fun _ _=>rfl) rfl (fun n i a b ha hb hw=> ?_) h (by omega) (by omega)).trans ite_dec
   refine (bs (fiEqualTables a b (hx _ (iZ ha)) hN (by omega))).trans ?_
   show (if (!(decide (a=b)))=true then some false else _)=_
   rw [hw];by_cases e:a=b<;>simp [e]
 · rw [dY (by simp;omega)]
   exact lenN h
theorem getD_at {l:List Int} {i:Nat} (h:i<l.length):(l[i]?).getD 0=l[i]:=by rw [dZ h];rfl
def bump1 (n x:Int) (s:List Int×List Int) (y:Int):List Int×List Int:=if isIdx y n=true/\(s.1[y.toNat]?).getD 0<0 then (s.1.set y.toNat (IntKind.i64.wrap ((s.1[x.toNat]?).getD 0+1)),s.2++[y]) else s
theorem bump1_len (n x:Int) (s:List Int×List Int) (y:Int):(bump1 n x s y).1.length=s.1.length/\(bump1 n x s y).2.length<=s.2.length+1:=by
 unfold bump1;split<;>simp
theorem bump1_app (n x:Int) (d p q:List Int) (y:Int):bump1 n x (d,p++q) y=((bump1 n x (d,q) y).1,p++(bump1 n x (d,q) y).2):=by
 unfold bump1;split<;>simp
theorem bumps_app (n x:Int):∀(ns d p q:List Int),ns.foldl (bump1 n x) (d,p++q)=((ns.foldl (bump1 n x) (d,q)).1,p++(ns.foldl (bump1 n x) (d,q)).2)
 | [],_,_,_=>rfl
 | y::r,d,p,q=>by rw [List.foldl_cons,List.foldl_cons,bump1_app,bumps_app n x r]
theorem bumps_app0 (n x:Int) (ns d p:List Int):ns.foldl (bump1 n x) (d,p)=((ns.foldl (bump1 n x) (d,[])).1,p++(ns.foldl (bump1 n x) (d,[])).2):=by
 have:=bumps_app n x ns d p []
 simpa using this
theorem bumps_len (n x:Int):∀(ns:List Int) (s:List Int×List Int),(ns.foldl (bump1 n x) s).1.length=s.1.length/\(ns.foldl (bump1 n x) s).2.length<=s.2.length+ns.length
  | [],s=>⟨rfl,cY _⟩
  | y::r,s=>by
    have h1:=bump1_len n x s y;have h2:=bumps_len n x r (bump1 n x s y);rw [List.foldl_cons,List.length_cons];omega
theorem rowO0 {V S α R:Type} {L:Nat->V->Option R} {X:S->Int->Option R} {a:List α} (mk:S->Int->V) {body:Nat->S->Int->α->Option R} (res:S->Nat->List α->Option R) (I:S->Nat->Prop)
 (hs:∀n s i,L (n+1) (mk s i)=if decide (i<(a.length:Int))=true then if 0<=i then if i<(a.length:Int) then ix a i.toNat (body n s i) else none else none else X s i)
 (hl:a.length<=140737488351232) (he:∀s,I s a.length->X s (a.length:Int)=res s a.length [])
 (hb:∀n (i:Nat) s x r,I s i->(0:Int)<=(i:Int)->(i:Int).toNat=i->IntKind.i64.wrap ((i:Int)+1)=((i+1:Nat):Int)->i<a.length->a[i]? =some x->(∀s',I s' (i+1)->L n (mk s' ((i+1:Nat):Int))=res s' (i+1) r)->body n s (i:Int) x=res s i (x::r))
 {n:Nat} (hn:a.length<n) (s:S) (hI:I s 0):L n (mk s 0)=res s 0 a:=row_inv0 mk res I (fun n s i=>(hs n s i).trans (own_if _ _ _ _)) hl he hb hn s hI
theorem iDist2 {R:Type} {k n:Nat} (X:ViDistancesTo_2->Option R) (g:List (Int×Int)) (f t x a b:Int) (ns d q:List Int) (hx:0<=x) (hxd:x.toNat<d.length) (hn:d.length=n) (hd:n<=549755813888) (hl:ns.length<=549755813888) (hq:q.length<=4194304000000) (hk:ns.length+1<k):
    LiDistancesTo_2 k X (g,(n:Int),f,t,x,a,b,(ns.length:Int),ns) k (0,d,q)=X ((ns.length:Int),ns.foldl (bump1 n x) (d,q)):=by
  refine rowO0 (L:=LiDistancesTo_2 k X (g,(n:Int),f,t,x,a,b,(ns.length:Int),ns)) (a:=ns) (fun (s:List Int×List Int) i=>(i,s.1,s.2)) (X:=fun s i=>X (i,s.1,s.2)) (fun s i r=>X ((ns.length:Int),r.foldl (bump1 n x) s)) (fun s i=>s.1.length=n/\s.2.length<=q.length+i) (fun _ _ _=>rfl) (by omega) (fun s _=>rfl) (fun m i s y r hI h0 ht hw hi hy ih=> ?_) (by omega) (d,q) ⟨hn,by simp⟩
  obtain ⟨s1,s2⟩:=s;obtain ⟨I1,I2⟩:=hI;dsimp only at I1 I2 ⊢;rw [List.foldl_cons,fiisIndex _ _ (by omega),rZ,hw]
  have hb:=bump1_len n x (s1,s2) y;dsimp only at hb;rw [<-ih (bump1 n x (s1,s2) y) ⟨by omega,by omega⟩]
  unfold bump1;dsimp only;cases h:isIdx y (n:Int) with
  | false=>rw [eY (by decide),eY (by simp)]
  | true=>
    obtain ⟨g0,g1⟩:=isIdx_pos h;have g2:y.toNat<s1.length:=by omega
    rw [dY (by decide),dY g0,dY (by omega),ix_at g2,getD_at g2]
    by_cases hneg:s1[y.toNat]<0
    · have g3:x.toNat<s1.length:=by omega
      rw [dY (by simpa using hneg),dY (show true=true/\s1[y.toNat]<0 from ⟨rfl,hneg⟩),dY hx,dY (by omega),ix_at g3,dY g0,dY (by omega),ix_at g2,getD_at g3,dY (by simp;omega)]
    · rw [eY (by simpa using hneg),eY (show ¬(true=true/\s1[y.toNat]<0) from fun h=>hneg h.2)]
theorem sDist2 {R:Type} {k n:Nat} (X:VsDistancesTo_2->Option R) (g:List (Int×Int)) (f t a b x:Int) (ns d q:List Int) (hx:0<=x) (hxd:x.toNat<d.length) (hn:d.length=n) (hd:n<=549755813888) (hl:ns.length<=549755813888) (hq:q.length<=4194304000000) (hk:ns.length+1<k):
    LsDistancesTo_2 k X (g,(n:Int),f,t,a,b,x,ns) k (0,d,q)=X ((ns.length:Int),ns.foldl (bump1 n x) (d,q)):=by
  refine rowO0 (L:=LsDistancesTo_2 k X (g,(n:Int),f,t,a,b,x,ns)) (a:=ns) (fun (s:List Int×List Int) i=>(i,s.1,s.2)) (X:=fun s i=>X (i,s.1,s.2)) (fun s i r=>X ((ns.length:Int),r.foldl (bump1 n x) s)) (fun s i=>s.1.length=n/\s.2.length<=q.length+i) (fun _ _ _=>rfl) (by omega) (fun s _=>rfl) (fun m i s y r hI h0 ht hw hi hy ih=> ?_) (by omega) (d,q) ⟨hn,by simp⟩
  obtain ⟨s1,s2⟩:=s;obtain ⟨I1,I2⟩:=hI;dsimp only at I1 I2 ⊢;have hy':ns[(i:Int).toNat]? =some y:=by rw [ht];exact hy
  have hil:(i:Int)<(ns.length:Int):=by omega
  rw [List.foldl_cons,fsl1In _ _ _ (by omega),inR_last _ (by omega),rZ,hw]
  have hb:=bump1_len n x (s1,s2) y;dsimp only at hb;rw [<-ih (bump1 n x (s1,s2) y) ⟨by omega,by omega⟩]
  unfold bump1;dsimp only;cases h:isIdx y (n:Int) with
  | false=>rw [eY (by decide),eY (by simp)]
  | true=>
    obtain ⟨g0,g1⟩:=isIdx_pos h;have g2:y.toNat<s1.length:=by omega
    rw [dY (by decide),dY h0,dY hil,ix_some hy',dY g0,dY (by omega),ix_at g2,getD_at g2]
    by_cases hneg:s1[y.toNat]<0
    · have g3:x.toNat<s1.length:=by omega
      rw [dY (by simpa using hneg),dY (show true=true/\s1[y.toNat]<0 from ⟨rfl,hneg⟩),dY h0,dY hil,ix_some hy',dY hx,dY (by omega),ix_at g3,dY g0,dY (by omega),ix_at g2,dY h0,dY hil,ix_some hy',getD_at g3,dY (by simp;omega)]
    · rw [eY (by simpa using hneg),eY (show ¬(true=true/\s1[y.toNat]<0) from fun h=>hneg h.2)]
/-- How many are not reached yet. -/
def negs (d:List Int):Nat:=d.countP fun v=>decide (v<0)
theorem negs_set:∀(d:List Int) (i:Nat) (h:i<d.length) (v:Int),d[i]<0->0<=v->negs (d.set i v)+1=negs d
  | x::r,0,h,v,h1,h2=>by
    simp only [List.getElem_cons_zero] at h1;unfold negs;rw [List.set_cons_zero,List.countP_cons,List.countP_cons,eY (by simp;omega),dY (by simpa using h1)]
  | x::r,i+1,h,v,h1,h2=>by
    simp only [List.getElem_cons_succ] at h1
    have:=negs_set r i (by simpa using h) v h1 h2
    unfold negs at this ⊢;rw [List.set_cons_succ,List.countP_cons,List.countP_cons];omega
theorem negs_le (d:List Int):negs d<=d.length:=List.countP_le_length
/-- Whom one goes on from is reached; no distance is great. -/
structure Good (d o:List Int):Prop where
 at_:∀x ∈ o,0<=x/\∃v,d[x.toNat]? =some v/\0<=v
 le:∀v ∈ d,v+(negs d:Int)<=2000000000000
theorem Good.bump {n x:Int} {s:List Int×List Int} {y:Int} {o:List Int} (hn:(s.1.length:Int)=n) (G:Good s.1 (o++s.2)) (hx:x ∈ o):Good (bump1 n x s y).1 (o++(bump1 n x s y).2)/\negs (bump1 n x s y).1+(bump1 n x s y).2.length=negs s.1+s.2.length:=by
 obtain ⟨d,q⟩:=s;dsimp only at hn G;unfold bump1;dsimp only;split
 · rename_i h;obtain ⟨h1,h2⟩:=h;obtain ⟨g0,g1⟩:=isIdx_pos (hn▸h1);rw [getD_at g1] at h2;obtain ⟨x0,v,hv,hv0⟩:=G.at_ x (gZ _ hx);have hd:(d[x.toNat]?).getD 0=v:=by rw [hv];rfl
   have hvm:v ∈ d:=iZ hv;have hle:=G.le v hvm;rw [hd,wrap_id (by omega) (by omega)]
   have hneg:=negs_set d y.toNat g1 (v+1) h2 (by omega)
   refine ⟨⟨fun z hz=> ?_,fun w hw=> ?_⟩,?_⟩
   · rw [<-List.append_assoc] at hz;rcases wZ.1 hz with hz | hz
     · obtain ⟨z0,u,hu,hu0⟩:=G.at_ z hz;refine ⟨z0,u,?_,hu0⟩
       rw [List.getElem?_set_ne]
       · exact hu
       · intro e;rw [<-e,dZ g1] at hu
         have:=xZ hu
         omega
     · simp only [kZ] at hz;subst hz;exact ⟨g0,v+1,by rw [List.getElem?_set_self g1],by omega⟩
   · show w+((negs (d.set y.toNat (v+1)):Nat):Int)<=2000000000000
     rcases List.mem_or_eq_of_mem_set hw with hw | hw
     · have:=G.le w hw
       omega
     · omega
   · simp only [List.length_append,List.length_singleton];omega
 · exact ⟨G,rfl⟩
theorem Good.bumps {n x:Int} {o:List Int} (hx:x ∈ o):∀(ns:List Int) (s:List Int×List Int),(s.1.length:Int)=n->Good s.1 (o++s.2)->Good (ns.foldl (bump1 n x) s).1 (o++(ns.foldl (bump1 n x) s).2)/\negs (ns.foldl (bump1 n x) s).1+(ns.foldl (bump1 n x) s).2.length=negs s.1+s.2.length
  | [],s,_,G=>⟨G,rfl⟩
  | y::r,s,hn,G=>by
    obtain ⟨G1,e1⟩:=Good.bump (y:=y) hn G hx;obtain ⟨G2,e2⟩:=Good.bumps (n:=n) hx r (bump1 n x s y) (by have:=(bump1_len n x s y).1;omega) G1
    exact ⟨G2,by rw [List.foldl_cons];omega⟩
/-- From node to node, as long as there are any. -/
def bfs (g:List (Int×Int)) (n f t:Int):Nat->List Int->List Int->List Int
 | 0,d,_=>d
 | _+1,d,[]=>d
 | m+1,d,x::o=>if x≠t/\x>=f then bfs g n f t m d o else bfs g n f t m ((nb g x).foldl (bump1 n x) (d,[])).1 (o++((nb g x).foldl (bump1 n x) (d,[])).2)
theorem Good.step {g:List (Int×Int)} {n x:Int} {d o:List Int} (hn:(d.length:Int)=n) (G:Good d (x::o)):Good ((nb g x).foldl (bump1 n x) (d,[])).1 (o++((nb g x).foldl (bump1 n x) (d,[])).2)/\negs ((nb g x).foldl (bump1 n x) (d,[])).1+((nb g x).foldl (bump1 n x) (d,[])).2.length=negs d:=by
 obtain ⟨G1,e1⟩:=Good.bumps (n:=n) (x:=x) (o:=x::o) (by simp) (nb g x) (d,[]) hn (by simpa using G)
 exact ⟨⟨fun z hz=>G1.at_ z (by simpa using .inr (wZ.1 hz)),G1.le⟩,by simpa using e1⟩
theorem Good.tail {x:Int} {d o:List Int} (G:Good d (x::o)):Good d o:=⟨fun z hz=>G.at_ z (fZ _ hz),G.le⟩
theorem bfs_len (g:List (Int×Int)) (n f t:Int):∀(m:Nat) (d o:List Int),(bfs g n f t m d o).length=d.length
  | 0,_,_=>rfl
  | _+1,_,[]=>rfl
  | m+1,d,x::o=>by
    unfold bfs;split
    · exact bfs_len g n f t m d o
    · rw [bfs_len g n f t m];exact (bumps_len n x _ _).1
theorem iDist1 {k n:Nat} (g:List (Int×Int)) (f t b c:Int) (hd:n<=549755813888) (hg:g.length<=549755813888) (hk:g.length+8<k):∀(m q:Nat) (d o:List Int),m<=2000000000000->d.length=n->Good d o->o.length+negs d<=m->m<q->LiDistancesTo_1 k (fun v1=>some v1.1) (g,(n:Int),f,t,b,c) q (d,o)=some (bfs g n f t m d o)
  | m,q+1,d,[],hm0,hn,G,hm,hq=>by
    cases m<;>rfl
  | 0,q+1,d,x::o,hm0,hn,G,hm,hq=>by simp at hm
  | m+1,q+1,d,x::o,hm0,hn,G,hm,hq=>by
    have hmlen:o.length+negs d<=m:=by simp only [List.length_cons] at hm;omega
    have hneg:=negs_le d;have G1:=G.step (g:=g) (n:=(n:Int)) (by omega)
    obtain ⟨x0,v,hv,_⟩:=G.at_ x (by simp)
    have hxd:x.toNat<d.length:=by
      rcases Nat.lt_or_ge x.toNat d.length with h | h
      · exact h
      · rw [List.getElem?_eq_none h] at hv;cases hv
    have hnl:=nb_len g x;have htl:∀(p:List Int),((x::o++p).take (((x::o++p).length:Int).toNat)).drop ((1:Int).toNat)=o++p:=fun p=>by
      rw [Int.toNat_natCast,List.take_length];rfl
    have hrec:∀(z:Int),(FiNeighborsIn k g x).bind (fun p=>LiDistancesTo_2 k (fun v2=>if 1<=(v2.2.2.length:Int) then if (v2.2.2.length:Int)<=(v2.2.2.length:Int) then LiDistancesTo_1 k (fun v1=>some v1.1) (g,(n:Int),f,t,b,c) q (v2.2.1,(v2.2.2.take ((v2.2.2.length:Int).toNat)).drop ((1:Int).toNat)) else none else none) (g,(n:Int),f,t,x,b,c,(p.length:Int),p) k (0,d,x::o))=some (bfs g n f t m ((nb g x).foldl (bump1 n x) (d,[])).1 (o++((nb g x).foldl (bump1 n x) (d,[])).2)):=fun z=>by
      rw [bs (fiNeighborsIn g x hg (by omega)),iDist2 _ g f t x b c (nb g x) d (x::o) x0 hxd hn hd (by omega) (by simp only [List.length_cons];omega) (by omega),bumps_app0]
      dsimp only;rw [dY (by simp;omega),dY (Int.le_refl _),htl]
      exact iDist1 g f t b c hd hg hk m q _ _ (by omega) (by rw [(bumps_len n x _ _).1];exact hn) G1.1 (by rw [List.length_append];omega) (by omega)
    show (if decide ((((x::o):List Int).length:Int)>0)=true then if 0<(((x::o):List Int).length:Int) then ix (x::o) ((0:Int).toNat) (fun x4=>if ((x4 !=t)==true)=true then if decide (x4>=f)=true then _ else _ else _) else none else _)=_
    rw [dY (by simp only [List.length_cons,pZ];omega),dY (by simp only [List.length_cons];omega),show (0:Int).toNat=0 from rfl,ix_at (xs:=x::o) (n:=0) (by simp),List.getElem_cons_zero]
    unfold bfs;by_cases h1:x=t
    · rw [eY (by simp [h1]),eY (show ¬(x≠t/\x>=f) from fun h=>h.1 h1)]
      exact hrec 0
    · rw [dY (by simp [h1])]
      by_cases h2:x>=f
      · rw [dY (yZ h2),dY (show x≠t/\x>=f from ⟨h1,h2⟩)]
        dsimp only;rw [dY (by simp only [List.length_cons];omega),dY (Int.le_refl _)]
        have:=htl []
        rw [List.append_nil,List.append_nil] at this;rw [this];exact iDist1 g f t b c hd hg hk m q d o (by omega) hn G.tail hmlen (by omega)
      · rw [eY (by simpa using h2),eY (show ¬(x≠t/\x>=f) from fun h=>h2 h.2)]
        exact hrec 0
theorem sDist1 {k n:Nat} (g:List (Int×Int)) (f t b:Int) (hd:n<=549755813888) (hg:g.length<=549755813888) (hk:g.length+8<k):∀(m q i:Nat) (d w o:List Int),w.drop i=o->i<=w.length->w.length<=2*549755813888-negs d->d.length=n->Good d o->o.length+negs d<=m->m<q->LsDistancesTo_1 k (fun v1=>some v1.2.1) (g,(n:Int),f,t,b) q ((i:Int),d,w)=some (bfs g n f t m d o)
  | m,q+1,i,d,w,[],ho,hi,hw,hn,G,hm,hq=>by
    have:i=w.length:=by have:=congrArg List.length ho;simp at this;omega
    subst this;show (if decide ((w.length:Int)<(w.length:Int))=true then _ else _)=_
    rw [eY (by simp)]
    cases m<;>rfl
  | 0,q+1,i,d,w,x::o,ho,hi,hw,hn,G,hm,hq=>by simp at hm
  | m+1,q+1,i,d,w,x::o,ho,hi,hw,hn,G,hm,hq=>by
    have hmlen:o.length+negs d<=m:=by simp only [List.length_cons] at hm;omega
    have hneg:=negs_le d;have G1:=G.step (g:=g) (n:=(n:Int)) (by omega)
    obtain ⟨x0,v,hv,_⟩:=G.at_ x (by simp)
    have hxd:x.toNat<d.length:=by
      rcases Nat.lt_or_ge x.toNat d.length with h | h
      · exact h
      · rw [List.getElem?_eq_none h] at hv;cases hv
    have hnl:=nb_len g x;have hlt:i<w.length:=by
      rcases Nat.lt_or_ge i w.length with h | h
      · exact h
      · rw [List.drop_eq_nil_of_le h] at ho;cases ho
    have hwx:w[(i:Int).toNat]? =some x:=by
      have:=congrArg (·[0]?) ho
      simpa using this
    have hdr:w.drop (i+1)=o:=by rw [<-List.drop_drop,ho];rfl
    have hwi:IntKind.i64.wrap ((i:Int)+1)=((i+1:Nat):Int):=wrap_succ hlt (by omega)
    have hrec:(FsNeighborsIn k g x).bind (fun p=>LsDistancesTo_2 k (fun v2=>LsDistancesTo_1 k (fun v1=>some v1.2.1) (g,(n:Int),f,t,b) q (IntKind.i64.wrap ((i:Int)+1),v2.2.1,v2.2.2)) (g,(n:Int),f,t,b,(i:Int),x,p) k (0,d,w))=some (bfs g n f t m ((nb g x).foldl (bump1 n x) (d,[])).1 (o++((nb g x).foldl (bump1 n x) (d,[])).2)):=by
      rw [bs (fsNeighborsIn g x hg (by omega)),sDist2 _ g f t b (i:Int) x (nb g x) d w x0 hxd hn hd (by omega) (by omega) (by omega),bumps_app0,hwi]
      dsimp only;refine sDist1 g f t b hd hg hk m q (i+1) _ _ _ ?_ (by simp;omega) ?_ (by rw [(bumps_len n x _ _).1];exact hn) G1.1 (by rw [List.length_append];omega) (by omega)
      · rw [List.drop_append_of_le_length (by omega),hdr]
      · rw [List.length_append];omega
    show (if decide ((i:Int)<(w.length:Int))=true then if 0<=(i:Int) then if (i:Int)<(w.length:Int) then ix w (i:Int).toNat (fun x3=>if ((x3 !=t)==true)=true then if decide (x3>=f)=true then _ else _ else _) else none else none else _)=_
    rw [dY (by simp;omega),dY (by omega),dY (by omega),ix_some hwx]
    unfold bfs;by_cases h1:x=t
    · rw [eY (by simp [h1]),eY (show ¬(x≠t/\x>=f) from fun h=>h.1 h1)]
      exact hrec
    · rw [dY (by simp [h1])]
      by_cases h2:x>=f
      · rw [dY (yZ h2),dY (show x≠t/\x>=f from ⟨h1,h2⟩)]
        dsimp only;rw [hwi];exact sDist1 g f t b hd hg hk m q (i+1) d w o hdr (by omega) hw hn G.tail hmlen (by omega)
      · rw [eY (by simpa using h2),eY (show ¬(x≠t/\x>=f) from fun h=>h2 h.2)]
        exact hrec
theorem fillI {R:Type} {k n:Nat} (X:ViDistancesTo_0->Option R) (g:List (Int×Int)) (a f t:Int) (hd:n<=549755813888):∀(m q i:Nat),i+m=n->m<q->LiDistancesTo_0 k X (g,a,f,t,(n:Int)) q ((i:Int),List.replicate i (-1))=X ((n:Int),List.replicate n (-1))
  | 0,q+1,i,h,_=>by
    obtain rfl:i=n:=by omega
    show (if decide ((i:Int)<(i:Int))=true then _ else _)=_
    rw [eY (by simp)]
  | m+1,q+1,i,h,hq=>by
    show (if decide ((i:Int)<(n:Int))=true then if ((List.replicate i (-1:Int)).length+([(-1:Int)]).length)*8<=140737488355328 then LiDistancesTo_0 k X (g,a,f,t,(n:Int)) q (IntKind.i64.wrap ((i:Int)+1),List.replicate i (-1)++[-1]) else none else _)=_
    rw [dY (by simp;omega),dY (by simp;omega),wrap_succ (m:=n) (by omega) (by omega),<-List.replicate_succ']
    exact fillI X g a f t hd m q (i+1) (by omega) (by omega)
theorem fillS {R:Type} {k n:Nat} (X:VsDistancesTo_0->Option R) (g:List (Int×Int)) (f t:Int) (hd:n<=549755813888):∀(m q i:Nat),i+m=n->m<q->LsDistancesTo_0 k X (g,(n:Int),f,t) q ((i:Int),List.replicate i (-1))=X ((n:Int),List.replicate n (-1))
  | 0,q+1,i,h,_=>by
    obtain rfl:i=n:=by omega
    show (if decide ((i:Int)<(i:Int))=true then _ else _)=_
    rw [eY (by simp)]
  | m+1,q+1,i,h,hq=>by
    show (if decide ((i:Int)<(n:Int))=true then if ((List.replicate i (-1:Int)).length+([(-1:Int)]).length)*8<=140737488355328 then LsDistancesTo_0 k X (g,(n:Int),f,t) q (IntKind.i64.wrap ((i:Int)+1),List.replicate i (-1)++[-1]) else none else _)=_
    rw [dY (by simp;omega),dY (by simp;omega),wrap_succ (m:=n) (by omega) (by omega),<-List.replicate_succ']
    exact fillS X g f t hd m q (i+1) (by omega) (by omega)
/-- How far each node is from t; -1: not reached. -/
def dist (g:List (Int×Int)) (n f t:Int):List Int:=if inR n 1 12=true/\isIdx t n=true then bfs g n f t (n.toNat+2) ((List.replicate n.toNat (-1)).set t.toNat 0) [t] else []
theorem good0 {n t:Int} (h:isIdx t n=true) (hn:n<=549755813888):Good ((List.replicate n.toNat (-1)).set t.toNat 0) [t]:=by
 unfold isIdx at h;simp only [sZ,pZ] at h;have hlt:t.toNat<(List.replicate n.toNat (-1:Int)).length:=by simp;omega
 refine ⟨fun x hx=> ?_,fun v hv=> ?_⟩
 · simp only [kZ] at hx;subst hx;exact ⟨by omega,0,by rw [List.getElem?_set_self hlt],by omega⟩
 · have:=negs_le ((List.replicate n.toNat (-1:Int)).set t.toNat 0)
   rw [List.length_set,List.length_replicate] at this;rcases List.mem_or_eq_of_mem_set hv with hv | hv
   · have:=List.eq_of_mem_replicate hv
     omega
   · omega
theorem fiDistancesTo {k:Nat} (g:List (Int×Int)) (n f t:Int) (hg:g.length<=549755813888) (hk:g.length+30<=k):FiDistancesTo k g n f t=some (dist g n f t):=by
  obtain ⟨k,rfl⟩:=pred (d:=0) (show 1<=k by omega)
  rw [eiDistancesTo,fiisNumber _ (by omega),rZ]
  unfold dist;cases h1:inR n 1 12 with
  | false=>rw [eY (by decide),eY (by simp)]
  | true=>
    rw [dY (by decide),fiisIndex _ _ (by omega),rZ]
    cases h2:isIdx t n with
    | false=>rw [dY (by decide),eY (by simp)]
    | true=>
      have h1':=h1;unfold inR at h1';simp only [sZ,pZ] at h1';have G:=good0 h2 (by omega)
      unfold isIdx at h2;simp only [sZ,pZ] at h2;rw [eY (by decide),dY (show true=true/\true=true from ⟨rfl,rfl⟩)]
      obtain ⟨m,rfl⟩:∃m:Nat,n=(m:Int):=⟨n.toNat,by omega⟩
      rw [show ((0:Int),([]:List Int))=(((0:Nat):Int),List.replicate 0 (-1)) from rfl,fillI (n:=m) _ g (m:Int) f t (by omega) m k 0 (by omega) (by omega)]
      dsimp only;have hlt:t.toNat<(List.replicate m (-1:Int)).length:=by simp;omega
      rw [dY h2.1,dY (by simp;omega),ix_at hlt,show ((m:Int).toNat)=m by simp]
      rw [show ((m:Int).toNat)=m by simp] at G
      have hng:=negs_le ((List.replicate m (-1:Int)).set t.toNat 0);rw [List.length_set,List.length_replicate] at hng;exact iDist1 g f t (m:Int) (m:Int) (by omega) hg (by omega) (m+2) k _ [t] (by omega) (by simp) G (by simp;omega) (by omega)
theorem fsl14Ok {k:Nat} (n t:Int) (hk:2<=k):Fsl14Ok k n t=some (inR n 1 12&&inR t 0 (IntKind.i64.wrap (n-1))):=by
 obtain ⟨k,rfl⟩:=pred (d:=1) hk;rw [esl14Ok,fsl1In _ _ _ (by omega),rZ]
 cases inR n 1 12
 · rfl
 · rw [dY (by decide),fsl1In _ _ _ (by omega)]
   rfl
theorem fsDistancesTo {k:Nat} (g:List (Int×Int)) (n f t:Int) (hg:g.length<=549755813888) (hk:g.length+30<=k):FsDistancesTo k g n f t=some (dist g n f t):=by
  obtain ⟨k,rfl⟩:=pred (d:=0) (show 1<=k by omega)
  rw [esDistancesTo,fsl14Ok _ _ (by omega),rZ]
  unfold dist;cases h1:inR n 1 12 with
  | false=>rw [dY (by simp),eY (by simp)]
  | true=>
    have h1':=h1;unfold inR at h1';simp only [sZ,pZ] at h1';obtain ⟨m,rfl⟩:∃m:Nat,n=(m:Int):=⟨n.toNat,by omega⟩
    rw [inR_last _ (by omega)]
    cases h2:isIdx t (m:Int) with
    | false=>rw [dY (by decide),eY (by simp)]
    | true=>
      have G:=good0 h2 (by omega)
      unfold isIdx at h2;simp only [sZ,pZ] at h2;rw [eY (by decide),dY (show true=true/\true=true from ⟨rfl,rfl⟩)]
      rw [show ((0:Int),([]:List Int))=(((0:Nat):Int),List.replicate 0 (-1)) from rfl,fillS (n:=m) _ g f t (by omega) m k 0 (by omega) (by omega)]
      dsimp only;have hlt:t.toNat<(List.replicate m (-1:Int)).length:=by simp;omega
      rw [dY h2.1,dY (by simp;omega),ix_at hlt,show ((m:Int).toNat)=m by simp]
      rw [show ((m:Int).toNat)=m by simp] at G
      have hng:=negs_le ((List.replicate m (-1:Int)).set t.toNat 0);rw [List.length_set,List.length_replicate] at hng;exact sDist1 g f t (m:Int) (by omega) hg (by omega) (m+2) k 0 _ [t] [t] rfl (by simp) (by simp;omega) (by simp) G (by simp;omega) (by omega)
theorem dist_len (g:List (Int×Int)) (n f t:Int):(dist g n f t).length<=12/\(dist g n f t=[]\/((dist g n f t).length:Int)=n/\inR n 1 12=true/\isIdx t n=true):=by
 unfold dist;split
 · rename_i h;have h1:=h.1;unfold inR at h1;simp only [sZ,pZ] at h1;rw [bfs_len,List.length_set,List.length_replicate];exact ⟨by omega,.inr ⟨by omega,h.1,h.2⟩⟩
 · exact ⟨by simp,.inl rfl⟩
def okN (n f t d:Int) (ds:List Int) (y:Int):Bool:=isIdx y n&&((decide (y<f) || y==t)&&(ds[y.toNat]?).getD 0==IntKind.i64.wrap (d-1))
def nx (n f t d:Int) (ds:List Int):List Int->Int
 | []=> -1
 | y::r=>if okN n f t d ds y=true then y else nx n f t d ds r
theorem iNext1 {R:Type} {k n:Nat} (X:ViNextTo_1->Option R) (g:List (Int×Int)) (f t d a b:Int) (o ds ns:List Int) (hn:ds.length=n) (hd:n<=549755813888) (hl:ns.length<=549755813888) (hk:ns.length+1<k):
    LiNextTo_1 k X (g,(n:Int),f,t,d,a,b,(ns.length:Int),o,ds,ns) k (-1,0)=X (if d>0 then nx n f t d ds ns else -1,(ns.length:Int)):=by
  refine (rowO0 (L:=LiNextTo_1 k X (g,(n:Int),f,t,d,a,b,(ns.length:Int),o,ds,ns)) (a:=ns) (fun (s:Int) i=>(s,i)) (X:=fun s i=>X (s,i)) (fun s i r=>X (if s<0 then (if d>0 then nx n f t d ds r else s) else s,(ns.length:Int))) (fun s i=>s<0->s= -1) (fun _ _ _=>rfl) (by omega) (fun s hs=> ?_) (fun m i s y r hI h0 ht hw hi hy ih=> ?_) (by omega) (-1) (fun _=>rfl)).trans ?_
  · by_cases h:s<0
    · rw [dY h,hs h];by_cases h2:d>0
      · rw [dY h2];rfl
      · rw [eY h2]
    · rw [eY h]
  · dsimp only;rw [hw];by_cases h:s<0
    · rw [dY (show (decide (s<0)==true)=true by rw [yZ h];rfl),dY h]
      by_cases h2:d>0
      · rw [dY (show (decide (d>0)==true)=true by rw [yZ h2];rfl),dY h2,fiisIndex _ _ (by omega),rZ]
        have key:∀(v:Int),((ds[v.toNat]?).getD 0==IntKind.i64.wrap (d-1))=((ds[v.toNat]?).getD 0==IntKind.i64.wrap (d-1)):=fun _=>rfl
        show _=X (if okN n f t d ds y=true then y else nx n f t d ds r,(ns.length:Int))
        unfold okN;cases hI2:isIdx y (n:Int) with
        | false=>
          rw [eY (by decide),Bool.false_and,eY (by decide),ih s hI,dY h,dY h2]
        | true=>
          obtain ⟨g0,g1⟩:=isIdx_pos hI2;have g2:y.toNat<ds.length:=by omega
          have hlast:(if (ds[y.toNat]==IntKind.i64.wrap (d-1))=true then LiNextTo_1 k X (g,(n:Int),f,t,d,a,b,(ns.length:Int),o,ds,ns) m (y,((i+1:Nat):Int)) else LiNextTo_1 k X (g,(n:Int),f,t,d,a,b,(ns.length:Int),o,ds,ns) m (s,((i+1:Nat):Int)))=X (if (ds[y.toNat]==IntKind.i64.wrap (d-1))=true then y else nx n f t d ds r,(ns.length:Int)):=by
            by_cases h5:(ds[y.toNat]==IntKind.i64.wrap (d-1))=true
            · rw [dY h5,dY h5,ih y (fun h=>absurd h (by omega)),eY (by omega)]
            · rw [eY h5,eY h5,ih s hI,dY h,dY h2]
          rw [dY (by decide),Bool.true_and,getD_at g2]
          by_cases h3:y<f
          · rw [eY (by rw [yZ h3];decide),dY g0,dY (by omega),ix_at g2,yZ h3,Bool.true_or,Bool.true_and]
            exact hlast
          · rw [dY (by rw [vZ h3];rfl),vZ h3,Bool.false_or]
            by_cases h4:y=t
            · subst h4;rw [dY (by simp),dY g0,dY (by omega),ix_at g2,beq_self_eq_true,Bool.true_and]
              exact hlast
            · rw [eY (by simp [h4]),show (y==t)=false by simp [h4],Bool.false_and,eY (by decide),ih s hI,dY h,dY h2]
      · rw [eY (show ¬(decide (d>0)==true)=true by rw [vZ h2];decide),eY h2,ih s hI,dY h,eY h2]
    · rw [eY (show ¬(decide (s<0)==true)=true by rw [vZ h];decide),eY h,ih s hI,eY h]
  · rw [dY (by decide)]
theorem sNext1 {R:Type} {k n:Nat} (X0 X1:VsNextTo_1->Int->Option R) (X2:VsNextTo_1->Option R) (Z:Int->Option R) (hX0:∀v x,X0 v x=Z v.1) (hX1:∀v x,X1 v x=Z v.1) (hX2:∀v,X2 v=Z v.1) (g:List (Int×Int)) (f t:Int) (j:Nat) (o ds ns:List Int) (hn:ds.length=n) (hj:j<n) (hd:n<=549755813888) (hl:ns.length<=549755813888) (hk:1<=k):
    ∀(m q i:Nat),i+m=ns.length->m+1<q->LsNextTo_1 k X0 X1 X2 (g,(n:Int),f,t,(j:Int),o,ds,ns) q (-1,(i:Int))=Z (if (ds[j]?).getD 0>0 then nx n f t ((ds[j]?).getD 0) ds (ns.drop i) else -1):=by
  have hdj:j<ds.length:=by omega
  have hds:ds[(j:Int).toNat]? =some ds[j]:=by rw [show (j:Int).toNat=j by simp];exact dZ hdj
  rw [getD_at hdj];have hout:∀(q i:Nat) (v:Int),0<=v->i<=ns.length->LsNextTo_1 k X0 X1 X2 (g,(n:Int),f,t,(j:Int),o,ds,ns) (q+1) (v,(i:Int))=Z v:=by
    intro q i v h hi;show (if (decide ((i:Int)<(ns.length:Int))==true)=true then if 0<=(j:Int) then if (j:Int)<(ds.length:Int) then ix ds (j:Int).toNat (fun x3=>if ((decide (x3>0))==true)=true then if decide (v<0)=true then _ else X0 (v,(i:Int)) x3 else X1 (v,(i:Int)) x3) else none else none else X2 (v,(i:Int)))=_
    by_cases h1:i<ns.length
    · rw [dY (by rw [yZ (by omega)];rfl),dY (by omega),dY (by omega),ix_some hds]
      by_cases h2:ds[j]>0
      · rw [dY (by rw [yZ h2];rfl),eY (by simp;omega)];exact hX0 _ _
      · rw [eY (by rw [vZ h2];decide)];exact hX1 _ _
    · rw [eY (by rw [vZ (by omega)];decide)];exact hX2 _
  intro m;induction m with
  | zero=>
    intro q i h hq;obtain ⟨q,rfl⟩:∃p,q=p+1:=⟨q-1,by omega⟩
    obtain rfl:i=ns.length:=by omega
    show (if (decide ((ns.length:Int)<(ns.length:Int))==true)=true then _ else X2 (-1,(ns.length:Int)))=_
    rw [eY (by simp),List.drop_length]
    refine (hX2 _).trans ?_
    by_cases h2:ds[j]>0
    · rw [dY h2];rfl
    · rw [eY h2]
  | succ m ih=>
    intro q i h hq;obtain ⟨q,rfl⟩:∃p,q=p+1:=⟨q-1,by omega⟩
    have hi:i<ns.length:=by omega
    have hy:ns[(i:Int).toNat]? =some ns[i]:=by rw [show (i:Int).toNat=i by simp];exact dZ hi
    have hw:IntKind.i64.wrap ((i:Int)+1)=((i+1:Nat):Int):=wrap_succ hi (by omega)
    have hI:=ih q (i+1) (by omega) (by omega)
    have hO:∀v,0<=v->LsNextTo_1 k X0 X1 X2 (g,(n:Int),f,t,(j:Int),o,ds,ns) q (v,((i+1:Nat):Int))=Z v:=fun v hv=>by
      obtain ⟨q,rfl⟩:∃p,q=p+1:=⟨q-1,by omega⟩
      exact hout q (i+1) v hv (by omega)
    rw [cZ hi];show (if (decide ((i:Int)<(ns.length:Int))==true)=true then if 0<=(j:Int) then if (j:Int)<(ds.length:Int) then ix ds (j:Int).toNat (fun x3=>if ((decide (x3>0))==true)=true then if decide ((-1:Int)<0)=true then if 0<=(i:Int) then if (i:Int)<(ns.length:Int) then ix ns (i:Int).toNat (fun x4=>(Fsl1In k x4 0 (IntKind.i64.wrap ((n:Int)-1))).bind fun p5=>if (p5==true)=true then if ((decide (x4<f))==false)=true then if ((x4==t)==true)=true then if 0<=x4 then if x4<(ds.length:Int) then ix ds x4.toNat fun x6=>if 0<=(j:Int) then if (j:Int)<(ds.length:Int) then ix ds (j:Int).toNat fun x7=>if (x6==(IntKind.i64.wrap (x7-1)))=true then LsNextTo_1 k X0 X1 X2 (g,(n:Int),f,t,(j:Int),o,ds,ns) q (x4,(IntKind.i64.wrap ((i:Int)+1))) else LsNextTo_1 k X0 X1 X2 (g,(n:Int),f,t,(j:Int),o,ds,ns) q (-1,(IntKind.i64.wrap ((i:Int)+1))) else none else none else none else none else LsNextTo_1 k X0 X1 X2 (g,(n:Int),f,t,(j:Int),o,ds,ns) q (-1,(IntKind.i64.wrap ((i:Int)+1))) else if 0<=x4 then if x4<(ds.length:Int) then ix ds x4.toNat fun x8=>if 0<=(j:Int) then if (j:Int)<(ds.length:Int) then ix ds (j:Int).toNat fun x9=>if (x8==(IntKind.i64.wrap (x9-1)))=true then LsNextTo_1 k X0 X1 X2 (g,(n:Int),f,t,(j:Int),o,ds,ns) q (x4,(IntKind.i64.wrap ((i:Int)+1))) else LsNextTo_1 k X0 X1 X2 (g,(n:Int),f,t,(j:Int),o,ds,ns) q (-1,(IntKind.i64.wrap ((i:Int)+1))) else none else none else none else none else LsNextTo_1 k X0 X1 X2 (g,(n:Int),f,t,(j:Int),o,ds,ns) q (-1,(IntKind.i64.wrap ((i:Int)+1)))) else none else none else X0 (-1,(i:Int)) x3 else X1 (-1,(i:Int)) x3) else none else none else _)=_
    rw [dY (by rw [yZ (by omega)];rfl),dY (by omega),dY (by omega),ix_some hds]
    generalize ns[i]=y at hy ⊢;by_cases h2:ds[j]>0
    · rw [dY (by rw [yZ h2];rfl),dY (by decide),dY (by omega),dY (by omega),ix_some hy,fsl1In _ _ _ hk,inR_last _ (by omega),rZ,hw]
      rw [dY h2] at hI ⊢;show _=Z (if okN n f t ds[j] ds y=true then y else nx n f t ds[j] ds (ns.drop (i+1)))
      unfold okN;cases hI2:isIdx y (n:Int) with
      | false=>rw [eY (by decide),Bool.false_and,eY (by decide)];exact hI
      | true=>
        obtain ⟨g0,g1⟩:=isIdx_pos hI2;have g2:y.toNat<ds.length:=by omega
        have hlast:(if (ds[y.toNat]==IntKind.i64.wrap (ds[j]-1))=true then LsNextTo_1 k X0 X1 X2 (g,(n:Int),f,t,(j:Int),o,ds,ns) q (y,((i+1:Nat):Int)) else LsNextTo_1 k X0 X1 X2 (g,(n:Int),f,t,(j:Int),o,ds,ns) q (-1,((i+1:Nat):Int)))=Z (if (ds[y.toNat]==IntKind.i64.wrap (ds[j]-1))=true then y else nx n f t ds[j] ds (ns.drop (i+1))):=by
          by_cases h5:(ds[y.toNat]==IntKind.i64.wrap (ds[j]-1))=true
          · rw [dY h5,dY h5];exact hO y g0
          · rw [eY h5,eY h5];exact hI
        rw [dY (by decide),Bool.true_and,getD_at g2]
        by_cases h3:y<f
        · rw [eY (by rw [yZ h3];decide),dY g0,dY (by omega),ix_at g2,dY (by omega),dY (by omega),ix_some hds,yZ h3,Bool.true_or,Bool.true_and]
          exact hlast
        · rw [dY (by rw [vZ h3];rfl),vZ h3,Bool.false_or]
          by_cases h4:y=t
          · subst h4;rw [dY (by simp),dY g0,dY (by omega),ix_at g2,dY (by omega),dY (by omega),ix_some hds,beq_self_eq_true,Bool.true_and]
            exact hlast
          · rw [eY (by simp [h4]),show (y==t)=false by simp [h4],Bool.false_and,eY (by decide)]
            exact hI
    · rw [eY (by rw [vZ h2];decide),eY h2]
      exact hX1 _ _
def nextAt (g:List (Int×Int)) (n f t:Int) (ds:List Int) (i:Nat):Int:=if (ds[i]?).getD 0>0 then nx n f t ((ds[i]?).getD 0) ds (nb g (i:Int)) else -1
def nexts (g:List (Int×Int)) (n f t:Int) (ds:List Int):List Int:=(List.range' 0 ds.length).map (nextAt g n f t ds)
theorem fiNextTo {k:Nat} (g:List (Int×Int)) (n f t:Int) (hg:g.length<=549755813888) (hk:g.length+40<=k):FiNextTo k g n f t=some (nexts g n f t (dist g n f t)):=by
 obtain ⟨k,rfl⟩:=pred (d:=0) (show 1<=k by omega)
 rw [eiNextTo,fiDistancesTo _ _ _ _ hg (by omega),rZ]
 obtain ⟨hl,hD⟩:=dist_len g n f t;generalize dist g n f t=ds at hl hD;unfold nexts;refine (up_inv0 (L:=LiNextTo_0 k (fun v0=>some v0.2) (g,n,f,t,(ds.length:Int),ds)) (len:=ds.length) (fun (s:List Int) i=>(i,s)) (fun s i=>some (s++(List.range' i (ds.length-i)).map (nextAt g n f t ds))) (fun s i=>s.length=i) (by omega) (fun m i s hI hi h0 ht hw ih=> ?_) (by omega) [] rfl).trans (by simp)
 rcases Nat.lt_or_ge i ds.length with hlt | hge
 · show (if decide ((i:Int)<(ds.length:Int))=true then if 0<=(i:Int) then if (i:Int)<(ds.length:Int) then ix ds (i:Int).toNat (fun x2=>(FiNeighborsIn k g (i:Int)).bind fun p3=>LiNextTo_1 k (fun v1=>if (s.length+([v1.1]).length)*8<=140737488355328 then LiNextTo_0 k (fun v0=>some v0.2) (g,n,f,t,(ds.length:Int),ds) m ((IntKind.i64.wrap ((i:Int)+1)),(s++[v1.1])) else none) (g,n,f,t,x2,(ds.length:Int),(i:Int),(p3.length:Int),s,ds,p3) k (-1,0)) else none else none else _)=_
   rcases hD with hD | ⟨hD,_⟩
   · rw [hD] at hlt;simp at hlt
   subst hD;have hx:ds[(i:Int).toNat]? =some ds[i]:=by rw [ht];exact dZ hlt
   have hnl:=nb_len g (i:Int);rw [dY (by simp;omega),dY h0,dY (by omega),ix_some hx,bs (fiNeighborsIn g (i:Int) hg (by omega)),iNext1 (n:=ds.length) _ g f t ds[i] _ _ s ds (nb g (i:Int)) rfl (by omega) (by omega) (by omega)]
   dsimp only;rw [dY (by simp;omega),hw,ih hlt _ (by simp;omega),show ds.length-i=(ds.length-(i+1))+1 by omega,List.range'_succ,List.map_cons,List.append_assoc]
   congr 3
   unfold nextAt;rw [getD_at hlt];rfl
 · obtain rfl:i=ds.length:=by omega
   show (if decide ((ds.length:Int)<(ds.length:Int))=true then _ else some s)=_
   rw [eY (by simp),Nat.sub_self]
   simp
theorem fsNextTo {k:Nat} (g:List (Int×Int)) (n f t:Int) (hg:g.length<=549755813888) (hk:g.length+40<=k):FsNextTo k g n f t=some (nexts g n f t (dist g n f t)):=by
 obtain ⟨k,rfl⟩:=pred (d:=0) (show 1<=k by omega)
 rw [esNextTo,fsDistancesTo _ _ _ _ hg (by omega),rZ]
 obtain ⟨hl,hD⟩:=dist_len g n f t;generalize dist g n f t=ds at hl hD;unfold nexts;refine (up_inv0 (L:=LsNextTo_0 k (fun v0=>some v0.2) (g,n,f,t,ds)) (len:=ds.length) (fun (s:List Int) i=>(i,s)) (fun s i=>some (s++(List.range' i (ds.length-i)).map (nextAt g n f t ds))) (fun s i=>s.length=i) (by omega) (fun m i s hI hi h0 ht hw ih=> ?_) (by omega) [] rfl).trans (by simp)
 rcases Nat.lt_or_ge i ds.length with hlt | hge
 · show (if decide ((i:Int)<(ds.length:Int))=true then (FsNeighborsIn k g (i:Int)).bind (fun p2=>LsNextTo_1 k (fun v1 x3=>if (s.length+([v1.1]).length)*8<=140737488355328 then LsNextTo_0 k (fun v0=>some v0.2) (g,n,f,t,ds) m ((IntKind.i64.wrap ((i:Int)+1)),(s++[v1.1])) else none) (fun v1 x3=>if (s.length+([v1.1]).length)*8<=140737488355328 then LsNextTo_0 k (fun v0=>some v0.2) (g,n,f,t,ds) m ((IntKind.i64.wrap ((i:Int)+1)),(s++[v1.1])) else none) (fun v1=>if (s.length+([v1.1]).length)*8<=140737488355328 then LsNextTo_0 k (fun v0=>some v0.2) (g,n,f,t,ds) m ((IntKind.i64.wrap ((i:Int)+1)),(s++[v1.1])) else none) (g,n,f,t,(i:Int),s,ds,p2) k (-1,0)) else _)=_
   rcases hD with hD | ⟨hD,_⟩
   · rw [hD] at hlt;simp at hlt
   subst hD;have hnl:=nb_len g (i:Int)
   have:=sNext1 (k:=k) (n:=ds.length) _ _ _ (fun z=>if (s.length+([z]).length)*8<=140737488355328 then LsNextTo_0 k (fun v0=>some v0.2) (g,(ds.length:Int),f,t,ds) m ((IntKind.i64.wrap ((i:Int)+1)),(s++[z])) else none) (fun _ _=>rfl) (fun _ _=>rfl) (fun _=>rfl) g f t i s ds (nb g (i:Int)) rfl hlt (by omega) (by omega) (by omega) (nb g (i:Int)).length k 0 (by omega) (by omega)
   rw [dY (by simp;omega),bs (fsNeighborsIn g (i:Int) hg (by omega))]
   refine this.trans ?_
   rw [dY (by simp;omega),hw,ih hlt _ (by simp;omega),show ds.length-i=(ds.length-(i+1))+1 by omega,List.range'_succ,List.map_cons,List.append_assoc]
   rfl
 · obtain rfl:i=ds.length:=by omega
   show (if decide ((ds.length:Int)<(ds.length:Int))=true then _ else some s)=_
   rw [eY (by simp),Nat.sub_self]
   simp
def table (g:List (Int×Int)) (n f t:Int):TT:=(t,dist g n f t,nexts g n f t (dist g n f t))
theorem fiTableOf {k:Nat} (g:List (Int×Int)) (n f t:Int) (hg:g.length<=549755813888) (hk:g.length+41<=k):FiTableOf k g n f t=some (table g n f t):=by
 obtain ⟨k,rfl⟩:=pred (d:=0) (show 1<=k by omega)
 rw [eiTableOf,fiDistancesTo _ _ _ _ hg (by omega),rZ,fiNextTo _ _ _ _ hg (by omega)]
 rfl
theorem fsTableOf {k:Nat} (g:List (Int×Int)) (n f t:Int) (hg:g.length<=549755813888) (hk:g.length+41<=k):FsTableOf k g n f t=some (table g n f t):=by
 obtain ⟨k,rfl⟩:=pred (d:=0) (show 1<=k by omega)
 rw [esTableOf,fsDistancesTo _ _ _ _ hg (by omega),rZ,fsNextTo _ _ _ _ hg (by omega)]
 rfl
def tables (g:List (Int×Int)) (n f:Int):List TT:=(List.range' 0 n.toNat).map fun (t:Nat)=>table g n f (t:Int)
theorem fitablesOf {k:Nat} (g:List (Int×Int)) (n f:Int) (hn:n<=12) (hg:g.length<=549755813888) (hk:g.length+60<=k):FitablesOf k g n f=some (tables g n f):=by
 obtain ⟨k,rfl⟩:=pred (d:=0) (show 1<=k by omega)
 rw [eitablesOf];unfold tables;refine (up_inv0 (L:=LitablesOf_0 k (fun v0=>some v0.2) (g,n,f,n)) (len:=n.toNat) (fun (s:List TT) i=>(i,s)) (fun s i=>some (s++(List.range' i (n.toNat-i)).map fun (t:Nat)=>table g n f (t:Int))) (fun s i=>s.length=i) (by omega) (fun m i s hI hi h0 ht hw ih=> ?_) (by omega) [] rfl).trans (by simp)
 rcases Nat.lt_or_ge i n.toNat with hlt | hge
 · show (if decide ((i:Int)<n)=true then (FiTableOf k g n f (i:Int)).bind (fun p1=>if (s.length+([p1]).length)*56<=140737488355328 then LitablesOf_0 k (fun v0=>some v0.2) (g,n,f,n) m ((IntKind.i64.wrap ((i:Int)+1)),(s++[p1])) else none) else _)=_
   rw [dY (by simp;omega),bs (fiTableOf _ _ _ _ hg (by omega)),dY (by simp;omega),hw,ih hlt _ (by simp;omega),show n.toNat-i=(n.toNat-(i+1))+1 by omega,List.range'_succ,List.map_cons,List.append_assoc]
   rfl
 · show (if decide ((i:Int)<n)=true then _ else some s)=_
   rw [eY (by simp;omega),show n.toNat-i=0 by omega]
   simp
def pieceOk (p:TProgram) (x:TPiece):Bool:=isSpan x.1&&decide (x.2.2=tables x.2.1 p.1 p.2.1)
theorem fsl17Piece {k N:Nat} (p:TProgram) (x:TPiece) (hn:1<=p.1/\p.1<=12) (hr:rowsLe N sPiece x) (hN:N<=549755813888) (hk:N+60<=k):Fsl17Piece k p x=some (pieceOk p x):=by
  obtain ⟨k,rfl⟩:=pred (d:=0) (show 1<=k by omega)
  have hg:x.2.1.length<=N:=(rowsLe_row (e:=0) (sh:=sI2) hr.2.1).1;obtain ⟨hl,hT⟩:=rowsLe_row (e:=0) (sh:=sTable) hr.2.2;have hl:x.2.2.length<=N:=hl;rw [esl17Piece];unfold pieceOk;have htl:(tables x.2.1 p.1 p.2.1).length=p.1.toNat:=by simp [tables]
  by_cases hlen:(x.2.2.length:Int)=p.1
  · rw [dY (by simp [hlen]),fsIsSpan _ (by omega),rZ]
    cases isSpan x.1 with
    | false=>rfl
    | true=>
      rw [eY (by decide),Bool.true_and]
      refine (up_inv0 (L:=Lsl17Piece_0 k (fun v0 x2 p3 p4=>some false) (fun v0=>some true) (p,x)) (len:=p.1.toNat) (fun (_:Unit) i=>i) (fun _ i=>some (decide (x.2.2.drop i=(List.range' i (p.1.toNat-i)).map fun (t:Nat)=>table x.2.1 p.1 p.2.1 (t:Int)))) (fun _ _=>True) (by omega) (fun m i s hI hi h0 ht hw ih=> ?_) (by omega) () trivial).trans (by simp only [tables,List.drop_zero,Nat.sub_zero,nZ];exact decide_eq_decide.2 Iff.rfl)
      rcases Nat.lt_or_ge i p.1.toNat with hlt | hge
      · have hix:i<x.2.2.length:=by omega
        show (if decide ((i:Int)<p.1)=true then if 0<=(i:Int) then ix x.2.2 (i:Int).toNat (fun x2=>(FsTableOf k x.2.1 p.1 p.2.1 (i:Int)).bind fun p3=>(FsEqualTables k x2 p3).bind fun p4=>if (!p4)=true then some false else Lsl17Piece_0 k (fun v0 x2 p3 p4=>some false) (fun v0=>some true) (p,x) m (IntKind.i64.wrap ((i:Int)+1))) else none else _)=_
        rw [dY (by simp;omega),dY h0,ht,ix_at hix,bs (fsTableOf _ _ _ _ (by omega) (by omega)),bs (fsEqualTables _ _ (hT _ (tZ hix)) hN (by omega)),hw,ih hlt () trivial,show p.1.toNat-i=(p.1.toNat-(i+1))+1 by omega,List.range'_succ,List.map_cons,cZ hix]
        by_cases e:x.2.2[i]=table x.2.1 p.1 p.2.1 (i:Int)
        · rw [yZ e,eY (by decide)]
          exact congrArg some (decide_eq_decide.2 ⟨fun h=>by rw [e,h],fun h=>(List.cons.inj h).2⟩)
        · rw [vZ e,dY (by decide)]
          exact congrArg some (vZ fun h=>e (List.cons.inj h).1).symm
      · show (if decide ((i:Int)<p.1)=true then _ else some true)=_
        rw [eY (by simp;omega),show p.1.toNat-i=0 by omega,List.drop_eq_nil_of_le (by omega)]
        simp
  · rw [eY (by simpa using hlen),vZ (fun e=>by rw [e,htl] at hlen;omega),Bool.and_false]
theorem fisFrame {k:Nat} (n f s:Int) (hk:3<=k):FiisFrame k n f s=some (inR n 1 12&&(inR f 0 n&&inR s 0 5)):=by
 obtain ⟨k,rfl⟩:=pred (d:=2) hk;rw [eiisFrame,fiisNumber _ (by omega),rZ,fiInRange _ _ _ (by omega),rZ,fiInRange _ _ _ (by omega)]
 cases inR n 1 12<;>cases inR f 0 n<;>rfl
theorem fsl17Frame {k:Nat} (n f s:Int) (hk:2<=k):Fsl17Frame k n f s=some (inR n 1 12&&(inR f 0 n&&inR s 0 5)):=by
 obtain ⟨k,rfl⟩:=pred (d:=1) hk;rw [esl17Frame,fsl1In _ _ _ (by omega),rZ,fsl1In _ _ _ (by omega),rZ,fsl1In _ _ _ (by omega)]
 cases inR n 1 12<;>cases inR f 0 n<;>rfl
/-- A piece follows upon the one ahead of it. -/
def follows (p:TProgram) (i:Nat) (x:TPiece):Bool:=decide (i=0) || ((p.2.2.2[i-1]?).getD ((0,0),[],[])).1.2==x.1.1
def isProgram (p:TProgram):Bool:=(inR p.1 1 12&&(inR p.2.1 0 p.1&&inR p.2.2.1 0 5))&&(inR (p.2.2.2.length:Int) 1 40&&allIdx (fun i x=>pieceOk p x&&follows p i x) 0 p.2.2.2)
theorem prevAt (p:TProgram) {i:Nat} (hi:i<p.2.2.2.length) (h0:0<i) (hl:p.2.2.2.length<=549755813888):0<=IntKind.i64.wrap ((i:Int)-1)/\p.2.2.2[(IntKind.i64.wrap ((i:Int)-1)).toNat]? =some ((p.2.2.2[i-1]?).getD ((0,0),[],[])):=by
 rw [wrap_id (by omega) (by omega)]
 refine ⟨by omega,?_⟩
 rw [show ((i:Int)-1).toNat=i-1 by omega,dZ (by omega)]
 rfl
theorem allIdx_cons {α:Type} (P:Nat->α->Bool) (i:Nat) (x:α) (r:List α):allIdx P i (x::r)=(P i x&&allIdx P (i+1) r):=rfl
theorem fsIsProgram {k N:Nat} (p:TProgram) (hr:rowsLe N sProgram p) (hN:N<=549755813888) (hk:N+64<=k):FsIsProgram k p=some (isProgram p):=by
  obtain ⟨k,rfl⟩:=pred (d:=0) (show 1<=k by omega)
  obtain ⟨hl,hP⟩:=rowsLe_row (e:=0) (sh:=sPiece) hr.2.2.2;have hl:p.2.2.2.length<=N:=hl;rw [esIsProgram,fsl17Frame _ _ _ (by omega),rZ,fsl1In _ _ _ (by omega),rZ]
  unfold isProgram;cases hF:(inR p.1 1 12&&(inR p.2.1 0 p.1&&inR p.2.2.1 0 5)) with
  | false=>rfl
  | true=>
    rw [sZ] at hF;have h1:=hF.1;unfold inR at h1;simp only [sZ,pZ] at h1;rw [dY (by decide),Bool.true_and]
    cases inR (p.2.2.2.length:Int) 1 40 with
    | false=>rfl
    | true=>
      rw [eY (by decide),Bool.true_and]
      refine row_i (L:=LsIsProgram_0 k (fun v0 x3 p4 x5 x6=>some false) (fun v0 x3 p4=>some false) (fun v0=>some true) p) (a:=p.2.2.2) (X:=fun _=>some true) (fun i r=>some (allIdx (fun i x=>pieceOk p x&&follows p i x) i r)) (fun _ _=>rfl) (by omega) rfl (fun n i x r h0 ht hw hi hx ih=> ?_) (by omega)
      have hx':p.2.2.2[(i:Int).toNat]? =some x:=by rw [ht];exact hx
      dsimp only;rw [allIdx_cons,bs (fsl17Piece p x h1 (hP _ (iZ hx)) hN (by omega)),hw,ih]
      cases pieceOk p x with
      | false=>rfl
      | true=>
        rw [dY (by decide),Bool.true_and]
        unfold follows;by_cases hi0:0<i
        · obtain ⟨g0,g1⟩:=prevAt p hi hi0 (by omega)
          have hd:(decide ((i:Int)>0)==true)=true:=by rw [yZ (by omega)];rfl
          rw [dY hd,dY g0,ix_some g1,dY h0,ix_some hx',vZ (show ¬i=0 by omega),Bool.false_or]
          generalize (p.2.2.2[i-1]?).getD ((0,0),[],[])=y;by_cases e:y.1.2=x.1.1
          · rw [eY (by simp [e])];simp [e]
          · rw [dY (by simp [e]),show (y.1.2==x.1.1)=false by simp [e]];rfl
        · have hd:¬(decide ((i:Int)>0)==true)=true:=by rw [vZ (by omega)];decide
          rw [eY hd,yZ (show i=0 by omega)]
          rfl
theorem fiIsProgram {k N:Nat} (p:TProgram) (hr:rowsLe N sProgram p) (hN:N<=549755813888) (hk:N+64<=k):FiIsProgram k p=some (isProgram p):=by
  obtain ⟨k,rfl⟩:=pred (d:=0) (show 1<=k by omega)
  obtain ⟨hl,hP⟩:=rowsLe_row (e:=0) (sh:=sPiece) hr.2.2.2;have hl:p.2.2.2.length<=N:=hl;rw [eiIsProgram,fisFrame _ _ _ (by omega),rZ,fiInRange _ _ _ (by omega),rZ]
  unfold isProgram;cases hF:(inR p.1 1 12&&(inR p.2.1 0 p.1&&inR p.2.2.1 0 5)) with
  | false=>rfl
  | true=>
    rw [sZ] at hF;have h1:=hF.1;unfold inR at h1;simp only [sZ,pZ] at h1;rw [dY (by decide),Bool.true_and]
    cases inR (p.2.2.2.length:Int) 1 40 with
    | false=>rfl
    | true=>
      rw [eY (by decide),Bool.true_and]
      refine row_i (L:=LiIsProgram_0 k (fun v0 x3 p4 x5 p6 p7=>some false) (fun v0 x3 p4 x5=>some false) (fun v0 x3 p4 p8 p9=>some false) (fun v0 x3 p4=>some false) (fun v0=>some true) (p.2.2.2,(p.2.2.2.length:Int),p)) (a:=p.2.2.2) (X:=fun _=>some true) (fun i r=>some (allIdx (fun i x=>pieceOk p x&&follows p i x) i r)) (fun _ _=>rfl) (by omega) rfl (fun n i x r h0 ht hw hi hx ih=> ?_) (by omega)
      have hxr:=hP _ (iZ hx);have hg:x.2.1.length<=N:=(rowsLe_row (e:=0) (sh:=sI2) hxr.2.1).1;have ht':=fitablesOf (k:=k) x.2.1 p.1 p.2.1 h1.2 (by omega) (by omega)
      have he:=fgEqualFunc_Tablev_iEqualTables (k:=k) x.2.2 (tables x.2.1 p.1 p.2.1) hxr.2.2 hN (by omega)
      dsimp only;rw [allIdx_cons,bs (fiIsSpan _ (by omega)),hw,ih]
      unfold pieceOk;cases isSpan x.1 with
      | false=>rfl
      | true=>
        rw [dY (by decide),Bool.true_and]
        unfold follows;by_cases hi0:0<i
        · obtain ⟨g0,g1⟩:=prevAt p hi hi0 (by omega)
          have hd:(decide ((i:Int)>0)==true)=true:=by rw [yZ (by omega)];rfl
          rw [dY hd,dY g0,ix_some g1,vZ (show ¬i=0 by omega),Bool.false_or]
          generalize (p.2.2.2[i-1]?).getD ((0,0),[],[])=y;by_cases e:y.1.2=x.1.1
          · rw [dY (by simp [e]),bs ht',bs he,show (y.1.2==x.1.1)=true by simp [e],Bool.and_true]
            cases decide (x.2.2=tables x.2.1 p.1 p.2.1)<;>rfl
          · rw [eY (by simp;exact fun h=>e h.symm),show (y.1.2==x.1.1)=false by simp [e],Bool.and_false]
            rfl
        · have hd:¬(decide ((i:Int)>0)==true)=true:=by rw [vZ (by omega)];decide
          rw [eY hd,bs ht',bs he,yZ (show i=0 by omega),Bool.true_or,Bool.and_true]
          cases decide (x.2.2=tables x.2.1 p.1 p.2.1)<;>rfl
theorem all_row {α:Type} {L:Nat->Int->Option Bool} {X:Int->Option Bool} {a:List α} {body:Nat->Int->α->Option Bool} (P:Nat->α->Bool) (Y:Option Bool)
 (hs:∀n i,L (n+1) i=if decide (i<(a.length:Int))=true then if 0<=i then ix a i.toNat (body n i) else none else X i) (hl:a.length<=140737488351232) (he:X (a.length:Int)=Y)
 (hb:∀n (i:Nat) x,(0:Int)<=(i:Int)->(i:Int).toNat=i->IntKind.i64.wrap ((i:Int)+1)=((i+1:Nat):Int)->i<a.length->a[i]? =some x->body n (i:Int) x=if P i x=true then L n ((i+1:Nat):Int) else some false)
 {n:Nat} (hn:a.length<n):L n 0=if allIdx P 0 a=true then Y else some false:=by
 refine row_i (fun i r=>if allIdx P i r=true then Y else some false) hs hl (by rw [he];rfl) (fun m i x r h0 ht hw hi hx ih=> ?_) hn
 rw [hb m i x h0 ht hw hi hx,ih,allIdx_cons];cases P i x<;>rfl
theorem all_rowO {α:Type} {L:Nat->Int->Option Bool} {X:Int->Option Bool} {a:List α} {body:Nat->Int->α->Option Bool} (P:Nat->α->Bool) (Y:Option Bool)
 (hs:∀n i,L (n+1) i=if decide (i<(a.length:Int))=true then if 0<=i then if i<(a.length:Int) then ix a i.toNat (body n i) else none else none else X i) (hl:a.length<=140737488351232) (he:X (a.length:Int)=Y)
 (hb:∀n (i:Nat) x,(0:Int)<=(i:Int)->(i:Int).toNat=i->IntKind.i64.wrap ((i:Int)+1)=((i+1:Nat):Int)->i<a.length->a[i]? =some x->body n (i:Int) x=if P i x=true then L n ((i+1:Nat):Int) else some false)
 {n:Nat} (hn:a.length<n):L n 0=if allIdx P 0 a=true then Y else some false:=all_row P Y (fun n i=>(hs n i).trans (own_if _ _ _ _)) hl he hb hn
theorem fnot {R:Type} {b:Bool} {A N:Option R}:(if ((!b)==false)=true then A else N)=if b=true then A else N:=by cases b<;>rfl
theorem fnot2 {R:Type} {b:Bool} {A N:Option R}:(if (!b)=true then N else A)=if b=true then A else N:=by cases b<;>rfl
theorem feq {R:Type} {b:Bool} {A N:Option R}:(if (b==true)=true then A else N)=if b=true then A else N:=by cases b<;>rfl
theorem feqf {R:Type} {b:Bool} {A N:Option R}:(if (b==false)=true then A else N)=if (!b)=true then A else N:=by cases b<;>rfl
theorem fand {b c:Bool} {A N:Option Bool}:(if b=true then (if c=true then A else N) else N)=if (b&&c)=true then A else N:=by cases b<;>cases c<;>rfl
theorem fsome {b c:Bool}:(if b=true then some c else some false)=some (b&&c):=by cases b<;>rfl
theorem fsome1 {b:Bool}:(if b=true then some true else some false)=some b:=by cases b<;>rfl
theorem fgt {R:Type} {P:Prop} [Decidable P] {A N:Option R}:(if decide P=true then N else A)=if (!decide P)=true then A else N:=by by_cases h:P<;>simp [h]
theorem fne {R:Type} {a b:Int} {A N:Option R}:(if (a !=b)=true then N else A)=if (a==b)=true then A else N:=by by_cases h:a=b<;>simp [h]
theorem fnef {R:Type} {a b:Int} {A N:Option R}:(if ((a !=b)==false)=true then A else N)=if (a==b)=true then A else N:=by by_cases h:a=b<;>simp [h]
def satOk (x:Int×Int×Int×Int) (n:Int):Bool:=decide (x.1>=0)&&(decide (x.1<n)&&(inR x.2.1 0 359&&(inR x.2.2.1 (-60) 60&&inR x.2.2.2 0 20)))
theorem fiIsSat {k:Nat} (x:Int×Int×Int×Int) (n:Int) (hk:2<=k):FiIsSat k x n=some (satOk x n):=by
 obtain ⟨k,rfl⟩:=pred (d:=1) hk;simp only [eiIsSat,fiInRange _ _ _ (show 1<=k by omega),rZ,feq,fsome]
 rfl
theorem fsIsSat {k:Nat} (x:Int×Int×Int×Int) (n:Int) (hk:2<=k):FsIsSat k x n=some (satOk x n):=by
 obtain ⟨k,rfl⟩:=pred (d:=1) hk;simp only [esIsSat,fsl1In _ _ _ (show 1<=k by omega),rZ,feq,fsome]
 rfl
theorem fsl7Half {k:Nat} (n:Int) (hk:2<=k):Fsl7Half k n=some (inR n 0 180):=by
 obtain ⟨k,rfl⟩:=pred (d:=1) hk;rw [esl7Half,fsl1In _ _ _ (by omega)]
 rfl
theorem fsl7Turn {k:Nat} (n:Int) (hk:2<=k):Fsl7Turn k n=some (inR n (-60) 60):=by
 obtain ⟨k,rfl⟩:=pred (d:=1) hk;rw [esl7Turn,fsl1In _ _ _ (by omega)]
 rfl
def inP (n x:Int):Bool:= !decide (x<0)&& !decide (x>=n)
theorem inP_eq {n x:Int} (h:inR n 1 4=true):inR x 0 (IntKind.i64.wrap (n-1))=inP n x:=by
 unfold inR at h;simp only [sZ,pZ] at h;rw [wrap_id (by omega) (by omega)]
 unfold inR inP;rw [Bool.eq_iff_iff];simp only [sZ,pZ,Bool.not_eq_true',decide_eq_false_iff_not];omega
def siteOk (n:Int) (x:Int×Int×Int):Bool:=inP n x.1&&(inR x.2.1 0 359&&inR x.2.2 (-60) 60)
def zoneOk (n:Int) (x:Int×Int×Int):Bool:=inP n x.1&&inR x.2.2 0 359
def isSky (s:TSky):Bool:=inR s.1 1 4&&(inR (s.2.1.length:Int) 1 8&&(!decide ((s.2.2.1.length:Int)>4)&&(!decide ((s.2.2.2.2.2.2.2.2.1.length:Int)>4)&&(allIdx (fun _ x=>satOk x s.1) 0 s.2.1&&(allIdx (fun _ x=>siteOk s.1 x) 0 s.2.2.1&&(allIdx (fun _ x=>zoneOk s.1 x) 0 s.2.2.2.2.2.2.2.2.1&&
 (inR s.2.2.2.1 0 180&&(inR s.2.2.2.2.1 0 180&&(inR s.2.2.2.2.2.1 0 180&&(inR s.2.2.2.2.2.2.2.1 0 180&&(inR s.2.2.2.2.2.2.1 (-60) 60&&inR s.2.2.2.2.2.2.2.2.2 0 20)))))))))))
theorem fiIsSky {k N:Nat} (s:TSky) (hr:rowsLe N sSky s) (hN:N<=549755813888) (hk:N+10<=k):FiIsSky k s=some (isSky s):=by
  obtain ⟨k,rfl⟩:=pred (d:=0) (show 1<=k by omega)
  have l1:s.2.1.length<=N:=(rowsLe_row (e:=0) (sh:=sI4) hr.2.1).1;have l2:s.2.2.1.length<=N:=(rowsLe_row (e:=0) (sh:=sI3) hr.2.2.1).1;have l3:s.2.2.2.2.2.2.2.2.1.length<=N:=(rowsLe_row (e:=0) (sh:=sZone) hr.2.2.2.2.2.2.2.2.1).1;rw [eiIsSky,fiInRange _ _ _ (by omega),rZ,fnot]
  unfold isSky;cases hP:inR s.1 1 4 with
  | false=>rfl
  | true=>
    rw [dY rfl,Bool.true_and,fiInRange _ _ _ (by omega),rZ,fnot,feqf,fgt]
    have key:LiIsSky_0 k (fun v0 x3 p4=>some false) (fun v0=>LiIsSky_1 k (fun v1 x5 p6 p7 p8=>some false) (fun v1 x5 p6 p7=>some false) (fun v1 x5 p6=>some false) (fun v1=>LiIsSky_2 k (fun v2 x9 p10 p11=>some false) (fun v2 x9 p10=>some false) (fun v2=>LiIsSky_3 k (fun v3 x12 p13=>some false) (fun v3=>(FiInRange k s.2.2.2.2.2.2.1 (-60) 60).bind fun p14=>if (p14==true)=true then (FiInRange k s.2.2.2.2.2.2.2.2.2 0 20).bind fun p15=>some p15 else some false) (s.2.1,(s.2.1.length:Int),v0,s.2.2.1,(s.2.2.1.length:Int),v1,s.2.2.2.2.2.2.2.2.1,(s.2.2.2.2.2.2.2.2.1.length:Int),v2,(([s.2.2.2.1,s.2.2.2.2.1,s.2.2.2.2.2.1,s.2.2.2.2.2.2.2.1]).length:Int),s,[s.2.2.2.1,s.2.2.2.2.1,s.2.2.2.2.2.1,s.2.2.2.2.2.2.2.1]) k 0) (s.2.1,(s.2.1.length:Int),v0,s.2.2.1,(s.2.2.1.length:Int),v1,s.2.2.2.2.2.2.2.2.1,(s.2.2.2.2.2.2.2.2.1.length:Int),s) k 0) (s.2.1,(s.2.1.length:Int),v0,s.2.2.1,(s.2.2.1.length:Int),s) k 0) (s.2.1,(s.2.1.length:Int),s) k 0
        =if allIdx (fun _ x=>satOk x s.1) 0 s.2.1=true then (if allIdx (fun _ x=>siteOk s.1 x) 0 s.2.2.1=true then (if allIdx (fun _ x=>zoneOk s.1 x) 0 s.2.2.2.2.2.2.2.2.1=true then (if allIdx (fun _ x=>inR x 0 180) 0 [s.2.2.2.1,s.2.2.2.2.1,s.2.2.2.2.2.1,s.2.2.2.2.2.2.2.1]=true then some (inR s.2.2.2.2.2.2.1 (-60) 60&&inR s.2.2.2.2.2.2.2.2.2 0 20) else some false) else some false) else some false) else some false:=by
      refine all_row (L:=LiIsSky_0 k _ _ _) (a:=s.2.1) (fun _ x=>satOk x s.1) _ (fun _ _=>rfl) (by omega) ?_ (fun n i x h0 ht hw hi hx=> ?_) (by omega)
      · refine all_row (L:=LiIsSky_1 k _ _ _ _ _) (a:=s.2.2.1) (fun _ x=>siteOk s.1 x) _ (fun _ _=>rfl) (by omega) ?_ (fun n i x h0 ht hw hi hx=> ?_) (by omega)
        · refine all_row (L:=LiIsSky_2 k _ _ _ _) (a:=s.2.2.2.2.2.2.2.2.1) (fun _ x=>zoneOk s.1 x) _ (fun _ _=>rfl) (by omega) ?_ (fun n i x h0 ht hw hi hx=> ?_) (by omega)
          · refine all_rowO (L:=LiIsSky_3 k _ _ _) (a:=[s.2.2.2.1,s.2.2.2.2.1,s.2.2.2.2.2.1,s.2.2.2.2.2.2.2.1]) (fun _ x=>inR x 0 180) _ (fun _ _=>rfl) (by simp) ?_ (fun n i x h0 ht hw hi hx=> ?_) (by simp;omega)
            · rw [fiInRange _ _ _ (by omega),rZ,feq,fiInRange _ _ _ (by omega),rZ,fsome]
            · dsimp only;rw [fiInRange _ _ _ (by omega),rZ,fnot2,hw]
          · dsimp only;rw [fiInRange _ _ _ (by omega),rZ,fnot,fiisWidth _ (by omega),rZ,fnot2,hw,fand,inP_eq hP]
            rfl
        · dsimp only;rw [fiInRange _ _ _ (by omega),rZ,fnot,fiInRange _ _ _ (by omega),rZ,fnot,fiInRange _ _ _ (by omega),rZ,fnot2,hw,fand,fand,inP_eq hP,Bool.and_assoc]
          rfl
      · dsimp only;rw [fiIsSat _ _ (by omega),rZ,fnot2,hw]
    rw [key,fand,fand,fand,fsome,fsome,fsome,fsome];simp only [allIdx,Bool.and_true,Bool.and_assoc]
theorem fsIsSky {k N:Nat} (s:TSky) (hr:rowsLe N sSky s) (hN:N<=549755813888) (hk:N+10<=k):FsIsSky k s=some (isSky s):=by
 obtain ⟨k,rfl⟩:=pred (d:=0) (show 1<=k by omega)
 have l1:s.2.1.length<=N:=(rowsLe_row (e:=0) (sh:=sI4) hr.2.1).1;have l2:s.2.2.1.length<=N:=(rowsLe_row (e:=0) (sh:=sI3) hr.2.2.1).1;have l3:s.2.2.2.2.2.2.2.2.1.length<=N:=(rowsLe_row (e:=0) (sh:=sZone) hr.2.2.2.2.2.2.2.2.1).1;refine (esIsSky k s).trans ?_
 have key:=all_row (L:=LsIsSky_0 k (fun v0 x1 p2=>some false) (fun v0=>LsIsSky_1 k (fun v1 x3 p4 p5=>some false) (fun v1 x3 p4=>some false) (fun v1 x3=>some false) (fun v1 x3=>some false) (fun v1=>LsIsSky_2 k (fun v2 x6 p7=>some false) (fun v2 x6=>some false) (fun v2 x6=>some false) (fun v2=>(Fsl1In k s.1 1 4).bind fun p8=>if ((!p8)==false)=true then (Fsl1In k (s.2.1.length:Int) 1 8).bind fun p9=>if ((!p9)==false)=true then if ((decide ((s.2.2.1.length:Int)>4))==false)=true then if (decide ((s.2.2.2.2.2.2.2.2.1.length:Int)>4))=true then some false else (Fsl7Half k s.2.2.2.1).bind fun p10=>if (p10==true)=true then (Fsl7Half k s.2.2.2.2.1).bind fun p11=>if (p11==true)=true then (Fsl7Half k s.2.2.2.2.2.1).bind fun p12=>if (p12==true)=true then (Fsl7Half k s.2.2.2.2.2.2.2.1).bind fun p13=>if (p13==true)=true then (Fsl7Turn k s.2.2.2.2.2.2.1).bind fun p14=>if (p14==true)=true then (Fsl1In k s.2.2.2.2.2.2.2.2.2 0 20).bind fun p15=>some p15 else some false else some false else some false else some false else some false else some false else some false else some false) (v0,v1,s) k 0) (v0,s) k 0) s) (a:=s.2.1) (fun _ x=>satOk x s.1)
  (if allIdx (fun _ x=>siteOk s.1 x) 0 s.2.2.1=true then (if allIdx (fun _ x=>zoneOk s.1 x) 0 s.2.2.2.2.2.2.2.2.1=true then some (inR s.1 1 4&&(inR (s.2.1.length:Int) 1 8&&(!decide ((s.2.2.1.length:Int)>4)&&(!decide ((s.2.2.2.2.2.2.2.2.1.length:Int)>4)&&(inR s.2.2.2.1 0 180&&(inR s.2.2.2.2.1 0 180&&(inR s.2.2.2.2.2.1 0 180&&(inR s.2.2.2.2.2.2.2.1 0 180&&(inR s.2.2.2.2.2.2.1 (-60) 60&&inR s.2.2.2.2.2.2.2.2.2 0 20))))))))) else some false) else some false)
  (n:=k) (fun _ _=>rfl) (by omega) ?_ (fun n i x h0 ht hw hi hx=> ?_) (by omega)
 · rw [key,fsome,fsome,fsome];unfold isSky
   congr 1
   cases allIdx (fun _ x=>satOk x s.1) 0 s.2.1<;>cases allIdx (fun _ x=>siteOk s.1 x) 0 s.2.2.1<;>cases allIdx (fun _ x=>zoneOk s.1 x) 0 s.2.2.2.2.2.2.2.2.1<;>simp
 · refine all_row (L:=LsIsSky_1 k _ _ _ _ _ _) (a:=s.2.2.1) (fun _ x=>siteOk s.1 x) _ (fun _ _=>rfl) (by omega) ?_ (fun n i x h0 ht hw hi hx=> ?_) (by omega)
   · refine all_row (L:=LsIsSky_2 k _ _ _ _ _) (a:=s.2.2.2.2.2.2.2.2.1) (fun _ x=>zoneOk s.1 x) _ (fun _ _=>rfl) (by omega) ?_ (fun n i x h0 ht hw hi hx=> ?_) (by omega)
     · simp only [fsl1In _ _ _ (show 1<=k by omega),fsl7Half _ (show 2<=k by omega),fsl7Turn _ (show 2<=k by omega),rZ,fnot,feq,feqf,fgt,fsome,Bool.not_not]
     · dsimp only;rw [fsl1In _ _ _ (by omega),rZ,fnot2,hw,feqf,feqf,fand,fand]
       unfold zoneOk inP;rw [Bool.and_assoc]
   · dsimp only;rw [fsl1In _ _ _ (by omega),rZ,fnot,fsl7Turn _ (by omega),rZ,fnot2,hw,feqf,feqf,fand,fand,fand]
     unfold siteOk inP;rw [Bool.and_assoc]
 · dsimp only;rw [fsIsSat _ _ (by omega),rZ,fnot2,hw]
def lawAt (l:List Int) (p:TProgram) (i:Nat) (x:Int):Bool:= !decide (x<p.2.1)&&(!decide (x>=p.1)&&(decide (i=0) || decide ((l[i-1]?).getD 0<x)))
theorem prevI (l:List Int) {i:Nat} (hi:i<l.length) (h0:0<i) (hl:l.length<=549755813888):0<=IntKind.i64.wrap ((i:Int)-1)/\l[(IntKind.i64.wrap ((i:Int)-1)).toNat]? =some ((l[i-1]?).getD 0):=by
 rw [wrap_id (by omega) (by omega)]
 refine ⟨by omega,?_⟩
 rw [show ((i:Int)-1).toNat=i-1 by omega,dZ (by omega)]
 rfl
theorem lawIf {A:Option Bool} {l:List Int} {p:TProgram} {i:Nat} {x:Int} (B:Option Bool) (hi:i<l.length) (hl:l.length<=549755813888) (hB:B=if (decide ((i:Int)>0)==true)=true then (if decide ((l[i-1]?).getD 0<x)=true then A else some false) else A):
 (if (decide (x<p.2.1)==false)=true then if (decide (x>=p.1)==false)=true then B else some false else some false)=if lawAt l p i x=true then A else some false:=by
 rw [hB,feqf,feqf];unfold lawAt;by_cases h:i=0
 · have hd:¬(decide ((i:Int)>0)==true)=true:=by rw [vZ (by omega)];decide
   rw [eY hd,yZ h,Bool.true_or,Bool.and_true,fand]
 · have hd:(decide ((i:Int)>0)==true)=true:=by rw [yZ (by omega)];rfl
   rw [dY hd,vZ h,Bool.false_or,fand,fand,Bool.and_assoc]
theorem fiIsLaw {k:Nat} (l:List Int) (p:TProgram) (hl:l.length<=549755813888) (hk:l.length+3<=k):FiIsLaw k l p=some (allIdx (lawAt l p) 0 l):=by
 obtain ⟨k,rfl⟩:=pred (d:=0) (show 1<=k by omega)
 refine (eiIsLaw k l p).trans ((all_row (L:=LiIsLaw_0 k _ _ _ _ _) (a:=l) (lawAt l p) (some true) (fun _ _=>rfl) (by omega) rfl (fun n i x h0 ht hw hi hx=> ?_) (by omega)).trans fsome1)
 dsimp only;rw [hw];refine lawIf _ hi hl ?_
 by_cases h:i=0
 · have hd:¬(decide ((i:Int)>0)==true)=true:=by rw [vZ (by omega)];decide
   rw [eY hd,eY hd]
 · obtain ⟨g0,g1⟩:=prevI l hi (by omega) hl
   have hd:(decide ((i:Int)>0)==true)=true:=by rw [yZ (by omega)];rfl
   rw [dY hd,dY hd,dY g0,ix_some g1];by_cases e:x<=(l[i-1]?).getD 0
   · rw [dY (yZ e),eY (by simp;omega)]
   · rw [eY (by simpa using e),dY (by simp;omega)]
theorem fsIsLaw {k:Nat} (l:List Int) (p:TProgram) (hl:l.length<=549755813888) (hk:l.length+3<=k):FsIsLaw k l p=some (allIdx (lawAt l p) 0 l):=by
 obtain ⟨k,rfl⟩:=pred (d:=0) (show 1<=k by omega)
 refine (esIsLaw k l p).trans ((all_row (L:=LsIsLaw_0 k _ _ _ _ _) (a:=l) (lawAt l p) (some true) (fun _ _=>rfl) (by omega) rfl (fun n i x h0 ht hw hi hx=> ?_) (by omega)).trans fsome1)
 dsimp only;rw [hw];refine lawIf _ hi hl ?_
 by_cases h:i=0
 · have hd:¬(decide ((i:Int)>0)==true)=true:=by rw [vZ (by omega)];decide
   rw [eY hd,eY hd]
 · obtain ⟨g0,g1⟩:=prevI l hi (by omega) hl
   have hd:(decide ((i:Int)>0)==true)=true:=by rw [yZ (by omega)];rfl
   rw [dY hd,dY hd,dY g0,ix_some g1];by_cases e:(l[i-1]?).getD 0>=x
   · rw [dY (yZ e),eY (by simp;omega)]
   · rw [eY (by simpa using e),dY (by simp;omega)]
def batAt (w:TW) (i:Nat) (b:TB):Bool:=isBat b&& !decide (b.1<IntKind.i64.wrap (b.2.2.1+needNow w (i:Int)))
def areBats (w:TW):Bool:=((w.2.2.2.2.1.length:Int)==(w.1.2.1.length:Int))&&allIdx (batAt w) 0 w.2.2.2.2.1
theorem fiareBatteries {k:Nat} (w:TW) (h1:w.1.2.1.length<=549755813888) (h2:w.2.2.2.2.1.length<=549755813888) (hk:w.2.2.2.2.1.length+2030<=k):FiareBatteries k w=some (areBats w):=by
 obtain ⟨k,rfl⟩:=pred (d:=0) (show 1<=k by omega)
 rw [eiareBatteries,fne];unfold areBats;rw [all_row (L:=LiareBatteries_0 k _ _ _ _) (a:=w.2.2.2.2.1) (batAt w) (some true) (fun _ _=>rfl) (by omega) rfl (fun n i x h0 ht hw hi hx=> ?_) (by omega),fsome1,fsome]
 dsimp only;rw [fiIsBattery _ (by omega),rZ,fnot,fiNeedNow w _ h1 h2 (by omega),rZ,fgt,hw,fand]
 rfl
theorem needNow_at {w:TW} {i:Nat} {b:TB} (hx:w.2.2.2.2.1[i]? =some b):needNow w (i:Int)=needAt b (litOf w (i:Int)) w.2.2.2.2.2.2.2.2.2.2.1 w.2.2.2.2.2.2.2.2.2.2.2.1:=by
 have hi:i<w.2.2.2.2.1.length:=by
  rcases Nat.lt_or_ge i w.2.2.2.2.1.length with h | h
  · exact h
  · rw [List.getElem?_eq_none h] at hx;cases hx
 unfold needNow;rw [dY (by unfold isIdx;simp;omega),show ((i:Int).toNat)=i by simp,hx]
theorem fsl33Batteries {k:Nat} (w:TW) (h1:w.1.2.1.length<=549755813888) (h2:w.2.2.2.2.1.length<=549755813888) (hk:w.2.2.2.2.1.length+2030<=k):Fsl33Batteries k w=some (areBats w):=by
 obtain ⟨k,rfl⟩:=pred (d:=0) (show 1<=k by omega)
 refine (esl33Batteries k w).trans ((all_row (L:=Lsl33Batteries_0 k _ _ _ _) (a:=w.2.2.2.2.1) (batAt w) (some ((w.2.2.2.2.1.length:Int)==(w.1.2.1.length:Int))) (fun _ _=>rfl) (by omega) rfl (fun n i x h0 ht hw hi hx=> ?_) (by omega)).trans ?_)
 · rw [fsIsBattery _ (by omega),rZ,fnot,fsLitOf w _ (by omega) (by omega),rZ,fsNeedAt _ _ _ _ (litOf_le w _) (by omega),rZ,fgt,hw,fand]
   unfold batAt;rw [needNow_at hx]
 · rw [fsome];unfold areBats;rw [Bool.and_comm]
def pkAt (w:TW) (i:Int) (x:TPk):Bool:=isPacket x w.2.1.1&& !(site w.1 i&&x.2.2.2.1 !=i)
def quAt (w:TW) (i:Nat) (q:List TPk):Bool:= !decide ((q.length:Int)>12)&&allIdx (fun _ x=>pkAt w (i:Int) x) 0 q
def areQs (w:TW):Bool:=((w.2.2.2.2.2.1.length:Int)==w.2.1.1)&&allIdx (quAt w) 0 w.2.2.2.2.2.1
theorem fsite {R:Type} {b:Bool} {c:Bool} {A N:Option R}:(if (b==true)=true then (if c=true then N else A) else A)=if (!(b&&c))=true then A else N:=by cases b<;>cases c<;>rfl
theorem fiareQueues {k N:Nat} (w:TW) (hr:rowsLe N sWorld w) (hN:N<=549755813888) (hk:N+10<=k):FiareQueues k w=some (areQs w):=by
 obtain ⟨k,rfl⟩:=pred (d:=0) (show 1<=k by omega)
 obtain ⟨l6',q6⟩:=rowsLe_row hr.2.2.2.2.2.1;have l6:w.2.2.2.2.2.1.length<=N:=l6';rw [eiareQueues,fne];unfold areQs;rw [all_row (L:=LiareQueues_0 k _ _ _ _ _) (a:=w.2.2.2.2.2.1) (quAt w) (some true) (fun _ _=>rfl) (by omega) rfl (fun n i q h0 ht hw hi hq=> ?_) (by omega),fsome1,fsome]
 have hql:q.length<=N:=(rowsLe_row (e:=0) (sh:=sI6) (q6 _ (iZ hq))).1;dsimp only;rw [fgt,hw,all_row (L:=LiareQueues_1 k _ _ _ _) (a:=q) (fun _ x=>pkAt w (i:Int) x) (LiareQueues_0 k (fun v0 x1=>some false) (fun v0 x1 v1 x2 p3 p4=>some false) (fun v0 x1 v1 x2 p3=>some false) (fun v0=>some true) (w.2.2.2.2.2.1,(w.2.2.2.2.2.1.length:Int),w) n ((i+1:Nat):Int)) (fun _ _=>rfl) (by omega) rfl (fun m j x g0 gt gw gi gx=> ?_) (by omega),fand]
 · rfl
 · dsimp only;rw [fiIsPacket _ _ (by omega),rZ,fnot,fiIsSite _ _ (by omega),rZ,gw,fsite,fand]
   rfl
theorem fsl33Queues {k N:Nat} (w:TW) (hr:rowsLe N sWorld w) (hN:N<=549755813888) (hk:N+10<=k):Fsl33Queues k w=some (areQs w):=by
 obtain ⟨k,rfl⟩:=pred (d:=0) (show 1<=k by omega)
 obtain ⟨l6',q6⟩:=rowsLe_row hr.2.2.2.2.2.1;have l6:w.2.2.2.2.2.1.length<=N:=l6';refine (esl33Queues k w).trans ((all_row (L:=Lsl33Queues_0 k _ _ _ _ _) (a:=w.2.2.2.2.2.1) (quAt w) (some ((w.2.2.2.2.2.1.length:Int)==w.2.1.1)) (fun _ _=>rfl) (by omega) rfl (fun n i q h0 ht hw hi hq=> ?_) (by omega)).trans ?_)
 · have hql:q.length<=N:=(rowsLe_row (e:=0) (sh:=sI6) (q6 _ (iZ hq))).1;rw [hw];refine (all_row (L:=Lsl33Queues_1 k _ _ _ _) (a:=q) (fun _ x=>pkAt w (i:Int) x) _ (fun _ _=>rfl) (by omega) rfl (fun m j x g0 gt gw gi gx=> ?_) (by omega)).trans ?_
   · have gx':q[(j:Int).toNat]? =some x:=by rw [gt];exact gx
     dsimp only;rw [fsIsPacket _ _ (by omega),rZ,fnot,fsIsSite _ _ (by omega),rZ,gw,dY g0,ix_some gx',fsite,fand]
     rfl
   · rw [fgt,fand];unfold quAt;rw [Bool.and_comm]
 · rw [fsome];unfold areQs;rw [Bool.and_comm]
theorem allIdx_iff {α:Type} (P:Nat->α->Bool):∀(l:List α) (j:Nat),allIdx P j l=true↔∀i x,l[i]? =some x->P (j+i) x=true
  | [],j=>by simp [allIdx]
  | y::r,j=>by
    rw [allIdx_cons,sZ,allIdx_iff P r (j+1)];constructor
    · rintro ⟨h1,h2⟩ i x hx
      cases i with
      | zero=>simp only [List.getElem?_cons_zero,nZ] at hx;subst hx;exact h1
      | succ i=>
        have:=h2 i x (by simpa using hx)
        rwa [show j+(i+1)=j+1+i by omega]
    · intro h;refine ⟨h 0 y (by simp),fun i x hx=> ?_⟩
      have:=h (i+1) x (by simpa using hx)
      rwa [show j+1+i=j+(i+1) by omega]
theorem allIdx_zip {α:Type} (P:Nat->α->Bool) (Q:Int->Bool) (a:List α) (b:List Int) (h:b.length=a.length):allIdx (fun i x=>P i x&&Q ((b[i]?).getD 0)) 0 a=(allIdx P 0 a&&allIdx (fun _ c=>Q c) 0 b):=by
 rw [Bool.eq_iff_iff,sZ,allIdx_iff,allIdx_iff,allIdx_iff];constructor
 · intro H;refine ⟨fun i x hx=> ?_,fun i c hc=> ?_⟩
   · have:=H i x hx
     rw [sZ] at this;exact this.1
   · have hi:i<a.length:=by
      rcases Nat.lt_or_ge i b.length with h' | h'
      · omega
      · rw [List.getElem?_eq_none h'] at hc;cases hc
     have:=H i a[i] (dZ hi)
     rw [sZ,Nat.zero_add,hc] at this;exact this.2
 · rintro ⟨H1,H2⟩ i x hx
   rw [sZ];refine ⟨H1 i x hx,?_⟩
   have hi:i<b.length:=by
    rcases Nat.lt_or_ge i a.length with h' | h'
    · omega
    · rw [List.getElem?_eq_none h'] at hx;cases hx
   have:=H2 i b[i] (dZ hi)
   rw [Nat.zero_add,dZ hi]
   exact this
def stAt (w:TW) (i:Nat):TSt:=(w.2.2.2.2.2.2.2.2.1[i]?).getD (0,0,[])
def flAt (w:TW) (i:Nat) (f:TF):Bool:=isFlow f w.2.1.1&&((flowIdx w.2.2.2.2.2.2.1 f.1==(i:Int))&&(isSt (stAt w i)&&((stAt w i).1==f.1)))
def sameLens (w:TW):Bool:= !decide ((w.2.2.2.2.2.2.1.length:Int)>8)&&(((w.2.2.2.2.2.2.2.1.length:Int)==(w.2.2.2.2.2.2.1.length:Int))&&((w.2.2.2.2.2.2.2.2.1.length:Int)==(w.2.2.2.2.2.2.1.length:Int)))
def areFls (w:TW):Bool:=sameLens w&&allIdx (flAt w) 0 w.2.2.2.2.2.2.1
def areFts (w:TW):Bool:=allIdx (fun _ x=>isFault x w.2.1.1) 0 w.2.2.2.2.2.2.2.2.2.1
def areCts (w:TW):Bool:=allIdx (fun _ c=>inR c 0 10000) 0 w.2.2.2.2.2.2.2.1
theorem st_at {w:TW} {i:Nat} (hl:(w.2.2.2.2.2.2.2.2.1.length:Int)=(w.2.2.2.2.2.2.1.length:Int)) (hi:i<w.2.2.2.2.2.2.1.length):w.2.2.2.2.2.2.2.2.1[(i:Int).toNat]? =some (stAt w i):=by
 rw [show (i:Int).toNat=i by simp]
 unfold stAt
 have:i<w.2.2.2.2.2.2.2.2.1.length:=by omega
 rw [dZ this]
 rfl
theorem fiareFlows {k N:Nat} (w:TW) (hr:rowsLe N sWorld w) (hN:N<=549755813888) (hk:N+10<=k):FiareFlows k w=some (sameLens w&&(!decide ((w.2.2.2.2.2.2.2.2.2.1.length:Int)>12)&&(allIdx (flAt w) 0 w.2.2.2.2.2.2.1&&(areCts w&&areFts w)))):=by
 obtain ⟨k,rfl⟩:=pred (d:=0) (show 1<=k by omega)
 have lf:w.2.2.2.2.2.2.1.length<=N:=(rowsLe_row (e:=0) (sh:=sI4) hr.2.2.2.2.2.2.1).1;have lx:w.2.2.2.2.2.2.2.2.2.1.length<=N:=(rowsLe_row (e:=0) (sh:=sI4) hr.2.2.2.2.2.2.2.2.2.1).1;obtain ⟨ls',qs⟩:=rowsLe_row (e:=0) (sh:=sStream) hr.2.2.2.2.2.2.2.2.1;rw [eiareFlows,feqf,fnef,fnef,fgt];unfold sameLens;by_cases h1:(w.2.2.2.2.2.2.2.1.length:Int)=(w.2.2.2.2.2.2.1.length:Int)
 · by_cases h2:(w.2.2.2.2.2.2.2.2.1.length:Int)=(w.2.2.2.2.2.2.1.length:Int)
   · have key:=all_row (n:=k) (L:=LiareFlows_0 k (fun v0 x1 p2 p3 x4 p5 x6 p7 x8=>some false) (fun v0 x1 p2 p3 x4 p5 x6 p7=>some false) (fun v0 x1 p2 p3 x4 p5=>some false) (fun v0 x1 p2 p3=>some false) (fun v0 x1 p2=>some false) (fun v0=>LiareFlows_1 k (fun v1 x9 p10=>some false) (fun v1=>some true) (w.2.2.2.2.2.2.1,(w.2.2.2.2.2.2.1.length:Int),v0,w.2.2.2.2.2.2.2.2.2.1,(w.2.2.2.2.2.2.2.2.2.1.length:Int),w) k 0) (w.2.2.2.2.2.2.1,(w.2.2.2.2.2.2.1.length:Int),w)) (a:=w.2.2.2.2.2.2.1) (fun i x=>flAt w i x&&inR ((w.2.2.2.2.2.2.2.1[i]?).getD 0) 0 10000) (some (areFts w)) (fun _ _=>rfl) (by omega) ?_ (fun n i x h0 ht hw hi hx=> ?_) (by omega)
     · rw [key,allIdx_zip (flAt w) (fun c=>inR c 0 10000) w.2.2.2.2.2.2.1 w.2.2.2.2.2.2.2.1 (by omega)]
       simp only [fsome,Bool.and_assoc,areCts]
     · exact (all_row (L:=LiareFlows_1 k _ _ _) (a:=w.2.2.2.2.2.2.2.2.2.1) (fun _ x=>isFault x w.2.1.1) (some true) (fun _ _=>rfl) (by omega) rfl (fun n i x h0 ht hw hi hx=>by
        dsimp only;rw [fiIsFault _ _ (by omega),rZ,fnot2,hw]) (by omega)).trans fsome1
     · have hc:i<w.2.2.2.2.2.2.2.1.length:=by omega
       have hcx:w.2.2.2.2.2.2.2.1[(i:Int).toNat]? =some ((w.2.2.2.2.2.2.2.1[i]?).getD 0):=by rw [ht,dZ hc];rfl
       have hst:=st_at h2 hi;have hsl:(stAt w i).2.2.length<=N:=(rowsLe_row (e:=0) (sh:= .i .i64) (qs _ (iZ (by rw [ht] at hst;exact hst))).2.2).1
       dsimp only;rw [fiIsFlow _ _ (by omega),rZ,fnot,fiflowAt w _ (by omega) (by omega),rZ,fnef,dY h0,ix_some hcx,fiInRange _ _ _ (by omega),rZ,fnot,dY h0,ix_some hst,fiIsStream _ (by omega) (by omega),rZ,fnot,dY h0,ix_some hst,fne,hw,fand,fand,fand,fand]
       unfold flAt
       congr 2
       cases isFlow x w.2.1.1<;>cases (flowIdx w.2.2.2.2.2.2.1 x.1==(i:Int))<;>cases isSt (stAt w i)<;>cases ((stAt w i).1==x.1)<;>cases inR ((w.2.2.2.2.2.2.2.1[i]?).getD 0) 0 10000<;>rfl
   · have e2:((w.2.2.2.2.2.2.2.2.1.length:Int)==(w.2.2.2.2.2.2.1.length:Int))=false:=by simpa using h2
     rw [e2];cases (!decide ((w.2.2.2.2.2.2.1.length:Int)>8))<;>cases ((w.2.2.2.2.2.2.2.1.length:Int)==(w.2.2.2.2.2.2.1.length:Int))<;>rfl
 · have e1:((w.2.2.2.2.2.2.2.1.length:Int)==(w.2.2.2.2.2.2.1.length:Int))=false:=by simpa using h1
   rw [e1];cases (!decide ((w.2.2.2.2.2.2.1.length:Int)>8))<;>rfl
/-- The first flow with an Id does not stand behind the flow itself. -/
theorem flowIdx_le {l:List TF} {i:Nat} {x:TF} (hx:l[i]? =some x):flowIdx l x.1<=(i:Int)/\0<=flowIdx l x.1:=by
  have key:∀(l:List TF) (j i:Nat),l[i]? =some x->findFrom (fun y=>y.1==x.1) j l<=((j+i:Nat):Int)/\0<=findFrom (fun y=>y.1==x.1) j l:=by
    intro l;induction l with
    | nil=>intro j i h;simp at h
    | cons y r ih=>
      intro j i h;unfold findFrom;split
      · omega
      · rename_i hy;cases i with
        | zero=>
          simp only [List.getElem?_cons_zero,nZ] at h
          subst h;simp at hy
        | succ i=>
          have:=ih (j+1) i (by simpa using h)
          omega
  have:=key l 0 i hx
  unfold flowIdx;simpa using this
theorem fsl33Flows {k N:Nat} (w:TW) (hr:rowsLe N sWorld w) (hN:N<=549755813888) (hk:N+10<=k):Fsl33Flows k w=some (areFls w):=by
 obtain ⟨k,rfl⟩:=pred (d:=0) (show 1<=k by omega)
 have lf:w.2.2.2.2.2.2.1.length<=N:=(rowsLe_row (e:=0) (sh:=sI4) hr.2.2.2.2.2.2.1).1;obtain ⟨ls',qs⟩:=rowsLe_row (e:=0) (sh:=sStream) hr.2.2.2.2.2.2.2.2.1;rw [esl33Flows,feqf,fnef,fne];unfold areFls sameLens;by_cases h2:(w.2.2.2.2.2.2.2.2.1.length:Int)=(w.2.2.2.2.2.2.1.length:Int)
 · have key:=all_row (n:=k) (L:=Lsl33Flows_0 k (fun v0 x1 p2 x3 p4 x5 p6 x7 x8=>some false) (fun v0 x1 p2 x3 p4 x5 p6=>some false) (fun v0 x1 p2 x3 p4=>some false) (fun v0 x1 p2=>some false) (fun v0=>some true) w) (a:=w.2.2.2.2.2.2.1) (flAt w) (some true) (fun _ _=>rfl) (by omega) rfl (fun n i x h0 ht hw hi hx=> ?_) (by omega)
   · rw [key,fsome1];simp only [fsome,Bool.and_assoc]
   · have hx':w.2.2.2.2.2.2.1[(i:Int).toNat]? =some x:=by rw [ht];exact hx
     have hst:=st_at h2 hi;have hsl:(stAt w i).2.2.length<=N:=(rowsLe_row (e:=0) (sh:= .i .i64) (qs _ (iZ (by rw [ht] at hst;exact hst))).2.2).1
     have hle:=flowIdx_le hx;have heq:(!decide (flowIdx w.2.2.2.2.2.2.1 x.1<(i:Int)))=(flowIdx w.2.2.2.2.2.2.1 x.1==(i:Int)):=by
      rw [Bool.eq_iff_iff];simp only [Bool.not_eq_true',decide_eq_false_iff_not,beq_iff_eq];omega
     dsimp only;rw [fsIsFlow _ _ (by omega),rZ,fnot,dY h0,ix_some hx',fsl33Flow w _ (by omega) (by omega),rZ,feqf,heq,dY h0,ix_some hst,fsIsStream _ (by omega) (by omega),rZ,fnot,dY h0,ix_some hst,dY h0,ix_some hx',fne,hw,fand,fand,fand]
     unfold flAt;rw [Bool.and_assoc,Bool.and_assoc]
 · have e2:((w.2.2.2.2.2.2.2.2.1.length:Int)==(w.2.2.2.2.2.2.1.length:Int))=false:=by simpa using h2
   rw [e2];cases (!decide ((w.2.2.2.2.2.2.1.length:Int)>8))<;>cases ((w.2.2.2.2.2.2.2.1.length:Int)==(w.2.2.2.2.2.2.1.length:Int))<;>rfl
def packets (w:TW):List TPk:=w.2.2.2.2.2.2.2.2.2.2.2.2.1++w.2.2.2.2.2.1.flatten
def ids (w:TW):List Int:=(packets w).map (·.1)
theorem fgClonePk {k:Nat} (x:List TPk) (hl:x.length<=549755813888) (hk:1<=k):FgClone_Packet k x=some x:=by
 obtain ⟨k,rfl⟩:=pred (d:=0) hk;rw [egClone_Packet,dY (by omega),clone_eq]
theorem fipacketsOf {k:Nat} (w:TW) (hl:w.2.2.2.2.2.1.length<=549755813888) (hT:(packets w).length<=549755813888) (hk:w.2.2.2.2.2.1.length+4<=k):FipacketsOf k w=some (packets w):=by
 obtain ⟨k,rfl⟩:=pred (d:=0) (show 1<=k by omega)
 have hT':w.2.2.2.2.2.2.2.2.2.2.2.2.1.length+w.2.2.2.2.2.1.flatten.length<=549755813888:=by simpa [packets] using hT
 rw [eipacketsOf,fgClonePk _ (by omega) (by omega),rZ]
 refine (row_inv0 (L:=LipacketsOf_0 k (fun v0=>some v0.2) (w.2.2.2.2.2.1,(w.2.2.2.2.2.1.length:Int))) (a:=w.2.2.2.2.2.1) (fun (s:List TPk) i=>(i,s)) (fun s i r=>some (s++r.flatten)) (X:=fun s _=>some s) (fun s i=>∀r,w.2.2.2.2.2.1.drop i=r->s.length+r.flatten.length<=549755813888) (fun _ _ _=>rfl) (by omega) (fun s _=>by simp) (fun n i s x r hI h0 ht hw hi hx ih=> ?_) (by omega) w.2.2.2.2.2.2.2.2.2.2.2.2.1 (fun r hr=>by subst hr;simpa using hT')).trans rfl
 have hd:w.2.2.2.2.2.1.drop i=x::w.2.2.2.2.2.1.drop (i+1):=by
  rw [cZ hi]
  congr 1
  rw [dZ hi] at hx
  exact xZ hx
 have hb:=hI _ hd;simp only [List.flatten_cons,List.length_append] at hb;dsimp only;rw [dY (by omega),hw,ih (s++x) (fun r hr=>by subst hr;simp only [List.length_append];omega)]
 simp
end Go.Proofs.YtdglapefgakccaaGreat.World
