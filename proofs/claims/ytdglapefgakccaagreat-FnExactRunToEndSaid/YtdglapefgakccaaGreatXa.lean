/- Plain lemmas for the law, part 1. No condition. -/
import Derived.Test.YtdglapefgakccaaGreatWp
set_option linter.unusedSimpArgs false
set_option linter.unusedVariables false
namespace Go.Proofs.YtdglapefgakccaaGreat.World
open Go Go.V Go.Proofs
set_option maxRecDepth 100000
set_option maxHeartbeats 4000000
abbrev TW:=z2
abbrev TT:Type:=Int×(List Int)×List Int
theorem bs {α β:Type} {o:Option α} {v:α} {f:α->Option β} (h:o=some v):o.bind f=f v:=by rw [h];rfl
theorem pred {k d:Nat} (h:d+1<=k):∃q,k=q+1:=⟨k-1,by omega⟩
def isIdx (a b:Int):Bool:=decide (a>=0)&&decide (a<b)
def inR (n a b:Int):Bool:=decide (a<=n)&&decide (n<=b)
theorem fiisIndex {k:Nat} (a b:Int) (hk:1<=k):FiisIndex k a b=some (isIdx a b):=by
 obtain ⟨k,rfl⟩:=pred (d:=0) hk;rw [eiisIndex];unfold isIdx;cases decide (a>=0)<;>rfl
theorem fiInRange {k:Nat} (n a b:Int) (hk:1<=k):FiInRange k n a b=some (inR n a b):=by
 obtain ⟨k,rfl⟩:=pred (d:=0) hk;rw [eiInRange];unfold inR;cases decide (a<=n)<;>rfl
theorem inR_last {len:Nat} (n:Int) (h:len<=140737488351232):inR n 0 (IntKind.i64.wrap ((len:Int)-1))=isIdx n (len:Int):=by
 rw [T1 (by omega) (by omega)]
 unfold inR isIdx;have e:decide (n<=(len:Int)-1)=decide (n<(len:Int)):=by
  by_cases h:n<(len:Int)
  · rw [yZ h,yZ (by omega)]
  · rw [vZ h,vZ (by omega)]
 rw [e]
theorem isIdx_pos {n:Int} {len:Nat} (h:isIdx n (len:Int)=true):0<=n/\n.toNat<len:=by
 unfold isIdx at h;simp only [sZ,pZ] at h;omega
theorem fsl1In {k:Nat} (n a b:Int) (hk:1<=k):Fsl1In k n a b=some (inR n a b):=by
 obtain ⟨k,rfl⟩:=pred (d:=0) hk;rw [esl1In];unfold inR;show (if ((decide (a<=n))==true)=true then _ else _)=_
 cases decide (a<=n)<;>rfl
theorem fgClone_int {k:Nat} (x:List (Int)) (hl:x.length<=549755813888) (hk:1<=k):FgClone_int k x=some x:=by
 obtain ⟨k,rfl⟩:=pred (d:=0) hk;rw [egClone_int,dY (by omega),clone_eq]
theorem ficloneTable {k:Nat} (x:Int×(List Int)×List Int) (h1:x.2.1.length<=549755813888) (h2:x.2.2.length<=549755813888) (hk:2<=k):FicloneTable k x=some x:=by
 obtain ⟨k,rfl⟩:=pred (d:=1) hk;rw [eicloneTable,fgClone_int _ h1 (by omega),rZ,fgClone_int _ h2 (by omega),rZ]
theorem fsl15Copy {k:Nat} (x:Int×(List Int)×List Int) (h1:x.2.1.length<=549755813888) (h2:x.2.2.length<=549755813888) (hk:1<=k):Fsl15Copy k x=some x:=by
 obtain ⟨k,rfl⟩:=pred (d:=0) hk;rw [esl15Copy,dY (by omega),dY (by omega)]
def isSpan (s:Int×Int):Bool:=decide (s.1>=0)&&(decide (s.2<=1000)&&decide (s.1<s.2))
def inSpan (s:Int×Int) (t:Int):Bool:=isSpan s&&(decide (s.1<=t)&&decide (t<s.2))
theorem fsIsSpan {k:Nat} (s:Int×Int) (hk:1<=k):FsIsSpan k s=some (isSpan s):=by
 obtain ⟨k,rfl⟩:=pred (d:=0) hk;rw [esIsSpan];unfold isSpan;cases decide (s.1>=0)
 · rfl
 · cases decide (s.2<=1000)<;>rfl
theorem fiIsSpan {k:Nat} (s:Int×Int) (hk:1<=k):FiIsSpan k s=some (isSpan s):=by
 obtain ⟨k,rfl⟩:=pred (d:=0) hk;rw [eiIsSpan];unfold isSpan;cases decide (s.1>=0)
 · rfl
 · cases decide (s.2<=1000)<;>rfl
theorem fsInSpan {k:Nat} (s:Int×Int) (t:Int) (hk:2<=k):FsInSpan k s t=some (inSpan s t):=by
 obtain ⟨k,rfl⟩:=pred (d:=1) hk;rw [esInSpan,fsIsSpan s (by omega),rZ]
 unfold inSpan;cases isSpan s
 · rfl
 · cases decide (s.1<=t)<;>rfl
theorem fiInSpan {k:Nat} (s:Int×Int) (t:Int) (hk:2<=k):FiInSpan k s t=some (inSpan s t):=by
 obtain ⟨k,rfl⟩:=pred (d:=1) hk;rw [eiInSpan,fiIsSpan s (by omega),rZ]
 unfold inSpan;cases isSpan s
 · rfl
 · cases decide (s.1<=t)<;>rfl
def pieceAt (p:W0) (t:Int):Int:=findFrom (fun x:TPiece=>inSpan x.1 t) 0 p.2.2.2
theorem fsPieceAt {k:Nat} (p:W0) (t:Int) (hl:p.2.2.2.length<=549755813888) (hk:p.2.2.2.length+4<=k):FsPieceAt k p t=some (pieceAt p t):=by
 obtain ⟨k,rfl⟩:=pred (d:=0) (show 1<=k by omega)
 refine (esPieceAt k p t).trans (row_i (L:=LsPieceAt_0 k _ _ _) (a:=p.2.2.2) (fun i l=>some (findFrom (fun x:TPiece=>inSpan x.1 t) i l)) (fun _ _=>rfl) (by omega) rfl (fun n i x r h0 ht hw hi hx ih=> ?_) (by omega))
 refine (bs (fsInSpan x.1 t (by omega))).trans ?_
 show (if inSpan x.1 t=true then some (i:Int) else _)=some (if inSpan x.1 t=true then (i:Int) else findFrom (fun x:TPiece=>inSpan x.1 t) (i+1) r)
 rw [hw,ih];by_cases h:inSpan x.1 t=true
 · rw [dY h,dY h]
 · rw [eY h,eY h]
theorem fiPieceAt {k:Nat} (p:W0) (t:Int) (hl:p.2.2.2.length<=549755813888) (hk:p.2.2.2.length+6<=k):FiPieceAt k p t=some (pieceAt p t):=by
 obtain ⟨k,rfl⟩:=pred (d:=1) (show 2<=k by omega)
 refine (eiPieceAt k p t).trans ((bs ?_).trans rfl)
 obtain ⟨k,rfl⟩:=pred (d:=0) (show 1<=k by omega)
 refine (egIndexFunc_Piecev_iPieceAt_1 k _ t).trans (row_i (L:=LgIndexFunc_Piecev_iPieceAt_1_0 k _ _ _) (a:=p.2.2.2) (fun i l=>some (findFrom (fun x:TPiece=>inSpan x.1 t) i l)) (fun _ _=>rfl) (by omega) rfl (fun n i x r h0 ht hw hi hx ih=> ?_) (by omega))
 obtain ⟨k,rfl⟩:=pred (d:=0) (show 1<=k by omega)
 refine (bs ((eiPieceAt_1v k x t).trans ((bs (fiInSpan x.1 t (by omega))).trans rfl))).trans ?_
 show (if inSpan x.1 t=true then some (i:Int) else _)=some (if inSpan x.1 t=true then (i:Int) else findFrom (fun x:TPiece=>inSpan x.1 t) (i+1) r)
 rw [hw,ih];by_cases h:inSpan x.1 t=true
 · rw [dY h,dY h]
 · rw [eY h,eY h]
def inPc (a b:Int) (x:TPiece):Bool:=isSpan x.1&&(decide (a<=b)&&(decide (x.1.1<=b)&&decide (a<x.1.2)))
def pcs (a b:Int):Nat->List TPiece->List Int
 | _,[]=>[]
 | i,x::r=>if inPc a b x=true then (i:Int)::pcs a b (i+1) r else pcs a b (i+1) r
theorem pcs_len (a b:Int):∀(l:List TPiece) (i:Nat),(pcs a b i l).length<=l.length
  | [],i=>by simp [pcs]
  | x::r,i=>by
    have:=pcs_len a b r (i+1)
    rw [pcs];split<;>simp<;>omega
theorem fsPiecesIn {k:Nat} (p:W0) (a b:Int) (hl:p.2.2.2.length<=549755813888) (hk:p.2.2.2.length+4<=k):FsPiecesIn k p a b=some (pcs a b 0 p.2.2.2):=by
  obtain ⟨k,rfl⟩:=pred (d:=0) (show 1<=k by omega)
  refine (esPiecesIn k p a b).trans ((row_inv0 (L:=LsPiecesIn_0 k _ _) (a:=p.2.2.2) (fun (s:List Int) i=>(i,s)) (fun s i l=>some (s++pcs a b i l)) (fun s i=>s.length<=i) (fun _ _ _=>rfl) (by omega) (fun s _=>by simp [pcs]) (fun n i s x r hI h0 ht hw hi hx ih=> ?_) (by omega) [] (by simp)).trans (by simp))
  refine (bs (fsIsSpan x.1 (by omega))).trans ?_
  dsimp only;rw [hw,pcs];have hn:=ih s (by omega)
  unfold inPc;cases isSpan x.1 with
  | false=>simpa using hn
  | true=>
    cases decide (a<=b) with
    | false=>simpa using hn
    | true=>
      cases decide (x.1.1<=b) with
      | false=>simpa using hn
      | true=>
        cases decide (a<x.1.2) with
        | false=>simpa using hn
        | true=>
          have hn:=ih (s++[(i:Int)]) (by simp;omega)
          rw [dY (by decide),dY (by decide),dY (by decide),dY rfl,dY (by simp;omega),dY (by decide),hn]
          simp
theorem fiPiecesIn {k:Nat} (p:W0) (a b:Int) (hl:p.2.2.2.length<=549755813888) (hk:p.2.2.2.length+4<=k):FiPiecesIn k p a b=some (pcs a b 0 p.2.2.2):=by
  obtain ⟨k,rfl⟩:=pred (d:=0) (show 1<=k by omega)
  refine (eiPiecesIn k p a b).trans ((row_inv0 (L:=LiPiecesIn_0 k _ _) (a:=p.2.2.2) (fun (s:List Int) i=>(i,s)) (fun s i l=>some (s++pcs a b i l)) (fun s i=>s.length<=i) (fun _ _ _=>rfl) (by omega) (fun s _=>by simp [pcs]) (fun n i s x r hI h0 ht hw hi hx ih=> ?_) (by omega) [] (by simp)).trans (by simp))
  refine (bs (fiIsSpan x.1 (by omega))).trans ?_
  dsimp only;rw [hw,pcs];have hn:=ih s (by omega)
  unfold inPc;have hgt:decide (x.1.2>a)=decide (a<x.1.2):=rfl;rw [hgt];cases isSpan x.1 with
  | false=>simpa using hn
  | true=>
    cases decide (a<=b) with
    | false=>simpa using hn
    | true=>
      cases decide (x.1.1<=b) with
      | false=>simpa using hn
      | true=>
        cases decide (a<x.1.2) with
        | false=>simpa using hn
        | true=>
          have hn:=ih (s++[(i:Int)]) (by simp;omega)
          rw [dY (by decide),dY (by decide),dY (by decide),dY rfl,dY (by simp;omega),dY (by decide),hn]
          simp
def tbl (p:W0) (a d:Int):Option TT:=if isIdx a (p.2.2.2.length:Int)=true then match p.2.2.2[a.toNat]? with
 | some x=>if isIdx d (x.2.2.length:Int)=true then x.2.2[d.toNat]? else none
 | none=>none
 else none
def tblR (p:W0) (a d:Int):TT×Bool:=match tbl p a d with
 | some t=>(t,true)
 | none=>((0,[],[]),false)
theorem fTableIn {k N:Nat} (p:W0) (a d:Int) (hr:rowsLe N m0 p) (hN:N<=549755813888) (hk:N+5<=k):FsTableIn k p a d=some (tblR p a d)/\FiTableIn k p a d=some (tblR p a d)/\(tblR p a d).1.2.2.length<=N:=by
  obtain ⟨k,rfl⟩:=pred (d:=0) (show 1<=k by omega)
  obtain ⟨h1',h2⟩:=Z0 hr.2.2.2;have h1:p.2.2.2.length<=N:=h1';have es:=(esTableIn k p a d).trans (bs (fsl1In _ _ _ (by omega)))
  have ei:=(eiTableIn k p a d).trans (bs (fiisIndex _ _ (by omega)))
  rw [inR_last a (by omega)] at es
  unfold tblR tbl;cases hI:isIdx a (p.2.2.2.length:Int) with
  | false=>
    rw [hI] at es ei;exact ⟨es,ei,by simp⟩
  | true=>
    rw [hI] at es ei;obtain ⟨a0,a1⟩:=isIdx_pos hI;have hx:=h2 _ (tZ a1);obtain ⟨g1',g2⟩:=Z0 hx.2.2;have g1:(p.2.2.2[a.toNat]).2.2.length<=N:=g1';have es:=es.trans ((dY rfl).trans ((dY a0).trans ((ix_at a1 _).trans (bs (fsl1In _ _ _ (by omega))))))
    have ei:=ei.trans ((dY rfl).trans ((dY a0).trans ((ix_at a1 _).trans (bs (fiisIndex _ _ (by omega))))))
    rw [inR_last d (by omega)] at es
    rw [dY rfl,dZ a1]
    dsimp only;cases hJ:isIdx d ((p.2.2.2[a.toNat]).2.2.length:Int) with
    | false=>
      rw [hJ] at es ei;exact ⟨es.trans (dY rfl),ei.trans (dY rfl),by simp⟩
    | true=>
      rw [hJ] at es ei;obtain ⟨d0,d1⟩:=isIdx_pos hJ;have hy:=g2 _ (tZ d1);have e1:((p.2.2.2[a.toNat]).2.2[d.toNat]).2.1.length<=N:=(Z0 hy.2.1).1;have e2:((p.2.2.2[a.toNat]).2.2[d.toNat]).2.2.length<=N:=(Z0 hy.2.2).1;rw [dY rfl,dZ d1]
      dsimp only;exact ⟨es.trans ((eY (by decide)).trans ((dY a0).trans ((ix_at a1 _).trans ((dY d0).trans ((ix_at d1 _).trans (bs (fsl15Copy _ (by omega) (by omega) (by omega)))))))),
        ei.trans ((eY (by decide)).trans ((dY a0).trans ((ix_at a1 _).trans ((dY d0).trans ((ix_at d1 _).trans (bs (ficloneTable _ (by omega) (by omega) (by omega)))))))),e2⟩
/-- What the pieces' tables lay together. -/
def mixS (p:W0) (d:Int) (l:List Int):List (List Int):=l.filterMap fun a=>(tbl p a d).map (·.2.2)
def mixI (p:W0) (d:Int) (l:List Int):List (List Int):=l.map fun a=>(tblR p a d).1.2.2
theorem mixS_len (p:W0) (d:Int) (l:List Int):(mixS p d l).length<=l.length:=List.length_filterMap_le _ _
theorem tblR_some {p:W0} {a d:Int} {t:TT} (h:tbl p a d=some t):tblR p a d=(t,true):=by unfold tblR;rw [h]
theorem tblR_none {p:W0} {a d:Int} (h:tbl p a d=none):tblR p a d=((0,[],[]),false):=by unfold tblR;rw [h]
def mxl (l:List (List Int)):Int:=l.foldl (fun s x=>mx s (x.length:Int)) 0
theorem mx_le (a b c:Int):mx a b<=c↔a<=c/\b<=c:=by unfold mx;split<;>omega
theorem le_mx (a b:Int):a<=mx a b/\b<=mx a b:=by unfold mx;split<;>omega
theorem mxl_ge:∀(l:List (List Int)) (s:Int),s<=l.foldl (fun s x=>mx s (x.length:Int)) s/\∀x ∈ l,(x.length:Int)<=l.foldl (fun s x=>mx s (x.length:Int)) s
  | [],s=>by simp
  | x::r,s=>by
    obtain ⟨h1,h2⟩:=mxl_ge r (mx s (x.length:Int))
    have:=le_mx s (x.length:Int)
    refine ⟨by simp only [List.foldl_cons];omega,fun y hy=> ?_⟩
    simp only [List.foldl_cons];rcases zZ.1 hy with rfl | hy
    · omega
    · exact h2 y hy
theorem mxl_le {N:Int}:∀(l:List (List Int)) (s:Int),s<=N->(∀x ∈ l,(x.length:Int)<=N)->l.foldl (fun s x=>mx s (x.length:Int)) s<=N
 | [],s,h,_=>h
 | x::r,s,h,hl=>mxl_le r _ ((mx_le _ _ _).2 ⟨h,hl x (by simp)⟩) fun y hy=>hl y (fZ _ hy)
theorem iu0 {R:Type} {k:Nat} (X:ViUnionHasLoop_0->Option R) (l:List (List Int)) (hl:l.length<=549755813888) (hk:l.length<k):LiUnionHasLoop_0 k X (l,l,(l.length:Int)) k (0,0)=X (mxl l,(l.length:Int)):=by
 refine (row_s0 (L:=LiUnionHasLoop_0 k X _) (a:=l) (fun (s:Int) i=>(s,i)) (X:=fun s i=>X (s,i)) (fun s i l=>X (l.foldl (fun s x=>mx s (x.length:Int)) s,((i+l.length:Nat):Int))) (fun _ _ _=>rfl) (by omega) (fun s=>by simp) (fun n i s x r h0 ht hw hi hx ih=> ?_) hk 0).trans (by simp [mxl])
 dsimp only;rw [hw,ih];simp only [List.foldl_cons,List.length_cons]
 congr 3
 omega
/-- Does the node lead to one that is there? -/
def ld (g:List Bool) (n:Int) (x:Nat) (row:List Int):Bool:=match row[x]? with
 | some y=>isIdx y n&& !(g.getD y.toNat true)
 | none=>false
theorem iu3 {R:Type} {k:Nat} (X:ViUnionHasLoop_3->Option R) (c:CiUnionHasLoop_3) (l:List (List Int)) (n:Int) (x:Nat) (g:List Bool) (h1:c.2.2.2.2.2.2.2.2.2.1=l) (h2:c.2.2.2.2.2.2.2.2.2.2.1=(l.length:Int)) (h3:c.2.2.2.2.2.2.2.2.2.2.2=g) (h4:c.2.2.2.1=(x:Int)) (h5:c.2.1=n)
    (hg:(g.length:Int)=n) (hl:l.length<=549755813888) (hk:l.length+2<=k):LiUnionHasLoop_3 k X c k (false,0)=X (l.any (ld g n x),(l.length:Int)):=by
  subst h1;generalize hl0:c.2.2.2.2.2.2.2.2.2.1=l at*;refine (row_s0 (L:=LiUnionHasLoop_3 k X c) (a:=l) (fun (s:Bool) i=>(s,i)) (X:=fun s i=>X (s,i)) (fun s i l=>X (s || l.any (ld g n x),((i+l.length:Nat):Int))) (body:=fun m s i x2=>if (s==false)=true then if ((decide (c.2.2.2.1<(x2.length:Int)))==true)=true then if 0<=c.2.2.2.1 then ix x2 c.2.2.2.1.toNat fun x3=>(FiisIndex k x3 c.2.1).bind fun p4=>if (p4==true)=true then if 0<=c.2.2.2.1 then ix x2 c.2.2.2.1.toNat fun x5=>if 0<=x5 then if x5<(c.2.2.2.2.2.2.2.2.2.2.2.length:Int) then ix c.2.2.2.2.2.2.2.2.2.2.2 x5.toNat fun x6=>LiUnionHasLoop_3 k X c m ((!x6),(IntKind.i64.wrap (i+1))) else none else none else none else LiUnionHasLoop_3 k X c m (false,(IntKind.i64.wrap (i+1))) else none else LiUnionHasLoop_3 k X c m (false,(IntKind.i64.wrap (i+1))) else LiUnionHasLoop_3 k X c m (true,(IntKind.i64.wrap (i+1)))) (fun m s i=>by rw [<-h2,<-hl0];rfl) (by omega) (fun s=>by simp) (fun m i s row r h0 ht hw hi hx ih=> ?_) (by omega) false).trans (by simp)
  rw [h3,h4,h5,hw];cases s with
  | true=>
    rw [eY (by decide),ih]
    simp only [List.length_cons,Bool.true_or]
    congr 3
    omega
  | false=>
    have hfin:∀b:Bool,b=ld g n x row->X (b || r.any (ld g n x),((i+1+r.length:Nat):Int))=X (false || (row::r).any (ld g n x),((i+(row::r).length:Nat):Int)):=by
      rintro b rfl
      simp only [List.length_cons,Bool.false_or,List.any_cons]
      congr 3
      omega
    rw [dY (by decide)]
    by_cases hx1:x<row.length
    · have c1:((decide ((x:Int)<(row.length:Int)))==true)=true:=by simp;omega
      have e1:((x:Int)).toNat=x:=by simp
      have hrow:row[x]? =some row[x]:=dZ hx1
      rw [dY c1,dY (by omega),e1,ix_at hx1,fiisIndex _ _ (by omega),rZ]
      cases hI:isIdx row[x] n with
      | false=>
        rw [eY (by decide),ih]
        exact hfin false (by unfold ld;rw [hrow];simp [hI])
      | true=>
        have hI':=hI;rw [<-hg] at hI';obtain ⟨y0,y1⟩:=isIdx_pos hI';rw [dY (by decide),dY (by omega),ix_at hx1,dY y0,dY (by omega),ix_at y1,ih]
        exact hfin _ (by unfold ld;rw [hrow];simp [hI,List.getD,dZ y1])
    · have c1:¬((decide ((x:Int)<(row.length:Int)))==true)=true:=by simp;omega
      rw [eY c1,ih];exact hfin false (by unfold ld;rw [List.getElem?_eq_none (by omega)])
/-- One round. -/
def rnd (l:List (List Int)) (n:Int):Nat->Nat->Bool×List Bool->Bool×List Bool
 | 0,_,s=>s
 | m+1,x,s=>rnd l n m (x+1) (if s.2.getD x true=true then s else if l.any (ld s.2 n x)=true then s else (true,s.2.set x true))
theorem rnd_len (l:List (List Int)) (n:Int):∀(m x:Nat) (s:Bool×List Bool),(rnd l n m x s).2.length=s.2.length
  | 0,_,s=>rfl
  | m+1,x,s=>by
    rw [rnd,rnd_len l n m];split
    · rfl
    · split
      · rfl
      · simp
theorem iu2 {R:Type} {k:Nat} (X:ViUnionHasLoop_2->Option R) (c:CiUnionHasLoop_2) (l:List (List Int)) (n:Nat) (h1:c.1=l) (h2:c.2.1=(n:Int)) (h3:c.2.2.2.2.2=(n:Int)) (hl:l.length<=549755813888) (hn:n<=549755813888) (hk:l.length+3<=k):
    ∀(m q x:Nat) (ch:Bool) (g:List Bool),x+m=n->m<q->g.length=n->LiUnionHasLoop_2 k X c q (ch,(x:Int),g)=X ((rnd l (n:Int) m x (ch,g)).1,(n:Int),(rnd l (n:Int) m x (ch,g)).2):=by
  intro m;induction m with
  | zero=>
    intro q x ch g h hq hg;obtain ⟨q,rfl⟩:∃z,q=z+1:=⟨q-1,by omega⟩
    obtain rfl:x=n:=by omega
    refine (eY (show ¬decide ((x:Int)<c.2.2.2.2.2)=true by rw [h3];simp)).trans rfl
  | succ m ih=>
    intro q x ch g h hq hg;obtain ⟨q,rfl⟩:∃z,q=z+1:=⟨q-1,by omega⟩
    have hx:x<g.length:=by omega
    have e1:((x:Int)).toNat=x:=by simp
    have e2:IntKind.i64.wrap ((x:Int)+1)=((x+1:Nat):Int):=by rw [T1 (by omega) (by omega)];omega
    have p0:(0:Int)<=(x:Int):=by omega
    have p1:(x:Int)<(g.length:Int):=by omega
    refine (dY (show decide ((x:Int)<c.2.2.2.2.2)=true by rw [h3];simp;omega)).trans ((dY p0).trans ((dY p1).trans ?_))
    dsimp only;rw [e1,ix_at hx,rnd];have hgx:g.getD x true=g[x]:=by simp [List.getD,dZ hx]
    rw [hgx,e2];by_cases hb:g[x]=true
    · rw [dY hb,dY hb];exact ih q (x+1) ch g (by omega) (by omega) hg
    · rw [eY hb,eY hb];refine (iu3 _ _ l (n:Int) x g h1 (by rw [h1]) rfl rfl h2 (by rw [hg]) hl (by omega)).trans ?_
      by_cases ha:l.any (ld g (n:Int) x)=true
      · rw [dY ha];refine (eY (show ¬(!(l.any (ld g (n:Int) x)))=true by rw [ha];decide)).trans ?_
        exact ih q (x+1) ch g (by omega) (by omega) hg
      · rw [eY ha];refine (dY (show (!(l.any (ld g (n:Int) x)))=true by simpa using ha)).trans ((dY p0).trans ((dY p1).trans ?_))
        rw [ix_at hx];exact ih q (x+1) true (g.set x true) (by omega) (by omega) (by simpa using hg)
/-- Nodes that lead to one another. -/
def Closed (l:List (List Int)) (R:Nat->Prop):Prop:=∀x,R x->∃row ∈ l,∃y:Nat,row[x]? =some (y:Int)/\R y
theorem rnd_keep {l:List (List Int)} {n:Int} {R:Nat->Prop} (hR:Closed l R) (hn:∀x,R x->(x:Int)<n):∀(m x:Nat) (s:Bool×List Bool),(∀y,R y->s.2.getD y true=false)->∀y,R y->(rnd l n m x s).2.getD y true=false
  | 0,_,s,h=>h
  | m+1,x,s,h=>by
    rw [rnd];refine rnd_keep hR hn m (x+1) _ ?_
    split
    · exact h
    · split
      · exact h
      · rename_i hna;intro y hy;by_cases e:y=x
        · exfalso;subst e;obtain ⟨row,hrow,z,hz,hRz⟩:=hR y hy;apply hna
          refine List.any_eq_true.2 ⟨row,hrow,?_⟩
          unfold ld;rw [hz]
          have:=hn z hRz
          simp only [isIdx,Int.toNat_natCast,h z hRz,Bool.not_false,Bool.and_true,sZ,pZ];omega
        · have:=h y hy
          rw [List.getD_eq_getElem?_getD] at this ⊢
          simp only [List.getElem?_set,eY (Ne.symm e)]
          exact this
theorem rnd_mono {l:List (List Int)} {n:Int}:∀(m x:Nat) (s:Bool×List Bool),s.1=true->(rnd l n m x s).1=true
  | 0,_,s,h=>h
  | m+1,x,s,h=>by
    rw [rnd];refine rnd_mono m (x+1) _ ?_
    split
    · exact h
    · split
      · exact h
      · rfl
theorem rnd_fix {l:List (List Int)} {n:Int}:∀(m x:Nat) (g:List Bool),(rnd l n m x (false,g)).1=false->(rnd l n m x (false,g)).2=g/\∀y,x<=y->y<x+m->g.getD y true=false->l.any (ld g n y)=true
  | 0,x,g,h=>⟨rfl,fun y h1 h2=>by omega⟩
  | m+1,x,g,h=>by
    rw [rnd] at h ⊢;by_cases h1:g.getD x true=true
    · rw [dY h1] at h ⊢;obtain ⟨h2,h3⟩:=rnd_fix m (x+1) g h;refine ⟨h2,fun y hy1 hy2 hy=> ?_⟩
      by_cases e:y=x
      · subst e;rw [h1] at hy;cases hy
      · exact h3 y (by omega) (by omega) hy
    · rw [eY h1] at h ⊢;by_cases h4:l.any (ld g n x)=true
      · rw [dY h4] at h ⊢;obtain ⟨h2,h3⟩:=rnd_fix m (x+1) g h;refine ⟨h2,fun y hy1 hy2 hy=> ?_⟩
        by_cases e:y=x
        · subst e;exact h4
        · exact h3 y (by omega) (by omega) hy
      · rw [eY h4] at h;rw [rnd_mono m (x+1) _ rfl] at h;cases h
theorem rnd_less {l:List (List Int)} {n:Int}:∀(m x:Nat) (s:Bool×List Bool),(rnd l n m x s).2.count false<=s.2.count false/\(s.1=false->(rnd l n m x s).1=true->(rnd l n m x s).2.count false<s.2.count false)
  | 0,x,s=>⟨cY _,fun h1 h2=>by rw [rnd,h1] at h2;cases h2⟩
  | m+1,x,s=>by
    rw [rnd];by_cases h1:s.2.getD x true=true
    · rw [dY h1];exact rnd_less m (x+1) s
    · rw [eY h1];by_cases h4:l.any (ld s.2 n x)=true
      · rw [dY h4];exact rnd_less m (x+1) s
      · rw [eY h4];have hlt:x<s.2.length:=by
          apply Classical.byContradiction
          intro hx;apply h1
          simp [List.getD,List.getElem?_eq_none (by omega:s.2.length<=x)]
        have hf:s.2[x]=false:=by
          have:¬s.2[x]=true:=by simpa [List.getD,dZ hlt] using h1
          simpa using this
        have hc:(s.2.set x true).count false+1=s.2.count false:=by
          have:=List.count_set (l:=s.2) (i:=x) (a:=true) (b:=false) hlt
          have hpos:0<s.2.count false:=List.count_pos_iff.2 (by rw [<-hf];exact tZ hlt)
          rw [this,hf];simp
          omega
        have:=(rnd_less (l:=l) (n:=n) m (x+1) (true,s.2.set x true)).1
        simp only at this
        exact ⟨by omega,fun _ _=>by omega⟩
theorem iu1f {R:Type} {k:Nat} (X:ViUnionHasLoop_1->Option R) (c:CiUnionHasLoop_1) (q:Nat) (g:List Bool):LiUnionHasLoop_1 k X c (q+1) (false,g)=X (false,g):=by
 show BiUnionHasLoop_1 k X c _ (false,g)=_
 unfold BiUnionHasLoop_1;exact eY (by simp)
theorem iu1t {R:Type} {k:Nat} (X:ViUnionHasLoop_1->Option R) (c:CiUnionHasLoop_1) (q:Nat) (g:List Bool):LiUnionHasLoop_1 k X c (q+1) (true,g)=LiUnionHasLoop_2 k (fun (v2:Bool×Int×(List Bool))=>LiUnionHasLoop_1 k X c q (v2.1,v2.2.2)) (c.1,c.2.1,c.2.2.1,c.2.2.2.1,c.2.2.2.2,c.2.1) k (false,0,g):=by
 show BiUnionHasLoop_1 k X c _ (true,g)=_
 unfold BiUnionHasLoop_1;exact dY rfl
theorem iu1 {R:Type} {k:Nat} (X:ViUnionHasLoop_1->Option R) (c:CiUnionHasLoop_1) (l:List (List Int)) (n:Nat) (h1:c.1=l) (h2:c.2.1=(n:Int)) (hl:l.length<=549755813888) (hn:n<=549755813888) (hk:l.length+n+5<=k):
    ∀(m q:Nat) (ch:Bool) (g:List Bool),g.count false<=m->m+2<=q->g.length=n->(ch=false->∀y,y<n->g.getD y true=false->l.any (ld g (n:Int) y)=true)->
      ∃g',LiUnionHasLoop_1 k X c q (ch,g)=X (false,g')/\g'.length=n/\(∀y,y<n->g'.getD y true=false->l.any (ld g' (n:Int) y)=true)/\∀Rr,Closed l Rr->(∀x,Rr x->(x:Int)<(n:Int))->(∀y,Rr y->g.getD y true=false)->∀y,Rr y->g'.getD y true=false:=by
  intro m;induction m with
  | zero=>
    intro q ch g hc hq hg hfix;obtain ⟨q,rfl⟩:∃z,q=z+2:=⟨q-2,by omega⟩
    cases ch with
    | false=>exact ⟨g,iu1f X c _ g,hg,hfix rfl,fun _ _ _ h=>h⟩
    | true=>
      have e:=(iu1t X c _ g).trans (iu2 (k:=k) (fun (v2:Bool×Int×(List Bool))=>LiUnionHasLoop_1 k X c (q+1) (v2.1,v2.2.2)) (c.1,c.2.1,c.2.2.1,c.2.2.2.1,c.2.2.2.2,c.2.1) l n h1 h2 h2 hl hn (by omega) n k 0 false g (by omega) (by omega) hg)
      have hless:=(rnd_less (l:=l) (n:=(n:Int)) n 0 (false,g)).2 rfl;have hf:(rnd l (n:Int) n 0 (false,g)).1=false:=by
        cases hx:(rnd l (n:Int) n 0 (false,g)).1 with
        | false=>rfl
        | true=>have:=hless hx;simp only at this;omega
      obtain ⟨f1,f2⟩:=rnd_fix n 0 g hf;have e':LiUnionHasLoop_1 k X c (q+2) (true,g)=X (false,g):=by
        refine Eq.trans (b:=LiUnionHasLoop_1 k X c (q+1) ((rnd l (n:Int) n 0 (false,g)).1,(rnd l (n:Int) n 0 (false,g)).2)) e ?_
        rw [hf,f1];exact iu1f X c _ g
      exact ⟨g,e',hg,fun y hy=>f2 y (by omega) (by omega),fun _ _ _ h=>h⟩
  | succ m ih=>
    intro q ch g hc hq hg hfix;obtain ⟨q,rfl⟩:∃z,q=z+1:=⟨q-1,by omega⟩
    cases ch with
    | false=>exact ⟨g,iu1f X c _ g,hg,hfix rfl,fun _ _ _ h=>h⟩
    | true=>
      have e:=(iu1t X c _ g).trans (iu2 (k:=k) (fun (v2:Bool×Int×(List Bool))=>LiUnionHasLoop_1 k X c q (v2.1,v2.2.2)) (c.1,c.2.1,c.2.2.1,c.2.2.2.1,c.2.2.2.2,c.2.1) l n h1 h2 h2 hl hn (by omega) n k 0 false g (by omega) (by omega) hg)
      have hlen:=rnd_len l (n:Int) n 0 (false,g);have hless:=rnd_less (l:=l) (n:=(n:Int)) n 0 (false,g);have hm:(rnd l (n:Int) n 0 (false,g)).1=true->(rnd l (n:Int) n 0 (false,g)).2.count false<=m:=fun hx=>by have:=hless.2 rfl hx;simp only at this;omega
      cases hx:(rnd l (n:Int) n 0 (false,g)).1 with
      | true=>
        obtain ⟨g',e1,e2,e3,e4⟩:=ih q (rnd l (n:Int) n 0 (false,g)).1 (rnd l (n:Int) n 0 (false,g)).2 (hm hx) (by omega) (by rw [hlen];exact hg) (fun h=>by rw [hx] at h;cases h)
        exact ⟨g',Eq.trans (b:=LiUnionHasLoop_1 k X c q ((rnd l (n:Int) n 0 (false,g)).1,(rnd l (n:Int) n 0 (false,g)).2)) e e1,e2,e3,fun Rr a b h=>e4 Rr a b (rnd_keep a b n 0 (false,g) h)⟩
      | false=>
        obtain ⟨f1,f2⟩:=rnd_fix n 0 g hx;obtain ⟨q,rfl⟩:∃z,q=z+1:=⟨q-1,by omega⟩
        have e':LiUnionHasLoop_1 k X c (q+1+1) (true,g)=X (false,g):=by
          refine Eq.trans (b:=LiUnionHasLoop_1 k X c (q+1) ((rnd l (n:Int) n 0 (false,g)).1,(rnd l (n:Int) n 0 (false,g)).2)) e ?_
          rw [hx,f1];exact iu1f X c _ g
        exact ⟨g,e',hg,fun y hy=>f2 y (by omega) (by omega),fun _ _ _ h=>h⟩
theorem iu4 {k:Nat} (c:CiUnionHasLoop_4) (g:List Bool) (h1:c.2.2.2.2.2.2.1=(g.length:Int)) (h2:c.2.2.2.2.2.2.2=g) (hl:g.length<=549755813888) (hk:g.length<k):LiUnionHasLoop_4 k (fun (v4:Int) (x1:Bool)=>some true) (fun (v4:Int)=>some false) c k 0=some (g.any fun b=> !b):=by
 refine row_i (L:=LiUnionHasLoop_4 k _ _ c) (a:=g) (fun _ l=>some (l.any fun b=> !b)) (body:=fun n i x=>if i<(g.length:Int) then if (!x)=true then some true else LiUnionHasLoop_4 k (fun (v4:Int) (x1:Bool)=>some true) (fun (v4:Int)=>some false) c n (IntKind.i64.wrap (i+1)) else none) (X:=fun _=>some false) (fun n i=> ?_) (by omega) rfl (fun n i x r h0 ht hw hi hx ih=> ?_) hk
 · show BiUnionHasLoop_4 k _ _ c _ i=_
   unfold BiUnionHasLoop_4;rw [h1,h2];by_cases c1:decide (i<(g.length:Int))=true
   · rw [dY c1,dY c1];by_cases c2:0<=i
     · rw [dY c2,dY c2];have c3:i<(g.length:Int):=by simpa using c1
       rw [dY c3]
       have:i.toNat<g.length:=by omega
       rw [ix_at this,ix_at this,dY c3]
     · rw [eY c2,eY c2]
   · rw [eY c1,eY c1]
 · rw [dY (by omega),hw,ih,List.any_cons]
   cases x<;>rfl
theorem fiUnion {k N:Nat} (l:List (List Int)) (hl:l.length<=N) (hx:∀x ∈ l,x.length<=N) (hN:N<=549755813888) (hk:2*N+20<=k):∃b,FiUnionHasLoop k l=some b/\(b=true->∃R x,Closed l R/\R x)/\(∀R x,Closed l R->R x->b=true):=by
  obtain ⟨k,rfl⟩:=pred (d:=0) (show 1<=k by omega)
  obtain ⟨m1,m2⟩:=mxl_ge l 0;have m3:=mxl_le (N:=(N:Int)) l 0 (by omega) (fun x h=>by have:=hx x h;omega)
  obtain ⟨n,hn⟩:∃n:Nat,mxl l=(n:Int):=⟨(mxl l).toNat,by unfold mxl at*;omega⟩
  have hnN:n<=N:=by unfold mxl at hn;omega
  have hlt:∀x ∈ l,x.length<=n:=fun x h=>by have:=m2 x h;unfold mxl at hn;omega
  have e0:=(eiUnionHasLoop k l).trans (iu0 _ l (by omega) (by omega))
  rw [hn] at e0;have e1:=e0.trans ((dY (beq_self_eq_true _)).trans ((dY (show (0:Int)<=(n:Int) by omega)).trans (dY (show 1*((n:Int)).toNat<=281474976710656 by simp;omega))))
  have hrep:∀y,y<n->(List.replicate ((n:Int)).toNat false).getD y true=false:=fun y hy=>by simp [List.getD,List.getElem?_replicate,hy]
  obtain ⟨g,g1,g2,g3,g4⟩:=iu1 (k:=k) (fun (v1:Bool×(List Bool))=>LiUnionHasLoop_4 k (fun (v4:Int) (x1:Bool)=>some true) (fun (v4:Int)=>some false) (l,(n:Int),v1.1,l,(l.length:Int),(l.length:Int),(n:Int),v1.2) k 0) (l,(n:Int),l,(l.length:Int),(l.length:Int)) l n rfl rfl (by omega) (by omega) (by omega) n k true (List.replicate ((n:Int)).toNat false) (by simp [List.count_replicate]) (by omega) (by simp) (fun h=>by cases h)
  have e2:=e1.trans (g1.trans (iu4 _ g (by rw [g2]) rfl (by omega) (by omega)))
  refine ⟨_,e2,fun hb=> ?_,fun R x hR hx0=> ?_⟩
  · obtain ⟨b,hb1,hb2⟩:=List.any_eq_true.1 hb;have hbf:b=false:=by simpa using hb2
    subst hbf;obtain ⟨x,hxl,hxe⟩:=List.getElem_of_mem hb1;refine ⟨fun y=>y<n/\g.getD y true=false,x,fun y hy=> ?_,by omega,by simp [List.getD,dZ hxl,hxe]⟩
    obtain ⟨row,hrow,hld⟩:=List.any_eq_true.1 (g3 y hy.1 hy.2);unfold ld at hld;cases hz:row[y]? with
    | none=>rw [hz] at hld;cases hld
    | some z=>
      rw [hz] at hld;simp only [sZ,Bool.not_eq_true'] at hld;obtain ⟨z0,z1⟩:=isIdx_pos hld.1;exact ⟨row,hrow,z.toNat,by rw [hz];congr 1;omega,z1,hld.2⟩
  · have hRn:∀y,R y->(y:Int)<(n:Int):=fun y hy=>by
      obtain ⟨row,hrow,z,hz,_⟩:=hR y hy
      have:=(List.getElem?_eq_some_iff.1 hz).1
      have:=hlt row hrow
      omega
    have:=g4 R hR hRn (fun y hy=>hrep y (by have:=hRn y hy;omega)) x hx0
    have hxn:=hRn x hx0;have hxl:x<g.length:=by omega
    refine List.any_eq_true.2 ⟨g[x],tZ hxl,?_⟩
    have:g[x]=false:=by simpa [List.getD,dZ hxl] using this
    rw [this];rfl
inductive Pth (E:Nat->Nat->Prop):Nat->Nat->Prop
 | one {a b:Nat}:E a b->Pth E a b
 | more {a b c:Nat}:Pth E a b->E b c->Pth E a c
theorem fsMax {k:Nat} (a b:Int) (hk:1<=k):FsMax k a b=some (mx a b):=by
 obtain ⟨k,rfl⟩:=pred (d:=0) hk;rw [esMax];unfold mx;by_cases h:a<b
 · rw [dY (by simpa using h),dY h]
 · rw [eY (by simpa using h),eY h]
theorem fsl18Size {k:Nat} (l:List (List Int)) (hl:l.length<=549755813888) (hk:l.length+3<=k):Fsl18Size k l=some (mxl l):=by
 obtain ⟨k,rfl⟩:=pred (d:=0) (show 1<=k by omega)
 refine (esl18Size k l).trans (row_s0 (L:=Lsl18Size_0 k _ _) (a:=l) (fun (s:Int) i=>(s,i)) (fun s i l=>some (l.foldl (fun s x=>mx s (x.length:Int)) s)) (fun _ _ _=>rfl) (by omega) (fun s=>by simp) (fun n i s x r h0 ht hw hi hx ih=> ?_) (by omega) 0)
 refine (bs (fsMax _ _ (by omega))).trans ?_
 rw [hw,ih];rfl
theorem fsl15Has {k:Nat} (l:List Int) (x:Int) (hl:l.length<=549755813888) (hk:l.length+2<=k):Fsl15Has k l x=some (l.any fun y=>y==x):=by
 obtain ⟨k,rfl⟩:=pred (d:=0) (show 1<=k by omega)
 refine (esl15Has k l x).trans (row_i (L:=Lsl15Has_0 k _ _ _) (a:=l) (fun _ l=>some (l.any fun y=>y==x)) (fun _ _=>rfl) (by omega) rfl (fun n i y r h0 ht hw hi hx ih=> ?_) (by omega))
 show (if (y==x)=true then some true else _)=_
 rw [hw,ih,List.any_cons];cases (y==x)<;>rfl
theorem nodup_le:∀(n:Nat) (l:List Int),l.Nodup->(∀x ∈ l,0<=x/\x<(n:Int))->l.length<=n
  | 0,l,_,h=>by
    cases l with
    | nil=>simp
    | cons x r=>have:=h x (by simp);omega
  | n+1,l,hd,h=>by
    have h1:=nodup_le n (l.erase (n:Int)) (hd.erase _) (fun x hx=>by
      have hx':=(List.Nodup.mem_erase_iff hd).1 hx
      have:=h x hx'.2
      have hne:=hx'.1;omega)
    by_cases hm:(n:Int) ∈ l
    · rw [List.length_erase_of_mem hm] at h1;omega
    · rw [List.erase_of_not_mem hm] at h1;omega
/-- An edge of one of the rows. -/
def Un (l:List (List Int)) (x y:Nat):Prop:=(∃row ∈ l,row[x]? =some (y:Int))/\(y:Int)<mxl l
/-- A set of nodes, as a row. -/
structure Nodes (n:Nat) (s:List Int):Prop where
 nodup:s.Nodup
 range:∀x ∈ s,0<=x/\x<(n:Int)
theorem Nodes.len {n:Nat} {s:List Int} (h:Nodes n s):s.length<=n:=nodup_le n s h.nodup h.range
theorem Nodes.snoc {n:Nat} {s:List Int} (h:Nodes n s) {x:Int} (hx:isIdx x (n:Int)=true) (hn:(s.any fun y=>y==x)=false):Nodes n (s++[x]):=by
 have hnm:x ∉ s:=fun hm=>by
  have:(s.any fun y=>y==x)=true:=List.any_eq_true.2 ⟨x,hm,by simp⟩
  rw [hn] at this;cases this
 unfold isIdx at hx;simp only [sZ,pZ] at hx;refine ⟨qZ.2 ⟨h.nodup,by simp,?_⟩,fun y hy=> ?_⟩
 · rintro a ha b hb rfl
   have hax:a=x:=by simpa using hb
   rw [hax] at ha;exact hnm ha
 · rcases wZ.1 hy with hy | hy
   · exact h.range y hy
   · have:y=x:=by simpa using hy
     subst this;exact ⟨by omega,by omega⟩
theorem fsSteps {k N:Nat} (l:List (List Int)) (n x:Nat) (hn:mxl l=(n:Int)) (hl:l.length<=N) (hN:N<=549755813888) (hnN:n<=N) (hk:N+10<=k):∃st,Fsl18Steps k l (n:Int) (x:Int)=some st/\Nodes n st/\(∀y:Nat,Un l x y->(y:Int) ∈ st)/\∀y ∈ st,Un l x y.toNat:=by
  obtain ⟨k,rfl⟩:=pred (d:=0) (show 1<=k by omega)
  have key:∀(m q i:Nat) (out:List Int),i+m=l.length->m<q->Nodes n out->(∀y ∈ out,Un l x y.toNat)->∃st,Lsl18Steps_0 k (fun (v0:Int×(List Int))=>some v0.2) (l,(n:Int),(x:Int)) q ((i:Int),out)=some st/\Nodes n st/\(∀y ∈ out,y ∈ st)/\(∀y:Nat,(∃row ∈ l.drop i,row[x]? =some (y:Int))->(y:Int)<mxl l->(y:Int) ∈ st)/\∀y ∈ st,Un l x y.toNat:=by
    intro m;induction m with
    | zero=>
      intro q i out h hq ho hu;obtain ⟨q,rfl⟩:∃z,q=z+1:=⟨q-1,by omega⟩
      refine ⟨out,eY (show ¬decide ((i:Int)<(l.length:Int))=true by simp;omega),ho,fun _ h=>h,fun y hy _=> ?_,hu⟩
      obtain ⟨row,hr,_⟩:=hy;rw [List.drop_eq_nil_of_le (by omega)] at hr
      simp at hr
    | succ m ih=>
      intro q i out h hq ho hu;obtain ⟨q,rfl⟩:∃z,q=z+1:=⟨q-1,by omega⟩
      have hi:i<l.length:=by omega
      have c:decide ((i:Int)<(l.length:Int))=true:=by simp;omega
      have h0:(0:Int)<=(i:Int):=by omega
      have x0:(0:Int)<=(x:Int):=by omega
      have hg:l[i]? =some l[i]:=dZ hi
      have e2:IntKind.i64.wrap ((i:Int)+1)=((i+1:Nat):Int):=by rw [T1 (by omega) (by omega)];omega
      have hol:=ho.len;have hdrop:l.drop i=l[i]::l.drop (i+1):=cZ hi;have skip:(∀y:Nat,l[i][x]? =some (y:Int)->(y:Int)<mxl l->(y:Int) ∈ out)->∃st,Lsl18Steps_0 k (fun (v0:Int×(List Int))=>some v0.2) (l,(n:Int),(x:Int)) q (IntKind.i64.wrap ((i:Int)+1),out)=some st/\Nodes n st/\(∀y ∈ out,y ∈ st)/\(∀y:Nat,(∃row ∈ l.drop i,row[x]? =some (y:Int))->(y:Int)<mxl l->(y:Int) ∈ st)/\∀y ∈ st,Un l x y.toNat:=by
        intro hy;obtain ⟨st,s1,s2,s3,s4,s5⟩:=ih q (i+1) out (by omega) (by omega) ho hu
        refine ⟨st,by rw [e2];exact s1,s2,s3,fun y hr hlt=> ?_,s5⟩
        obtain ⟨row,hr,hrow⟩:=hr;rw [hdrop] at hr;rcases zZ.1 hr with rfl | hr
        · exact s3 _ (hy y hrow hlt)
        · exact s4 y ⟨row,hr,hrow⟩ hlt
      by_cases hx:x<l[i].length
      · have c1:((decide ((x:Int)<(l[i].length:Int)))==true)=true:=by simp;omega
        have hrow:l[i][x]? =some l[i][x]:=dZ hx
        have hI1:Fsl1In k l[i][x] 0 (IntKind.i64.wrap ((n:Int)-1))=some (isIdx l[i][x] (n:Int)):=by rw [fsl1In _ _ _ (by omega),inR_last _ (by omega)]
        cases hI:isIdx l[i][x] (n:Int) with
        | false=>
          rw [hI] at hI1;obtain ⟨st,s1,s2⟩:=skip (fun y hy hlt=>by
            rw [hrow] at hy;have hy':l[i][x]=(y:Int):=xZ hy;rw [hn] at hlt;rw [hy'] at hI;simp [isIdx] at hI;omega)
          exact ⟨st,(dY c).trans ((dY h0).trans ((Y0 (n:=i) hg _).trans ((dY c1).trans ((dY h0).trans ((Y0 (n:=i) hg _).trans ((dY x0).trans ((Y0 (n:=x) hrow _).trans ((bs hI1).trans ((eY (by decide)).trans s1))))))))),s2⟩
        | true=>
          rw [hI] at hI1;have hH:Fsl15Has k out l[i][x]=some (out.any fun y=>y==l[i][x]):=fsl15Has _ _ (by omega) (by omega)
          cases ha:(out.any fun y=>y==l[i][x]) with
          | true=>
            rw [ha] at hH;obtain ⟨st,s1,s2⟩:=skip (fun y hy hlt=>by
              rw [hrow] at hy;have hy:=xZ hy;obtain ⟨z,hz,hze⟩:=List.any_eq_true.1 ha
              have:z=(y:Int):=by rw [<-hy];simpa using hze
              rw [<-this];exact hz)
            exact ⟨st,(dY c).trans ((dY h0).trans ((Y0 (n:=i) hg _).trans ((dY c1).trans ((dY h0).trans ((Y0 (n:=i) hg _).trans ((dY x0).trans ((Y0 (n:=x) hrow _).trans ((bs hI1).trans ((dY rfl).trans ((dY h0).trans ((Y0 (n:=i) hg _).trans ((dY x0).trans ((Y0 (n:=x) hrow _).trans ((bs hH).trans ((eY (by decide)).trans s1))))))))))))))),s2⟩
          | false=>
            rw [ha] at hH;have c8:(out.length+([l[i][x]]).length)*8<=140737488355328:=by simp;omega
            have hI':=isIdx_pos hI;obtain ⟨st,s1,s2,s3,s4,s5⟩:=ih q (i+1) (out++[l[i][x]]) (by omega) (by omega) (ho.snoc hI ha) (fun y hy=>by
              rcases wZ.1 hy with hy | hy
              · exact hu y hy
              · rw [kZ.1 hy];refine ⟨⟨l[i],tZ hi,?_⟩,?_⟩
                · rw [hrow];congr 1;omega
                · rw [hn];omega)
            rw [<-e2] at s1;refine ⟨st,(dY c).trans ((dY h0).trans ((Y0 (n:=i) hg _).trans ((dY c1).trans ((dY h0).trans ((Y0 (n:=i) hg _).trans ((dY x0).trans ((Y0 (n:=x) hrow _).trans ((bs hI1).trans ((dY rfl).trans ((dY h0).trans ((Y0 (n:=i) hg _).trans ((dY x0).trans ((Y0 (n:=x) hrow _).trans ((bs hH).trans ((dY rfl).trans ((dY h0).trans ((Y0 (n:=i) hg _).trans ((dY x0).trans ((Y0 (n:=x) hrow _).trans ((dY c8).trans s1)))))))))))))))))))),s2,fun y hy=>s3 y (gZ _ hy),fun y hr hlt=> ?_,s5⟩
            obtain ⟨row,hr,hrw⟩:=hr;rw [hdrop] at hr;rcases zZ.1 hr with rfl | hr
            · rw [hrow] at hrw;rw [<-xZ hrw];exact s3 _ (by simp)
            · exact s4 y ⟨row,hr,hrw⟩ hlt
      · have c1:¬((decide ((x:Int)<(l[i].length:Int)))==true)=true:=by simp;omega
        obtain ⟨st,s1,s2⟩:=skip (fun y hy _=>by rw [List.getElem?_eq_none (by omega)] at hy;cases hy)
        exact ⟨st,(dY c).trans ((dY h0).trans ((Y0 (n:=i) hg _).trans ((eY c1).trans s1))),s2⟩
  obtain ⟨st,s1,s2,s3,s4,s5⟩:=key l.length k 0 [] (by omega) (by omega) ⟨List.nodup_nil,by simp⟩ (by simp)
  exact ⟨st,(esl18Steps k l _ _).trans s1,s2,fun y hy=>s4 y (by simpa using hy.1) hy.2,s5⟩
theorem us2 {R:Type} {k N n:Nat} (X:VsUnionHasLoop_2->Option R) (c:CsUnionHasLoop_2) (more:List Int) (hc:c.2.2.2.2=more) (hm:Nodes n more) (hnN:n<=N) (hN:N<=549755813888) (hk:N+10<=k):
    ∀(m q j:Nat) (seen:List Int),j+m=more.length->m<q->Nodes n seen->∃e,LsUnionHasLoop_2 k X c q ((j:Int),seen)=X ((more.length:Int),seen++e)/\Nodes n (seen++e)/\(∀y ∈ more.drop j,y ∈ seen++e)/\∀y ∈ e,y ∈ more:=by
  intro m;induction m with
  | zero=>
    intro q j seen h hq hs;obtain ⟨q,rfl⟩:∃z,q=z+1:=⟨q-1,by omega⟩
    obtain rfl:j=more.length:=by omega
    refine ⟨[],?_,by simpa using hs,by simp,by simp⟩
    rw [List.append_nil];exact eY (show ¬decide ((more.length:Int)<(c.2.2.2.2.length:Int))=true by rw [hc];simp)
  | succ m ih=>
    intro q j seen h hq hs;obtain ⟨q,rfl⟩:∃z,q=z+1:=⟨q-1,by omega⟩
    have hml:=hm.len;have hsl:=hs.len;have hj:j<more.length:=by omega
    have hg:c.2.2.2.2[j]? =some more[j]:=by rw [hc];exact dZ hj
    have p0:(0:Int)<=(j:Int):=by omega
    have p1:(j:Int)<(c.2.2.2.2.length:Int):=by rw [hc];omega
    have e2:IntKind.i64.wrap ((j:Int)+1)=((j+1:Nat):Int):=by rw [T1 (by omega) (by omega)];omega
    have hd:more.drop j=more[j]::more.drop (j+1):=cZ hj;have hH:Fsl15Has k seen more[j]=some (seen.any fun y=>y==more[j]):=fsl15Has _ _ (by omega) (by omega)
    cases ha:(seen.any fun y=>y==more[j]) with
    | true=>
      rw [ha] at hH;obtain ⟨e,e1,e3,e4,e5⟩:=ih q (j+1) seen (by omega) (by omega) hs
      rw [<-e2] at e1;refine ⟨e,(dY (yZ p1)).trans ((dY p0).trans ((dY p1).trans ((Y0 (n:=j) hg _).trans ((bs hH).trans ((eY (by decide)).trans e1))))),e3,fun y hy=> ?_,e5⟩
      rw [hd] at hy;rcases zZ.1 hy with rfl | hy
      · obtain ⟨z,hz,hze⟩:=List.any_eq_true.1 ha
        have:z=more[j]:=by simpa using hze
        rw [<-this];exact gZ _ hz
      · exact e4 y hy
    | false=>
      rw [ha] at hH;have hI:isIdx more[j] (n:Int)=true:=by
        have:=hm.range more[j] (tZ hj)
        simp [isIdx];omega
      have c8:(seen.length+([more[j]]).length)*8<=140737488355328:=by simp;omega
      obtain ⟨e,e1,e3,e4,e5⟩:=ih q (j+1) (seen++[more[j]]) (by omega) (by omega) (hs.snoc hI ha)
      rw [<-e2] at e1;refine ⟨more[j]::e,?_,by simpa using e3,fun y hy=> ?_,fun y hy=> ?_⟩
      · refine ((dY (yZ p1)).trans ((dY p0).trans ((dY p1).trans ((Y0 (n:=j) hg _).trans ((bs hH).trans ((dY rfl).trans ((dY p0).trans ((dY p1).trans ((Y0 (n:=j) hg _).trans ((dY c8).trans e1)))))))))).trans ?_
        simp
      · rw [hd] at hy;rcases zZ.1 hy with rfl | hy
        · simp
        · simpa using e4 y hy
      · rcases zZ.1 hy with rfl | hy
        · exact tZ hj
        · exact e5 y hy
theorem us1 {k N n:Nat} (Y:Option Bool) (l:List (List Int)) (i:Nat) (hn:mxl l=(n:Int)) (hl:l.length<=N) (hnN:n<=N) (hN:N<=549755813888) (hk:N+15<=k):
    ∀(m q j:Nat) (seen:List Int),j+m=n+1->m<q->j<=seen.length->Nodes n seen->(∀a,a<j->∀z,seen[a]? =some z->z≠(i:Int)/\∀y:Nat,Un l z.toNat y->(y:Int) ∈ seen)->(∀z ∈ seen,Pth (Un l) i z.toNat)->
      (LsUnionHasLoop_1 k (fun (v1:Int×(List Int)) (x3:Int)=>some true) (fun (v1:Int×(List Int))=>Y) (l,(n:Int),(i:Int)) q ((j:Int),seen)=some true/\Pth (Un l) i i)\/
        (LsUnionHasLoop_1 k (fun (v1:Int×(List Int)) (x3:Int)=>some true) (fun (v1:Int×(List Int))=>Y) (l,(n:Int),(i:Int)) q ((j:Int),seen)=Y/\∃S:List Int,(∀y ∈ seen,y ∈ S)/\(∀y ∈ S,y≠(i:Int))/\∀z ∈ S,∀y:Nat,Un l z.toNat y->(y:Int) ∈ S):=by
  intro m;induction m with
  | zero=>
    intro q j seen h hq hj hs hp hpt
    have:=hs.len
    omega
  | succ m ih=>
    intro q j seen h hq hj hs hp hpt;obtain ⟨q,rfl⟩:∃z,q=z+1:=⟨q-1,by omega⟩
    have hsl:=hs.len;by_cases hjl:j=seen.length
    · subst hjl;refine .inr ⟨eY (show ¬decide ((seen.length:Int)<(seen.length:Int))=true by simp),seen,fun y hy=>hy,fun y hy=> ?_,fun z hz=> ?_⟩
      · obtain ⟨a,ha,hae⟩:=List.getElem_of_mem hy;exact (hp a ha y (by rw [dZ ha,hae])).1
      · obtain ⟨a,ha,hae⟩:=List.getElem_of_mem hz;exact (hp a ha z (by rw [dZ ha,hae])).2
    · have hjlt:j<seen.length:=by omega
      have hg:seen[j]? =some seen[j]:=dZ hjlt
      have p0:(0:Int)<=(j:Int):=by omega
      have p1:(j:Int)<(seen.length:Int):=by omega
      have e2:IntKind.i64.wrap ((j:Int)+1)=((j+1:Nat):Int):=by rw [T1 (by omega) (by omega)];omega
      by_cases hd:(seen[j]==(i:Int))=true
      · have hP:=hpt _ (tZ hjlt);rw [show seen[j]=(i:Int) by simpa using hd] at hP
        exact .inl ⟨(dY (yZ p1)).trans ((dY p0).trans ((dY p1).trans ((Y0 (n:=j) hg _).trans (dY hd)))),by simpa using hP⟩
      · have hr:=hs.range seen[j] (tZ hjlt);obtain ⟨x,hx⟩:∃x:Nat,seen[j]=(x:Int):=⟨seen[j].toNat,by omega⟩
        obtain ⟨st,s1,s2,s3,s4⟩:=fsSteps (k:=k) l n x hn hl hN hnN (by omega)
        rw [<-hx] at s1;obtain ⟨e,e1,e3,e4,e5⟩:=us2 (k:=k) (N:=N) (n:=n) (fun (v2:Int×(List Int))=>LsUnionHasLoop_1 k (fun (v1:Int×(List Int)) (x3:Int)=>some true) (fun (v1:Int×(List Int))=>Y) (l,(n:Int),(i:Int)) q ((IntKind.i64.wrap ((j:Int)+1)),v2.2)) (l,(n:Int),(i:Int),(j:Int),st) st rfl s2 hnN hN (by omega) st.length k 0 seen (by omega) (by have:=s2.len;omega) hs
        have hstep:LsUnionHasLoop_1 k (fun (v1:Int×(List Int)) (x3:Int)=>some true) (fun (v1:Int×(List Int))=>Y) (l,(n:Int),(i:Int)) (q+1) ((j:Int),seen)=LsUnionHasLoop_1 k (fun (v1:Int×(List Int)) (x3:Int)=>some true) (fun (v1:Int×(List Int))=>Y) (l,(n:Int),(i:Int)) q (((j+1:Nat):Int),seen++e):=by
          rw [<-e2];exact (dY (yZ p1)).trans ((dY p0).trans ((dY p1).trans ((Y0 (n:=j) hg _).trans ((eY hd).trans ((dY p0).trans ((dY p1).trans ((Y0 (n:=j) hg _).trans ((bs s1).trans e1))))))))
        rw [hstep];have hpre:∀a z,a<j->(seen++e)[a]? =some z->seen[a]? =some z:=fun a z ha hz=>by rw [List.getElem?_append_left (by omega)] at hz;exact hz
        rcases ih q (j+1) (seen++e) (by omega) (by omega) (by simp;omega) e3 (fun a ha z hz=>by
          by_cases haj:a=j
          · subst haj;rw [List.getElem?_append_left hjlt,hg] at hz
            have hz:=xZ hz;subst hz;refine ⟨by simpa using hd,fun y hy=> ?_⟩
            rw [hx] at hy;exact e4 _ (by simpa using s3 y (by simpa using hy))
          · obtain ⟨q1,q2⟩:=hp a (by omega) z (hpre a z (by omega) hz)
            exact ⟨q1,fun y hy=>gZ _ (q2 y hy)⟩) (fun z hz=>by
          rcases wZ.1 hz with hz | hz
          · exact hpt z hz
          · have hP:=hpt _ (tZ hjlt);rw [hx] at hP;exact .more (by simpa using hP) (s4 z (e5 z hz))) with r | ⟨r,S,t1,t2,t3⟩
        · exact .inl r
        · exact .inr ⟨r,S,fun y hy=>t1 y (gZ _ hy),t2,t3⟩
theorem fsUnion {k N:Nat} (l:List (List Int)) (hl:l.length<=N) (hx:∀x ∈ l,x.length<=N) (hN:N<=549755813888) (hk:N+30<=k):∃b,FsUnionHasLoop k l=some b/\(b=false->∀i,¬Pth (Un l) i i)/\(b=true->∃i,Pth (Un l) i i):=by
  obtain ⟨k,rfl⟩:=pred (d:=0) (show 1<=k by omega)
  obtain ⟨m1,m2⟩:=mxl_ge l 0;have m3:=mxl_le (N:=(N:Int)) l 0 (by omega) (fun x h=>by have:=hx x h;omega)
  obtain ⟨n,hn⟩:∃n:Nat,mxl l=(n:Int):=⟨(mxl l).toNat,by unfold mxl at*;omega⟩
  have hnN:n<=N:=by unfold mxl at hn;omega
  have e0:=(esUnionHasLoop k l).trans (bs (fsl18Size l (by omega) (by omega)))
  rw [hn] at e0;have key:∀(m q i:Nat),i+m=n->m<q->(∀a,a<i->¬Pth (Un l) a a)->∃b,LsUnionHasLoop_0 k (fun (v0:Int) (p2:List Int) (v1:Int×(List Int)) (x3:Int)=>some true) (fun (v0:Int)=>some false) (l,(n:Int)) q (i:Int)=some b/\(b=false->∀i,¬Pth (Un l) i i)/\(b=true->∃i,Pth (Un l) i i):=by
    intro m;induction m with
    | zero=>
      intro q i h hq hp;obtain ⟨q,rfl⟩:∃z,q=z+1:=⟨q-1,by omega⟩
      refine ⟨false,eY (show ¬decide ((i:Int)<(n:Int))=true by simp;omega),fun _ a ha=> ?_,fun h=>by cases h⟩
      have:(a:Int)<mxl l:=by
        cases ha with
        | one h=>exact h.2
        | more _ h=>exact h.2
      rw [hn] at this;exact hp a (by omega) ha
    | succ m ih=>
      intro q i h hq hp;obtain ⟨q,rfl⟩:∃z,q=z+1:=⟨q-1,by omega⟩
      have c:decide ((i:Int)<(n:Int))=true:=by simp;omega
      have e2:IntKind.i64.wrap ((i:Int)+1)=((i+1:Nat):Int):=by rw [T1 (by omega) (by omega)];omega
      obtain ⟨st,s1,s2,s3,s4⟩:=fsSteps (k:=k) l n i hn hl hN hnN (by omega)
      rcases us1 (k:=k) (LsUnionHasLoop_0 k (fun (v0:Int) (p2:List Int) (v1:Int×(List Int)) (x3:Int)=>some true) (fun (v0:Int)=>some false) (l,(n:Int)) q (IntKind.i64.wrap ((i:Int)+1))) l i hn hl hnN hN (by omega) (n+1) k 0 st (by omega) (by omega) (by omega) s2 (fun a ha=>by omega) (fun z hz=> .one (s4 z hz)) with ⟨r,rp⟩ | ⟨r,S,t1,t2,t3⟩
      · exact ⟨true,(dY c).trans ((bs s1).trans r),(fun h=>by cases h),fun _=>⟨i,rp⟩⟩
      · obtain ⟨b,b1,b2⟩:=ih q (i+1) (by omega) (by omega) (fun a ha hpt=>by
          by_cases e:a=i
          · subst e;have all:∀y:Nat,Pth (Un l) a y->(y:Int) ∈ S:=by
              intro y hy;induction hy with
              | one h=>exact t1 _ (s3 _ h)
              | more _ h ih=>exact t3 _ ih _ (by simpa using h)
            exact t2 _ (all a hpt) rfl
          · exact hp a (by omega) hpt)
        rw [<-e2] at b1;exact ⟨b,(dY c).trans ((bs s1).trans (r.trans b1)),b2⟩
  obtain ⟨b,b1,b2⟩:=key n k 0 (by omega) (by omega) (fun a ha=>by omega)
  exact ⟨b,e0.trans b1,b2⟩
theorem own_if {R:Type} (i n:Int) (A B:Option R):(if decide (i<n)=true then if 0<=i then if i<n then A else none else none else B)=if decide (i<n)=true then if 0<=i then A else none else B:=by
 by_cases h:i<n
 · rw [dY h]
 · rw [eY (by simpa using h),eY (by simpa using h)]
theorem mixS_mem {N:Nat} {p:W0} {d:Int} (hr:rowsLe N m0 p) (hN:N<=549755813888) (l:List Int):∀x ∈ mixS p d l,x.length<=N:=by
  intro x hx;obtain ⟨a,ha,he⟩:=List.mem_filterMap.1 hx;have h3:=(fTableIn (k:=N+5) p a d hr hN (cY _)).2.2;cases ht:tbl p a d with
  | none=>rw [ht] at he;cases he
  | some t=>
    rw [ht] at he;rw [tblR_some ht] at h3
    obtain rfl:t.2.2=x:=by simpa using he
    exact h3
theorem mixI_mem {N:Nat} {p:W0} {d:Int} (hr:rowsLe N m0 p) (hN:N<=549755813888) (l:List Int):∀x ∈ mixI p d l,x.length<=N:=by
 intro x hx;obtain ⟨a,ha,he⟩:=List.mem_map.1 hx;have h3:=(fTableIn (k:=N+5) p a d hr hN (cY _)).2.2;rw [he] at h3;exact h3
theorem fsSafe {k N:Nat} (p:W0) (d a b:Int) (hr:rowsLe N m0 p) (hN:N<=549755813888) (hk:N+40<=k):
    ∃c,FsIsSafeMix k p d a b=some c/\(c=true↔∀i,¬Pth (Un (mixS p d (pcs a b 0 p.2.2.2))) i i):=by
  obtain ⟨k,rfl⟩:=pred (d:=0) (show 1<=k by omega)
  have h1:p.2.2.2.length<=N:=(Z0 hr.2.2.2).1;have hp:=pcs_len a b p.2.2.2 0;have hm:=mixS_len p d (pcs a b 0 p.2.2.2);obtain ⟨c,c1,c2,c3⟩:=fsUnion (k:=k) (mixS p d (pcs a b 0 p.2.2.2)) (N:=N) (by omega) (mixS_mem hr hN _) hN (by omega)
  have e0:=(esIsSafeMix k p d a b).trans (bs (fsPiecesIn p a b (by omega) (by omega)))
  refine ⟨!c,e0.trans ?_,fun h=>c2 (by simpa using h),fun h=> ?_⟩
  rotate_left
  · cases hc:c with
    | false=>rfl
    | true=>
      obtain ⟨i,hi⟩:=c3 hc;exact absurd hi (h i)
  generalize hl:pcs a b 0 p.2.2.2=l at*;refine (row_inv0 (L:=LsIsSafeMix_0 k (fun v0=>(FsUnionHasLoop k v0.2).bind fun p2=>some (!p2)) (d,p,l)) (a:=l) (fun (s:List (List Int)) i=>(i,s)) (fun s i r=>(FsUnionHasLoop k (s++mixS p d r)).bind fun p2=>some (!p2)) (X:=fun s _=>(FsUnionHasLoop k s).bind fun p2=>some (!p2)) (fun s i=>s.length<=i) (fun _ _ _=>own_if _ _ _ _) (by omega) (fun s _=>by simp [mixS]) (fun n i s x r hI h0 ht hw hi hx ih=> ?_) (by omega) [] (by simp)).trans ?_
  · dsimp only;refine (bs (fTableIn p x d hr hN (by omega)).1).trans ?_
    rw [hw];cases hq:tbl p x d with
    | none=>
      rw [tblR_none hq,eY (by decide),ih s (by omega)]
      show _=(FsUnionHasLoop k (s++(x::r).filterMap _)).bind _
      rw [List.filterMap_cons,hq];rfl
    | some t=>
      rw [tblR_some hq,dY rfl,dY (by simp;omega),ih _ (by simp;omega)]
      show _=(FsUnionHasLoop k (s++(x::r).filterMap _)).bind _
      rw [List.filterMap_cons,hq];simp [mixS]
  · show (FsUnionHasLoop k ([]++mixS p d l)).bind _=_
    rw [List.nil_append,c1];rfl
theorem fiSafe {k N:Nat} (p:W0) (d a b:Int) (hr:rowsLe N m0 p) (hN:N<=549755813888) (hk:2*N+40<=k):
    ∃c,FiIsSafeMix k p d a b=some c/\(c=true↔∀R i,Closed (mixI p d (pcs a b 0 p.2.2.2)) R->¬R i):=by
  obtain ⟨k,rfl⟩:=pred (d:=0) (show 1<=k by omega)
  have h1:p.2.2.2.length<=N:=(Z0 hr.2.2.2).1;have hp:=pcs_len a b p.2.2.2 0;obtain ⟨c,c1,c3,c2⟩:=fiUnion (k:=k) (mixI p d (pcs a b 0 p.2.2.2)) (N:=N) (by simp only [mixI,List.length_map];omega) (mixI_mem hr hN _) hN (by omega)
  have e0:=(eiIsSafeMix k p d a b).trans (bs (fiPiecesIn p a b (by omega) (by omega)))
  refine ⟨!c,e0.trans ?_,fun h R i hR hi=>(by have:=c2 R i hR hi;rw [this] at h;cases h),fun h=> ?_⟩
  rotate_left
  · cases hc:c with
    | false=>rfl
    | true=>
      obtain ⟨R,x,h1,h2⟩:=c3 hc;exact absurd h2 (h R x h1)
  generalize hl:pcs a b 0 p.2.2.2=l at*;refine (row_inv0 (L:=LiIsSafeMix_0 k (fun v0=>(FiUnionHasLoop k v0.2).bind fun p2=>some (!p2)) (d,(l.length:Int),p,l)) (a:=l) (fun (s:List (List Int)) i=>(i,s)) (fun s i r=>(FiUnionHasLoop k (s++mixI p d r)).bind fun p2=>some (!p2)) (X:=fun s _=>(FiUnionHasLoop k s).bind fun p2=>some (!p2)) (fun s i=>s.length<=i) (fun _ _ _=>own_if _ _ _ _) (by omega) (fun s _=>by simp [mixI]) (fun n i s x r hI h0 ht hw hi hx ih=> ?_) (by omega) [] (by simp)).trans ?_
  · dsimp only;refine (bs (fTableIn p x d hr hN (by omega)).2.1).trans ?_
    rw [hw,dY (by simp;omega),ih _ (by simp;omega)]
    simp [mixI]
  · show (FiUnionHasLoop k ([]++mixI p d l)).bind _=_
    rw [List.nil_append,c1];rfl
theorem Pth.first {E:Nat->Nat->Prop} {a b:Nat} (h:Pth E a b):∃c,E a c/\(c=b\/Pth E c b):=by
  induction h with
  | one h=>exact ⟨_,h,.inl rfl⟩
  | more _ e ih=>
    obtain ⟨c,h1,h2⟩:=ih;rcases h2 with rfl | h2
    · exact ⟨_,h1,.inr (.one e)⟩
    · exact ⟨_,h1,.inr (.more h2 e)⟩
theorem closed_of_loop {l:List (List Int)} {i:Nat} (h:Pth (Un l) i i):∃R x,Closed l R/\R x:=by
 refine ⟨fun y=>Pth (Un l) y i,i,fun y hy=> ?_,h⟩
 obtain ⟨c,h1,h2⟩:=hy.first;obtain ⟨row,hr,hc⟩:=h1.1;refine ⟨row,hr,c,hc,?_⟩
 rcases h2 with rfl | h2
 · exact h
 · exact h2
theorem loop_of_closed {l:List (List Int)} {R:Nat->Prop} {x:Nat} (hR:Closed l R) (hx:R x):∃i,Pth (Un l) i i:=by
 obtain ⟨m1,m2⟩:=mxl_ge l 0;obtain ⟨n,hn⟩:∃n:Nat,mxl l=(n:Int):=⟨(mxl l).toNat,by unfold mxl at*;omega⟩
 have hlt:∀y,R y->(y:Int)<mxl l:=fun y hy=>by
  obtain ⟨row,hr,c,hc,_⟩:=hR y hy;have h1:=(List.getElem?_eq_some_iff.1 hc).1
  have h2:=m2 row hr;unfold mxl;omega
 have step:∀y:{y // R y},∃z:{z // R z},Un l y.1 z.1:=fun ⟨y,hy⟩=>by
  obtain ⟨row,hr,c,hc,hRc⟩:=hR y hy;exact ⟨⟨c,hRc⟩,⟨row,hr,hc⟩,hlt c hRc⟩
 let f:Nat->{y // R y}:=fun j=>Nat.rec ⟨x,hx⟩ (fun _ y=>Classical.choose (step y)) j
 have hf:∀j,Un l (f j).1 (f (j+1)).1:=fun j=>Classical.choose_spec (step (f j))
 have hp:∀j a,Pth (Un l) (f a).1 (f (a+j+1)).1:=by
  intro j;induction j with
  | zero=>intro a;exact .one (hf a)
  | succ j ih=>intro a;exact .more (ih a) (hf (a+j+1))
 by_cases hex:∃a b,a<b/\b<=n/\(f a).1=(f b).1
 · obtain ⟨a,b,hab,_,he⟩:=hex;refine ⟨(f a).1,?_⟩
   have:=hp (b-a-1) a
   rw [show a+(b-a-1)+1=b by omega,<-he] at this
   exact this
 · exfalso;have hnd:((List.range (n+1)).map fun j=>(((f j).1:Nat):Int)).Nodup:=by
    rw [List.nodup_iff_pairwise_ne,List.pairwise_map,List.pairwise_iff_getElem];intro a b ha hb hab he;have hb':b<n+1:=by simpa using hb
    rw [List.getElem_range,List.getElem_range] at he;exact hex ⟨a,b,hab,by omega,Int.ofNat_inj.1 he⟩
   have:=nodup_le n _ hnd (fun y hy=>by
    obtain ⟨j,_,rfl⟩:=List.mem_map.1 hy;have h1:=hlt _ (f j).2;rw [hn] at h1;exact ⟨Int.natCast_nonneg _,h1⟩)
   simp only [List.length_map,List.length_range] at this;omega
theorem closed_mix {p:W0} {d:Int} {l:List Int} {R:Nat->Prop}:Closed (mixI p d l) R↔Closed (mixS p d l) R:=by
  constructor
  · intro h x hx;obtain ⟨row,hr,y,hy,hRy⟩:=h x hx;obtain ⟨a,ha,rfl⟩:=List.mem_map.1 hr;cases hq:tbl p a d with
    | none=>rw [tblR_none hq] at hy;simp at hy
    | some t=>
      rw [tblR_some hq] at hy;exact ⟨t.2.2,List.mem_filterMap.2 ⟨a,ha,by rw [hq];rfl⟩,y,hy,hRy⟩
  · intro h x hx;obtain ⟨row,hr,y,hy,hRy⟩:=h x hx;obtain ⟨a,ha,he⟩:=List.mem_filterMap.1 hr;cases hq:tbl p a d with
    | none=>rw [hq] at he;cases he
    | some t=>
      rw [hq] at he
      obtain rfl:t.2.2=row:=by simpa using he
      exact ⟨t.2.2,List.mem_map.2 ⟨a,ha,by rw [tblR_some hq]⟩,y,hy,hRy⟩
/-- Both sides hold the same mixes safe. -/
theorem fSafe {k j N:Nat} (p:W0) (d a b:Int) (hr:rowsLe N m0 p) (hN:N<=549755813888) (hk:2*N+40<=k) (hj:2*N+40<=j):
 ∃c,FsIsSafeMix j p d a b=some c/\FiIsSafeMix k p d a b=some c:=by
 obtain ⟨c,c1,c2⟩:=fsSafe (k:=j) p d a b hr hN (by omega)
 obtain ⟨e,e1,e2⟩:=fiSafe (k:=k) p d a b hr hN (by omega)
 have:c=e:=by
  rw [Bool.eq_iff_iff,c2,e2];constructor
  · intro h R i hR hi;obtain ⟨j,hj⟩:=loop_of_closed (closed_mix.1 hR) hi;exact h j hj
  · intro h i hi;obtain ⟨R,x,h1,h2⟩:=closed_of_loop hi;exact h R x (closed_mix.2 h1) h2
 subst this;exact ⟨c,c1,e1⟩
def key (ds:List Int) (x:Int):Int:=(ds[x.toNat]?).getD 0
def good (ds:List Int) (x:Int):Prop:=0<=x/\x.toNat<ds.length
def ltx (ds:List Int) (x y:Int):Prop:=key ds x<key ds y\/(key ds x=key ds y/\x<y)
theorem ltx_trans {ds:List Int} {x y z:Int} (h1:ltx ds x y) (h2:ltx ds y z):ltx ds x z:=by
 unfold ltx at*;omega
theorem altCmp {k:Nat} {ds nx:List Int} {x y a:Int} (hx:good ds x) (hy:good ds y) (hk:4<=k):∃c,FiAltsOf_1v k x y a ds nx=some c/\decide (c<0)=decide (key ds x<key ds y):=by
 obtain ⟨k,rfl⟩:=pred (d:=0) (show 1<=k by omega)
 obtain ⟨k,rfl⟩:=pred (d:=0) (show 1<=k by omega)
 obtain ⟨k,rfl⟩:=pred (d:=0) (show 1<=k by omega)
 have h1:ds[x.toNat]? =some (key ds x):=by unfold key;rw [dZ hx.2];rfl
 have h2:ds[y.toNat]? =some (key ds y):=by unfold key;rw [dZ hy.2];rfl
 have e:=(eiAltsOf_1v (k+1+1) x y a ds nx).trans ((dY hx.1).trans ((Y0 h1 _).trans ((dY hy.1).trans (Y0 h2 _))));have c:=(egCompare_int (k+1) (key ds x) (key ds y)).trans ((bs (egisNaN_int k _)).trans (bs (egisNaN_int k _)));have f1:¬(key ds x !=key ds x)=true:=by simp
 have f2:¬(key ds y !=key ds y)=true:=by simp
 have c:=c.trans ((eY f1).trans (eY f2));by_cases h:key ds x<key ds y
 · have c:=c.trans (dY (yZ h));exact ⟨-1,e.trans ((bs c).trans rfl),by rw [yZ h];rfl⟩
 · have c:=c.trans (eY (by rw [vZ h];decide))
   rw [vZ h];by_cases h2:key ds x>key ds y
   · have c:=c.trans (dY (yZ h2));exact ⟨1,e.trans ((bs c).trans rfl),rfl⟩
   · have c:=c.trans (eY (by rw [vZ h2];decide))
     exact ⟨0,e.trans ((bs c).trans rfl),rfl⟩
theorem at_mid {α:Type} (P S:List α) (x:α):(P++x::S)[P.length]? =some x:=by simp
theorem set_mid {α:Type} (P S:List α) (x y:α):(P++x::S).set P.length y=P++y::S:=by simp
theorem at_mid' {α:Type} {v P S:List α} {x:α} {n:Nat} (h:v=P++x::S) (hn:P.length=n):v[n]? =some x:=by subst h;subst hn;exact at_mid P S x
theorem at_mid2 {α:Type} {v P S:List α} {x y:α} {n:Nat} (h:v=P++y::x::S) (hn:P.length+1=n):v[n]? =some x:=
 at_mid' (P:=P++[y]) (S:=S) (by rw [h];simp) (by simpa using hn)
theorem swap_mid {α:Type} {v P S:List α} {x y:α} {n:Nat} (h:v=P++y::x::S) (hn:P.length=n):(v.set (n+1) y).set n x=P++x::y::S:=by
 subst h;subst hn;simp
theorem swap_mid' {α:Type} {v P S:List α} {x y:α} {n:Nat} (h:v=P++y::x::S) (hn:P.length=n):(v.set n x).set (n+1) y=P++x::y::S:=by
 subst h;subst hn;simp
theorem wrapD {i:Int} (h0: -4611686018427387904<=i) (h1:i<=4611686018427387904):IntKind.i64.wrap i=i:=T1 (by omega) (by omega)
theorem insIn {R:Type} {k:Nat} {ds nx:List Int} {X0:U0->Int->Int->Int->Option R} {X1:U0->Option R} {a b z i:Int} (Y:List Int->Option R) (hX0:∀v x y p,X0 v x y p=Y v.2) (hX1:∀v,X1 v=Y v.2) (hk:4<=k)
    (P:List Int) (x:Int) (hx:good ds x) (ha:(P.length:Int)=a):∀(m:Nat) (L1 L2 T:List Int),L1.length<m->(∀y ∈ L1,good ds y)->(P++L1++x::L2++T).length<=549755813888->
      ∃M1 M2,L1=M1++M2/\D1 k X0 X1 (a,b,z,ds,nx,i) m (((P++L1).length:Int),P++L1++x::L2++T)=Y (P++M1++x::(M2++L2)++T)/\(∀y,M1.getLast? =some y->¬key ds x<key ds y)/\(∀y ∈ M2,key ds x<key ds y):=by
  intro m;induction m with
  | zero=>intro L1 L2 T h;omega
  | succ m ih=>
    intro L1 L2 T hm hg hlen;rcases List.eq_nil_or_concat L1 with rfl | ⟨L,y,rfl⟩
    · refine ⟨[],[],rfl,?_,by simp,by simp⟩
      show (if ((decide (((P++[]).length:Int)>a))==true)=true then _ else X1 _)=_
      refine (eY (by rw [vZ (by simp;omega)];decide)).trans ?_
      rw [hX1];simp
    · rw [List.concat_eq_append] at*;have hy:good ds y:=hg y (by simp)
      have hv:P++(L++[y])++x::L2++T=(P++L)++y::x::(L2++T):=by simp
      have hn:((P++(L++[y])).length:Int)=((P++L).length:Int)+1:=by simp;omega
      rw [hv] at hlen ⊢;have hlen':(P++L).length+2+(L2++T).length<=549755813888:=by simp at hlen ⊢;omega
      have hlv:((P++L)++y::x::(L2++T)).length=(P++L).length+2+(L2++T).length:=by simp;omega
      generalize hq:(P++L).length=q at hn hlen' hlv;generalize hvv:(P++L)++y::x::(L2++T)=v at hlv;rw [hn];have w1:IntKind.i64.wrap (((q:Int)+1)-1)=(q:Int):=by rw [wrapD (by omega) (by omega)];omega
      have t1:((q:Int)+1).toNat=q+1:=by omega
      have t0:(q:Int).toNat=q:=by omega
      have hx1:v[((q:Int)+1).toNat]? =some x:=by rw [t1];exact at_mid2 hvv.symm (by omega)
      have hy1:v[(q:Int).toNat]? =some y:=by rw [t0];exact at_mid' hvv.symm hq
      obtain ⟨c,hc,hcd⟩:=altCmp (k:=k) (nx:=nx) (a:=z) hx hy hk;show ∃M1 M2,_/\(if ((decide (((q:Int)+1)>a))==true)=true then _ else _)=_/\_
      have hgt:((decide (((q:Int)+1)>a))==true)=true:=by rw [yZ (by simp at hq;omega)];rfl
      rw [dY hgt];dsimp only;rw [w1,dY (by omega),dY (by omega),Y0 hx1,dY (by omega),dY (by omega),Y0 hy1,hc,rZ]
      by_cases h:key ds x<key ds y
      · rw [dY (by rw [hcd];exact yZ h),dY (by omega),dY (by omega),Y0 hy1,dY (by omega),dY (by omega),Y0 hx1,dY (by omega),dY (by omega),Y0 hx1,dY (by omega),dY (by rw [List.length_set];omega)]
        have hy2:(v.set ((q:Int)+1).toNat y)[(q:Int).toNat]? =some y:=by rw [List.getElem?_set_ne (by omega)];exact hy1
        rw [Y0 hy2,t1,t0,swap_mid hvv.symm hq];obtain ⟨M1,M2,e1,e2,e3,e4⟩:=ih L (y::L2) T (by simp at hm;omega) (fun z hz=>hg z (by simp [hz])) (by have:=hq;simp at this hlen' ⊢;omega)
        refine ⟨M1,M2++[y],by rw [e1];simp,?_,e3,?_⟩
        · have e2':D1 k X0 X1 (a,b,z,ds,nx,i) m ((q:Int),P++L++x::y::(L2++T))=Y (P++M1++x::(M2++y::L2)++T):=by
            rw [<-e2,<-hq];simp
          rw [e2'];simp
        · intro u hu;rcases wZ.1 hu with hu | hu
          · exact e4 u hu
          · rw [kZ.1 hu];exact h
      · rw [eY (by rw [hcd,vZ h];decide)]
        refine ⟨L++[y],[],by simp,?_,?_,by simp⟩
        · rw [hX0,<-hvv];simp
        · intro u hu
          have:y=u:=by simpa using hu
          rw [<-this];exact h
/-- What holds of a sorted part and a later number that stands among it. -/
theorem ins_sorted {ds:List Int} {x:Int} {M1 M2:List Int} (hs:(M1++M2).Pairwise (ltx ds)) (hlt:∀y ∈ M1++M2,y<x) (h1:∀y,M1.getLast? =some y->¬key ds x<key ds y) (h2:∀y ∈ M2,key ds x<key ds y):(M1++x::M2).Pairwise (ltx ds):=by
 rw [List.pairwise_append] at hs ⊢;obtain ⟨p1,p2,p3⟩:=hs;refine ⟨p1,List.pairwise_cons.2 ⟨fun y hy=> .inl (h2 y hy),p2⟩,fun u hu y hy=> ?_⟩
 have hux:ltx ds u x:=by
  rcases List.eq_nil_or_concat M1 with rfl | ⟨M,l,rfl⟩
  · simp at hu
  · rw [List.concat_eq_append] at*;have hl:=h1 l (by simp)
    have hlx:ltx ds l x:=by
     have:=hlt l (by simp)
     unfold ltx;omega
    rcases wZ.1 hu with hu | hu
    · have:=(List.pairwise_append.1 p1).2.2 u hu l (by simp)
      exact ltx_trans this hlx
    · rw [kZ.1 hu];exact hlx
 rcases zZ.1 hy with rfl | hy
 · exact hux
 · exact p3 u hu y hy
theorem insOut {R:Type} {k:Nat} {ds nx:List Int} {X:O0->Option R} {a b z:Int} (Y:List Int->Option R) (hX:∀v,X v=Y v.2)
    (P T:List Int) (ha:(P.length:Int)=a):∀(M:List Int) (m:Nat) (N D:List Int),M.length<m->N.length+M.length+10<=k->(∀y ∈ D++M,good ds y)->N.Perm D->N.Pairwise (ltx ds)->(D++M).Pairwise (· < ·)->((P++N).length+M.length:Int)=b->(P++N++M++T).length<=549755813888->
      ∃Q,Q.Perm (D++M)/\Q.Pairwise (ltx ds)/\N0 k X (a,b,z,ds,nx) m (((P++N).length:Int),P++N++M++T)=Y (P++Q++T)
  | [],m+1,N,D,_,_,hg,hp,hs,hlt,hb,hlen=>by
    refine ⟨N,by simpa using hp,hs,?_⟩
    show (if (decide (((P++N).length:Int)<b))=true then _ else X _)=_
    refine (eY (by rw [vZ (by simp at hb ⊢;omega)];decide)).trans ?_
    rw [hX];simp
  | x::M,m+1,N,D,hm,hk,hg,hp,hs,hlt,hb,hlen=>by
    have hx:good ds x:=hg x (by simp)
    show ∃Q,_/\_/\(if (decide (((P++N).length:Int)<b))=true then _ else X _)=_
    rw [dY (yZ (by simp at hb ⊢;omega))]
    have hND:∀y ∈ N,y<x:=fun y hy=>by
      have:=(List.pairwise_append.1 hlt).2.2 y (hp.mem_iff.1 hy) x (by simp)
      exact this
    obtain ⟨M1,M2,e1,e2,e3,e4⟩:=insIn (k:=k) (ds:=ds) (nx:=nx) (a:=a) (b:=b) (z:=z) (i:=((P++N).length:Int)) (X0:=fun v1 _ _ _=>N0 k X (a,b,z,ds,nx) m ((IntKind.i64.wrap (((P++N).length:Int)+1)),v1.2)) (X1:=fun v1=>N0 k X (a,b,z,ds,nx) m ((IntKind.i64.wrap (((P++N).length:Int)+1)),v1.2)) (fun v=>N0 k X (a,b,z,ds,nx) m ((IntKind.i64.wrap (((P++N).length:Int)+1)),v)) (fun _ _ _ _=>rfl) (fun _=>rfl) (by omega) P x hx ha k N [] (M++T) (by simp at hk;omega) (fun y hy=>hg y (by simp [hp.mem_iff.1 hy])) (by simp at hlen ⊢;omega)
    have hpre:P++N++x::M++T=P++N++x::[]++(M++T):=by simp
    have hlp:(P++(M1++x::M2)).length=(P++N).length+1:=by rw [e1];simp;omega
    have hNl:N.length=M1.length+M2.length:=by rw [e1];simp
    obtain ⟨Q,q1,q2,q3⟩:=insOut (k:=k) (ds:=ds) (nx:=nx) (X:=X) (a:=a) (b:=b) (z:=z) Y hX P T ha M m (M1++x::M2) (D++[x]) (by simp at hm;omega) (by simp at hk ⊢;omega) (by simpa using hg)
      (by
        refine (List.perm_middle (l₁:=M1) (l₂:=M2) (a:=x)).trans ?_
        rw [<-e1];exact (List.Perm.cons x hp).trans (List.perm_append_singleton x D).symm)
      (ins_sorted (by rw [<-e1];exact hs) (by rw [<-e1];exact hND) e3 e4) (by simpa using hlt) (by rw [hlp];simp at hb ⊢;omega) (by simp at hlen ⊢;omega)
    refine ⟨Q,by simpa using q1,q2,?_⟩
    rw [<-q3,hpre];refine e2.trans ?_
    have hw:IntKind.i64.wrap (((P++N).length:Int)+1)=((P++(M1++x::M2)).length:Int):=by
      rw [hlp,wrapD (by omega) (by simp at hlen ⊢;omega)];omega
    rw [hw];simp
theorem swapIn {R:Type} {k:Nat} {X:I0->Option R} {a b n:Int} (Y:List Int->Option R) (hX:∀v,X v=Y v.2) (P Q S:List Int) (ha:a=(P.length:Int)):
    ∀(U2 V2:List Int) (m:Nat) (V1 U1:List Int),U2.length=V2.length->V1.length=U1.length->U2.length<m->b=((P.length+V1.length+U2.length+Q.length:Nat):Int)->n=((V1.length+U2.length:Nat):Int)->(P++V1++U2++Q++U1++V2++S).length<=549755813888->
      LgswapRangeCmpFunc_intv_iAltsOf_1_0 k X (a,b,n) m ((V1.length:Int),P++V1++U2++Q++U1++V2++S)=Y (P++(V1++V2)++Q++(U1++U2)++S)
  | [],V2,m+1,V1,U1,h1,h2,hm,hb,hn,hl=>by
    have hV:V2=[]:=by cases V2 with
      | nil=>rfl
      | cons y V=>simp at h1
    subst hV;show (if (decide ((V1.length:Int)<n))=true then _ else X _)=_
    refine (eY (by rw [vZ (by simp at hn;omega)];decide)).trans ?_
    rw [hX];simp
  | x::U2,[],m+1,V1,U1,h1,_,_,_,_,_=>by simp at h1
  | x::U2,y::V2,m+1,V1,U1,h1,h2,hm,hb,hn,hl=>by
    have hlen:(P++V1++x::U2++Q++U1++y::V2++S).length=P.length+V1.length+(U2.length+1)+Q.length+U1.length+(V2.length+1)+S.length:=by simp;omega
    rw [hlen] at hl;generalize hv:P++V1++x::U2++Q++U1++y::V2++S=v at hlen;have ev1:v=(P++V1)++x::(U2++Q++U1++y::V2++S):=by rw [<-hv];simp
    have ev2:v=(P++V1++x::U2++Q++U1)++y::(V2++S):=by rw [<-hv];simp
    simp only [List.length_cons] at hb hn;have wa:IntKind.i64.wrap (a+(V1.length:Int))=((P.length+V1.length:Nat):Int):=by rw [ha,wrapD (by omega) (by omega)];omega
    have wb:IntKind.i64.wrap (b+(V1.length:Int))=((P.length+V1.length+(U2.length+1)+Q.length+U1.length:Nat):Int):=by rw [hb,wrapD (by omega) (by omega)];omega
    have hx:v[((P.length+V1.length:Nat):Int).toNat]? =some x:=at_mid' ev1 (by simp;omega)
    have hy:v[((P.length+V1.length+(U2.length+1)+Q.length+U1.length:Nat):Int).toNat]? =some y:=at_mid' ev2 (by simp;omega)
    have es:(v.set ((P.length+V1.length:Nat):Int).toNat y).set ((P.length+V1.length+(U2.length+1)+Q.length+U1.length:Nat):Int).toNat x=P++(V1++[y])++U2++Q++(U1++[x])++V2++S:=by
      have e1:v.set ((P.length+V1.length:Nat):Int).toNat y=(P++V1++y::U2++Q++U1)++y::(V2++S):=by
        have:((P.length+V1.length:Nat):Int).toNat=(P++V1).length:=by simp;omega
        rw [this,ev1,set_mid];simp
      have e2:((P.length+V1.length+(U2.length+1)+Q.length+U1.length:Nat):Int).toNat=(P++V1++y::U2++Q++U1).length:=by simp;omega
      rw [e1,e2,set_mid];simp
    have hy2:(v.set ((P.length+V1.length:Nat):Int).toNat y)[((P.length+V1.length+(U2.length+1)+Q.length+U1.length:Nat):Int).toNat]? =some y:=by rw [List.getElem?_set_ne (by omega)];exact hy
    show (if (decide ((V1.length:Int)<n))=true then _ else X _)=_
    rw [dY (yZ (by omega))]
    dsimp only;rw [wa,wb,dY (by omega),dY (by omega),Y0 hy,dY (by omega),dY (by omega),Y0 hx,dY (by omega),dY (by omega),Y0 hx,dY (by omega),dY (by rw [List.length_set];omega),Y0 hy2,es]
    have hw:IntKind.i64.wrap ((V1.length:Int)+1)=((V1++[y]).length:Int):=by rw [wrapD (by omega) (by omega)];simp
    rw [hw,swapIn Y hX P Q S ha U2 V2 m (V1++[y]) (U1++[x]) (by simpa using h1) (by simpa using h2) (by simp at hm;omega) (by rw [hb];simp;omega) (by rw [hn];simp;omega) (by simp;omega)]
    simp
theorem fgSwap {k:Nat} {a b n z:Int} {ds nx:List Int} (P U Q V S:List Int) (hUV:U.length=V.length) (ha:a=(P.length:Int)) (hb:b=((P.length+U.length+Q.length:Nat):Int)) (hn:n=(U.length:Int)) (hl:(P++U++Q++V++S).length<=549755813888) (hk:U.length+2<=k):
 j2 k (P++U++Q++V++S) a b n z ds nx=some (P++V++Q++U++S):=by
 obtain ⟨k,rfl⟩:=pred (d:=0) (show 1<=k by omega)
 have h:=swapIn (k:=k) (X:=fun v0=>some v0.2) (a:=a) (b:=b) (n:=n) (fun v=>some v) (fun _=>rfl) P Q S ha U V k [] [] hUV rfl (by omega) (by rw [hb];simp) (by rw [hn];simp) (by simpa using hl)
 refine (egswapRangeCmpFunc_intv_iAltsOf_1 k _ a b n z ds nx).trans (Eq.trans ?_ (h.trans ?_))
 · simp
 · simp
theorem rotIn {k:Nat} {z mm:Int} {ds nx:List Int} {X:N1->Option (List Int)} (hX:∀v,X v=(j2 k v.2.2 (IntKind.i64.wrap (mm-v.1)) mm v.1 z ds nx).bind fun p1=>some p1):
    ∀(m:Nat) (P U V S:List Int),U.length+V.length<m->0<U.length->0<V.length->mm=((P.length+U.length:Nat):Int)->(P++U++V++S).length<=549755813888->U.length+V.length+2<=k->
      LgrotateCmpFunc_intv_iAltsOf_1_0 k X (mm,z,ds,nx) m ((U.length:Int),(V.length:Int),P++U++V++S)=some (P++V++U++S)
  | 0,P,U,V,S,h,_,_,_,_,_=>by omega
  | m+1,P,U,V,S,hm,hU,hV,hmm,hl,hk=>by
    have hl':P.length+U.length+V.length+S.length<=549755813888:=by simp at hl;omega
    have wm:IntKind.i64.wrap (mm-(U.length:Int))=(P.length:Int):=by rw [hmm,wrapD (by omega) (by omega)];omega
    show (if ((U.length:Int) !=(V.length:Int))=true then _ else X _)=_
    by_cases hne:U.length=V.length
    · refine (eY (by rw [hne];simp)).trans ?_
      rw [hX];dsimp only;have h:=fgSwap (k:=k) (a:=(P.length:Int)) (b:=mm) (n:=(U.length:Int)) (z:=z) (ds:=ds) (nx:=nx) P U [] V S hne rfl (by rw [hmm];simp) rfl (by simpa using hl) (by omega)
      rw [wm];simp only [List.append_nil] at h;rw [h];rfl
    · have hc:((U.length:Int) !=(V.length:Int))=true:=by
        rw [bne_iff_ne];omega
      refine (dY hc).trans ?_
      by_cases hgt:V.length<U.length
      · refine (dY (yZ (show (U.length:Int)>(V.length:Int) by omega))).trans ?_
        have hsplit:U=U.take V.length++U.drop V.length:=(List.take_append_drop _ _).symm;have l1:(U.take V.length).length=V.length:=by simp;omega
        have l2:(U.drop V.length).length=U.length-V.length:=by simp
        generalize U.take V.length=U1 at hsplit l1;generalize U.drop V.length=U2 at hsplit l2;dsimp only;rw [wm];have hsw:=fgSwap (k:=k) (a:=(P.length:Int)) (b:=mm) (n:=(V.length:Int)) (z:=z) (ds:=ds) (nx:=nx) P U1 U2 V S l1 rfl (by rw [hmm,hsplit];simp;omega) (by rw [l1]) (by rw [hsplit] at hl;simpa using hl) (by omega)
        have ev:P++U++V++S=P++U1++U2++V++S:=by rw [hsplit];simp
        rw [ev,hsw,rZ];have hw:IntKind.i64.wrap ((U.length:Int)-(V.length:Int))=(U2.length:Int):=by rw [wrapD (by omega) (by omega)];omega
        rw [hw];have ih:=rotIn hX m (P++V) U2 U1 S (by omega) (by omega) (by omega) (by rw [hmm];simp;omega) (by rw [hsplit] at hl;simp at hl ⊢;omega) (by omega)
        rw [l1] at ih;rw [ih,hsplit];simp
      · refine (eY (by rw [vZ (show ¬(U.length:Int)>(V.length:Int) by omega)];decide)).trans ?_
        have hsplit:V=V.take (V.length-U.length)++V.drop (V.length-U.length):=(List.take_append_drop _ _).symm;have l1:(V.take (V.length-U.length)).length=V.length-U.length:=by simp
        have l2:(V.drop (V.length-U.length)).length=U.length:=by simp;omega
        generalize V.take (V.length-U.length)=V1 at hsplit l1;generalize V.drop (V.length-U.length)=V2 at hsplit l2;dsimp only;have wj:IntKind.i64.wrap (IntKind.i64.wrap (mm+(V.length:Int))-(U.length:Int))=((P.length+U.length+V1.length:Nat):Int):=by
          rw [hmm,wrapD (i:=((P.length+U.length:Nat):Int)+(V.length:Int)) (by omega) (by omega),wrapD (by omega) (by omega)];omega
        rw [wm,wj];have hsw:=fgSwap (k:=k) (a:=(P.length:Int)) (b:=((P.length+U.length+V1.length:Nat):Int)) (n:=(U.length:Int)) (z:=z) (ds:=ds) (nx:=nx) P U V1 V2 S l2.symm rfl rfl rfl (by rw [hsplit] at hl;simpa using hl) (by omega)
        have ev:P++U++V++S=P++U++V1++V2++S:=by rw [hsplit];simp
        rw [ev,hsw,rZ];have hw:IntKind.i64.wrap ((V.length:Int)-(U.length:Int))=(V1.length:Int):=by rw [wrapD (by omega) (by omega)];omega
        rw [hw];have ih:=rotIn hX m P V2 V1 (U++S) (by omega) (by omega) (by omega) (by rw [hmm,l2]) (by rw [hsplit] at hl;simp at hl ⊢;omega) (by omega)
        rw [l2] at ih;have ev2:P++V2++V1++U++S=P++V2++V1++(U++S):=by simp
        rw [ev2,ih,hsplit];simp
theorem fgRot {k:Nat} {a mm b z:Int} {ds nx:List Int} (P U V S:List Int) (hU:0<U.length) (hV:0<V.length) (ha:a=(P.length:Int)) (hm:mm=((P.length+U.length:Nat):Int)) (hb:b=((P.length+U.length+V.length:Nat):Int)) (hl:(P++U++V++S).length<=549755813888) (hk:U.length+V.length+4<=k):
 FgrotateCmpFunc_intv_iAltsOf_1 k (P++U++V++S) a mm b z ds nx=some (P++V++U++S):=by
 obtain ⟨k,rfl⟩:=pred (d:=0) (show 1<=k by omega)
 have hl':P.length+U.length+V.length+S.length<=549755813888:=by simp at hl;omega
 have w1:IntKind.i64.wrap (mm-a)=(U.length:Int):=by rw [hm,ha,wrapD (by omega) (by omega)];omega
 have w2:IntKind.i64.wrap (b-mm)=(V.length:Int):=by rw [hm,hb,wrapD (by omega) (by omega)];omega
 refine (egrotateCmpFunc_intv_iAltsOf_1 k _ a mm b z ds nx).trans ?_
 rw [w1,w2];exact rotIn (fun _=>rfl) k P U V S (by omega) hU hV hm hl (by omega)
theorem half_eq {i j:Nat} (h1:i<=549755813888) (h2:j<=549755813888):IntKind.i64.wrap (((IntKind.u64.wrap (IntKind.i64.wrap ((i:Int)+(j:Int))))).fdiv (2^(min (1:Int).toNat IntKind.u64.bits)))=(((i+j) / 2:Nat):Int):=by
 have e1:IntKind.i64.wrap ((i:Int)+(j:Int))=((i+j:Nat):Int):=by rw [T1 (by omega) (by omega)];omega
 have e2:IntKind.u64.wrap ((i+j:Nat):Int)=((i+j:Nat):Int):=by
  rw [show IntKind.u64.wrap ((i+j:Nat):Int)=((i+j:Nat):Int)%18446744073709551616 from rfl];omega
 have e3:(2:Int)^(min (1:Int).toNat IntKind.u64.bits)=2:=by decide
 rw [e1,e2,e3];have e4:Int.fdiv ((i+j:Nat):Int) 2=(((i+j) / 2:Nat):Int):=by
  rw [Int.fdiv_eq_ediv_of_nonneg _ (by omega)];omega
 rw [e4,T1 (by omega) (by omega)]
/-- A search by halves: what holds where it stops. -/
theorem bsearch {R:Type} {L:Nat->Int×Int->Option R} {X:Int×Int->Option R} (q:Nat->Bool) (lo hi:Nat)
    (hstep:∀(n i j:Nat),lo<=i->i<j->j<=hi->L (n+1) ((i:Int),(j:Int))=if q ((i+j) / 2)=true then L n ((i:Int),(((i+j) / 2:Nat):Int)) else L n ((((i+j) / 2+1:Nat):Int),(j:Int)))
    (hend:∀(n i:Nat),lo<=i->i<=hi->L (n+1) ((i:Int),(i:Int))=X ((i:Int),(i:Int))):
    ∀(m i j:Nat),j-i<m->lo<=i->i<=j->j<=hi->(lo<i->q (i-1)=false)->(j<hi->q j=true)->
      ∃s:Nat,lo<=s/\s<=hi/\L m ((i:Int),(j:Int))=X ((s:Int),(s:Int))/\(lo<s->q (s-1)=false)/\(s<hi->q s=true):=by
  intro m;induction m with
  | zero=>intro i j h;omega
  | succ m ih=>
    intro i j hm hi hij hj h1 h2;by_cases hlt:i<j
    · rw [hstep m i j hi hlt hj];cases hq:q ((i+j) / 2) with
      | true=>
        rw [dY rfl];exact ih i ((i+j) / 2) (by omega) hi (by omega) (by omega) h1 (fun _=>hq)
      | false=>
        rw [eY (by decide)]
        exact ih ((i+j) / 2+1) j (by omega) (by omega) (by omega) hj (fun _=>by simpa using hq) h2
    · have:i=j:=by omega
      subst this;exact ⟨i,hi,hj,hend m i hi hj,h1,h2⟩
def at0 (v:List Int) (h:Nat):Int:=(v[h]?).getD 0
theorem at0_some {v:List Int} {h:Nat} (hh:h<v.length):v[h]? =some (at0 v h):=by
 unfold at0;rw [dZ hh];rfl
theorem at0_mem {v:List Int} {h:Nat} (hh:h<v.length):at0 v h ∈ v:=iZ (at0_some hh)
theorem at0_mid {v P S:List Int} {x:Int} {n:Nat} (h:v=P++x::S) (hn:P.length=n):at0 v n=x:=by unfold at0;rw [at_mid' h hn];rfl
theorem sm0 {R:Type} {k:Nat} {X:B0->Option R} {z a2 a3:Int} {ds nx:List Int} (v:List Int) (A M B:Nat) (hg:∀y ∈ v,good ds y) (hl:v.length<=549755813888) (hA:A<v.length) (hB:B<=v.length) (hMB:M<=B) (hk:4<=k) (m:Nat) (hm:B-M<m):
 ∃s:Nat,M<=s/\s<=B/\LgsymMergeCmpFunc_intv_iAltsOf_1_0 k X ((A:Int),a2,a3,z,ds,nx,v) m ((M:Int),(B:Int))=X ((s:Int),(s:Int))/\(M<s->key ds (at0 v (s-1))<key ds (at0 v A))/\(s<B->¬key ds (at0 v s)<key ds (at0 v A)):=by
 obtain ⟨s,h1,h2,h3,h4,h5⟩:=bsearch (L:=LgsymMergeCmpFunc_intv_iAltsOf_1_0 k X ((A:Int),a2,a3,z,ds,nx,v)) (X:=X) (fun h=> !decide (key ds (at0 v h)<key ds (at0 v A))) M B (fun n i j hi hij hj=>by
  have hmid:=half_eq (i:=i) (j:=j) (by omega) (by omega)
  have hml:(i+j) / 2<v.length:=by omega
  have hx:v[(((i+j) / 2:Nat):Int).toNat]? =some (at0 v ((i+j) / 2)):=at0_some hml;have hy:v[((A:Nat):Int).toNat]? =some (at0 v A):=at0_some hA;obtain ⟨c,hc,hcd⟩:=altCmp (k:=k) (nx:=nx) (a:=z) (hg _ (at0_mem hml)) (hg _ (at0_mem hA)) hk;show (if (decide ((i:Int)<(j:Int)))=true then _ else X _)=_
  rw [dY (yZ (by omega))]
  dsimp only;rw [hmid,dY (by omega),dY (by omega),Y0 hx,dY (by omega),dY (by omega),Y0 hy,hc,rZ,hcd]
  rw [show IntKind.i64.wrap ((((i+j) / 2:Nat):Int)+1)=(((i+j) / 2+1:Nat):Int) by rw [wrapD (by omega) (by omega)];omega]
  cases decide (key ds (at0 v ((i+j) / 2))<key ds (at0 v A))<;>rfl)
  (fun n i hi hj=>by
   show (if (decide ((i:Int)<(i:Int)))=true then _ else X _)=_
   exact eY (by simp)) m M B hm (cY _) hMB (cY _) (fun h=>absurd h (by omega)) (fun h=>absurd h (by omega))
 refine ⟨s,h1,h2,h3,fun h=> ?_,fun h=> ?_⟩
 · simpa using h4 h
 · have:=h5 h
   simp only [Bool.not_eq_true',decide_eq_false_iff_not] at this;exact this
theorem sm2 {R:Type} {k:Nat} {X:D0->Option R} {z a1 a3:Int} {ds nx:List Int} (v:List Int) (A M:Nat) (hg:∀y ∈ v,good ds y) (hl:v.length<=549755813888) (hM:M<v.length) (hAM:A<=M) (hk:4<=k) (m:Nat) (hm:M-A<m):
 ∃s:Nat,A<=s/\s<=M/\LgsymMergeCmpFunc_intv_iAltsOf_1_2 k X (a1,(M:Int),a3,z,ds,nx,v) m ((A:Int),(M:Int))=X ((s:Int),(s:Int))/\(A<s->¬key ds (at0 v M)<key ds (at0 v (s-1)))/\(s<M->key ds (at0 v M)<key ds (at0 v s)):=by
 obtain ⟨s,h1,h2,h3,h4,h5⟩:=bsearch (L:=LgsymMergeCmpFunc_intv_iAltsOf_1_2 k X (a1,(M:Int),a3,z,ds,nx,v)) (X:=X) (fun h=>decide (key ds (at0 v M)<key ds (at0 v h))) A M (fun n i j hi hij hj=>by
  have hmid:=half_eq (i:=i) (j:=j) (by omega) (by omega)
  have hml:(i+j) / 2<v.length:=by omega
  have hx:v[(((i+j) / 2:Nat):Int).toNat]? =some (at0 v ((i+j) / 2)):=at0_some hml;have hy:v[((M:Nat):Int).toNat]? =some (at0 v M):=at0_some hM;obtain ⟨c,hc,hcd⟩:=altCmp (k:=k) (nx:=nx) (a:=z) (hg _ (at0_mem hM)) (hg _ (at0_mem hml)) hk;show (if (decide ((i:Int)<(j:Int)))=true then _ else X _)=_
  rw [dY (yZ (by omega))]
  dsimp only;rw [hmid,dY (by omega),dY (by omega),Y0 hy,dY (by omega),dY (by omega),Y0 hx,hc,rZ,hcd]
  rw [show IntKind.i64.wrap ((((i+j) / 2:Nat):Int)+1)=(((i+j) / 2+1:Nat):Int) by rw [wrapD (by omega) (by omega)];omega]
  cases decide (key ds (at0 v M)<key ds (at0 v ((i+j) / 2)))<;>rfl)
  (fun n i hi hj=>by
   show (if (decide ((i:Int)<(i:Int)))=true then _ else X _)=_
   exact eY (by simp)) m A M hm (cY _) hAM (cY _) (fun h=>absurd h (by omega)) (fun h=>absurd h (by omega))
 refine ⟨s,h1,h2,h3,fun h=> ?_,fun h=> ?_⟩
 · have:=h4 h
   simp only [decide_eq_false_iff_not] at this;exact this
 · simpa using h5 h
theorem sm4 {R:Type} {k:Nat} {X:Z1->Option R} {z a1 a2 a3 mid n':Int} {ds nx:List Int} (v:List Int) (lo hi p:Nat) (hg:∀y ∈ v,good ds y) (hl:v.length<=549755813888) (hle:lo<=hi) (hr:∀c,lo<=c->c<hi->c<v.length/\c<=p/\p-c<v.length) (hhi:hi<=549755813888) (hp:p<=1099511627776) (hk:4<=k) (m:Nat) (hm:hi-lo<m):
 ∃s:Nat,lo<=s/\s<=hi/\K0 k X (a1,a2,a3,z,ds,nx,mid,n',(p:Int),v) m ((lo:Int),(hi:Int))=X ((s:Int),(s:Int))/\(lo<s->¬key ds (at0 v (p-(s-1)))<key ds (at0 v (s-1)))/\(s<hi->key ds (at0 v (p-s))<key ds (at0 v s)):=by
 obtain ⟨s,h1,h2,h3,h4,h5⟩:=bsearch (L:=K0 k X (a1,a2,a3,z,ds,nx,mid,n',(p:Int),v)) (X:=X) (fun h=>decide (key ds (at0 v (p-h))<key ds (at0 v h))) lo hi (fun n i j hi hij hj=>by
  have hmid:=half_eq (i:=i) (j:=j) (by omega) (by omega)
  obtain ⟨g1,g2,g3⟩:=hr ((i+j) / 2) (by omega) (by omega)
  have hx:v[(((i+j) / 2:Nat):Int).toNat]? =some (at0 v ((i+j) / 2)):=at0_some g1;have hpc:IntKind.i64.wrap ((p:Int)-(((i+j) / 2:Nat):Int))=((p-(i+j) / 2:Nat):Int):=by rw [wrapD (by omega) (by omega)];omega
  have hy:v[((p-(i+j) / 2:Nat):Int).toNat]? =some (at0 v (p-(i+j) / 2)):=at0_some g3;obtain ⟨c,hc,hcd⟩:=altCmp (k:=k) (nx:=nx) (a:=z) (hg _ (at0_mem g3)) (hg _ (at0_mem g1)) hk;show (if (decide ((i:Int)<(j:Int)))=true then _ else X _)=_
  rw [dY (yZ (by omega))]
  dsimp only;rw [hmid,hpc,dY (by omega),dY (by omega),Y0 hy,dY (by omega),dY (by omega),Y0 hx,hc,rZ,hcd]
  rw [show IntKind.i64.wrap ((((i+j) / 2:Nat):Int)+1)=(((i+j) / 2+1:Nat):Int) by rw [wrapD (by omega) (by omega)];omega]
  cases decide (key ds (at0 v (p-(i+j) / 2))<key ds (at0 v ((i+j) / 2)))<;>rfl)
  (fun n i hi hj=>by
   show (if (decide ((i:Int)<(i:Int)))=true then _ else X _)=_
   exact eY (by simp)) m lo hi hm (cY _) hle (cY _) (fun h=>absurd h (by omega)) (fun h=>absurd h (by omega))
 refine ⟨s,h1,h2,h3,fun h=> ?_,fun h=> ?_⟩
 · have:=h4 h
   simp only [decide_eq_false_iff_not] at this;exact this
 · simpa using h5 h
/-- A number moves to the right. -/
theorem sm1 {R:Type} {k:Nat} {X:j1->Option R} {z a1 a2 a3 s s':Int} {ds nx:List Int} (Y:List Int->Option R) (hX:∀v,X v=Y v.2) (x:Int):∀(C:List Int) (m:Nat) (P T:List Int),C.length<m->s=((P.length+C.length+1:Nat):Int)->(P++x::C++T).length<=549755813888->
      LgsymMergeCmpFunc_intv_iAltsOf_1_1 k X (a1,a2,a3,z,ds,nx,s,s') m ((P.length:Int),P++x::C++T)=Y (P++C++x::T)
  | [],m+1,P,T,hm,hs,hl=>by
    have hl':P.length+1+T.length<=549755813888:=by simp at hl;omega
    have hs1:s=(P.length:Int)+1:=by simpa using hs
    have hw:IntKind.i64.wrap (s-1)=(P.length:Int):=by rw [hs1,wrapD (by omega) (by omega)];omega
    show (if (decide ((P.length:Int)<IntKind.i64.wrap (s-1)))=true then _ else X _)=_
    rw [hw];refine (eY (by simp)).trans ?_
    rw [hX];simp
  | y::C,m+1,P,T,hm,hs,hl=>by
    have hl':P.length+2+C.length+T.length<=549755813888:=by simp at hl;omega
    have ev:P++x::(y::C)++T=P++x::y::(C++T):=by simp
    have hlen:(P++x::y::(C++T)).length=P.length+2+C.length+T.length:=by simp;omega
    rw [ev];generalize hv:P++x::y::(C++T)=v at hlen;simp only [List.length_cons] at hs;have hw:IntKind.i64.wrap (s-1)=((P.length+C.length+1:Nat):Int):=by rw [hs,wrapD (by omega) (by omega)];omega
    have hw1:IntKind.i64.wrap ((P.length:Int)+1)=((P.length+1:Nat):Int):=by rw [wrapD (by omega) (by omega)];omega
    have hx:v[(P.length:Int).toNat]? =some x:=at_mid' hv.symm (by simp)
    have hy:v[((P.length+1:Nat):Int).toNat]? =some y:=at_mid2 hv.symm (by simp)
    show (if (decide ((P.length:Int)<IntKind.i64.wrap (s-1)))=true then _ else X _)=_
    rw [hw,dY (yZ (by omega))]
    dsimp only;have hy2:(v.set (P.length:Int).toNat y)[((P.length+1:Nat):Int).toNat]? =some y:=by rw [List.getElem?_set_ne (by omega)];exact hy
    rw [hw1,dY (by omega),dY (by omega),Y0 hy,dY (by omega),dY (by omega),Y0 hx,dY (by omega),dY (by omega),Y0 hx,dY (by omega),dY (by rw [List.length_set];omega),Y0 hy2]
    have es:(v.set (P.length:Int).toNat y).set ((P.length+1:Nat):Int).toNat x=(P++[y])++x::C++T:=by
      rw [show (P.length:Int).toNat=P.length by omega,show ((P.length+1:Nat):Int).toNat=P.length+1 by omega,swap_mid' hv.symm rfl];simp
    have ep:((P.length+1:Nat):Int)=((P++[y]).length:Int):=by simp
    rw [es,ep,sm1 Y hX x C m (P++[y]) T (by simp at hm;omega) (by rw [hs];simp;omega) (by simp;omega)]
    simp
/-- A number moves to the left. -/
theorem sm3 {R:Type} {k:Nat} {X:C0->Option R} {z a1 a2 a3 s s':Int} {ds nx:List Int} (Y:List Int->Option R) (hX:∀v,X v=Y v.2) (P:List Int) (y:Int) (hs:s=(P.length:Int)):∀(m:Nat) (C T:List Int),C.length<m->(P++C++y::T).length<=549755813888->
      LgsymMergeCmpFunc_intv_iAltsOf_1_3 k X (a1,a2,a3,z,ds,nx,s,s') m (((P.length+C.length:Nat):Int),P++C++y::T)=Y (P++y::C++T):=by
  intro m;induction m with
  | zero=>intro C T h;omega
  | succ m ih=>
    intro C T hm hl;rcases List.eq_nil_or_concat C with rfl | ⟨C,u,rfl⟩
    · show (if (decide (((P.length+([]:List Int).length:Nat):Int)>s))=true then _ else X _)=_
      refine (eY (by rw [hs];simp)).trans ?_
      rw [hX];simp
    · rw [List.concat_eq_append] at*;have hl':P.length+C.length+2+T.length<=549755813888:=by simp at hl;omega
      have ev:P++(C++[u])++y::T=(P++C)++u::y::T:=by simp
      have hlen:((P++C)++u::y::T).length=P.length+C.length+2+T.length:=by simp;omega
      have ei:((P.length+(C++[u]).length:Nat):Int)=((P.length+C.length+1:Nat):Int):=by simp;omega
      rw [ev,ei];generalize hv:(P++C)++u::y::T=v at hlen;have hq:(P++C).length=P.length+C.length:=by simp
      have hw:IntKind.i64.wrap (((P.length+C.length+1:Nat):Int)-1)=((P.length+C.length:Nat):Int):=by rw [wrapD (by omega) (by omega)];omega
      have hu:v[((P.length+C.length:Nat):Int).toNat]? =some u:=at_mid' hv.symm (by rw [hq];omega)
      have hy:v[((P.length+C.length+1:Nat):Int).toNat]? =some y:=at_mid2 hv.symm (by rw [hq];omega)
      show (if (decide (((P.length+C.length+1:Nat):Int)>s))=true then _ else X _)=_
      rw [dY (yZ (by omega))]
      dsimp only;have hu2:(v.set ((P.length+C.length+1:Nat):Int).toNat u)[((P.length+C.length:Nat):Int).toNat]? =some u:=by rw [List.getElem?_set_ne (by omega)];exact hu
      rw [hw,dY (by omega),dY (by omega),Y0 hu,dY (by omega),dY (by omega),Y0 hy,dY (by omega),dY (by omega),Y0 hy,dY (by omega),dY (by rw [List.length_set];omega),Y0 hu2]
      have es:(v.set ((P.length+C.length+1:Nat):Int).toNat u).set ((P.length+C.length:Nat):Int).toNat y=P++C++y::(u::T):=by
        rw [show ((P.length+C.length:Nat):Int).toNat=P.length+C.length by omega,show ((P.length+C.length+1:Nat):Int).toNat=P.length+C.length+1 by omega,swap_mid hv.symm hq]
      rw [es,ih C (u::T) (by simp at hm;omega) (by simp;omega)]
      simp
theorem below {ds:List Int} {A B:List Int} (hA:A.Pairwise (ltx ds)) (hB:B.Pairwise (ltx ds)) (h:∀y,A.getLast? =some y->∀z,B.head? =some z->ltx ds y z):∀x ∈ A,∀z ∈ B,ltx ds x z:=by
  intro x hx z hz;rcases List.eq_nil_or_concat A with rfl | ⟨C,l,rfl⟩
  · simp at hx
  rw [List.concat_eq_append] at*;cases B with
  | nil=>simp at hz
  | cons u B=>
    have h1:ltx ds l u:=h l (by simp) u rfl
    have h2:ltx ds x u:=by
      rcases wZ.1 hx with hx | hx
      · exact ltx_trans ((List.pairwise_append.1 hA).2.2 x hx l (by simp)) h1
      · rw [kZ.1 hx];exact h1
    rcases zZ.1 hz with rfl | hz
    · exact h2
    · exact ltx_trans h2 ((List.pairwise_cons.1 hB).1 z hz)
theorem merged {ds:List Int} {A B:List Int} (hA:A.Pairwise (ltx ds)) (hB:B.Pairwise (ltx ds)) (h:∀y,A.getLast? =some y->∀z,B.head? =some z->ltx ds y z):(A++B).Pairwise (ltx ds):=
 List.pairwise_append.2 ⟨hA,hB,below hA hB h⟩
noncomputable def smT2 (k:Nat) (z:Int) (ds nx:List Int) (b mid en:Int) (q:List Int):Option (List Int):=if ((decide (mid<en))==true)=true then if (decide (en<b))=true then (u0 k q mid en b z ds nx).bind fun p3=>some p3 else some q else some q
noncomputable def smT1 (k:Nat) (z:Int) (ds nx:List Int) (a s b mid en:Int) (q:List Int):Option (List Int):=if ((decide (a<s))==true)=true then if (decide (s<mid))=true then (u0 k q a s mid z ds nx).bind fun p2=>smT2 k z ds nx b mid en p2 else smT2 k z ds nx b mid en q else smT2 k z ds nx b mid en q
noncomputable def smT0 (k:Nat) (z:Int) (ds nx:List Int) (a s m b mid en:Int) (q:List Int):Option (List Int):=if ((decide (s<m))==true)=true then if (decide (m<en))=true then (FgrotateCmpFunc_intv_iAltsOf_1 k q s m en z ds nx).bind fun p1=>smT1 k z ds nx a s b mid en p1 else smT1 k z ds nx a s b mid en q else smT1 k z ds nx a s b mid en q
theorem esym (k:Nat) (v:List Int) (a m b z:Int) (ds nx:List Int) (mid n:Int) (hmid:IntKind.i64.wrap (((IntKind.u64.wrap (IntKind.i64.wrap (a+b)))).fdiv (2^(min (1:Int).toNat IntKind.u64.bits)))=mid) (hn:IntKind.i64.wrap (mid+m)=n) (h1:¬((IntKind.i64.wrap (m-a))==1)=true) (h2:¬((IntKind.i64.wrap (b-m))==1)=true):
 u0 (k+1) v a m b z ds nx=if (decide (m>mid))=true then
  K0 k (fun v4=>smT0 k z ds nx a v4.1 m b mid (IntKind.i64.wrap (n-v4.1)) v) (a,m,b,z,ds,nx,mid,n,(IntKind.i64.wrap (n-1)),v) k ((IntKind.i64.wrap (n-b)),mid)
  else K0 k (fun v4=>smT0 k z ds nx a v4.1 m b mid (IntKind.i64.wrap (n-v4.1)) v) (a,m,b,z,ds,nx,mid,n,(IntKind.i64.wrap (n-1)),v) k (a,m):=by
 refine (egsymMergeCmpFunc_intv_iAltsOf_1 k v a m b z ds nx).trans ((eY h1).trans ((eY h2).trans ?_))
 rw [hmid,hn];rfl
theorem last_cons {α:Type} {l:List α} {y:α} (h:l.getLast? =some y):∃C,l=C++[y]:=by
 rcases List.eq_nil_or_concat l with rfl | ⟨C,u,rfl⟩
 · simp at h
 · rw [List.concat_eq_append] at*
   have:u=y:=by simpa using h
   exact ⟨C,by rw [this]⟩
theorem head_cons {α:Type} {l:List α} {y:α} (h:l.head? =some y):∃C,l=y::C:=by
  cases l with
  | nil=>simp at h
  | cons u C=>
    have:u=y:=by simpa using h
    exact ⟨C,by rw [this]⟩
theorem fgSym {ds nx:List Int} {z:Int} {N:Nat} (hN:N<=549755813888):∀(n k:Nat) (P L R S:List Int),L.length+R.length<=n->0<L.length->0<R.length->n+N+20<=k->(P++L++R++S).length<=N->(∀y ∈ P++L++R++S,good ds y)->L.Pairwise (ltx ds)->R.Pairwise (ltx ds)->(∀x ∈ L,∀y ∈ R,x<y)->
    ∃Q,Q.Perm (L++R)/\Q.Pairwise (ltx ds)/\u0 k (P++L++R++S) (P.length:Int) ((P.length+L.length:Nat):Int) ((P.length+L.length+R.length:Nat):Int) z ds nx=some (P++Q++S):=by
  intro n;induction n with
  | zero=>intro k P L R S h h1;omega
  | succ n ih=>
    intro k P L R S hn hL0 hR0 hk hlen hg hL hR hX;obtain ⟨k,rfl⟩:=pred (d:=0) (show 1<=k by omega)
    have hl':P.length+L.length+R.length+S.length<=N:=by simp at hlen;omega
    have hvl:(P++L++R++S).length=P.length+L.length+R.length+S.length:=by simp;omega
    have w1:IntKind.i64.wrap (((P.length+L.length:Nat):Int)-(P.length:Int))=(L.length:Int):=by rw [wrapD (by omega) (by omega)];omega
    have w2:IntKind.i64.wrap (((P.length+L.length+R.length:Nat):Int)-((P.length+L.length:Nat):Int))=(R.length:Int):=by rw [wrapD (by omega) (by omega)];omega
    by_cases hL1:L.length=1
    · obtain ⟨x,rfl⟩:∃x,L=[x]:=by
        cases L with
        | nil=>simp at hL0
        | cons x L=>cases L with
          | nil=>exact ⟨x,rfl⟩
          | cons y L=>simp at hL1
      have e0:=(egsymMergeCmpFunc_intv_iAltsOf_1 k (P++[x]++R++S) (P.length:Int) ((P.length+[x].length:Nat):Int) ((P.length+[x].length+R.length:Nat):Int) z ds nx).trans (dY (by rw [w1];rfl))
      simp only [List.length_singleton] at e0 hl' hvl hn ⊢;obtain ⟨s,s1,s2,e,c1,c2⟩:=sm0 (k:=k) (X:=fun v0=>LgsymMergeCmpFunc_intv_iAltsOf_1_1 k (fun v1=>some v1.2) ((P.length:Int),((P.length+1:Nat):Int),((P.length+1+R.length:Nat):Int),z,ds,nx,v0.1,v0.2) k ((P.length:Int),P++[x]++R++S)) (z:=z) (a2:=((P.length+1:Nat):Int)) (a3:=((P.length+1+R.length:Nat):Int)) (ds:=ds) (nx:=nx) (P++[x]++R++S) P.length (P.length+1) (P.length+1+R.length) hg (by omega) (by omega) (by omega) (by omega) (by omega) k (by omega)
      have e0:=e0.trans e;have hsplit:R=R.take (s-(P.length+1))++R.drop (s-(P.length+1)):=(List.take_append_drop _ _).symm;have l1:(R.take (s-(P.length+1))).length=s-(P.length+1):=by simp;omega
      have l2:(R.drop (s-(P.length+1))).length=P.length+1+R.length-s:=by simp;omega
      generalize R.take (s-(P.length+1))=R1 at hsplit l1;generalize R.drop (s-(P.length+1))=R2 at hsplit l2;subst hsplit;have ev:P++[x]++(R1++R2)++S=P++x::R1++(R2++S):=by simp
      dsimp only at e0;have e1:=sm1 (k:=k) (z:=z) (a1:=(P.length:Int)) (a2:=((P.length+1:Nat):Int)) (a3:=((P.length+1+(R1++R2).length:Nat):Int)) (s:=(s:Int)) (s':=(s:Int)) (ds:=ds) (nx:=nx) (X:=fun v1=>some v1.2) (fun v=>some v) (fun _=>rfl) x R1 k P (R2++S) (by omega) (by omega) (by rw [<-ev];omega)
      rw [<-ev] at e1;obtain ⟨p1,p2,p3⟩:=List.pairwise_append.1 hR;refine ⟨R1++x::R2,List.perm_middle,?_,?_⟩
      · refine merged p1 (merged (A:=[x]) (List.pairwise_singleton _ _) p2 ?_) ?_
        · intro y hy w hw
          have:x=y:=by simpa using hy
          subst this;obtain ⟨D,rfl⟩:=head_cons hw;have hat:at0 (P++[x]++(R1++w::D)++S) s=w:=at0_mid (P:=P++x::R1) (S:=D++S) (by simp) (by simp;omega)
          have hat2:at0 (P++[x]++(R1++w::D)++S) P.length=x:=at0_mid (P:=P) (S:=R1++w::D++S) (by simp) rfl
          have h:=c2 (by simp at l2 ⊢;omega)
          rw [hat,hat2] at h;have hlt:=hX x (by simp) w (by simp)
          unfold ltx;omega
        · intro y hy w hw
          have:w=x:=by simpa using hw.symm
          subst this;obtain ⟨C,rfl⟩:=last_cons hy;have hat:at0 (P++[w]++(C++[y]++R2)++S) (s-1)=y:=at0_mid (P:=P++w::C) (S:=R2++S) (by simp) (by simp at l1 ⊢;omega)
          have hat2:at0 (P++[w]++(C++[y]++R2)++S) P.length=w:=at0_mid (P:=P) (S:=C++[y]++R2++S) (by simp) rfl
          have h:=c1 (by simp at l1;omega)
          rw [hat,hat2] at h;exact .inl h
      · refine e0.trans (e1.trans ?_)
        simp
    by_cases hR1:R.length=1
    · obtain ⟨y,rfl⟩:∃y,R=[y]:=by
        cases R with
        | nil=>simp at hR0
        | cons x R=>cases R with
          | nil=>exact ⟨x,rfl⟩
          | cons y R=>simp at hR1
      have e0:=(egsymMergeCmpFunc_intv_iAltsOf_1 k (P++L++[y]++S) (P.length:Int) ((P.length+L.length:Nat):Int) ((P.length+L.length+[y].length:Nat):Int) z ds nx).trans ((eY (by rw [w1];simp;omega)).trans (dY (by rw [w2];rfl)))
      simp only [List.length_singleton] at e0 hl' hvl hn ⊢;obtain ⟨s,s1,s2,e,c1,c2⟩:=sm2 (k:=k) (X:=fun v2=>LgsymMergeCmpFunc_intv_iAltsOf_1_3 k (fun v3=>some v3.2) ((P.length:Int),((P.length+L.length:Nat):Int),((P.length+L.length+1:Nat):Int),z,ds,nx,v2.1,v2.2) k (((P.length+L.length:Nat):Int),P++L++[y]++S)) (z:=z) (a1:=(P.length:Int)) (a3:=((P.length+L.length+1:Nat):Int)) (ds:=ds) (nx:=nx) (P++L++[y]++S) P.length (P.length+L.length) hg (by omega) (by omega) (by omega) (by omega) k (by omega)
      have e0:=e0.trans e;have hsplit:L=L.take (s-P.length)++L.drop (s-P.length):=(List.take_append_drop _ _).symm;have l1:(L.take (s-P.length)).length=s-P.length:=by simp;omega
      have l2:(L.drop (s-P.length)).length=P.length+L.length-s:=by simp;omega
      generalize L.take (s-P.length)=L1 at hsplit l1;generalize L.drop (s-P.length)=L2 at hsplit l2;subst hsplit;have ev:P++(L1++L2)++[y]++S=(P++L1)++L2++y::S:=by simp
      have ei:((P.length+(L1++L2).length:Nat):Int)=(((P++L1).length+L2.length:Nat):Int):=by simp;omega
      dsimp only at e0;have e1:=sm3 (k:=k) (z:=z) (a1:=(P.length:Int)) (a2:=((P.length+(L1++L2).length:Nat):Int)) (a3:=((P.length+(L1++L2).length+1:Nat):Int)) (s:=(s:Int)) (s':=(s:Int)) (ds:=ds) (nx:=nx) (X:=fun v1=>some v1.2) (fun v=>some v) (fun _=>rfl) (P++L1) y (by simp;omega) k L2 S (by omega) (by rw [<-ev];omega)
      rw [<-ev,<-ei] at e1;obtain ⟨p1,p2,p3⟩:=List.pairwise_append.1 hL;refine ⟨L1++y::L2,List.perm_middle.trans (List.perm_append_singleton y (L1++L2)).symm,?_,?_⟩
      · refine merged p1 (merged (A:=[y]) (List.pairwise_singleton _ _) p2 ?_) ?_
        · intro u hu w hw
          have:y=u:=by simpa using hu
          subst this;obtain ⟨D,rfl⟩:=head_cons hw;have hat:at0 (P++(L1++w::D)++[y]++S) s=w:=at0_mid (P:=P++L1) (S:=D++y::S) (by simp) (by simp;omega)
          have hat2:at0 (P++(L1++w::D)++[y]++S) (P.length+(L1++w::D).length)=y:=at0_mid (P:=P++(L1++w::D)) (S:=S) (by simp) (by simp)
          have h:=c2 (by simp at l2 ⊢;omega)
          rw [hat,hat2] at h;exact .inl h
        · intro u hu w hw
          have:w=y:=by simpa using hw.symm
          subst this;obtain ⟨C,rfl⟩:=last_cons hu;have hat:at0 (P++(C++[u]++L2)++[w]++S) (s-1)=u:=at0_mid (P:=P++C) (S:=L2++w::S) (by simp) (by simp at l1 ⊢;omega)
          have hat2:at0 (P++(C++[u]++L2)++[w]++S) (P.length+(C++[u]++L2).length)=w:=at0_mid (P:=P++(C++[u]++L2)) (S:=S) (by simp) (by simp)
          have h:=c1 (by simp at l1;omega)
          rw [hat,hat2] at h;have hlt:=hX u (by simp) w (by simp)
          unfold ltx;omega
      · refine e0.trans (e1.trans ?_)
        simp
    · have hbig:P.length+L.length+R.length<=N:=by omega
      obtain ⟨mid,hmidE⟩:∃mid,mid=(P.length+(P.length+L.length+R.length)) / 2:=⟨_,rfl⟩;have hmid:=half_eq (i:=P.length) (j:=P.length+L.length+R.length) (by omega) (by omega)
      rw [<-hmidE] at hmid;have hn':IntKind.i64.wrap ((mid:Int)+((P.length+L.length:Nat):Int))=((mid+(P.length+L.length):Nat):Int):=by rw [wrapD (by omega) (by omega)];omega
      have e0:=esym k (P++L++R++S) (P.length:Int) ((P.length+L.length:Nat):Int) ((P.length+L.length+R.length:Nat):Int) z ds nx _ _ hmid hn' (by rw [w1];simp;omega) (by rw [w2];simp;omega)
      have wp:IntKind.i64.wrap (((mid+(P.length+L.length):Nat):Int)-1)=((mid+(P.length+L.length)-1:Nat):Int):=by rw [wrapD (by omega) (by omega)];omega
      rw [wp] at e0;obtain ⟨s,s1,s2,s3,s4,eS,c1,c2⟩:∃s:Nat,P.length<=s/\s<=P.length+L.length/\P.length+L.length<=mid+(P.length+L.length)-s/\mid+(P.length+L.length)-s<=P.length+L.length+R.length/\
          u0 (k+1) (P++L++R++S) (P.length:Int) ((P.length+L.length:Nat):Int) ((P.length+L.length+R.length:Nat):Int) z ds nx=smT0 k z ds nx (P.length:Int) (s:Int) ((P.length+L.length:Nat):Int) ((P.length+L.length+R.length:Nat):Int) (mid:Int) (IntKind.i64.wrap (((mid+(P.length+L.length):Nat):Int)-(s:Int))) (P++L++R++S)/\
          (P.length<s->mid+(P.length+L.length)-s<P.length+L.length+R.length->¬key ds (at0 (P++L++R++S) (mid+(P.length+L.length)-s))<key ds (at0 (P++L++R++S) (s-1)))/\
          (s<P.length+L.length->P.length+L.length<mid+(P.length+L.length)-s->key ds (at0 (P++L++R++S) (mid+(P.length+L.length)-s-1))<key ds (at0 (P++L++R++S) s)):=by
        by_cases hgt:mid<P.length+L.length
        · have e1:=e0.trans (dY (yZ (by omega)))
          have wlo:IntKind.i64.wrap (((mid+(P.length+L.length):Nat):Int)-((P.length+L.length+R.length:Nat):Int))=((mid+(P.length+L.length)-(P.length+L.length+R.length):Nat):Int):=by rw [wrapD (by omega) (by omega)];omega
          rw [wlo] at e1;obtain ⟨s,g1,g2,g3,g4,g5⟩:=sm4 (k:=k) (X:=fun v4=>smT0 k z ds nx (P.length:Int) v4.1 ((P.length+L.length:Nat):Int) ((P.length+L.length+R.length:Nat):Int) (mid:Int) (IntKind.i64.wrap (((mid+(P.length+L.length):Nat):Int)-v4.1)) (P++L++R++S)) (z:=z) (a1:=(P.length:Int)) (a2:=((P.length+L.length:Nat):Int)) (a3:=((P.length+L.length+R.length:Nat):Int)) (mid:=(mid:Int)) (n':=((mid+(P.length+L.length):Nat):Int)) (ds:=ds) (nx:=nx) (P++L++R++S) (mid+(P.length+L.length)-(P.length+L.length+R.length)) mid (mid+(P.length+L.length)-1) hg (by omega) (by omega) (fun c h1 h2=>⟨by omega,by omega,by omega⟩) (by omega) (by omega) (by omega) k (by omega)
          refine ⟨s,by omega,by omega,by omega,by omega,e1.trans g3,fun h h'=> ?_,fun h h'=> ?_⟩
          · have:=g4 (by omega)
            rwa [show mid+(P.length+L.length)-1-(s-1)=mid+(P.length+L.length)-s by omega] at this
          · have:=g5 (by omega)
            rwa [show mid+(P.length+L.length)-1-s=mid+(P.length+L.length)-s-1 by omega] at this
        · have e1:=e0.trans (eY (by rw [vZ (by omega)];decide))
          obtain ⟨s,g1,g2,g3,g4,g5⟩:=sm4 (k:=k) (X:=fun v4=>smT0 k z ds nx (P.length:Int) v4.1 ((P.length+L.length:Nat):Int) ((P.length+L.length+R.length:Nat):Int) (mid:Int) (IntKind.i64.wrap (((mid+(P.length+L.length):Nat):Int)-v4.1)) (P++L++R++S)) (z:=z) (a1:=(P.length:Int)) (a2:=((P.length+L.length:Nat):Int)) (a3:=((P.length+L.length+R.length:Nat):Int)) (mid:=(mid:Int)) (n':=((mid+(P.length+L.length):Nat):Int)) (ds:=ds) (nx:=nx) (P++L++R++S) P.length (P.length+L.length) (mid+(P.length+L.length)-1) hg (by omega) (by omega) (fun c h1 h2=>⟨by omega,by omega,by omega⟩) (by omega) (by omega) (by omega) k (by omega)
          refine ⟨s,by omega,by omega,by omega,by omega,e1.trans g3,fun h h'=> ?_,fun h h'=> ?_⟩
          · have:=g4 (by omega)
            rwa [show mid+(P.length+L.length)-1-(s-1)=mid+(P.length+L.length)-s by omega] at this
          · have:=g5 (by omega)
            rwa [show mid+(P.length+L.length)-1-s=mid+(P.length+L.length)-s-1 by omega] at this
      have wen:IntKind.i64.wrap (((mid+(P.length+L.length):Nat):Int)-(s:Int))=((mid+(P.length+L.length)-s:Nat):Int):=by rw [wrapD (by omega) (by omega)];omega
      rw [wen] at eS;obtain ⟨en,hen⟩:∃en,en=mid+(P.length+L.length)-s:=⟨_,rfl⟩;rw [<-hen] at eS c1 c2 s3 s4;have hsL:L=L.take (s-P.length)++L.drop (s-P.length):=(List.take_append_drop _ _).symm;have l1:(L.take (s-P.length)).length=s-P.length:=by simp;omega
      have l2:(L.drop (s-P.length)).length=P.length+L.length-s:=by simp;omega
      have hsR:R=R.take (en-(P.length+L.length))++R.drop (en-(P.length+L.length)):=(List.take_append_drop _ _).symm;have r1:(R.take (en-(P.length+L.length))).length=en-(P.length+L.length):=by simp;omega
      have r2:(R.drop (en-(P.length+L.length))).length=P.length+L.length+R.length-en:=by simp;omega
      generalize L.take (s-P.length)=L1 at hsL l1;generalize L.drop (s-P.length)=L2 at hsL l2;generalize R.take (en-(P.length+L.length))=R1 at hsR r1;generalize R.drop (en-(P.length+L.length))=R2 at hsR r2;have hLl:L.length=L1.length+L2.length:=by rw [hsL];simp
      have hRl:R.length=R1.length+R2.length:=by rw [hsR];simp
      have ev:P++L++R++S=P++L1++L2++R1++(R2++S):=by rw [hsL,hsR];simp
      rw [hsL] at hL;rw [hsR] at hR;obtain ⟨pL1,pL2,pL3⟩:=List.pairwise_append.1 hL;obtain ⟨pR1,pR2,pR3⟩:=List.pairwise_append.1 hR;have hX':∀x,(x ∈ L1\/x ∈ L2)->∀y,(y ∈ R1\/y ∈ R2)->x<y:=fun x hx y hy=>hX x (by rw [hsL];exact wZ.2 hx) y (by rw [hsR];exact wZ.2 hy)
      -- the middle parts change places
      have eT0:smT0 k z ds nx (P.length:Int) (s:Int) ((P.length+L.length:Nat):Int) ((P.length+L.length+R.length:Nat):Int) (mid:Int) (en:Int) (P++L++R++S)=smT1 k z ds nx (P.length:Int) (s:Int) ((P.length+L.length+R.length:Nat):Int) (mid:Int) (en:Int) (P++L1++R1++(L2++R2++S)):=by
        unfold smT0;by_cases hs:s<P.length+L.length
        · rw [dY (by rw [yZ (show (s:Int)<((P.length+L.length:Nat):Int) by omega)];rfl)]
          by_cases he:P.length+L.length<en
          · rw [dY (yZ (show ((P.length+L.length:Nat):Int)<(en:Int) by omega)),ev]
            have hrot:=fgRot (k:=k) (a:=(s:Int)) (mm:=((P.length+L.length:Nat):Int)) (b:=(en:Int)) (z:=z) (ds:=ds) (nx:=nx) (P++L1) L2 R1 (R2++S) (by omega) (by omega) (by simp;omega) (by simp;omega) (by simp;omega) (by rw [<-ev];omega) (by omega)
            rw [hrot,rZ];simp
          · rw [eY (by rw [vZ (show ¬((P.length+L.length:Nat):Int)<(en:Int) by omega)];decide),ev]
            have:R1=[]:=List.eq_nil_of_length_eq_zero (by omega)
            subst this;simp
        · rw [eY (by rw [vZ (show ¬(s:Int)<((P.length+L.length:Nat):Int) by omega)];decide),ev]
          have:L2=[]:=List.eq_nil_of_length_eq_zero (by omega)
          subst this;simp
      have hgm:∀y,(y ∈ P\/y ∈ L1\/y ∈ L2\/y ∈ R1\/y ∈ R2\/y ∈ S)->good ds y:=fun y hy=>hg y (by rw [ev];simp only [wZ];rcases hy with h | h | h | h | h | h<;>simp [h])
      -- the first half
      obtain ⟨Q1,q1p,q1s,eT1⟩:∃Q1,Q1.Perm (L1++R1)/\Q1.Pairwise (ltx ds)/\smT1 k z ds nx (P.length:Int) (s:Int) ((P.length+L.length+R.length:Nat):Int) (mid:Int) (en:Int) (P++L1++R1++(L2++R2++S))=smT2 k z ds nx ((P.length+L.length+R.length:Nat):Int) (mid:Int) (en:Int) (P++Q1++(L2++R2++S)):=by
        unfold smT1;by_cases hs:P.length<s
        · rw [dY (by rw [yZ (show (P.length:Int)<(s:Int) by omega)];rfl)]
          by_cases he:s<mid
          · rw [dY (yZ (show (s:Int)<(mid:Int) by omega))]
            obtain ⟨Q,a1,a2,a3⟩:=ih k P L1 R1 (L2++R2++S) (by omega) (by omega) (by omega) (by omega) (by simp;omega) (fun y hy=>hgm y (by simp only [wZ] at hy;rcases hy with ((h | h) | h) | ((h | h) | h)<;>simp [h])) pL1 pR1 (fun x hx y hy=>hX' x (.inl hx) y (.inl hy))
            rw [show ((P.length+L1.length:Nat):Int)=(s:Int) by omega,show ((P.length+L1.length+R1.length:Nat):Int)=(mid:Int) by omega] at a3
            exact ⟨Q,a1,a2,by rw [a3,rZ]⟩
          · rw [eY (by rw [vZ (show ¬(s:Int)<(mid:Int) by omega)];decide)]
            have:R1=[]:=List.eq_nil_of_length_eq_zero (by omega)
            subst this;exact ⟨L1,by simp,pL1,by simp⟩
        · rw [eY (by rw [vZ (show ¬(P.length:Int)<(s:Int) by omega)];decide)]
          have:L1=[]:=List.eq_nil_of_length_eq_zero (by omega)
          subst this;exact ⟨R1,by simp,pR1,by simp⟩
      have q1l:Q1.length=L1.length+R1.length:=by rw [q1p.length_eq];simp
      have hgq:∀y ∈ Q1,good ds y:=fun y hy=>hgm y (by have:=q1p.mem_iff.1 hy;simp only [wZ] at this;rcases this with h | h<;>simp [h])
      -- the second half
      obtain ⟨Q2,q2p,q2s,eT2⟩:∃Q2,Q2.Perm (L2++R2)/\Q2.Pairwise (ltx ds)/\smT2 k z ds nx ((P.length+L.length+R.length:Nat):Int) (mid:Int) (en:Int) (P++Q1++(L2++R2++S))=some (P++Q1++(Q2++S)):=by
        unfold smT2;by_cases hs:mid<en
        · rw [dY (by rw [yZ (show (mid:Int)<(en:Int) by omega)];rfl)]
          by_cases he:en<P.length+L.length+R.length
          · rw [dY (yZ (show (en:Int)<((P.length+L.length+R.length:Nat):Int) by omega))]
            obtain ⟨Q,a1,a2,a3⟩:=ih k (P++Q1) L2 R2 S (by omega) (by omega) (by omega) (by omega) (by simp;omega) (fun y hy=>by
              simp only [wZ] at hy;rcases hy with (((h | h) | h) | h) | h
              · exact hgm y (.inl h)
              · exact hgq y h
              · exact hgm y (by simp [h])
              · exact hgm y (by simp [h])
              · exact hgm y (by simp [h])) pL2 pR2 (fun x hx y hy=>hX' x (.inr hx) y (.inr hy))
            rw [show (((P++Q1).length:Nat):Int)=(mid:Int) by simp;omega,show (((P++Q1).length+L2.length:Nat):Int)=(en:Int) by simp;omega,show (((P++Q1).length+L2.length+R2.length:Nat):Int)=((P.length+L.length+R.length:Nat):Int) by simp;omega] at a3
            refine ⟨Q,a1,a2,?_⟩
            rw [show P++Q1++(L2++R2++S)=P++Q1++L2++R2++S by simp,a3,rZ]
            simp
          · rw [eY (by rw [vZ (show ¬(en:Int)<((P.length+L.length+R.length:Nat):Int) by omega)];decide)]
            have:R2=[]:=List.eq_nil_of_length_eq_zero (by omega)
            subst this;exact ⟨L2,by simp,pL2,by simp⟩
        · rw [eY (by rw [vZ (show ¬(mid:Int)<(en:Int) by omega)];decide)]
          have:L2=[]:=List.eq_nil_of_length_eq_zero (by omega)
          subst this;exact ⟨R2,by simp,pR2,by simp⟩
      refine ⟨Q1++Q2,?_,?_,?_⟩
      · rw [hsL,hsR];refine (q1p.append q2p).trans ?_
        have e:(L1++L2)++(R1++R2)=L1++((L2++R1)++R2):=by simp
        have e':(L1++R1)++(L2++R2)=L1++((R1++L2)++R2):=by simp
        rw [e,e'];exact List.Perm.append_left L1 (List.Perm.append_right R2 List.perm_append_comm)
      · have b1:∀x ∈ L1,∀w ∈ R2,ltx ds x w:=below pL1 pR2 fun y hy w hw=>by
          have hyw:=hX' y (.inl (List.mem_of_getLast? hy)) w (.inr (List.mem_of_head? hw));obtain ⟨C,hC⟩:=last_cons hy;obtain ⟨D,hD⟩:=head_cons hw;have h1:at0 (P++L++R++S) (s-1)=y:=at0_mid (P:=P++C) (S:=L2++R1++R2++S) (by rw [ev,hC];simp) (by rw [hC] at l1;simp at l1 ⊢;omega)
          have h2:at0 (P++L++R++S) en=w:=at0_mid (P:=P++L1++L2++R1) (S:=D++S) (by rw [ev,hD];simp) (by simp;omega)
          have hc:=c1 (by rw [hC] at l1;simp at l1;omega) (by rw [hD] at r2;simp at r2;omega)
          rw [h1,h2] at hc;unfold ltx;omega
        have b2:∀x ∈ R1,∀w ∈ L2,ltx ds x w:=below pR1 pL2 fun y hy w hw=>by
          obtain ⟨C,hC⟩:=last_cons hy;obtain ⟨D,hD⟩:=head_cons hw;have h1:at0 (P++L++R++S) (en-1)=y:=at0_mid (P:=P++L1++L2++C) (S:=R2++S) (by rw [ev,hC];simp) (by rw [hC] at r1;simp at r1 ⊢;omega)
          have h2:at0 (P++L++R++S) s=w:=at0_mid (P:=P++L1) (S:=D++R1++R2++S) (by rw [ev,hD];simp) (by simp;omega)
          have hc:=c2 (by rw [hD] at l2;simp at l2;omega) (by rw [hC] at r1;simp at r1;omega)
          rw [h1,h2] at hc;exact .inl hc
        refine List.pairwise_append.2 ⟨q1s,q2s,fun x hx w hw=> ?_⟩
        rcases wZ.1 (q1p.mem_iff.1 hx) with hx | hx<;>rcases wZ.1 (q2p.mem_iff.1 hw) with hw | hw
        · exact pL3 x hx w hw
        · exact b1 x hx w hw
        · exact b2 x hx w hw
        · exact pR3 x hx w hw
      · rw [eS,eT0,eT1,eT2];simp
theorem fgIns {k:Nat} {z:Int} {ds nx:List Int} (P D T:List Int) (hg:∀y ∈ D,good ds y) (hD:D.Pairwise (· < ·)) (hl:(P++D++T).length<=549755813888) (hk:D.length+15<=k):
    ∃Q,Q.Perm D/\Q.Pairwise (ltx ds)/\P1 k (P++D++T) (P.length:Int) ((P.length+D.length:Nat):Int) z ds nx=some (P++Q++T):=by
  obtain ⟨k,rfl⟩:=pred (d:=0) (show 1<=k by omega)
  have hl':P.length+D.length+T.length<=549755813888:=by simp at hl;omega
  have hw:IntKind.i64.wrap ((P.length:Int)+1)=((P.length+1:Nat):Int):=by rw [wrapD (by omega) (by omega)];omega
  have e:=eginsertionSortCmpFunc_intv_iAltsOf_1 k (P++D++T) (P.length:Int) ((P.length+D.length:Nat):Int) z ds nx;rw [hw] at e;cases D with
  | nil=>
    obtain ⟨k,rfl⟩:=pred (d:=0) (show 1<=k by omega)
    refine ⟨[],List.Perm.nil,List.Pairwise.nil,e.trans ?_⟩
    show (if (decide (((P.length+1:Nat):Int)<((P.length+([]:List Int).length:Nat):Int)))=true then _ else _)=_
    exact eY (by rw [vZ (by simp;omega)];decide)
  | cons x M=>
    obtain ⟨Q,q1,q2,q3⟩:=insOut (k:=k) (ds:=ds) (nx:=nx) (X:=fun v0=>some v0.2) (a:=(P.length:Int)) (b:=((P.length+(x::M).length:Nat):Int)) (z:=z) (fun v=>some v) (fun _=>rfl) P T rfl M k [x] [x] (by simp at hk;omega) (by simp at hk ⊢;omega) (by simpa using hg) (List.Perm.refl _) (List.pairwise_singleton _ _) (by simpa using hD) (by simp;omega) (by simp at hl ⊢;omega)
    refine ⟨Q,by simpa using q1,q2,e.trans (Eq.trans ?_ q3)⟩
    have e1:((P.length+1:Nat):Int)=((P++[x]).length:Int):=by simp
    have e2:P++x::M++T=P++[x]++M++T:=by simp
    rw [e1,e2]
inductive Blks (ds:List Int) (bs:Nat):List Int->List Int->Prop
 | last {A B:List Int}:A.length<=bs->B.Perm A->B.Pairwise (ltx ds)->Blks ds bs A B
 | cons {A B xs v:List Int}:A.length=bs->B.Perm A->B.Pairwise (ltx ds)->Blks ds bs xs v->Blks ds bs (A++xs) (B++v)
theorem Blks.perm {ds:List Int} {bs:Nat} {xs v:List Int} (h:Blks ds bs xs v):v.Perm xs:=by
 induction h with
 | last _ h _=>exact h
 | cons _ h _ _ ih=>exact h.append ih
theorem Blks.nil {ds:List Int} {bs:Nat}:Blks ds bs [] []:= .last (by simp) List.Perm.nil List.Pairwise.nil
theorem Blks.split {ds:List Int} {bs:Nat} {xs v:List Int} (h:Blks ds bs xs v) (hl:bs<=xs.length):∃A xs' B v',xs=A++xs'/\v=B++v'/\A.length=bs/\B.Perm A/\B.Pairwise (ltx ds)/\Blks ds bs xs' v':=by
 cases h with
 | last h1 h2 h3=>exact ⟨xs,[],v,[],by simp,by simp,by omega,h2,h3,.nil⟩
 | cons h1 h2 h3 h4=>exact ⟨_,_,_,_,rfl,rfl,h1,h2,h3,h4⟩
theorem Blks.one {ds:List Int} {bs:Nat} {xs v:List Int} (h:Blks ds bs xs v) (hl:xs.length<=bs) (h0:0<bs):v.Perm xs/\v.Pairwise (ltx ds):=by
  cases h with
  | last h1 h2 h3=>exact ⟨h2,h3⟩
  | @cons A B xs v h1 h2 h3 h4=>
    have hx:xs=[]:=List.eq_nil_of_length_eq_zero (by simp at hl;omega)
    subst hx;have hv:v=[]:=by have:=h4.perm;simpa using this
    subst hv;exact ⟨by simpa using h2,by simpa using h3⟩
theorem stA {R:Type} {k n:Nat} {z:Int} {ds nx:List Int} {X:H1->Option R} (Z:Int->Int->List Int->Option R) (hX:∀v,X v=(P1 k v.2.2 v.1 (n:Int) z ds nx).bind fun p1=>Z v.1 v.2.1 p1) (hn:n<=549755813888) (hk:60<=k):
    ∀(m:Nat) (P xs:List Int),xs.length<m->P.length+xs.length=n->(∀y ∈ xs,good ds y)->xs.Pairwise (· < ·)->
      ∃v a b,Blks ds 20 xs v/\LgstableCmpFunc_intv_iAltsOf_1_0 k X ((n:Int),z,ds,nx,20) m ((P.length:Int),((P.length+20:Nat):Int),P++xs)=Z a b (P++v):=by
  intro m;induction m with
  | zero=>intro P xs h;omega
  | succ m ih=>
    intro P xs hm hPn hg hs;show ∃v a b,_/\(if (decide (((P.length+20:Nat):Int)<=(n:Int)))=true then _ else X _)=_
    by_cases h:20<=xs.length
    · rw [dY (yZ (by omega))]
      have hsp:xs=xs.take 20++xs.drop 20:=(List.take_append_drop _ _).symm;have l1:(xs.take 20).length=20:=by simp;omega
      generalize xs.take 20=D at hsp l1;generalize xs.drop 20=T at hsp;subst hsp;obtain ⟨s1,s2,s3⟩:=List.pairwise_append.1 hs;obtain ⟨Q,q1,q2,q3⟩:=fgIns (k:=k) (z:=z) (nx:=nx) P D T (fun y hy=>hg y (by simp [hy])) s1 (by simp at hPn ⊢;omega) (by omega)
      rw [l1] at q3;dsimp only;rw [show P++(D++T)=P++D++T by simp,q3,rZ]
      have ql:Q.length=20:=by rw [q1.length_eq,l1]
      have hTl:T.length+20=(D++T).length:=by simp;omega
      obtain ⟨v,a,b,hb,he⟩:=ih (P++Q) T (by omega) (by simp;omega) (fun y hy=>hg y (by simp [hy])) s2
      refine ⟨Q++v,a,b,.cons l1 q1 q2 hb,?_⟩
      have hw:IntKind.i64.wrap (((P.length+20:Nat):Int)+20)=(((P++Q).length+20:Nat):Int):=by rw [wrapD (by omega) (by omega)];simp;omega
      have hp:((P.length+20:Nat):Int)=((P++Q).length:Int):=by simp;omega
      rw [hw,hp];exact he.trans (by simp)
    · rw [eY (by rw [vZ (by omega)];decide),hX]
      obtain ⟨Q,q1,q2,q3⟩:=fgIns (k:=k) (z:=z) (nx:=nx) P xs [] hg hs (by simp;omega) (by omega)
      refine ⟨Q,(P.length:Int),((P.length+20:Nat):Int),.last (by omega) q1 q2,?_⟩
      dsimp only;rw [<-hPn];simp only [List.append_nil] at q3;rw [q3,rZ]
theorem stB {R:Type} {k n bs:Nat} {z:Int} {ds nx:List Int} {X:K1->Option R} (Y:List Int->Int->Int->Option R)
    (hX:∀v,X v=if (decide ((IntKind.i64.wrap (v.1+(bs:Int)))<(n:Int)))=true then (u0 k v.2.2 v.1 (IntKind.i64.wrap (v.1+(bs:Int))) (n:Int) z ds nx).bind fun p2=>Y p2 v.1 v.2.1 else Y v.2.2 v.1 v.2.1) (hn:n<=549755813888) (hb0:0<bs) (hbs:bs<=549755813888) (hk:2*n+60<=k):
    ∀(m:Nat) (P xs v:List Int),xs.length<m->P.length+xs.length=n->Blks ds bs xs v->(∀y ∈ P++xs,good ds y)->xs.Pairwise (· < ·)->
      ∃v' a b,Blks ds (2*bs) xs v'/\LgstableCmpFunc_intv_iAltsOf_1_2 k X ((n:Int),z,ds,nx,(bs:Int)) m ((P.length:Int),((P.length+2*bs:Nat):Int),P++v)=Y (P++v') a b:=by
  intro m;induction m with
  | zero=>intro P xs v h;omega
  | succ m ih=>
    intro P xs v hm hPn hB hg hs;have hvl:v.length=xs.length:=hB.perm.length_eq;have hgP:∀y ∈ P,good ds y:=fun y hy=>hg y (by simp [hy])
    show ∃v' a b,_/\(if (decide (((P.length+2*bs:Nat):Int)<=(n:Int)))=true then _ else X _)=_
    have wa:IntKind.i64.wrap ((P.length:Int)+(bs:Int))=((P.length+bs:Nat):Int):=by rw [wrapD (by omega) (by omega)];omega
    by_cases h:2*bs<=xs.length
    · rw [dY (yZ (by omega))]
      obtain ⟨A1,ys,B1,u,rfl,rfl,a1,p1,t1,hB1⟩:=hB.split (by omega)
      obtain ⟨A2,zs,B2,w,rfl,rfl,a2,p2,t2,hB2⟩:=hB1.split (by simp at h;omega)
      obtain ⟨s1,s2,s3⟩:=List.pairwise_append.1 hs;obtain ⟨s4,s5,s6⟩:=List.pairwise_append.1 s2;have b1:B1.length=bs:=by rw [p1.length_eq,a1]
      have b2:B2.length=bs:=by rw [p2.length_eq,a2]
      have hwl:w.length=zs.length:=hB2.perm.length_eq;have hlz:(A1++(A2++zs)).length=2*bs+zs.length:=by simp;omega
      have hgw:∀y ∈ P++B1++B2++w,good ds y:=fun y hy=>by
        simp only [wZ] at hy;rcases hy with ((hy | hy) | hy) | hy
        · exact hgP y hy
        · exact hg y (by simp [p1.mem_iff.1 hy])
        · exact hg y (by simp [p2.mem_iff.1 hy])
        · exact hg y (by simp [hB2.perm.mem_iff.1 hy])
      obtain ⟨Q,q1,q2,q3⟩:=fgSym (ds:=ds) (nx:=nx) (z:=z) (N:=n) (by omega) (2*bs) k P B1 B2 w (by omega) (by omega) (by omega) (by omega) (by simp;omega) hgw t1 t2 (fun x hx y hy=>s3 x (p1.mem_iff.1 hx) y (by simp [p2.mem_iff.1 hy]))
      dsimp only;rw [wa];rw [show ((P.length+B1.length:Nat):Int)=((P.length+bs:Nat):Int) by omega,show ((P.length+B1.length+B2.length:Nat):Int)=((P.length+2*bs:Nat):Int) by omega] at q3
      rw [show P++(B1++(B2++w))=P++B1++B2++w by simp,q3,rZ]
      have ql:Q.length=2*bs:=by rw [q1.length_eq];simp;omega
      obtain ⟨v',a,b,hb,he⟩:=ih (P++Q) zs w (by omega) (by simp;omega) hB2 (fun y hy=>by
        simp only [wZ] at hy;rcases hy with (hy | hy) | hy
        · exact hgP y hy
        · have:=q1.mem_iff.1 hy
          simp only [wZ] at this;rcases this with hy | hy
          · exact hg y (by simp [p1.mem_iff.1 hy])
          · exact hg y (by simp [p2.mem_iff.1 hy])
        · exact hg y (by simp [hy])) s5
      refine ⟨Q++v',a,b,?_,?_⟩
      · have:=Blks.cons (A:=A1++A2) (bs:=2*bs) (ds:=ds) (B:=Q) (by simp;omega) (q1.trans (p1.append p2)) q2 hb
        simpa using this
      · have w2:IntKind.i64.wrap (2*(bs:Int))=((2*bs:Nat):Int):=by rw [wrapD (by omega) (by omega)];omega
        have hw:IntKind.i64.wrap (((P.length+2*bs:Nat):Int)+((2*bs:Nat):Int))=(((P++Q).length+2*bs:Nat):Int):=by rw [wrapD (by omega) (by omega)];simp;omega
        have hp:((P.length+2*bs:Nat):Int)=((P++Q).length:Int):=by simp;omega
        rw [w2,hw,hp];exact he.trans (by simp)
    · rw [eY (by rw [vZ (by omega)];decide),hX]
      dsimp only;rw [wa];by_cases h2:bs<xs.length
      · rw [dY (yZ (by omega))]
        obtain ⟨A1,ys,B1,u,rfl,rfl,a1,p1,t1,hB1⟩:=hB.split (by omega)
        have hlz:(A1++ys).length=bs+ys.length:=by simp;omega
        obtain ⟨p2,t2⟩:=hB1.one (by omega) hb0
        obtain ⟨s1,s2,s3⟩:=List.pairwise_append.1 hs;have b1:B1.length=bs:=by rw [p1.length_eq,a1]
        have b2:u.length=ys.length:=p2.length_eq;have hgw:∀y ∈ P++B1++u++[],good ds y:=fun y hy=>by
          simp only [wZ,List.not_mem_nil,or_false] at hy;rcases hy with (hy | hy) | hy
          · exact hgP y hy
          · exact hg y (by simp [p1.mem_iff.1 hy])
          · exact hg y (by simp [p2.mem_iff.1 hy])
        obtain ⟨Q,q1,q2,q3⟩:=fgSym (ds:=ds) (nx:=nx) (z:=z) (N:=n) (by omega) n k P B1 u [] (by omega) (by omega) (by omega) (by omega) (by simp;omega) hgw t1 t2 (fun x hx y hy=>s3 x (p1.mem_iff.1 hx) y (p2.mem_iff.1 hy))
        rw [show ((P.length+B1.length:Nat):Int)=((P.length+bs:Nat):Int) by omega,show ((P.length+B1.length+u.length:Nat):Int)=(n:Int) by omega] at q3
        simp only [List.append_nil] at q3;refine ⟨Q,(P.length:Int),((P.length+2*bs:Nat):Int),.last (by omega) (q1.trans (p1.append p2)) q2,?_⟩
        rw [show P++(B1++u)=P++B1++u by simp,q3,rZ]
      · rw [eY (by rw [vZ (by omega)];decide)]
        obtain ⟨p1,t1⟩:=hB.one (by omega) hb0
        exact ⟨v,_,_,.last (by omega) p1 t1,rfl⟩
theorem stC {k n:Nat} {z:Int} {ds nx:List Int} (hn:n<=549755813888) (hk:2*n+60<=k) (xs:List Int) (hxn:xs.length=n) (hg:∀y ∈ xs,good ds y) (hs:xs.Pairwise (· < ·)):
    ∀(m bs:Nat) (a b:Int) (v:List Int),0<bs->n-bs<m->Blks ds bs xs v->∃Q,Q.Perm xs/\Q.Pairwise (ltx ds)/\P0 k (fun v1=>some v1.2.2.2) ((n:Int),z,ds,nx) m ((bs:Int),a,b,v)=some Q:=by
  intro m;induction m with
  | zero=>intro bs a b v _ h;omega
  | succ m ih=>
    intro bs a b v hb0 hm hB;show ∃Q,_/\_/\(if (decide ((bs:Int)<(n:Int)))=true then _ else _)=_
    by_cases h:bs<n
    · rw [dY (yZ (by omega))]
      dsimp only;have w2:IntKind.i64.wrap (2*(bs:Int))=((2*bs:Nat):Int):=by rw [wrapD (by omega) (by omega)];omega
      have w3:IntKind.i64.wrap ((bs:Int)*2)=((2*bs:Nat):Int):=by rw [wrapD (by omega) (by omega)];omega
      obtain ⟨v',a',b',hb',he⟩:=stB (k:=k) (n:=n) (bs:=bs) (z:=z) (ds:=ds) (nx:=nx) (X:=fun v2=>if (decide ((IntKind.i64.wrap (v2.1+(bs:Int)))<(n:Int)))=true then (u0 k v2.2.2 v2.1 (IntKind.i64.wrap (v2.1+(bs:Int))) (n:Int) z ds nx).bind fun p2=>P0 k (fun v1=>some v1.2.2.2) ((n:Int),z,ds,nx) m (((2*bs:Nat):Int),v2.1,v2.2.1,p2) else P0 k (fun v1=>some v1.2.2.2) ((n:Int),z,ds,nx) m (((2*bs:Nat):Int),v2.1,v2.2.1,v2.2.2)) (fun p a b=>P0 k (fun v1=>some v1.2.2.2) ((n:Int),z,ds,nx) m (((2*bs:Nat):Int),a,b,p)) (fun _=>rfl) hn hb0 (by omega) hk k [] xs v (by omega) (by simpa using hxn) hB (by simpa using hg) hs
      obtain ⟨Q,q1,q2,q3⟩:=ih (2*bs) a' b' v' (by omega) (by omega) hb'
      refine ⟨Q,q1,q2,Eq.trans ?_ (he.trans (Eq.trans ?_ q3))⟩
      · rw [w2,w3];simp
      · simp
    · rw [eY (by rw [vZ (by omega)];decide)]
      obtain ⟨p,q⟩:=hB.one (by omega) hb0
      exact ⟨v,p,q,rfl⟩
/-- The stable sort of an increasing row: its permutation in order of the key, then of the numbers. -/
theorem fgStable {k:Nat} {z:Int} {ds nx:List Int} (xs:List Int) (hn:xs.length<=549755813888) (hk:2*xs.length+70<=k) (hg:∀y ∈ xs,good ds y) (hs:xs.Pairwise (· < ·)):
 ∃Q,Q.Perm xs/\Q.Pairwise (ltx ds)/\V0 k xs z ds nx=some Q:=by
 obtain ⟨k,rfl⟩:=pred (d:=0) (show 1<=k by omega)
 obtain ⟨k,rfl⟩:=pred (d:=0) (show 1<=k by omega)
 have e:=egSortStableFunc_intv_iAltsOf_1 (k+1) xs z ds nx;have e2:=egstableCmpFunc_intv_iAltsOf_1 k xs (xs.length:Int) z ds nx;obtain ⟨v,a,b,hB,he⟩:=stA (k:=k) (n:=xs.length) (z:=z) (ds:=ds) (nx:=nx) (X:=fun v0=>(P1 k v0.2.2 v0.1 (xs.length:Int) z ds nx).bind fun p1=>P0 k (fun v1=>some v1.2.2.2) ((xs.length:Int),z,ds,nx) k (20,v0.1,v0.2.1,p1)) (fun a b p=>P0 k (fun v1=>some v1.2.2.2) ((xs.length:Int),z,ds,nx) k (20,a,b,p)) (fun _=>rfl) hn (by omega) k [] xs (by omega) (by simp) hg hs
 obtain ⟨Q,q1,q2,q3⟩:=stC (k:=k) (z:=z) (ds:=ds) (nx:=nx) hn (by omega) xs rfl hg hs k 20 a b v (by omega) (by omega) hB
 refine ⟨Q,q1,q2,e.trans ((bs (e2.trans (he.trans ?_))).trans rfl)⟩
 exact q3
def downAt (n t:Int) (x:Int×Int×Int×Int):Bool:=x.1==n&&(x.2.1== -1&&inSpan x.2.2 t)
def down (l:List (Int×Int×Int×Int)) (n t:Int):Bool:=l.any (downAt n t)
theorem fsl31Now {k:Nat} (x:Int×Int×Int×Int) (t:Int) (hk:3<=k):Fsl31Now k x t=some (inSpan x.2.2 t):=by
 obtain ⟨k,rfl⟩:=pred (d:=2) hk;rw [esl31Now,fsInSpan _ _ (by omega)]
 rfl
theorem fsIsDown {k:Nat} (l:List (Int×Int×Int×Int)) (n t:Int) (hl:l.length<=140737488351232) (hk:l.length+5<=k):FsIsDown k l n t=some (down l n t):=by
 obtain ⟨k,rfl⟩:=pred (d:=0) (show 1<=k by omega)
 refine (esIsDown k l n t).trans (row_i (a:=l) (fun _ l=>some (l.any (downAt n t))) (fun _ _=>rfl) hl rfl (fun m i x r h0 hn hw hi hx ih=> ?_) (by omega))
 dsimp only;simp only [hw,ih,hn,Y0 hx,dY h0,List.any_cons,fsl31Now x t (show 3<=k by omega),rZ]
 unfold downAt;cases x.1==n<;>cases x.2.1== -1<;>cases inSpan x.2.2 t<;>rfl
theorem fiIsDown {k:Nat} (l:List (Int×Int×Int×Int)) (n t:Int) (hl:l.length<=140737488351232) (hk:l.length+5<=k):FiIsDown k l n t=some (down l n t):=by
 obtain ⟨k,rfl⟩:=pred (d:=0) (show 1<=k by omega)
 refine (eiIsDown k l n t).trans (row_i (a:=l) (fun _ l=>some (l.any (downAt n t))) (fun _ _=>rfl) hl rfl (fun m i x r h0 hn hw hi hx ih=> ?_) (by omega))
 dsimp only;simp only [hw,ih,List.any_cons,fiInSpan x.2.2 t (show 2<=k by omega),rZ]
 unfold downAt;cases x.1==n<;>cases x.2.1== -1<;>cases inSpan x.2.2 t<;>rfl
def cutAt (a b t:Int) (x:Int×Int×Int×Int):Bool:=((x.1==a&&x.2.1==b) || (x.1==b&&x.2.1==a))&&inSpan x.2.2 t
def cut (l:List (Int×Int×Int×Int)) (a b t:Int):Bool:=l.any (cutAt a b t) || (down l a t || down l b t)
theorem fsIsCut {k:Nat} (l:List (Int×Int×Int×Int)) (a b t:Int) (hl:l.length<=140737488351232) (hk:l.length+6<=k):FsIsCut k l a b t=some (cut l a b t):=by
 obtain ⟨k,rfl⟩:=pred (d:=0) (show 1<=k by omega)
 rw [esIsCut,fsIsDown l a t hl (by omega),fsIsDown l b t hl (by omega)]
 simp only [rZ];refine (row_i (a:=l) (fun _ m=>some (m.any (cutAt a b t) || (down l a t || down l b t))) (fun _ _=>rfl) hl ?_ (fun m i x r h0 hn hw hi hx ih=> ?_) (by omega))
 · cases down l a t<;>cases down l b t<;>rfl
 · dsimp only;simp only [hw,ih,hn,Y0 hx,dY h0,List.any_cons,fsl31Now x t (show 3<=k by omega),rZ]
   unfold cutAt;cases x.1==a<;>cases x.2.1==b<;>cases x.1==b<;>cases x.2.1==a<;>cases inSpan x.2.2 t<;>rfl
theorem fiIsCut {k:Nat} (l:List (Int×Int×Int×Int)) (a b t:Int) (hl:l.length<=140737488351232) (hk:l.length+6<=k):FiIsCut k l a b t=some (cut l a b t):=by
 obtain ⟨k,rfl⟩:=pred (d:=0) (show 1<=k by omega)
 rw [eiIsCut,fiIsDown l a t hl (by omega),fiIsDown l b t hl (by omega)]
 simp only [rZ];refine (row_i (a:=l) (fun _ m=>some (m.any (cutAt a b t) || (down l a t || down l b t))) (fun _ _=>rfl) hl ?_ (fun m i x r h0 hn hw hi hx ih=> ?_) (by omega))
 · cases down l a t<;>cases down l b t<;>rfl
 · dsimp only;simp only [hw,ih,List.any_cons,fiInSpan x.2.2 t (show 2<=k by omega),rZ]
   unfold cutAt;cases x.1==a<;>cases x.2.1==b<;>cases x.1==b<;>cases x.2.1==a<;>cases inSpan x.2.2 t<;>rfl
/-- The nodes from i on, m of them, that node n is cut from. -/
def deadFrom (l:List (Int×Int×Int×Int)) (n t:Int):Nat->Nat->List Int->List Int
 | 0,_,out=>out
 | m+1,i,out=>deadFrom l n t m (i+1) (if ((i:Int) !=n&&cut l n (i:Int) t)=true then out++[(i:Int)] else out)
def dead (l:List (Int×Int×Int×Int)) (n t nodes:Int):List Int:=if inR nodes 1 12 then deadFrom l n t nodes.toNat 0 [] else []
theorem deadFrom_len (l:List (Int×Int×Int×Int)) (n t:Int):∀(m i:Nat) (out:List Int),(deadFrom l n t m i out).length<=out.length+m
  | 0,i,out=>by simp [deadFrom]
  | m+1,i,out=>by
    have:=deadFrom_len l n t m (i+1) (if ((i:Int) !=n&&cut l n (i:Int) t)=true then out++[(i:Int)] else out)
    simp only [deadFrom];split at this
    · rename_i h;rw [dY h];simp at this;omega
    · rename_i h;rw [eY h];omega
theorem dead_len (l:List (Int×Int×Int×Int)) (n t nodes:Int):(dead l n t nodes).length<=12:=by
 unfold dead;split
 · rename_i h
   have:=deadFrom_len l n t nodes.toNat 0 []
   unfold inR at h;simp at h this;omega
 · simp
theorem inR_bd {n a b:Int} (h:inR n a b=true):a<=n/\n<=b:=by unfold inR at h;simpa using h
theorem fiisNumber {k:Nat} (n:Int) (hk:2<=k):FiisNumber k n=some (inR n 1 12):=by
 obtain ⟨k,rfl⟩:=pred (d:=1) hk;rw [eiisNumber,fiInRange _ _ _ (by omega)]
 rfl
theorem fsDeadFor {k:Nat} (l:List (Int×Int×Int×Int)) (n t nodes:Int) (hl:l.length<=140737488351232) (hk:l.length+30<=k):FsDeadFor k l n t nodes=some (dead l n t nodes):=by
  obtain ⟨k,rfl⟩:=pred (d:=0) (show 1<=k by omega)
  rw [esDeadFor,fsl1In _ _ _ (by omega),rZ]
  unfold dead;cases h:inR nodes 1 12 with
  | false=>rfl
  | true=>
    obtain ⟨h1,h2⟩:=inR_bd h;rw [eY (by decide),dY rfl]
    have hN:((nodes.toNat:Nat):Int)=nodes:=by omega
    refine up_inv0 (len:=nodes.toNat) (fun (s:List Int) i=>(i,s)) (fun s i=>some (deadFrom l n t (nodes.toNat-i) i s)) (fun s i=>s.length<=i) (by omega) (fun m i s hI hi h0 hn hw ih=> ?_) (by omega) [] (by simp)
    show BsDeadFor_0 k _ _ _ _=_
    unfold BsDeadFor_0;dsimp only;by_cases hlt:i<nodes.toNat
    · have hm:nodes.toNat-i=(nodes.toNat-(i+1))+1:=by omega
      rw [dY (by simp;omega),fsIsCut l n (i:Int) t hl (by omega),hw,hm,deadFrom]
      cases hc:((i:Int) !=n) with
      | false=>
        rw [eY (by decide),Bool.false_and,eY (by decide)]
        exact ih hlt s (by omega)
      | true=>
        rw [dY (by decide),rZ,Bool.true_and]
        cases cut l n (i:Int) t with
        | false=>
          rw [eY (by decide),eY (by decide)]
          exact ih hlt s (by omega)
        | true=>
          rw [dY rfl,dY rfl,dY (by simp;omega)]
          exact ih hlt _ (by simp;omega)
    · have:i=nodes.toNat:=by omega
      subst this;rw [eY (by simp;omega),Nat.sub_self]
      rfl
theorem fiDeadFor {k:Nat} (l:List (Int×Int×Int×Int)) (n t nodes:Int) (hl:l.length<=140737488351232) (hk:l.length+30<=k):FiDeadFor k l n t nodes=some (dead l n t nodes):=by
  obtain ⟨k,rfl⟩:=pred (d:=0) (show 1<=k by omega)
  rw [eiDeadFor,fiisNumber _ (by omega),rZ]
  unfold dead;cases h:inR nodes 1 12 with
  | false=>rfl
  | true=>
    obtain ⟨h1,h2⟩:=inR_bd h;rw [eY (by decide),dY rfl]
    have hN:((nodes.toNat:Nat):Int)=nodes:=by omega
    refine up_inv0 (len:=nodes.toNat) (fun (s:List Int) i=>(i,s)) (fun s i=>some (deadFrom l n t (nodes.toNat-i) i s)) (fun s i=>s.length<=i) (by omega) (fun m i s hI hi h0 hn hw ih=> ?_) (by omega) [] (by simp)
    show BiDeadFor_0 k _ _ _ _=_
    unfold BiDeadFor_0;dsimp only;by_cases hlt:i<nodes.toNat
    · have hm:nodes.toNat-i=(nodes.toNat-(i+1))+1:=by omega
      rw [dY (by simp;omega),fiIsCut l n (i:Int) t hl (by omega),hw,hm,deadFrom]
      cases hc:((i:Int) !=n) with
      | false=>
        rw [eY (by decide),Bool.false_and,eY (by decide)]
        exact ih hlt s (by omega)
      | true=>
        rw [dY (by decide),rZ,Bool.true_and]
        cases cut l n (i:Int) t with
        | false=>
          rw [eY (by decide),eY (by decide)]
          exact ih hlt s (by omega)
        | true=>
          rw [dY rfl,dY rfl,dY (by simp;omega)]
          exact ih hlt _ (by simp;omega)
    · have:i=nodes.toNat:=by omega
      subst this;rw [eY (by simp;omega),Nat.sub_self]
      rfl
def deadNow (w:TW) (n:Int):List Int:=dead w.2.2.2.2.2.2.2.2.2.1 n w.2.2.2.2.2.2.2.2.2.2.1 w.2.1.1
theorem fsDeadNow {k:Nat} (w:TW) (n:Int) (hl:w.2.2.2.2.2.2.2.2.2.1.length<=140737488351232) (hk:w.2.2.2.2.2.2.2.2.2.1.length+31<=k):FsDeadNow k w n=some (deadNow w n):=by
 obtain ⟨k,rfl⟩:=pred (d:=0) (show 1<=k by omega)
 rw [esDeadNow,fsDeadFor _ _ _ _ hl (by omega)]
 rfl
theorem fiDeadNow {k:Nat} (w:TW) (n:Int) (hl:w.2.2.2.2.2.2.2.2.2.1.length<=140737488351232) (hk:w.2.2.2.2.2.2.2.2.2.1.length+31<=k):FiDeadNow k w n=some (deadNow w n):=by
 obtain ⟨k,rfl⟩:=pred (d:=0) (show 1<=k by omega)
 rw [eiDeadNow,fiDeadFor _ _ _ _ hl (by omega)]
 rfl
theorem fiisSkewed {k:Nat} (p:W0) (t:Int) (hk:2<=k):FiisSkewed k p t=some (inR p.2.2.1 0 5&&inR t 0 1000):=by
  obtain ⟨k,rfl⟩:=pred (d:=1) hk;have e0:=(eiisSkewed k p t).trans (bs (fiInRange _ _ _ (by omega)))
  cases h:inR p.2.2.1 0 5 with
  | false=>rw [h] at e0;exact e0
  | true=>
    rw [h] at e0;exact e0.trans ((dY rfl).trans ((bs (fiInRange _ _ _ (by omega))).trans (by simp)))
def nxt (p:W0) (x d t:Int):Option Int:=match tbl p (pieceAt p t) d with
 | some u=>if isIdx x (u.2.2.length:Int)=true then u.2.2[x.toNat]? else none
 | none=>none
def nxtR (o:Option Int):Int×Bool:=match o with
 | some h=>(h,true)
 | none=>(-1,false)
theorem fsNext {k N:Nat} (p:W0) (x d t:Int) (hr:rowsLe N m0 p) (hN:N<=549755813888) (hk:N+40<=k):Fsl19Next k p x d t=some (nxtR (nxt p x d t)).1:=by
  obtain ⟨k,rfl⟩:=pred (d:=0) (show 1<=k by omega)
  have h1:p.2.2.2.length<=N:=(Z0 hr.2.2.2).1;obtain ⟨t1,_,t3⟩:=fTableIn (k:=k) p (pieceAt p t) d hr hN (by omega)
  have e0:=(esl19Next k p x d t).trans ((bs (fsPieceAt p t (by omega) (by omega))).trans (bs t1))
  unfold nxt;cases hq:tbl p (pieceAt p t) d with
  | none=>
    rw [tblR_none hq] at e0;exact e0.trans (eY (by simp))
  | some u=>
    rw [tblR_some hq] at e0 t3;have e1:=e0.trans ((dY rfl).trans (bs (fsl1In _ _ _ (by omega))))
    rw [inR_last _ (by show u.2.2.length<=_;dsimp only at t3;omega)] at e1
    dsimp only at e1 t3 ⊢;by_cases hx:isIdx x (u.2.2.length:Int)=true
    · obtain ⟨x0,x1⟩:=isIdx_pos hx;rw [dY hx];have hg:u.2.2[x.toNat]? =some u.2.2[x.toNat]:=dZ x1
      rw [hg];exact e1.trans ((eY (by rw [hx];decide)).trans ((dY x0).trans ((dY (by omega)).trans (Y0 hg _))))
    · have hx':isIdx x (u.2.2.length:Int)=false:=by simpa using hx
      rw [eY hx];exact e1.trans (dY (by rw [hx'];rfl))
theorem fiNext {k N:Nat} (p:W0) (x d t:Int) (hr:rowsLe N m0 p) (hN:N<=549755813888) (hk:N+40<=k):FinextIn k p (pieceAt p t) d x=some (nxtR (nxt p x d t)):=by
  obtain ⟨k,rfl⟩:=pred (d:=0) (show 1<=k by omega)
  have h1:p.2.2.2.length<=N:=(Z0 hr.2.2.2).1;obtain ⟨_,t1,t3⟩:=fTableIn (k:=k) p (pieceAt p t) d hr hN (by omega)
  have e0:=(einextIn k p (pieceAt p t) d x).trans (bs t1);unfold nxt;cases hq:tbl p (pieceAt p t) d with
  | none=>
    rw [tblR_none hq] at e0;exact e0.trans (eY (by simp))
  | some u=>
    rw [tblR_some hq] at e0 t3;have e1:=e0.trans ((dY rfl).trans (bs (fiisIndex _ _ (by omega))))
    dsimp only at e1 t3 ⊢;by_cases hx:isIdx x (u.2.2.length:Int)=true
    · obtain ⟨x0,x1⟩:=isIdx_pos hx;rw [dY hx];have hg:u.2.2[x.toNat]? =some u.2.2[x.toNat]:=dZ x1
      rw [hg];exact e1.trans ((eY (by rw [hx];decide)).trans ((dY x0).trans ((dY (by omega)).trans (Y0 hg _))))
    · have hx':isIdx x (u.2.2.length:Int)=false:=by simpa using hx
      rw [eY hx];exact e1.trans (dY (by rw [hx'];rfl))
/-- Both sides give the same hop; one that is no '-1' stands in a table. -/
theorem fHopAt {k j N:Nat} (p:W0) (x d t:Int) (hr:rowsLe N m0 p) (hN:N<=549755813888) (hk:2*N+50<=k) (hj:2*N+50<=j):
    ∃h,FsHopAt j p x d t=some h/\FiHopAt k p x d t=some h/\(0<=h->nxt p x d t=some h):=by
  obtain ⟨k,rfl⟩:=pred (d:=0) (show 1<=k by omega)
  obtain ⟨j,rfl⟩:=pred (d:=0) (show 1<=j by omega)
  have h1:p.2.2.2.length<=N:=(Z0 hr.2.2.2).1;have es:=(esHopAt j p x d t).trans (bs (fsl1In _ _ _ (by omega)))
  have ei:=(eiHopAt k p x d t).trans ((bs (fiPieceAt p t (by omega) (by omega))).trans (bs (fiNext p x d t hr hN (by omega))))
  have hc:inR p.2.2.1 0 5=true->inR t 0 1000=true->∃c,FsHopAt (j+1) p x d t=(if (!c)=true then some (-1) else some (nxtR (nxt p x d t)).1)/\((nxtR (nxt p x d t)).2=true->FiHopAt (k+1) p x d t=(if (!c)=true then some (-1) else some (nxtR (nxt p x d t)).1)):=by
    intro h1 h2;obtain ⟨c,c1,c2⟩:=fSafe (j:=j) (k:=k) p d (IntKind.i64.wrap (t-(IntKind.i64.wrap (2*p.2.2.1)))) (IntKind.i64.wrap (t+(IntKind.i64.wrap (2*p.2.2.1)))) hr hN (by omega) (by omega)
    rw [h1] at es;have es:=es.trans ((dY rfl).trans (bs (fsl1In _ _ _ (by omega))))
    rw [h2] at es;have es:=es.trans ((dY rfl).trans ((bs c1).trans (by rw [fsNext p x d t hr hN (by omega)])))
    refine ⟨c,es,fun hn=> ?_⟩
    rw [hn] at ei;have ei:=ei.trans ((dY rfl).trans (bs (fiisSkewed p t (by omega))))
    rw [h1,h2] at ei;exact ei.trans ((dY rfl).trans (bs c2))
  cases h1:inR p.2.2.1 0 5 with
  | false=>
    rw [h1] at es;refine ⟨-1,es.trans (eY (by decide)),?_,fun h=>by omega⟩
    cases hn:(nxtR (nxt p x d t)).2 with
    | false=>rw [hn] at ei;exact ei.trans (eY (by decide))
    | true=>
      rw [hn] at ei;have ei:=ei.trans ((dY rfl).trans (bs (fiisSkewed p t (by omega))))
      rw [h1] at ei;exact ei.trans (eY (by simp))
  | true=>
  cases h2:inR t 0 1000 with
  | false=>
    rw [h1] at es;have es:=es.trans ((dY rfl).trans (bs (fsl1In _ _ _ (by omega))))
    rw [h2] at es;refine ⟨-1,es.trans (eY (by decide)),?_,fun h=>by omega⟩
    cases hn:(nxtR (nxt p x d t)).2 with
    | false=>rw [hn] at ei;exact ei.trans (eY (by decide))
    | true=>
      rw [hn] at ei;have ei:=ei.trans ((dY rfl).trans (bs (fiisSkewed p t (by omega))))
      rw [h1,h2] at ei;exact ei.trans (eY (by simp))
  | true=>
  obtain ⟨c,e1,e2⟩:=hc h1 h2;cases hq:nxt p x d t with
  | none=>
    rw [hq] at e1 ei;refine ⟨-1,e1.trans (by cases c<;>rfl),ei.trans (eY (by decide)),fun h=>by omega⟩
  | some h=>
    rw [hq] at e1 e2;cases c with
    | false=>exact ⟨-1,e1,e2 rfl,fun h=>by omega⟩
    | true=>exact ⟨h,e1,e2 rfl,fun _=>rfl⟩
def calm (p:W0) (t:Int):Bool:=inR p.2.2.1 0 5&&(inR t 0 1000&&(((pcs (IntKind.i64.wrap (t-(IntKind.i64.wrap (2*p.2.2.1)))) (IntKind.i64.wrap (t+(IntKind.i64.wrap (2*p.2.2.1)))) 0 p.2.2.2).length:Int)==1))
theorem fsIsCalm {k:Nat} (p:W0) (t:Int) (hl:p.2.2.2.length<=549755813888) (hk:p.2.2.2.length+10<=k):FsIsCalm k p t=some (calm p t):=by
  obtain ⟨k,rfl⟩:=pred (d:=0) (show 1<=k by omega)
  have e:=(esIsCalm k p t).trans (bs (fsl1In _ _ _ (by omega)))
  unfold calm;cases h1:inR p.2.2.1 0 5 with
  | false=>rw [h1] at e;exact e
  | true=>
    rw [h1] at e;have e:=e.trans ((dY rfl).trans (bs (fsl1In _ _ _ (by omega))))
    cases h2:inR t 0 1000 with
    | false=>rw [h2] at e;exact e
    | true=>
      rw [h2] at e;exact e.trans ((dY rfl).trans (bs (fsPiecesIn p _ _ hl (by omega))))
theorem fiIsCalm {k:Nat} (p:W0) (t:Int) (hl:p.2.2.2.length<=549755813888) (hk:p.2.2.2.length+10<=k):FiIsCalm k p t=some (calm p t):=by
  obtain ⟨k,rfl⟩:=pred (d:=0) (show 1<=k by omega)
  have e:=(eiIsCalm k p t).trans (bs (fiisSkewed p t (by omega)))
  unfold calm;cases h1:inR p.2.2.1 0 5 with
  | false=>rw [h1] at e;exact e
  | true=>
    cases h2:inR t 0 1000 with
    | false=>rw [h1,h2] at e;exact e
    | true=>
      rw [h1,h2] at e;exact e.trans ((dY rfl).trans (bs (fiPiecesIn p _ _ hl (by omega))))
def lnk (a b:Int) (x:Int×Int):Bool:=(x.1==a&&x.2==b) || (x.1==b&&x.2==a)
def hasL (p:W0) (i a b:Int):Bool:=if isIdx i (p.2.2.2.length:Int)=true then match p.2.2.2[i.toNat]? with
 | some x=>x.2.1.any (lnk a b)
 | none=>false
 else false
theorem eq2 (x:Int×Int) (a b:Int):eqT sI2 x (a,b)=(x.1==a&&x.2==b):=by
 rfl
theorem fsHasLink {k N:Nat} (p:W0) (i a b:Int) (hr:rowsLe N m0 p) (hN:N<=549755813888) (hk:N+5<=k):FsHasLink k p i a b=some (hasL p i a b):=by
 obtain ⟨k,rfl⟩:=pred (d:=0) (show 1<=k by omega)
 obtain ⟨h1,h2⟩:=Z0 hr.2.2.2;have h1:p.2.2.2.length<=N:=h1;have es:=(esHasLink k p i a b).trans (bs (fsl1In _ _ _ (by omega)))
 rw [inR_last _ (by omega)] at es
 unfold hasL;by_cases hx:isIdx i (p.2.2.2.length:Int)=true
 · obtain ⟨x0,x1⟩:=isIdx_pos hx;have hg:p.2.2.2[i.toNat]? =some p.2.2.2[i.toNat]:=dZ x1
   have hl:(p.2.2.2[i.toNat]).2.1.length<=N:=(Z0 ((h2 _ (tZ x1)).2.1)).1;rw [dY hx,hg];refine es.trans ((eY (by rw [hx];decide)).trans ((dY x0).trans ((Y0 hg _).trans ?_)))
   dsimp only;generalize (p.2.2.2[i.toNat]).2.1=l at hl;refine row_i (L:=LsHasLink_0 k _ _ _ _) (a:=l) (fun _ l=>some (l.any (lnk a b))) (fun _ _=>rfl) (by omega) rfl (fun n i x r h0 ht hw hi hx ih=> ?_) (by omega)
   have hx':l[(i:Int).toNat]? =some x:=by rw [ht];exact hx
   show (if ((eqT sI2 x (a,b))==false)=true then _ else some true)=_
   rw [eq2,dY h0,Y0 hx',eq2,hw,ih,List.any_cons];unfold lnk;cases (x.1==a&&x.2==b)<;>cases hh:(x.1==b&&x.2==a)<;>simp
 · have hx':isIdx i (p.2.2.2.length:Int)=false:=by simpa using hx
   rw [eY hx];exact es.trans (dY (by rw [hx'];rfl))
theorem fiHasLink {k N:Nat} (p:W0) (i a b:Int) (hr:rowsLe N m0 p) (hN:N<=549755813888) (hk:N+8<=k):FiHasLink k p i a b=some (hasL p i a b):=by
 obtain ⟨k,rfl⟩:=pred (d:=0) (show 1<=k by omega)
 obtain ⟨h1,h2⟩:=Z0 hr.2.2.2;have h1:p.2.2.2.length<=N:=h1;have es:=(eiHasLink k p i a b).trans (bs (fiisIndex _ _ (by omega)))
 unfold hasL;by_cases hx:isIdx i (p.2.2.2.length:Int)=true
 · obtain ⟨x0,x1⟩:=isIdx_pos hx;have hg:p.2.2.2[i.toNat]? =some p.2.2.2[i.toNat]:=dZ x1
   have hl:(p.2.2.2[i.toNat]).2.1.length<=N:=(Z0 ((h2 _ (tZ x1)).2.1)).1;rw [dY hx,hg];refine es.trans ((dY (by rw [hx];rfl)).trans ((dY x0).trans ((Y0 hg _).trans ?_)))
   dsimp only;generalize (p.2.2.2[i.toNat]).2.1=l at hl;have hc:FgContainsFunc_Linkv_iHasLink_1 k l a b=some (l.any (lnk a b)):=by
    obtain ⟨k,rfl⟩:=pred (d:=0) (show 1<=k by omega)
    refine (egContainsFunc_Linkv_iHasLink_1 k l a b).trans ((bs (v:=findFrom (lnk a b) 0 l) ?_).trans (by rw [findFrom_any]))
    obtain ⟨k,rfl⟩:=pred (d:=0) (show 1<=k by omega)
    refine (egIndexFunc_Linkv_iHasLink_1 k l a b).trans (row_i (L:=LgIndexFunc_Linkv_iHasLink_1_0 k _ _ _) (a:=l) (fun i l=>some (findFrom (lnk a b) i l)) (fun _ _=>rfl) (by omega) rfl (fun n i x r h0 ht hw hi hx ih=> ?_) (by omega))
    obtain ⟨k,rfl⟩:=pred (d:=0) (show 1<=k by omega)
    have hv:FiHasLink_1v (k+1) x a b=some (lnk a b x):=by
     rw [eiHasLink_1v];unfold lnk;cases h1:(x.1==a)<;>cases h2:(x.2==b)<;>cases h3:(x.1==b)<;>cases h4:(x.2==a)<;>rfl
    refine (bs hv).trans ?_
    rw [hw,ih];show _=some (if lnk a b x=true then (i:Int) else findFrom (lnk a b) (i+1) r)
    by_cases h:lnk a b x=true
    · rw [dY h,dY h]
    · rw [eY h,eY h]
   exact (bs hc).trans rfl
 · have hx':isIdx i (p.2.2.2.length:Int)=false:=by simpa using hx
   rw [eY hx];exact es.trans (eY (by rw [hx'];decide))
def linkd (p:W0) (a b t:Int):Bool:=hasL p (pieceAt p t) a b
theorem fsIsLinked {k N:Nat} (p:W0) (a b t:Int) (hr:rowsLe N m0 p) (hN:N<=549755813888) (hk:N+12<=k):FsIsLinked k p a b t=some (linkd p a b t):=by
 obtain ⟨k,rfl⟩:=pred (d:=0) (show 1<=k by omega)
 have h1:p.2.2.2.length<=N:=(Z0 hr.2.2.2).1;exact (esIsLinked k p a b t).trans ((bs (fsPieceAt p t (by omega) (by omega))).trans (bs (fsHasLink p _ a b hr hN (by omega))))
theorem fiIsLinked {k N:Nat} (p:W0) (a b t:Int) (hr:rowsLe N m0 p) (hN:N<=549755813888) (hk:N+12<=k):FiIsLinked k p a b t=some (linkd p a b t):=by
 obtain ⟨k,rfl⟩:=pred (d:=0) (show 1<=k by omega)
 have h1:p.2.2.2.length<=N:=(Z0 hr.2.2.2).1;exact (eiIsLinked k p a b t).trans ((bs (fiPieceAt p t (by omega) (by omega))).trans (bs (fiHasLink p _ a b hr hN (by omega))))
/-- All moments from t on, m of them. -/
def allL (p:W0) (a b:Int):Nat->Int->Bool
 | 0,_=>true
 | m+1,t=>linkd p a b t&&allL p a b m (t+1)
theorem fMayUse {k j N:Nat} (p:W0) (a b t:Int) (hr:rowsLe N m0 p) (hN:N<=549755813888) (hk:N+40<=k) (hj:N+40<=j):∃c,FsMayUse j p a b t=some c/\FiMayUse k p a b t=some c:=by
  obtain ⟨k,rfl⟩:=pred (d:=0) (show 1<=k by omega)
  obtain ⟨j,rfl⟩:=pred (d:=0) (show 1<=j by omega)
  have es:=(esMayUse j p a b t).trans (bs (fsl1In _ _ _ (by omega)))
  have ei:=(eiMayUse k p a b t).trans (bs (fiisSkewed p t (by omega)))
  cases h1:inR p.2.2.1 0 5 with
  | false=>
    rw [h1] at es ei;exact ⟨false,es.trans (eY (by decide)),ei.trans (dY (by simp))⟩
  | true=>
  rw [h1] at es;have es:=es.trans ((dY rfl).trans (bs (fsl1In _ _ _ (by omega))))
  cases h2:inR t 0 1000 with
  | false=>
    rw [h2] at es;rw [h1,h2] at ei;exact ⟨false,es.trans (dY rfl),ei.trans (dY rfl)⟩
  | true=>
  rw [h2] at es;rw [h1,h2] at ei;have es:=es.trans (eY (by decide))
  have ei:=ei.trans (eY (by decide))
  obtain ⟨s0,s5⟩:=inR_bd h1;obtain ⟨t0,t1⟩:=inR_bd h2;have w1:IntKind.i64.wrap (t-p.2.2.1)=t-p.2.2.1:=wrapD (by omega) (by omega)
  have w2:IntKind.i64.wrap (t+p.2.2.1)=t+p.2.2.1:=wrapD (by omega) (by omega)
  rw [w1] at es ei;have ks:∀(m q:Nat) (u:Int),m<q->u+m=t+p.2.2.1+1->-10<=u->LsMayUse_0 j (fun (v0:Int) (p3:Bool)=>some false) (fun (v0:Int)=>some true) (a,b,t,p) q u=some (allL p a b m u):=by
    intro m;induction m with
    | zero=>
      intro q u hq hu h0;obtain ⟨q,rfl⟩:∃z,q=z+1:=⟨q-1,by omega⟩
      show (if (decide (u<=IntKind.i64.wrap (t+p.2.2.1)))=true then _ else _)=_
      rw [w2];exact eY (by rw [vZ (by omega)];decide)
    | succ m ih=>
      intro q u hq hu h0;obtain ⟨q,rfl⟩:∃z,q=z+1:=⟨q-1,by omega⟩
      show (if (decide (u<=IntKind.i64.wrap (t+p.2.2.1)))=true then _ else _)=_
      rw [w2];refine (dY (yZ (by omega))).trans ((bs (fsIsLinked p a b u hr hN (by omega))).trans ?_)
      show _=some (linkd p a b u&&allL p a b m (u+1))
      have hw:IntKind.i64.wrap (u+1)=u+1:=wrapD (by omega) (by omega)
      rw [hw,ih q (u+1) (by omega) (by omega) (by omega)]
      cases linkd p a b u<;>rfl
  have ki:∀(m q:Nat) (u:Int),m<q->u+m=t+p.2.2.1+1->-10<=u->LiMayUse_0 k (fun (v0:Int) (p2:Bool)=>some false) (fun (v0:Int)=>some true) (a,b,t,p) q u=some (allL p a b m u):=by
    intro m;induction m with
    | zero=>
      intro q u hq hu h0;obtain ⟨q,rfl⟩:∃z,q=z+1:=⟨q-1,by omega⟩
      show (if (decide (u<=IntKind.i64.wrap (t+p.2.2.1)))=true then _ else _)=_
      rw [w2];exact eY (by rw [vZ (by omega)];decide)
    | succ m ih=>
      intro q u hq hu h0;obtain ⟨q,rfl⟩:∃z,q=z+1:=⟨q-1,by omega⟩
      show (if (decide (u<=IntKind.i64.wrap (t+p.2.2.1)))=true then _ else _)=_
      rw [w2];refine (dY (yZ (by omega))).trans ((bs (fiIsLinked p a b u hr hN (by omega))).trans ?_)
      show _=some (linkd p a b u&&allL p a b m (u+1))
      have hw:IntKind.i64.wrap (u+1)=u+1:=wrapD (by omega) (by omega)
      rw [hw,ih q (u+1) (by omega) (by omega) (by omega)]
      cases linkd p a b u<;>rfl
  exact ⟨_,es.trans (ks (2*p.2.2.1+1).toNat j _ (by omega) (by omega) (by omega)),ei.trans (ki (2*p.2.2.1+1).toNat k _ (by omega) (by omega) (by omega))⟩
def cnt (a:Int):List Int->Nat
 | []=>0
 | x::r=>if x<a then cnt a r+1 else 0
theorem cnt_le (a:Int):∀(l:List Int),cnt a l<=l.length
  | []=>cY 0
  | x::r=>by
    have:=cnt_le a r
    unfold cnt;split
    · simpa using this
    · omega
def insU (x:Int) (l:List Int):List Int:=if l[cnt x l]? =some x then l else l.take (cnt x l)++[x]++l.drop (cnt x l)
def insR (x:Int):List Int->List Int
 | []=>[x]
 | y::r=>if y<x then y::insR x r else if y=x then y::r else x::y::r
theorem insU_eq (x:Int):∀(l:List Int),insU x l=insR x l
  | []=>rfl
  | y::r=>by
    have ih:=insU_eq x r;unfold insU at ih ⊢;unfold insR;by_cases h:y<x
    · have hc:cnt x (y::r)=cnt x r+1:=by rw [cnt,dY h]
      rw [hc,dY h,<-ih,List.getElem?_cons_succ]
      by_cases h2:r[cnt x r]? =some x
      · rw [dY h2,dY h2]
      · rw [eY h2,eY h2];simp
    · have hc:cnt x (y::r)=0:=by rw [cnt,eY h]
      rw [hc,eY h];by_cases h2:y=x
      · rw [dY (by simp [h2]),dY h2]
      · rw [eY (by simp [h2]),eY h2];simp
theorem insR_mem (x z:Int):∀(l:List Int),z ∈ insR x l↔z=x\/z ∈ l
  | []=>by simp [insR]
  | y::r=>by
    have ih:=insR_mem x z r;unfold insR;by_cases h:y<x
    · rw [dY h,zZ,ih,zZ];constructor
      · rintro (h | h | h)<;>simp [h]
      · rintro (h | h | h)<;>simp [h]
    · rw [eY h];by_cases h2:y=x
      · rw [dY h2,h2];simp
      · rw [eY h2];simp
theorem insR_sorted (x:Int):∀(l:List Int),l.Pairwise (· < ·)->(insR x l).Pairwise (· < ·)
  | [],_=>List.pairwise_singleton _ _
  | y::r,h=>by
    obtain ⟨h1,h2⟩:=List.pairwise_cons.1 h;unfold insR;by_cases hy:y<x
    · rw [dY hy];refine List.pairwise_cons.2 ⟨fun z hz=> ?_,insR_sorted x r h2⟩
      rcases (insR_mem x z r).1 hz with rfl | hz
      · exact hy
      · exact h1 z hz
    · rw [eY hy];by_cases hx:y=x
      · rw [dY hx];exact h
      · rw [eY hx];refine List.pairwise_cons.2 ⟨fun z hz=> ?_,h⟩
        rcases zZ.1 hz with rfl | hz
        · omega
        · have:=h1 z hz;omega
theorem insR_len (x:Int):∀(l:List Int),(insR x l).length<=l.length+1
  | []=>by simp [insR]
  | y::r=>by
    have:=insR_len x r
    unfold insR;split
    · simpa using this
    · split<;>simp
theorem inc_ext {l r:List Int} (hl:l.Pairwise (· < ·)) (hr:r.Pairwise (· < ·)) (h:∀x,x ∈ l↔x ∈ r):l=r:=by
 have nl:l.Nodup:=hl.imp fun h=>by omega
 have nr:r.Nodup:=hr.imp fun h=>by omega
 exact List.Perm.eq_of_pairwise (le:=(· < ·)) (fun a b _ _ h1 h2=>by omega) hl hr ((List.perm_ext_iff_of_nodup nl nr).2 h)
theorem compact_inc (zs:List Int) (hs:zs.Pairwise (· <= ·)):(compactB zs).Pairwise (· < ·)/\∀x,x ∈ compactB zs↔x ∈ zs:=by
  have hget:∀j (h:j<zs.length),zs.toArray[j]! =zs[j]:=fun j h=>by simp [h]
  have mono:∀i j,i<=j->j<zs.length->zs.toArray[i]! <=zs.toArray[j]! :=fun i j hij hj=>by
    rw [hget i (by omega),hget j hj]
    rcases Nat.lt_or_eq_of_le hij with h | h
    · exact List.pairwise_iff_getElem.1 hs i j (by omega) hj h
    · subst h;exact Int.le_refl _
  have key:∀m,m<=zs.length->(Lib.compactUpTo zs.toArray m).Pairwise (· < ·)/\∀x,x ∈ Lib.compactUpTo zs.toArray m↔∃j,j<m/\zs.toArray[j]! =x:=by
    intro m;induction m with
    | zero=>intro _;exact ⟨List.Pairwise.nil,fun x=>by simp [Lib.compactUpTo]⟩
    | succ m ih=>
      intro hm;obtain ⟨h1,h2⟩:=ih (by omega)
      rw [Lib.compactUpTo_succ];by_cases hk:Lib.keeps zs.toArray m=true
      · rw [dY hk];refine ⟨List.pairwise_append.2 ⟨h1,List.pairwise_singleton _ _,fun x hx y hy=> ?_⟩,fun x=> ?_⟩
        · obtain ⟨j,hj,rfl⟩:=(h2 x).1 hx;rw [kZ.1 hy];have hne:zs.toArray[m]! ≠zs.toArray[m-1]! :=by
            have hk':=hk;unfold Lib.keeps at hk';rcases of_decide_eq_true hk' with h | h
            · omega
            · exact h
          have a1:=mono j (m-1) (by omega) (by omega)
          have a2:=mono (m-1) m (by omega) (by omega)
          omega
        · rw [wZ,h2,kZ];constructor
          · rintro (⟨j,hj,h⟩ | h)
            · exact ⟨j,by omega,h⟩
            · exact ⟨m,by omega,h.symm⟩
          · rintro ⟨j,hj,h⟩
            by_cases e:j=m
            · subst e;exact .inr h.symm
            · exact .inl ⟨j,by omega,h⟩
      · rw [eY hk,List.append_nil];refine ⟨h1,fun x=> ?_⟩
        have hk':¬(m=0\/zs.toArray[m]! ≠zs.toArray[m-1]!):=fun h=>hk (by unfold Lib.keeps;exact yZ h)
        rw [h2];constructor
        · rintro ⟨j,hj,h⟩
          exact ⟨j,by omega,h⟩
        · rintro ⟨j,hj,h⟩
          by_cases e:j=m
          · subst e;refine ⟨j-1,by omega,?_⟩
            have:zs.toArray[j]! =zs.toArray[j-1]! :=Classical.byContradiction fun hn=>hk' (.inr hn)
            rw [<-this];exact h
          · exact ⟨j,by omega,h⟩
  obtain ⟨h1,h2⟩:=key zs.length (cY _);refine ⟨h1,fun x=>(h2 x).trans ?_⟩
  constructor
  · rintro ⟨j,hj,rfl⟩
    rw [hget j hj];exact tZ hj
  · intro hx;obtain ⟨j,hj,rfl⟩:=List.getElem_of_mem hx;exact ⟨j,hj,hget j hj⟩
theorem sorted_compact (zs:List Int):(compactB (sortB zs)).Pairwise (· < ·)/\∀x,x ∈ compactB (sortB zs)↔x ∈ zs:=by
 have hs:(sortB zs).Pairwise (· <= ·):=by
  have:=List.pairwise_mergeSort (le:=fun x y:Int=>decide (x<=y)) (fun a b c h1 h2=>by simp at*;omega) (fun a b=>by simp;omega) zs
  exact this.imp fun h=>by simpa using h
 obtain ⟨h1,h2⟩:=compact_inc (sortB zs) hs;exact ⟨h1,fun x=>(h2 x).trans (List.mergeSort_perm zs _).mem_iff⟩
def nbStep (a:Int) (out:List Int) (x:Int×Int):List Int:=if (x.1==a)=true then insR x.2 out else if (x.2==a)=true then insR x.1 out else out
def nb (g:List (Int×Int)) (a:Int):List Int:=g.foldl (nbStep a) []
def nbApp (a:Int) (out:List Int) (x:Int×Int):List Int:=if (x.1==a)=true then (if (x.2==a)=true then (out++[x.2])++[x.1] else out++[x.2]) else if (x.2==a)=true then out++[x.1] else out
def nbr (a:Int) (x:Int×Int) (y:Int):Prop:=(x.1=a/\y=x.2)\/(x.2=a/\y=x.1)
theorem nbStep_mem (a:Int) (x:Int×Int) (out:List Int) (y:Int):y ∈ nbStep a out x↔nbr a x y\/y ∈ out:=by
 unfold nbStep nbr;by_cases h1:x.1=a
 · rw [dY (by simp [h1]),insR_mem]
   constructor
   · rintro (h | h)
     · exact .inl (.inl ⟨h1,h⟩)
     · exact .inr h
   · rintro ((⟨_,h⟩ | ⟨h2,h⟩) | h)
     · exact .inl h
     · exact .inl (by omega)
     · exact .inr h
 · rw [eY (by simp [h1])]
   by_cases h2:x.2=a
   · rw [dY (by simp [h2]),insR_mem]
     constructor
     · rintro (h | h)
       · exact .inl (.inr ⟨h2,h⟩)
       · exact .inr h
     · rintro ((⟨h3,_⟩ | ⟨_,h⟩) | h)
       · exact absurd h3 h1
       · exact .inl h
       · exact .inr h
   · rw [eY (by simp [h2])]
     constructor
     · exact .inr
     · rintro ((⟨h3,_⟩ | ⟨h3,_⟩) | h)
       · exact absurd h3 h1
       · exact absurd h3 h2
       · exact h
theorem nbApp_mem (a:Int) (x:Int×Int) (out:List Int) (y:Int):y ∈ nbApp a out x↔nbr a x y\/y ∈ out:=by
 unfold nbApp nbr;by_cases h1:x.1=a
 · rw [dY (by simp [h1])]
   by_cases h2:x.2=a
   · rw [dY (by simp [h2])]
     simp only [wZ,kZ];constructor
     · rintro ((h | h) | h)
       · exact .inr h
       · exact .inl (.inl ⟨h1,h⟩)
       · exact .inl (.inr ⟨h2,h⟩)
     · rintro ((⟨_,h⟩ | ⟨_,h⟩) | h)
       · exact .inl (.inr h)
       · exact .inr h
       · exact .inl (.inl h)
   · rw [eY (by simp [h2])]
     simp only [wZ,kZ];constructor
     · rintro (h | h)
       · exact .inr h
       · exact .inl (.inl ⟨h1,h⟩)
     · rintro ((⟨_,h⟩ | ⟨h3,_⟩) | h)
       · exact .inr h
       · exact absurd h3 h2
       · exact .inl h
 · rw [eY (by simp [h1])]
   by_cases h2:x.2=a
   · rw [dY (by simp [h2])]
     simp only [wZ,kZ];constructor
     · rintro (h | h)
       · exact .inr h
       · exact .inl (.inr ⟨h2,h⟩)
     · rintro ((⟨h3,_⟩ | ⟨_,h⟩) | h)
       · exact absurd h3 h1
       · exact .inr h
       · exact .inl h
   · rw [eY (by simp [h2])]
     constructor
     · exact .inr
     · rintro ((⟨h3,_⟩ | ⟨h3,_⟩) | h)
       · exact absurd h3 h1
       · exact absurd h3 h2
       · exact h
theorem fold_mem {f:List Int->(Int×Int)->List Int} {a:Int} (hf:∀out x y,y ∈ f out x↔nbr a x y\/y ∈ out) (y:Int):∀(g:List (Int×Int)) (out:List Int),y ∈ g.foldl f out↔(∃x ∈ g,nbr a x y)\/y ∈ out
  | [],out=>by simp
  | x::g,out=>by
    rw [List.foldl_cons,fold_mem hf y g,hf];constructor
    · rintro (⟨z,hz,h⟩ | h | h)
      · exact .inl ⟨z,fZ _ hz,h⟩
      · exact .inl ⟨x,by simp,h⟩
      · exact .inr h
    · rintro (⟨z,hz,h⟩ | h)
      · rcases zZ.1 hz with rfl | hz
        · exact .inr (.inl h)
        · exact .inl ⟨z,hz,h⟩
      · exact .inr (.inr h)
theorem nbStep_inc (a:Int) (x:Int×Int) {out:List Int} (h:out.Pairwise (· < ·)):(nbStep a out x).Pairwise (· < ·):=by
 unfold nbStep;split
 · exact insR_sorted _ _ h
 · split
   · exact insR_sorted _ _ h
   · exact h
theorem nbStep_len (a:Int) (x:Int×Int) (out:List Int):(nbStep a out x).length<=out.length+1:=by
 unfold nbStep;split
 · exact insR_len _ _
 · split
   · exact insR_len _ _
   · omega
theorem fold_inc (a:Int):∀(g:List (Int×Int)) (out:List Int),out.Pairwise (· < ·)->(g.foldl (nbStep a) out).Pairwise (· < ·)/\(g.foldl (nbStep a) out).length<=out.length+g.length
  | [],out,h=>⟨h,by simp⟩
  | x::g,out,h=>by
    obtain ⟨h1,h2⟩:=fold_inc a g _ (nbStep_inc a x h)
    have:=nbStep_len a x out
    exact ⟨h1,by simp at h2 ⊢;omega⟩
theorem nb_inc (g:List (Int×Int)) (a:Int):(nb g a).Pairwise (· < ·):=(fold_inc a g [] List.Pairwise.nil).1
theorem nb_len (g:List (Int×Int)) (a:Int):(nb g a).length<=g.length:=by unfold nb;simpa using (fold_inc a g [] List.Pairwise.nil).2
theorem nb_eq (g:List (Int×Int)) (a:Int):compactB (sortB (g.foldl (nbApp a) []))=nb g a:=by
 obtain ⟨h1,h2⟩:=sorted_compact (g.foldl (nbApp a) []);refine inc_ext h1 (nb_inc g a) fun x=> ?_
 unfold nb;rw [h2,fold_mem (fun out x y=>nbApp_mem a x out y) x g [],fold_mem (fun out x y=>nbStep_mem a x out y) x g []]
theorem fiNeighborsIn {k:Nat} (g:List (Int×Int)) (a:Int) (hl:g.length<=549755813888) (hk:g.length+5<=k):FiNeighborsIn k g a=some (nb g a):=by
  obtain ⟨k,rfl⟩:=pred (d:=0) (show 1<=k by omega)
  have hout:∀(l:List (Int×Int)) (o:List Int),(l.foldl (nbApp a) o).length<=o.length+2*l.length:=by
    intro l;induction l with
    | nil=>intro o;simp
    | cons x l ih=>
      intro o;have h1:=ih (nbApp a o x);have h2:(nbApp a o x).length<=o.length+2:=by
        unfold nbApp;split
        · split<;>simp
        · split<;>simp
      simp only [List.foldl_cons,List.length_cons];omega
  have hfin:((FgSort_int k (g.foldl (nbApp a) [])).bind fun p1=>(FgCompact_int k p1).bind fun p2=>some p2)=some (nb g a):=by
    have:=hout g []
    obtain ⟨k,rfl⟩:=pred (d:=0) (show 1<=k by omega)
    rw [egSort_int,dY (by simp at this;omega),rZ,egCompact_int,rZ,nb_eq]
  refine (eiNeighborsIn k g a).trans ((row_inv0 (L:=LiNeighborsIn_0 k _ _) (a:=g) (fun (s:List Int) i=>(i,s)) (fun s i r=>(FgSort_int k (r.foldl (nbApp a) s)).bind fun p1=>(FgCompact_int k p1).bind fun p2=>some p2) (X:=fun s _=>(FgSort_int k s).bind fun p1=>(FgCompact_int k p1).bind fun p2=>some p2) (fun s i=>s.length<=2*i) (fun _ _ _=>rfl) (by omega) (fun s _=>rfl) (fun n i s x r hI h0 ht hw hi hx ih=> ?_) (by omega) [] (by simp)).trans hfin)
  dsimp only;rw [hw,List.foldl_cons];unfold nbApp;by_cases h1:(x.1==a)=true
  · rw [dY h1,dY (by simp;omega),dY h1]
    by_cases h2:(x.2==a)=true
    · rw [dY h2,dY (by simp;omega),dY h2]
      exact ih _ (by simp;omega)
    · rw [eY h2,eY h2];exact ih _ (by simp;omega)
  · rw [eY h1,eY h1];by_cases h2:(x.2==a)=true
    · rw [dY h2,dY (by simp;omega),dY h2]
      exact ih _ (by simp;omega)
    · rw [eY h2,eY h2];exact ih _ (by omega)
def insT {R:Type} (K:List Int->Option R) (out:List Int) (c x:Int):Option R:=if 0<=c then if c<=(out.length:Int) then if (0+((out.take c.toNat).drop ((0:Int).toNat)).length)*8<=140737488355328 then if (((out.take c.toNat).drop ((0:Int).toNat)).length+([x]).length)*8<=140737488355328 then if 0<=c then if c<=(out.length:Int) then if (out.length:Int)<=(out.length:Int) then if ((((out.take c.toNat).drop ((0:Int).toNat))++[x]).length+((out.take ((out.length:Int).toNat)).drop c.toNat).length)*8<=140737488355328 then K ((((out.take c.toNat).drop ((0:Int).toNat))++[x])++((out.take ((out.length:Int).toNat)).drop c.toNat)) else none else none else none else none else none else none else none else none
theorem insT_eq {R:Type} (K:List Int->Option R) (out:List Int) (c:Nat) (x:Int) (hc:c<=out.length) (hl:out.length<=1099511627776):insT K out (c:Int) x=K (out.take c++[x]++out.drop c):=by
 have e1:((out.take (c:Int).toNat).drop ((0:Int).toNat))=out.take c:=by simp
 have e2:((out.take ((out.length:Int).toNat)).drop (c:Int).toNat)=out.drop c:=by simp
 have t1:(out.take c).length<=out.length:=by simp;omega
 have t2:(out.drop c).length<=out.length:=by simp
 have t3:([x]:List Int).length=1:=rfl;have t4:(out.take c++[x]).length<=out.length+1:=by simp;omega
 unfold insT;rw [e1,e2,dY (by omega),dY (by omega),dY (by omega),dY (by omega),dY (by omega),dY (by omega),dY (Int.le_refl _),dY (by omega)]
def chkT {R:Type} (K:List Int->Option R) (out:List Int) (c x:Int):Option R:=if ((c==(out.length:Int))==false)=true then if 0<=c then if c<(out.length:Int) then ix out c.toNat fun x4=>if (x4 !=x)=true then insT K out c x else K out else none else none else insT K out c x
theorem chkT_eq {R:Type} (K:List Int->Option R) (out:List Int) (x:Int) (hl:out.length<=1099511627776):chkT K out ((cnt x out:Nat):Int) x=K (insR x out):=by
 have hc:=cnt_le x out;rw [<-insU_eq];unfold chkT insU;by_cases h:cnt x out=out.length
 · have c1:¬(((((cnt x out:Nat):Int))==(out.length:Int))==false)=true:=by rw [h];simp
   rw [eY c1,insT_eq K out _ x hc hl,eY (by rw [h];simp)]
 · have c1:(((((cnt x out:Nat):Int))==(out.length:Int))==false)=true:=by
    have:(((cnt x out:Nat):Int)==(out.length:Int))=false:=by simp;omega
    rw [this];rfl
   have hlt:cnt x out<out.length:=by omega
   have hg:out[cnt x out]? =some out[cnt x out]:=dZ hlt
   rw [dY c1,dY (by omega),dY (by omega),Y0 (n:=(((cnt x out:Nat):Int)).toNat) (x:=out[cnt x out]) (by simp [hg]),hg]
   by_cases he:out[cnt x out]=x
   · rw [eY (by simp [he]),dY (by rw [he])]
   · rw [dY (by simp [he]),insT_eq K out _ x hc hl,eY (by simp [he])]
theorem nbLoop {R:Type} {k:Nat} (X0:VsNeighborsIn_1->Int->Option R) (X1:VsNeighborsIn_1->Option R) (c:CsNeighborsIn_1) (hX:∀v x,X0 v x=X1 v) (hl:c.2.2.2.2.length<=549755813888) (hk:c.2.2.2.2.length<k):LsNeighborsIn_1 k X0 X1 c k 0=X1 ((cnt c.2.2.2.1 c.2.2.2.2:Nat):Int):=by
 refine (row_i (L:=LsNeighborsIn_1 k X0 X1 c) (X:=X1) (a:=c.2.2.2.2) (body:=fun n i x=>if (decide (x<c.2.2.2.1))=true then LsNeighborsIn_1 k X0 X1 c n (IntKind.i64.wrap (i+1)) else X0 i x) (fun i l=>X1 ((i+cnt c.2.2.2.1 l:Nat):Int)) (fun n i=> ?_) (by omega) rfl (fun n i x r h0 ht hw hi hx ih=> ?_) hk).trans (by simp)
 · show (if ((decide (i<(c.2.2.2.2.length:Int)))==true)=true then _ else _)=_
   rw [beq_true];exact own_if _ _ _ _
 · show (if (decide (x<c.2.2.2.1))=true then _ else _)=_
   unfold cnt;by_cases h:x<c.2.2.2.1
   · rw [dY (yZ h),dY h,hw,ih]
     congr 2;omega
   · rw [eY (by rw [vZ h];decide),eY h]
     exact hX _ _
theorem fsNeighborsIn {k:Nat} (g:List (Int×Int)) (a:Int) (hl:g.length<=549755813888) (hk:g.length+5<=k):FsNeighborsIn k g a=some (nb g a):=by
 obtain ⟨k,rfl⟩:=pred (d:=0) (show 1<=k by omega)
 refine (esNeighborsIn k g a).trans ((row_inv0 (L:=LsNeighborsIn_0 k _ _) (a:=g) (fun (s:List Int) i=>(i,s)) (fun s i r=>some (r.foldl (nbStep a) s)) (X:=fun s _=>some s) (fun s i=>s.length<=i) (fun _ _ _=>rfl) (by omega) (fun s _=>rfl) (fun n i s x r hI h0 ht hw hi hx ih=> ?_) (by omega) [] (by simp)).trans rfl)
 have hx':g[(i:Int).toNat]? =some x:=by rw [ht];exact hx
 dsimp only;rw [List.foldl_cons];by_cases h1:(x.1==a)=true
 · have hst:nbStep a s x=insR x.2 s:=by unfold nbStep;rw [dY h1]
   have hlen:=nbStep_len a x s;rw [dY h1,dY h0,Y0 hx'];refine (nbLoop _ _ _ (by intros;rfl) (by show s.length<=_;omega) (by show s.length<_;omega)).trans ?_
   refine (chkT_eq (fun o=>LsNeighborsIn_0 k (fun v0=>some v0.2) (g,a) n (IntKind.i64.wrap ((i:Int)+1),o)) s x.2 (by omega)).trans ?_
   rw [hw,<-hst];exact ih _ (by omega)
 · rw [eY h1,dY h0,Y0 hx'];by_cases h2:(x.2==a)=true
   · have hst:nbStep a s x=insR x.1 s:=by unfold nbStep;rw [eY h1,dY h2]
     have hlen:=nbStep_len a x s;rw [dY h2,dY h0,Y0 hx'];refine (nbLoop _ _ _ (by intros;rfl) (by show s.length<=_;omega) (by show s.length<_;omega)).trans ?_
     refine (chkT_eq (fun o=>LsNeighborsIn_0 k (fun v0=>some v0.2) (g,a) n (IntKind.i64.wrap ((i:Int)+1),o)) s x.1 (by omega)).trans ?_
     rw [hw,<-hst];exact ih _ (by omega)
   · have hst:nbStep a s x=s:=by unfold nbStep;rw [eY h1,eY h2]
     rw [eY h2,hw,hst];exact ih _ (by omega)
def okA (T:TT) (S me x:Int):Bool:=(!(x==(T.2.2[me.toNat]?).getD 0))&&((decide (x<S) || x==T.1)&&(isIdx x (T.2.1.length:Int)&&(decide (key T.2.1 x>=0)&&decide (key T.2.1 x<key T.2.1 me))))
theorem okA_good {T:TT} {S me x:Int} (h:okA T S me x=true):good T.2.1 x:=by
 unfold okA at h;simp only [sZ] at h;exact isIdx_pos h.2.2.1
def cntK (ds:List Int) (a:Int):List Int->Nat
 | []=>0
 | x::r=>if key ds x<=key ds a then cntK ds a r+1 else 0
theorem cntK_le (ds:List Int) (a:Int):∀(l:List Int),cntK ds a l<=l.length
  | []=>cY 0
  | x::r=>by
    have:=cntK_le ds a r
    unfold cntK;split
    · simpa using this
    · omega
def insK (ds:List Int) (x:Int) (l:List Int):List Int:=l.take (cntK ds x l)++[x]++l.drop (cntK ds x l)
theorem insK_perm (ds:List Int) (x:Int) (l:List Int):(insK ds x l).Perm (l++[x]):=by
 have h:=List.take_append_drop (cntK ds x l) l;unfold insK;refine List.Perm.trans (l₂:=x::l) ?_ (List.perm_append_singleton x l).symm
 rw [List.append_assoc];refine (List.perm_middle (a:=x) (l₁:=l.take (cntK ds x l)) (l₂:=l.drop (cntK ds x l))).trans ?_
 rw [h]
theorem insK_sorted (ds:List Int) (x:Int):∀(l:List Int),l.Pairwise (ltx ds)->(∀y ∈ l,y<x)->(insK ds x l).Pairwise (ltx ds)
  | [],_,_=>List.pairwise_singleton _ _
  | y::r,h,hlt=>by
    obtain ⟨h1,h2⟩:=List.pairwise_cons.1 h;have ih:=insK_sorted ds x r h2 (fun z hz=>hlt z (by simp [hz]))
    have hyx:=hlt y (by simp)
    unfold insK at ih ⊢;unfold cntK;by_cases hk:key ds y<=key ds x
    · rw [dY hk];simp only [List.take_succ_cons,List.drop_succ_cons,List.cons_append];refine List.pairwise_cons.2 ⟨fun z hz=> ?_,ih⟩
      have hz':=(insK_perm ds x r).mem_iff.1 hz;rcases wZ.1 hz' with hz' | hz'
      · exact h1 z hz'
      · rw [kZ.1 hz'];unfold ltx;omega
    · rw [eY hk];simp only [List.take_zero,List.drop_zero,List.nil_append,List.singleton_append];have hxy:ltx ds x y:= .inl (by omega)
      refine List.pairwise_cons.2 ⟨fun z hz=> ?_,h⟩
      rcases zZ.1 hz with rfl | hz
      · exact hxy
      · exact ltx_trans hxy (h1 z hz)
def altStep (T:TT) (S me:Int) (out:List Int) (x:Int):List Int:=if okA T S me x=true then insK T.2.1 x out else out
theorem alt_fold (T:TT) (S me:Int):∀(r D out:List Int),(D++r).Pairwise (· < ·)->out.Perm (D.filter (okA T S me))->out.Pairwise (ltx T.2.1)->(r.foldl (altStep T S me) out).Perm ((D++r).filter (okA T S me))/\(r.foldl (altStep T S me) out).Pairwise (ltx T.2.1)
  | [],D,out,_,h1,h2=>⟨by simpa using h1,h2⟩
  | x::r,D,out,h,h1,h2=>by
    have hx:∀y ∈ D,y<x:=fun y hy=>(List.pairwise_append.1 h).2.2 y hy x (by simp)
    have e:D++x::r=(D++[x])++r:=by simp
    rw [List.foldl_cons,e];refine alt_fold T S me r (D++[x]) _ (by rw [<-e];exact h) ?_ ?_
    · unfold altStep;rw [List.filter_append];by_cases ho:okA T S me x=true
      · rw [dY ho];refine (insK_perm _ x out).trans ?_
        have:[x].filter (okA T S me)=[x]:=by simp [ho]
        rw [this];exact h1.append_right _
      · rw [eY ho]
        have:[x].filter (okA T S me)=[]:=by simp [ho]
        rw [this,List.append_nil];exact h1
    · unfold altStep;split
      · exact insK_sorted _ x out h2 fun y hy=>hx y (List.mem_filter.1 (h1.mem_iff.1 hy)).1
      · exact h2
theorem altLoop {R:Type} {k:Nat} (X0:VsAltsOf_1->Int->Int->Int->Option R) (X1:VsAltsOf_1->Option R) (c:CsAltsOf_1) (hX:∀v x y z,X0 v x y z=X1 v) (hl:c.2.2.2.2.2.1.length<=549755813888) (hk:c.2.2.2.2.2.1.length<k) (hg:∀y ∈ c.2.2.2.2.2.1,good c.2.2.2.2.1.2.1 y) (hx:good c.2.2.2.2.1.2.1 c.2.2.2.1):LsAltsOf_1 k X0 X1 c k 0=X1 ((cntK c.2.2.2.2.1.2.1 c.2.2.2.1 c.2.2.2.2.2.1:Nat):Int):=by
 refine (row_i (L:=LsAltsOf_1 k X0 X1 c) (X:=X1) (a:=c.2.2.2.2.2.1) (body:=fun n i x=>if 0<=x then ix c.2.2.2.2.1.2.1 x.toNat fun x11=>if 0<=c.2.2.2.1 then ix c.2.2.2.2.1.2.1 c.2.2.2.1.toNat fun x12=>if (decide (x11<=x12))=true then LsAltsOf_1 k X0 X1 c n (IntKind.i64.wrap (i+1)) else X0 i x x11 x12 else none else none) (fun i l=>X1 ((i+cntK c.2.2.2.2.1.2.1 c.2.2.2.1 l:Nat):Int)) (fun n i=> ?_) (by omega) rfl (fun n i x r h0 ht hw hi hx' ih=> ?_) hk).trans (by simp)
 · show (if ((decide (i<(c.2.2.2.2.2.1.length:Int)))==true)=true then _ else _)=_
   rw [beq_true];exact own_if _ _ _ _
 · have gx:=hg x (iZ hx');have e1:c.2.2.2.2.1.2.1[x.toNat]? =some (key c.2.2.2.2.1.2.1 x):=by unfold key;rw [dZ gx.2];rfl
   have e2:c.2.2.2.2.1.2.1[c.2.2.2.1.toNat]? =some (key c.2.2.2.2.1.2.1 c.2.2.2.1):=by unfold key;rw [dZ hx.2];rfl
   rw [dY gx.1,Y0 e1,dY hx.1,Y0 e2];unfold cntK;by_cases h:key c.2.2.2.2.1.2.1 x<=key c.2.2.2.2.1.2.1 c.2.2.2.1
   · rw [dY (yZ h),dY h,hw,ih]
     congr 2;omega
   · rw [eY (by rw [vZ h];decide),eY h]
     exact hX _ _ _ _
theorem fAltsOf {k j N:Nat} (T:TT) (g:List (Int×Int)) (S me:Int) (hg:g.length<=N) (h1:T.2.1.length<=N) (h2:T.2.2.length<=N) (hN:N<=549755813888) (hk:2*N+100<=k) (hj:2*N+100<=j):
    ∃q:List Int,q.length<=N/\FsAltsOf j T g S me=some q/\FiAltsOf k T g S me=some q:=by
  obtain ⟨k,rfl⟩:=pred (d:=0) (show 1<=k by omega)
  obtain ⟨j,rfl⟩:=pred (d:=0) (show 1<=j by omega)
  have es:=(esAltsOf j T g S me).trans (bs (fsl1In _ _ _ (by omega)))
  have ei:=(eiAltsOf k T g S me).trans (bs (fiisIndex _ _ (by omega)))
  rw [inR_last _ (by omega)] at es
  cases hA:isIdx me (T.2.1.length:Int) with
  | false=>
    rw [hA] at es ei;exact ⟨[],by simp,es.trans (eY (by decide)),ei.trans (eY (by decide))⟩
  | true=>
  rw [hA] at es ei;have es:=es.trans ((dY rfl).trans (bs (fsl1In _ _ _ (by omega))))
  have ei:=ei.trans ((dY rfl).trans (bs (fiisIndex _ _ (by omega))))
  rw [inR_last _ (by omega)] at es
  cases hB:isIdx me (T.2.2.length:Int) with
  | false=>
    rw [hB] at es ei;exact ⟨[],by simp,es.trans (dY rfl),ei.trans (dY rfl)⟩
  | true=>
  rw [hB] at es ei;obtain ⟨a0,a1⟩:=isIdx_pos hA;obtain ⟨b0,b1⟩:=isIdx_pos hB;have es:=es.trans ((eY (by decide)).trans (bs (fsNeighborsIn g me (by omega) (by omega))))
  have ei:=ei.trans ((eY (by decide)).trans (bs (fiNeighborsIn g me (by omega) (by omega))))
  have hinc:=nb_inc g me;have hlen:=nb_len g me;generalize nb g me=ns at es ei hinc hlen;have eme:T.2.1[me.toNat]? =some (key T.2.1 me):=by unfold key;rw [dZ a1];rfl
  have enx:T.2.2[me.toNat]? =some ((T.2.2[me.toNat]?).getD 0):=by rw [dZ b1];rfl
  have ekey:∀x,isIdx x (T.2.1.length:Int)=true->0<=x/\T.2.1[x.toNat]? =some (key T.2.1 x):=fun x hx=>by
    obtain ⟨x0,x1⟩:=isIdx_pos hx;exact ⟨x0,by unfold key;rw [dZ x1];rfl⟩
  -- the spec's side
  have hs:LsAltsOf_0 j (fun v0=>some v0.2) (S,me,T,ns) j (0,[])=some (ns.foldl (altStep T S me) []):=by
    refine (row_inv0 (L:=LsAltsOf_0 j (fun v0=>some v0.2) (S,me,T,ns)) (a:=ns) (fun (s:List Int) i=>(i,s)) (fun s i r=>some (r.foldl (altStep T S me) s)) (X:=fun s _=>some s) (fun s i=>s.length<=i/\∀y ∈ s,good T.2.1 y) (fun _ _ _=>own_if _ _ _ _) (by omega) (fun s _=>rfl) (fun n i s x r hI h0 ht hw hi hx ih=> ?_) (by omega) [] (by simp))
    obtain ⟨hI1,hI2⟩:=hI;dsimp only;rw [List.foldl_cons,dY b0,Y0 enx];have skip:okA T S me x=false->some (r.foldl (altStep T S me) s)=some (r.foldl (altStep T S me) (altStep T S me s x)):=fun h=>by
      unfold altStep;rw [eY (by rw [h];decide)]
    have rest:okA T S me x=(isIdx x (T.2.1.length:Int)&&(decide (key T.2.1 x>=0)&&decide (key T.2.1 x<key T.2.1 me)))->∀G:Option (List Int),G=((Fsl1In j x 0 (IntKind.i64.wrap ((T.2.1.length:Int)-1))).bind fun p6=>if ((!p6)==false)=true then if 0<=x then ix T.2.1 x.toNat fun x7=>if ((decide (x7<0))==false)=true then if 0<=x then ix T.2.1 x.toNat fun x8=>if 0<=me then ix T.2.1 me.toNat fun x9=>if (decide (x8>=x9))=true then LsAltsOf_0 j (fun v0=>some v0.2) (S,me,T,ns) n ((IntKind.i64.wrap ((i:Int)+1)),s) else LsAltsOf_1 j (fun (v1:Int) (x10:Int) (x11:Int) (x12:Int)=>insT (fun o=>LsAltsOf_0 j (fun v0=>some v0.2) (S,me,T,ns) n ((IntKind.i64.wrap ((i:Int)+1)),o)) s v1 x) (fun (v1:Int)=>insT (fun o=>LsAltsOf_0 j (fun v0=>some v0.2) (S,me,T,ns) n ((IntKind.i64.wrap ((i:Int)+1)),o)) s v1 x) (S,me,(i:Int),x,T,s,ns) j 0 else none else none else LsAltsOf_0 j (fun v0=>some v0.2) (S,me,T,ns) n ((IntKind.i64.wrap ((i:Int)+1)),s) else none else LsAltsOf_0 j (fun v0=>some v0.2) (S,me,T,ns) n ((IntKind.i64.wrap ((i:Int)+1)),s))->G=some (r.foldl (altStep T S me) (altStep T S me s x)):=by
      intro hok G hG;rw [hG,fsl1In _ _ _ (by omega),inR_last _ (by omega),rZ,hw]
      have hsame:=ih s ⟨by omega,hI2⟩
      cases hx1:isIdx x (T.2.1.length:Int) with
      | false=>
        rw [hx1] at hok;rw [eY (by decide),hsame]
        exact skip hok
      | true=>
        obtain ⟨x0,ex⟩:=ekey x hx1;rw [hx1] at hok;rw [dY (show ((!true)==false)=true from rfl),dY x0,Y0 ex]
        by_cases hx2:key T.2.1 x<0
        · rw [eY (by rw [yZ hx2];decide),hsame]
          refine skip (hok.trans ?_)
          rw [vZ (show ¬key T.2.1 x>=0 by omega)];rfl
        · rw [dY (by rw [vZ hx2];rfl),dY x0,Y0 ex,dY a0,Y0 eme]
          rw [yZ (show key T.2.1 x>=0 by omega)] at hok
          by_cases hx3:key T.2.1 x>=key T.2.1 me
          · rw [dY (yZ hx3),hsame];refine skip (hok.trans ?_)
            rw [vZ (show ¬key T.2.1 x<key T.2.1 me by omega)];rfl
          · rw [yZ (show key T.2.1 x<key T.2.1 me by omega)] at hok
            have hgx:good T.2.1 x:=okA_good (hok.trans rfl);rw [eY (by rw [vZ hx3];decide)]
            have hc:=cntK_le T.2.1 x s;refine (altLoop _ _ (S,me,(i:Int),x,T,s,ns) (by intros;rfl) (by show s.length<=_;omega) (by show s.length<_;omega) hI2 hgx).trans ?_
            refine (insT_eq (fun o=>LsAltsOf_0 j (fun v0=>some v0.2) (S,me,T,ns) n (((i+1:Nat):Int),o)) s _ x hc (by omega)).trans ?_
            have hst:altStep T S me s x=insK T.2.1 x s:=by unfold altStep;rw [dY (show okA T S me x=true from hok.trans rfl)]
            rw [hst];exact ih (insK T.2.1 x s) ⟨by rw [(insK_perm T.2.1 x s).length_eq];simp;omega,fun y hy=>by
              rcases wZ.1 ((insK_perm T.2.1 x s).mem_iff.1 hy) with hy | hy
              · exact hI2 y hy
              · rw [kZ.1 hy];exact hgx⟩
    by_cases c1:(x==(T.2.2[me.toNat]?).getD 0)=true
    · rw [eY (by rw [c1];decide),hw,ih s ⟨by omega,hI2⟩]
      refine skip ?_
      unfold okA;rw [c1];rfl
    · have c1':(x==(T.2.2[me.toNat]?).getD 0)=false:=by simpa using c1
      rw [dY (by rw [c1'];rfl)]
      by_cases c2:x>=S
      · rw [dY (by rw [yZ c2];rfl)]
        by_cases c3:(x==T.1)=true
        · have c3':(x !=T.1)=false:=by rw [bne,c3];rfl
          rw [dY (by rw [c3'];rfl)]
          exact rest (by unfold okA;rw [c1',c3];simp) _ rfl
        · have c3':(x !=T.1)=true:=by rw [bne];simp at c3 ⊢;exact c3
          rw [eY (by rw [c3'];decide),hw,ih s ⟨by omega,hI2⟩]
          refine skip ?_
          unfold okA
          have:(x==T.1)=false:=by simpa using c3
          rw [this,vZ (show ¬x<S by omega)];simp
      · rw [eY (by rw [vZ c2];decide)]
        exact rest (by unfold okA;rw [c1',yZ (show x<S by omega)];simp) _ rfl
  -- the program's side
  have hi:LiAltsOf_0 k (fun v0=>(V0 k v0.2 T.1 T.2.1 T.2.2).bind fun p4=>some p4) (S,me,(ns.length:Int),T,ns) k (0,[])=(V0 k (ns.filter (okA T S me)) T.1 T.2.1 T.2.2).bind fun p4=>some p4:=by
    refine (row_inv0 (L:=LiAltsOf_0 k (fun v0=>(V0 k v0.2 T.1 T.2.1 T.2.2).bind fun p4=>some p4) (S,me,(ns.length:Int),T,ns)) (a:=ns) (fun (s:List Int) i=>(i,s)) (fun s i r=>(V0 k (s++r.filter (okA T S me)) T.1 T.2.1 T.2.2).bind fun p4=>some p4) (X:=fun s _=>(V0 k s T.1 T.2.1 T.2.2).bind fun p4=>some p4) (fun s i=>s.length<=i) (fun _ _ _=>own_if _ _ _ _) (by omega) (fun s _=>by simp) (fun n i s x r hI h0 ht hw hi hx ih=> ?_) (by omega) [] (by simp)).trans (by rw [List.nil_append])
    dsimp only;rw [dY b0,Y0 enx,hw];have hsame:=ih s (by omega)
    have skip:okA T S me x=false->(V0 k (s++r.filter (okA T S me)) T.1 T.2.1 T.2.2).bind (fun p4=>some p4)=(V0 k (s++(x::r).filter (okA T S me)) T.1 T.2.1 T.2.2).bind fun p4=>some p4:=fun h=>by
      rw [List.filter_cons,eY (by rw [h];decide)]
    have rest:okA T S me x=(isIdx x (T.2.1.length:Int)&&(decide (key T.2.1 x>=0)&&decide (key T.2.1 x<key T.2.1 me)))->∀G:Option (List Int),G=((FiisIndex k x (T.2.1.length:Int)).bind fun p6=>if (p6==true)=true then if 0<=x then ix T.2.1 x.toNat fun x7=>if ((decide (x7>=0))==true)=true then if 0<=x then ix T.2.1 x.toNat fun x8=>if 0<=me then ix T.2.1 me.toNat fun x9=>if (decide (x8<x9))=true then if (s.length+([x]).length)*8<=140737488355328 then LiAltsOf_0 k (fun v0=>(V0 k v0.2 T.1 T.2.1 T.2.2).bind fun p4=>some p4) (S,me,(ns.length:Int),T,ns) n (((i+1:Nat):Int),(s++[x])) else none else LiAltsOf_0 k (fun v0=>(V0 k v0.2 T.1 T.2.1 T.2.2).bind fun p4=>some p4) (S,me,(ns.length:Int),T,ns) n (((i+1:Nat):Int),s) else none else none else LiAltsOf_0 k (fun v0=>(V0 k v0.2 T.1 T.2.1 T.2.2).bind fun p4=>some p4) (S,me,(ns.length:Int),T,ns) n (((i+1:Nat):Int),s) else none else LiAltsOf_0 k (fun v0=>(V0 k v0.2 T.1 T.2.1 T.2.2).bind fun p4=>some p4) (S,me,(ns.length:Int),T,ns) n (((i+1:Nat):Int),s))->G=(V0 k (s++(x::r).filter (okA T S me)) T.1 T.2.1 T.2.2).bind fun p4=>some p4:=by
      intro hok G hG;rw [hG,fiisIndex _ _ (by omega),rZ]
      cases hx1:isIdx x (T.2.1.length:Int) with
      | false=>
        rw [hx1] at hok;rw [eY (by decide),hsame]
        exact skip hok
      | true=>
        obtain ⟨x0,ex⟩:=ekey x hx1;rw [hx1] at hok;rw [dY (show (true==true)=true from rfl),dY x0,Y0 ex]
        by_cases hx2:key T.2.1 x>=0
        · rw [dY (by rw [yZ hx2];rfl),dY x0,Y0 ex,dY a0,Y0 eme]
          rw [yZ hx2] at hok;by_cases hx3:key T.2.1 x<key T.2.1 me
          · rw [yZ hx3] at hok;rw [dY (yZ hx3),dY (by simp;omega),ih _ (by simp;omega),List.filter_cons,dY (show okA T S me x=true from hok.trans rfl)]
            simp
          · rw [vZ hx3] at hok;rw [eY (by rw [vZ hx3];decide),hsame]
            exact skip (hok.trans rfl)
        · rw [vZ hx2] at hok;rw [eY (by rw [vZ hx2];decide),hsame]
          exact skip (hok.trans rfl)
    by_cases c1:(x==(T.2.2[me.toNat]?).getD 0)=true
    · have c1':(x !=(T.2.2[me.toNat]?).getD 0)=false:=by rw [bne,c1];rfl
      rw [eY (by rw [c1'];decide),hsame]
      refine skip ?_
      unfold okA;rw [c1];rfl
    · have c0:(x==(T.2.2[me.toNat]?).getD 0)=false:=by simpa using c1
      have c1':(x !=(T.2.2[me.toNat]?).getD 0)=true:=by rw [bne,c0];rfl
      rw [dY (by rw [c1'];rfl)]
      by_cases c2:x<S
      · rw [eY (by rw [yZ c2];decide)]
        exact rest (by unfold okA;rw [c0,yZ c2];simp) _ rfl
      · rw [dY (by rw [vZ c2];rfl)]
        by_cases c3:(x==T.1)=true
        · rw [dY (by rw [c3];rfl)]
          exact rest (by unfold okA;rw [c0,c3];simp) _ rfl
        · have c3':(x==T.1)=false:=by simpa using c3
          rw [eY (by rw [c3'];decide),hsame]
          refine skip ?_
          unfold okA;rw [c3',vZ c2];simp
  obtain ⟨p1,p2⟩:=alt_fold T S me ns [] [] (by simpa using hinc) List.Perm.nil List.Pairwise.nil
  rw [List.nil_append] at p1;have hfl:(ns.filter (okA T S me)).length<=ns.length:=List.length_filter_le _ _;obtain ⟨Q,q1,q2,q3⟩:=fgStable (k:=k) (z:=T.1) (ds:=T.2.1) (nx:=T.2.2) (ns.filter (okA T S me)) (by omega) (by omega) (fun y hy=>okA_good (List.mem_filter.1 hy).2) (hinc.filter _)
  have hQ:Q=ns.foldl (altStep T S me) []:=List.Perm.eq_of_pairwise (le:=ltx T.2.1) (fun a b _ _ h1 h2=>by unfold ltx at h1 h2;omega) q2 p2 (q1.trans p1.symm)
  subst hQ;refine ⟨_,?_,es.trans hs,ei.trans (hi.trans (by rw [q3];rfl))⟩
  rw [q1.length_eq];omega
theorem fgContains_int {k:Nat} (l:List Int) (x:Int) (hl:l.length<=549755813888) (hk:l.length+3<=k):FgContains_int k l x=some (l.any fun y=>y==x):=by
 obtain ⟨k,rfl⟩:=pred (d:=1) (show 2<=k by omega)
 refine (egContains_int k l x).trans ((bs (v:=findFrom (fun y=>y==x) 0 l) ?_).trans (by rw [findFrom_any]))
 obtain ⟨k,rfl⟩:=pred (d:=0) (show 1<=k by omega)
 refine (egIndex_int k l x).trans (row_i (L:=LgIndex_int_0 k _ _ _) (a:=l) (fun i l=>some (findFrom (fun y=>y==x) i l)) (fun _ _=>rfl) (by omega) rfl (fun n i y r h0 ht hw hi hx ih=> ?_) (by omega))
 show (if (x==y)=true then some (i:Int) else _)=some (if (y==x)=true then (i:Int) else findFrom (fun y=>y==x) (i+1) r)
 rw [hw,ih,show (x==y)=(y==x) by rw [Bool.eq_iff_iff,beq_iff_eq,beq_iff_eq];exact eq_comm]
 by_cases h:(y==x)=true
 · rw [dY h,dY h]
 · rw [eY h,eY h]
def firstOk (dead:List Int):List Int->Int
 | []=> -1
 | x::r=>if (!(dead.any fun y=>y==x))=true then x else firstOk dead r
theorem lsFirst {k:Nat} (dead l:List Int) (hl:l.length<=549755813888) (hd:dead.length<=549755813888) (hk:l.length<k) (hk2:dead.length+2<=k):LsRepairHop_0 k (fun (v0:Int) (x8:Int) (p9:Bool) (x10:Int)=>some x10) (fun (v0:Int)=>some (-1)) (dead,l) k 0=some (firstOk dead l):=by
 refine (row_i (L:=LsRepairHop_0 k _ _ (dead,l)) (X:=fun _=>some (-1)) (a:=l) (body:=fun n i x=>(Fsl15Has k dead x).bind fun p9=>if (!p9)=true then if 0<=i then if i<(l.length:Int) then ix l i.toNat fun x10=>some x10 else none else none else LsRepairHop_0 k (fun (v0:Int) (x8:Int) (p9:Bool) (x10:Int)=>some x10) (fun (v0:Int)=>some (-1)) (dead,l) n (IntKind.i64.wrap (i+1))) (fun _ r=>some (firstOk dead r)) (fun n i=>own_if _ _ _ _) (by omega) rfl (fun n i x r h0 ht hw hi hx ih=> ?_) hk)
 have hx':l[(i:Int).toNat]? =some x:=by rw [ht];exact hx
 rw [fsl15Has _ _ hd hk2,rZ,hw,ih];show _=some (if (!(dead.any fun y=>y==x))=true then x else firstOk dead r)
 by_cases h:(!(dead.any fun y=>y==x))=true
 · rw [dY h,dY h,dY h0,dY (by omega),Y0 hx']
 · rw [eY h,eY h]
theorem liFirst {k:Nat} (dead l:List Int) (hl:l.length<=549755813888) (hd:dead.length<=549755813888) (hk:l.length<k) (hk2:dead.length+3<=k):LiRepairHop_0 k (fun (v0:Int) (x8:Int) (p9:Bool)=>some x8) (fun (v0:Int)=>some (-1)) (dead,l,(l.length:Int)) k 0=some (firstOk dead l):=by
 refine (row_i (L:=LiRepairHop_0 k _ _ (dead,l,(l.length:Int))) (X:=fun _=>some (-1)) (a:=l) (body:=fun n i x=>(FgContains_int k dead x).bind fun p9=>if (!p9)=true then some x else LiRepairHop_0 k (fun (v0:Int) (x8:Int) (p9:Bool)=>some x8) (fun (v0:Int)=>some (-1)) (dead,l,(l.length:Int)) n (IntKind.i64.wrap (i+1))) (fun _ r=>some (firstOk dead r)) (fun n i=>rfl) (by omega) rfl (fun n i x r h0 ht hw hi hx ih=> ?_) hk)
 rw [fgContains_int _ _ hd hk2,rZ,hw,ih];show _=some (if (!(dead.any fun y=>y==x))=true then x else firstOk dead r)
 by_cases h:(!(dead.any fun y=>y==x))=true
 · rw [dY h,dY h]
 · rw [eY h,eY h]
theorem fRepairHop {k j N:Nat} (p:W0) (me d t:Int) (dead:List Int) (hr:rowsLe N m0 p) (hN:N<=549755813888) (hd:dead.length<=12) (hk:2*N+150<=k) (hj:2*N+150<=j):
    ∃h,FsRepairHop j p me d t dead=some h/\FiRepairHop k p me d t dead=some h:=by
  obtain ⟨k,rfl⟩:=pred (d:=0) (show 1<=k by omega)
  obtain ⟨j,rfl⟩:=pred (d:=0) (show 1<=j by omega)
  obtain ⟨h1,h2⟩:=Z0 hr.2.2.2;have h1:p.2.2.2.length<=N:=h1;obtain ⟨h,es0,ei0,hn⟩:=fHopAt (j:=j) (k:=k) p me d t hr hN (by omega) (by omega)
  have es:=(esRepairHop j p me d t dead).trans ((bs es0).trans (bs (fsl15Has _ _ (by omega) (by omega))))
  have ei:=(eiRepairHop k p me d t dead).trans ((bs ei0).trans (bs (fgContains_int _ _ (by omega) (by omega))))
  cases hA:(dead.any fun y=>y==h) with
  | false=>
    rw [hA] at es ei;exact ⟨h,es.trans (dY rfl),ei.trans (dY rfl)⟩
  | true=>
  rw [hA] at es ei;obtain ⟨t1,_,_⟩:=fTableIn (k:=j) p (pieceAt p t) d hr hN (by omega)
  obtain ⟨_,t2,t3⟩:=fTableIn (k:=k) p (pieceAt p t) d hr hN (by omega)
  have es:=es.trans ((eY (by decide)).trans ((bs (fsPieceAt p t (by omega) (by omega))).trans (bs t1)))
  have ei:=ei.trans (eY (by decide))
  by_cases h0:h<0
  · have c:¬((decide (h<0))==false)=true:=by rw [yZ h0];decide
    exact ⟨-1,es.trans (eY c),ei.trans (eY c)⟩
  have c:((decide (h<0))==false)=true:=by rw [vZ h0];rfl
  have hq:=hn (by omega)
  obtain ⟨u,hu⟩:∃u,tbl p (pieceAt p t) d=some u:=by
    unfold nxt at hq;cases hu:tbl p (pieceAt p t) d with
    | none=>rw [hu] at hq;cases hq
    | some u=>exact ⟨u,rfl⟩
  have hu':=hu;rw [tblR_some hu] at es t2 t3;have es:=es.trans ((dY c).trans ((dY rfl).trans (bs (fsIsCalm p t (by omega) (by omega)))))
  have ei:=ei.trans ((dY c).trans (bs (fiIsCalm p t (by omega) (by omega))))
  cases hC:calm p t with
  | false=>
    rw [hC] at es ei;exact ⟨-1,es.trans (dY rfl),ei.trans (dY rfl)⟩
  | true=>
  rw [hC] at es ei;unfold tbl at hu';by_cases hI:isIdx (pieceAt p t) (p.2.2.2.length:Int)=true
  rotate_left
  · rw [eY hI] at hu';cases hu'
  obtain ⟨i0,i1⟩:=isIdx_pos hI;have hg:p.2.2.2[(pieceAt p t).toNat]? =some p.2.2.2[(pieceAt p t).toNat]:=dZ i1
  rw [dY hI,hg] at hu';have hpc:=h2 _ (tZ i1);have hgl:(p.2.2.2[(pieceAt p t).toNat]).2.1.length<=N:=(Z0 hpc.2.1).1;have hul:u.2.1.length<=N:=by
    dsimp only at hu';split at hu'
    · have hm:=iZ hu';obtain ⟨_,hT⟩:=Z0 hpc.2.2;exact (Z0 (hT _ hm).2.1).1
    · cases hu'
  have es:=es.trans ((eY (by decide)).trans ((dY i0).trans (Y0 hg _)))
  have ei:=ei.trans ((eY (by decide)).trans ((bs (fiPieceAt p t (by omega) (by omega))).trans ((bs t2).trans ((dY i0).trans (Y0 hg _)))))
  obtain ⟨q,q1,q2,q3⟩:=fAltsOf (j:=j) (k:=k) u (p.2.2.2[(pieceAt p t).toNat]).2.1 p.2.1 me hgl hul t3 hN (by omega) (by omega)
  have es:=es.trans ((bs q2).trans (lsFirst dead q (by omega) (by omega) (by omega) (by omega)))
  have ei:=ei.trans ((bs q3).trans (liFirst dead q (by omega) (by omega) (by omega) (by omega)))
  exact ⟨_,es,ei⟩
theorem fHopFor {k j N:Nat} (w:TW) (n d:Int) (hr:rowsLe N Q0 w) (hN:N<=549755813888) (hk:2*N+200<=k) (hj:2*N+200<=j):
    ∃h,FsHopFor j w n d=some h/\FiHopFor k w n d=some h:=by
  obtain ⟨k,rfl⟩:=pred (d:=0) (show 1<=k by omega)
  obtain ⟨j,rfl⟩:=pred (d:=0) (show 1<=j by omega)
  have hp:rowsLe N m0 w.2.1:=hr.2.1;have l4:w.2.2.2.1.length<=N:=(Z0 hr.2.2.2.1).1;have l10:w.2.2.2.2.2.2.2.2.2.1.length<=N:=(Z0 hr.2.2.2.2.2.2.2.2.2.1).1;have es:=(esHopFor j w n d).trans (bs (fsl1In _ _ _ (by omega)))
  have ei:=(eiHopFor k w n d).trans (bs (fiisIndex _ _ (by omega)))
  rw [inR_last _ (by omega)] at es
  cases hA:isIdx n (w.2.2.2.1.length:Int) with
  | false=>
    rw [hA] at es ei;exact ⟨-1,es.trans (eY (by decide)),ei.trans (eY (by decide))⟩
  | true=>
  obtain ⟨n0,n1⟩:=isIdx_pos hA;rw [hA] at es ei;have es:=es.trans ((dY rfl).trans (bs (fsl1In _ _ _ (by omega))))
  have ei:=ei.trans ((dY rfl).trans (bs (fiInRange _ _ _ (by omega))))
  cases hB:inR w.2.2.2.2.2.2.2.2.2.2.1 0 1000 with
  | false=>
    rw [hB] at es ei;exact ⟨-1,es.trans (eY (by decide)),ei.trans (eY (by decide))⟩
  | true=>
  rw [hB] at es ei;have hg:w.2.2.2.1[n.toNat]? =some w.2.2.2.1[n.toNat]:=dZ n1
  have es:=es.trans ((dY rfl).trans ((dY n0).trans ((Y0 hg _).trans (bs (fsl1In _ _ _ (by omega))))))
  have ei:=ei.trans ((dY rfl).trans ((dY n0).trans ((Y0 hg _).trans (bs (fiInRange _ _ _ (by omega))))))
  cases hC:inR w.2.2.2.1[n.toNat] (-5) 5 with
  | false=>
    rw [hC] at es ei;exact ⟨-1,es.trans (dY rfl),ei.trans (dY rfl)⟩
  | true=>
  rw [hC] at es ei;obtain ⟨h,r1,r2⟩:=fRepairHop (j:=j) (k:=k) w.2.1 n d (IntKind.i64.wrap (w.2.2.2.2.2.2.2.2.2.2.1+w.2.2.2.1[n.toNat])) (deadNow w n) hp hN (dead_len _ _ _ _) (by omega) (by omega)
  have es:=es.trans ((eY (by decide)).trans ((dY n0).trans ((Y0 hg _).trans ((bs (fsDeadNow w n (by omega) (by omega))).trans (bs r1)))))
  have ei:=ei.trans ((eY (by decide)).trans ((dY n0).trans ((Y0 hg _).trans ((bs (fiDeadNow w n (by omega) (by omega))).trans (bs r2)))))
  by_cases h0:h<0
  · have c:¬((decide (h<0))==false)=true:=by rw [yZ h0];decide
    exact ⟨-1,es.trans (eY c),ei.trans (eY c)⟩
  have c:((decide (h<0))==false)=true:=by rw [vZ h0];rfl
  obtain ⟨b,m1,m2⟩:=fMayUse (j:=j) (k:=k) w.2.1 n h (IntKind.i64.wrap (w.2.2.2.2.2.2.2.2.2.2.1+w.2.2.2.1[n.toNat])) hp hN (by omega) (by omega)
  have es:=es.trans ((dY c).trans (bs m1));have ei:=ei.trans ((dY c).trans (bs m2));cases b with
  | false=>exact ⟨-1,es.trans (dY rfl),ei.trans (dY rfl)⟩
  | true=>exact ⟨h,es.trans (eY (by decide)),ei.trans (eY (by decide))⟩
def nodes (s:TSky):Int:=IntKind.i64.wrap ((s.2.1.length:Int)+(s.2.2.1.length:Int))
theorem tmod_neg' (a:Int) (h:a<0):a.tmod 360= -((-a)%360):=by
 have:a= -(-a):=by omega
 rw [this,Int.neg_tmod,Int.tmod_eq_emod_of_nonneg (by omega)]
 simp
def angle (n:Int):Int:=n%360
theorem fsMod {k:Nat} (n:Int) (hk:2<=k):FsMod k n 360=some (angle n):=by
 obtain ⟨k,rfl⟩:=pred (d:=1) hk;rw [esMod,fsl1In _ _ _ (by omega)]
 have e:inR 360 1 1000000000000=true:=by decide
 rw [e,rZ,eY (by decide),eY (by decide),eY (by decide)]
 congr 1
 unfold angle;by_cases h:0<=n
 · rw [Int.tmod_eq_emod_of_nonneg h,T1 (by omega) (by omega),Int.tmod_eq_emod_of_nonneg (by omega)]
   omega
 · rw [tmod_neg' n (by omega),T1 (by omega) (by omega),Int.tmod_eq_emod_of_nonneg (by omega)]
   omega
theorem fiMod {k:Nat} (n:Int) (hk:2<=k):FiMod k n 360=some (angle n):=by
 obtain ⟨k,rfl⟩:=pred (d:=1) hk;rw [eiMod,fiInRange _ _ _ (by omega)]
 have e:inR 360 1 1000000000000=true:=by decide
 rw [e,rZ,eY (by decide),eY (by decide)]
 unfold angle;by_cases h:0<=n
 · rw [Int.tmod_eq_emod_of_nonneg h,eY (by simp;omega)]
 · rw [tmod_neg' n (by omega)]
   split
   · rename_i h2;simp only [pZ] at h2;rw [T1 (by omega) (by omega)]
     congr 1
     omega
   · rename_i h2;simp only [pZ] at h2
     congr 1
     omega
theorem fsAngleOf {k:Nat} (n:Int) (hk:3<=k):FsAngleOf k n=some (angle n):=by
 obtain ⟨k,rfl⟩:=pred (d:=2) hk;rw [esAngleOf,fsMod _ (by omega)]
 rfl
theorem fiAngleOf {k:Nat} (n:Int) (hk:3<=k):FiAngleOf k n=some (angle n):=by
 obtain ⟨k,rfl⟩:=pred (d:=2) hk;rw [eiAngleOf,fiMod _ (by omega)]
 rfl
def speed (v:Int):Int:=if inR v (-60) 60 then v else 0
theorem fsl6Speed {k:Nat} (v:Int) (hk:2<=k):Fsl6Speed k v=some (speed v):=by
 obtain ⟨k,rfl⟩:=pred (d:=1) hk;rw [esl6Speed,fsl1In _ _ _ (by omega),rZ]
 unfold speed;cases inR v (-60) 60<;>rfl
theorem fispeedOf {k:Nat} (s:Int×Int×Int×Int) (hk:2<=k):FispeedOf k s=some (speed s.2.2.1):=by
 obtain ⟨k,rfl⟩:=pred (d:=1) hk;rw [eispeedOf,fiInRange _ _ _ (by omega),rZ]
 unfold speed;cases inR s.2.2.1 (-60) 60<;>rfl
def placeAt (s:Int×Int×Int×Int) (t:Int):Int:=angle (IntKind.i64.wrap (angle s.2.1+IntKind.i64.wrap (speed s.2.2.1*(if inR t 0 1000 then t else 0))))
theorem fsPlaceAt {k:Nat} (s:Int×Int×Int×Int) (t:Int) (hk:4<=k):FsPlaceAt k s t=some (placeAt s t):=by
 obtain ⟨k,rfl⟩:=pred (d:=3) hk;simp only [esPlaceAt,fsl1In t 0 1000 (show 1<=k by omega),rZ,fsAngleOf s.2.1 (show 3<=k by omega),fsl6Speed s.2.2.1 (show 2<=k by omega)]
 unfold placeAt;cases inR t 0 1000
 · simp only [Bool.not_false,if_true,Bool.false_eq_true,if_false];rw [fsAngleOf _ (by omega)]
   rfl
 · simp only [Bool.not_true,if_true,Bool.false_eq_true,if_false];rw [fsAngleOf _ (by omega)]
   rfl
theorem fiPlaceAt {k:Nat} (s:Int×Int×Int×Int) (t:Int) (hk:4<=k):FiPlaceAt k s t=some (placeAt s t):=by
 obtain ⟨k,rfl⟩:=pred (d:=3) hk;simp only [eiPlaceAt,fiInRange t 0 1000 (show 1<=k by omega),rZ,fiAngleOf s.2.1 (show 3<=k by omega),fispeedOf s (show 2<=k by omega)]
 unfold placeAt;cases inR t 0 1000
 · simp only [Bool.not_false,if_true,Bool.false_eq_true,if_false];rw [fiAngleOf _ (by omega)]
   rfl
 · simp only [Bool.not_true,if_true,Bool.false_eq_true,if_false];rw [fiAngleOf _ (by omega)]
   rfl
def widen (x:Int×Int) (by_:Int):Int×Int:=if inR by_ 0 360&&inR x.2 0 359 then (angle (IntKind.i64.wrap (angle x.1-by_)),mn (IntKind.i64.wrap (x.2+IntKind.i64.wrap (2*by_))) 359) else (angle x.1,x.2)
theorem fsWidenArc {k:Nat} (x:Int×Int) (n:Int) (hk:4<=k):FsWidenArc k x n=some (widen x n):=by
 obtain ⟨k,rfl⟩:=pred (d:=3) hk;simp only [esWidenArc,fsl1In n 0 360 (show 1<=k by omega),fsl1In x.2 0 359 (show 1<=k by omega),rZ,fsAngleOf x.1 (show 3<=k by omega),fsAngleOf (IntKind.i64.wrap (angle x.1-n)) (show 3<=k by omega)]
 obtain ⟨k,rfl⟩:=pred (d:=2) (show 3<=k by omega)
 rw [esMin];unfold widen mn;cases inR n 0 360
 · rfl
 · cases inR x.2 0 359
   · rfl
   · simp only [Bool.not_true,beq_self_eq_true,if_true,Bool.false_eq_true,if_false,Bool.and_self];generalize IntKind.i64.wrap (x.2+IntKind.i64.wrap (2*n))=z;by_cases h1:z<359
     · rw [dY (by simpa using h1),rZ,eY (by omega)]
     · rw [eY (by simpa using h1),rZ]
       by_cases h2:359<z
       · rw [dY h2]
       · rw [eY h2]
         have:z=359:=by omega
         rw [this]
theorem fiisWidth {k:Nat} (n:Int) (hk:2<=k):FiisWidth k n=some (inR n 0 359):=by
 obtain ⟨k,rfl⟩:=pred (d:=1) hk;rw [eiisWidth,fiInRange _ _ _ (by omega)]
 rfl
theorem fiWidenArc {k:Nat} (x:Int×Int) (n:Int) (hk:4<=k):FiWidenArc k x n=some (widen x n):=by
 obtain ⟨k,rfl⟩:=pred (d:=3) hk;simp only [eiWidenArc,fiInRange n 0 360 (show 1<=k by omega),fiisWidth x.2 (show 2<=k by omega),rZ,fiAngleOf x.1 (show 3<=k by omega),fiAngleOf (IntKind.i64.wrap (angle x.1-n)) (show 3<=k by omega)]
 unfold widen;cases inR n 0 360
 · rfl
 · cases inR x.2 0 359<;>rfl
def placesAt (s:Int×Int×Int×Int) (t:Int):Int×Int:=widen (placeAt s t,0) s.2.2.2
theorem fsPlacesAt {k:Nat} (s:Int×Int×Int×Int) (t:Int) (hk:5<=k):FsPlacesAt k s t=some (placesAt s t):=by
 obtain ⟨k,rfl⟩:=pred (d:=4) hk;rw [esPlacesAt,fsPlaceAt _ _ (by omega),rZ,fsWidenArc _ _ (by omega)]
 rfl
theorem fiPlacesAt {k:Nat} (s:Int×Int×Int×Int) (t:Int) (hk:5<=k):FiPlacesAt k s t=some (placesAt s t):=by
 obtain ⟨k,rfl⟩:=pred (d:=4) hk;rw [eiPlacesAt,fiPlaceAt _ _ (by omega),rZ,fiWidenArc _ _ (by omega)]
 rfl
/-- Where a satellite may be. -/
def satAt (s:TSky) (n t:Int):Int×Int:=match s.2.1[n.toNat]? with
 | some x=>placesAt x t
 | none=>(0,0)
def isSat (s:TSky) (n:Int):Bool:=isIdx n (s.2.1.length:Int)
theorem fsNodeAt {k:Nat} (s:TSky) (n t:Int) (hl:s.2.1.length<=140737488351232) (h:isSat s n=true) (hk:6<=k):FsNodeAt k s n t=some (satAt s n t):=by
 obtain ⟨k,rfl⟩:=pred (d:=5) hk;have h':isIdx n (s.2.1.length:Int)=true:=h;obtain ⟨h0,h1⟩:=isIdx_pos h';rw [esNodeAt,fsl1In _ _ _ (by omega),inR_last _ hl,h',rZ,dY rfl,dY h0,ix_at h1,fsPlacesAt _ _ (by omega)]
 unfold satAt;rw [dZ h1]
 rfl
theorem fiisSatellite {k:Nat} (s:TSky) (n:Int) (hl:s.2.1.length<=140737488351232) (hk:2<=k):FiisSatellite k s n=some (isSat s n):=by
 obtain ⟨k,rfl⟩:=pred (d:=1) hk;rw [eiisSatellite,fiInRange _ _ _ (by omega),inR_last _ hl]
 rfl
theorem fiNodeAt {k:Nat} (s:TSky) (n t:Int) (hl:s.2.1.length<=140737488351232) (h:isSat s n=true) (hk:6<=k):FiNodeAt k s n t=some (satAt s n t):=by
 obtain ⟨k,rfl⟩:=pred (d:=5) hk;have h':isIdx n (s.2.1.length:Int)=true:=h;obtain ⟨h0,h1⟩:=isIdx_pos h';rw [eiNodeAt,fiisSatellite _ _ hl (by omega),h,rZ,dY rfl,dY h0,ix_at h1,fiPlacesAt _ _ (by omega)]
 unfold satAt;rw [dZ h1]
 rfl
theorem fsMin {k:Nat} (a b:Int) (hk:1<=k):FsMin k a b=some (mn a b):=by
 obtain ⟨k,rfl⟩:=pred (d:=0) hk;rw [esMin];unfold mn;by_cases h:b<a
 · rw [dY (by simpa using h),dY h]
 · rw [eY (by simpa using h),eY h]
def middle (x:Int×Int):Int:=if inR x.2 0 359 then angle (IntKind.i64.wrap (angle x.1+IntKind.i64.wrap (x.2.tdiv 2))) else angle x.1
theorem fsMiddleOf {k:Nat} (x:Int×Int) (hk:4<=k):FsMiddleOf k x=some (middle x):=by
 obtain ⟨k,rfl⟩:=pred (d:=3) hk;simp only [esMiddleOf,fsl1In x.2 0 359 (show 1<=k by omega),rZ,fsAngleOf x.1 (show 3<=k by omega)]
 unfold middle;cases inR x.2 0 359
 · rfl
 · simp only [Bool.not_true,Bool.false_eq_true,if_false,if_true];rw [fsAngleOf _ (by omega)]
   rfl
theorem fiMiddleOf {k:Nat} (x:Int×Int) (hk:4<=k):FiMiddleOf k x=some (middle x):=by
 obtain ⟨k,rfl⟩:=pred (d:=3) hk;simp only [eiMiddleOf,fiisWidth x.2 (show 2<=k by omega),rZ,fiAngleOf x.1 (show 3<=k by omega)]
 unfold middle;cases inR x.2 0 359
 · rfl
 · simp only [Bool.not_true,Bool.false_eq_true,if_false,if_true];rw [fiAngleOf _ (by omega)]
   rfl
def sunAt (s:TSky) (t:Int):Int:=placeAt (0,0,s.2.2.2.2.2.2.1,0) t
theorem fsSunAt {k:Nat} (s:TSky) (t:Int) (hk:5<=k):FsSunAt k s t=some (sunAt s t):=by
 obtain ⟨k,rfl⟩:=pred (d:=4) hk;rw [esSunAt,fsPlaceAt _ _ (by omega)]
 rfl
theorem fiSunAt {k:Nat} (s:TSky) (t:Int) (hk:5<=k):FiSunAt k s t=some (sunAt s t):=by
 obtain ⟨k,rfl⟩:=pred (d:=4) hk;rw [eiSunAt,fiPlaceAt _ _ (by omega)]
 rfl
def gap (a b:Int):Int:=mn (angle (IntKind.i64.wrap (angle a-angle b))) (IntKind.i64.wrap (360-angle (IntKind.i64.wrap (angle a-angle b))))
theorem fsGapOf {k:Nat} (a b:Int) (hk:4<=k):FsGapOf k a b=some (gap a b):=by
 obtain ⟨k,rfl⟩:=pred (d:=3) hk;rw [esGapOf,fsAngleOf _ (by omega),rZ,fsAngleOf _ (by omega),rZ,fsAngleOf _ (by omega),rZ,fsMin _ _ (by omega)]
 rfl
theorem fiGapOf {k:Nat} (a b:Int) (hk:4<=k):FiGapOf k a b=some (gap a b):=by
 obtain ⟨k,rfl⟩:=pred (d:=3) hk;rw [eiGapOf,fiAngleOf _ (by omega),rZ,fiAngleOf _ (by omega),rZ,fiAngleOf _ (by omega),rZ]
 rfl
/-- 0: in the sun; 2: dark. -/
def shade (lim g w:Int):Int:=if decide (IntKind.i64.wrap (g-IntKind.i64.wrap (w.tdiv 2))>lim)=true then 0 else if decide (IntKind.i64.wrap (g+IntKind.i64.wrap (w.tdiv 2))<=lim)=true then 2 else 1
def shadow (s:TSky) (n t:Int):Int:=if isSat s n then shade s.2.2.2.2.2.2.2.1 (gap (middle (satAt s n t)) (IntKind.i64.wrap (sunAt s t+180))) (satAt s n t).2 else 0
theorem fsShadowAt {k:Nat} (s:TSky) (n t:Int) (hl:s.2.1.length<=140737488351232) (hk:8<=k):FsShadowAt k s n t=some (shadow s n t):=by
  obtain ⟨k,rfl⟩:=pred (d:=7) hk;rw [esShadowAt,fsl1In _ _ _ (by omega),inR_last _ hl,rZ]
  unfold shadow;cases h:isSat s n with
  | false=>
    have h':isIdx n (s.2.1.length:Int)=false:=h;rw [h'];rfl
  | true=>
    have h':isIdx n (s.2.1.length:Int)=true:=h;rw [h'];simp only [Bool.not_true,Bool.false_eq_true,if_false,if_true];rw [fsNodeAt s n t hl h (by omega),rZ,fsMiddleOf _ (by omega),rZ,fsSunAt _ _ (by omega),rZ,fsGapOf _ _ (by omega),rZ]
    unfold shade;split
    · rfl
    · split<;>rfl
theorem fiShadowAt {k:Nat} (s:TSky) (n t:Int) (hl:s.2.1.length<=140737488351232) (hk:8<=k):FiShadowAt k s n t=some (shadow s n t):=by
  obtain ⟨k,rfl⟩:=pred (d:=7) hk;rw [eiShadowAt,fiisSatellite s n hl (by omega),rZ]
  unfold shadow;cases h:isSat s n with
  | false=>rfl
  | true=>
    simp only [Bool.not_true,Bool.false_eq_true,if_false,if_true];rw [fiNodeAt s n t hl h (by omega),rZ,fiMiddleOf _ (by omega),rZ,fiSunAt _ _ (by omega),rZ,fiGapOf _ _ (by omega),rZ]
    unfold shade;split
    · rfl
    · split<;>rfl
def sput (xs:List (Int×Int)) (t:Int):List (Int×Int):=match xs[xs.length-1]? with
 | none=>[(t,IntKind.i64.wrap (t+1))]
 | some y=>if y.2==t then xs.set (xs.length-1) (y.1,IntKind.i64.wrap (t+1)) else xs++[(t,IntKind.i64.wrap (t+1))]
theorem sput_len (xs:List (Int×Int)) (t:Int):(sput xs t).length<=xs.length+1:=by
 unfold sput;split
 · simp
 · split<;>simp
theorem last_at {xs:List (Int×Int)} (h0:0<xs.length) (h:xs.length<=549755813888):IntKind.i64.wrap ((xs.length:Int)-1)=((xs.length-1:Nat):Int):=by
 rw [T1 (by omega) (by omega)]
 omega
theorem fsl4Put {k:Nat} (xs:List (Int×Int)) (t:Int) (hl:xs.length<=549755813888) (hk:1<=k):Fsl4Put k xs t=some (sput xs t):=by
 obtain ⟨k,rfl⟩:=pred (d:=0) hk;rw [esl4Put];unfold sput;by_cases h:0<xs.length
 · have e1:decide ((xs.length:Int)>0)=true:=by simp;omega
   have e2:((xs.length-1:Nat):Int).toNat=xs.length-1:=by simp
   have h1:xs.length-1<xs.length:=by omega
   rw [e1,dY (show (true==true)=true from rfl),last_at h hl,dY (by omega),dY (by omega),e2,ix_at h1,dZ h1]
   simp only
   by_cases hq:(xs[xs.length-1].2==t)=true
   · rw [dY hq,dY hq,dY (by omega),dY (by omega),ix_at h1]
   · rw [eY hq,eY hq,dY (by simp;omega)]
 · have e1:decide ((xs.length:Int)>0)=false:=vZ (by omega)
   have e0:xs=[]:=List.eq_nil_of_length_eq_zero (by omega)
   subst e0;rfl
/-- The spans of the ticks i, i + 1, .. (m of them) where p holds. -/
def litFrom (p:Int->Bool):List (Int×Int)->Nat->Nat->List (Int×Int)
 | xs,_,0=>xs
 | xs,i,m+1=>litFrom p (if p (i:Int) then sput xs (i:Int) else xs) (i+1) m
theorem lit_len (p:Int->Bool):∀(m i:Nat) (xs:List (Int×Int)),(litFrom p xs i m).length<=xs.length+m
  | 0,i,xs=>by simp [litFrom]
  | m+1,i,xs=>by
    have:=lit_len p m (i+1) (if p (i:Int) then sput xs (i:Int) else xs)
    have h2:=sput_len xs (i:Int);simp only [litFrom];split at this<;>rename_i h<;>simp only [h] at* <;>simp at* <;>omega
def lit (s:TSky) (n T:Int):List (Int×Int):=litFrom (fun t=>shadow s n t==0) [] 0 (mn T 1000).toNat
theorem lit_le (s:TSky) (n T:Int):(lit s n T).length<=1000:=by
 have h:=lit_len (fun t=>shadow s n t==0) (mn T 1000).toNat 0 []
 have:mn T 1000<=1000:=by unfold mn;split<;>omega
 simp only [List.length_nil] at h;unfold lit;omega
theorem loop105 {k:Nat} (s:TSky) (n:Int) (hl:s.2.1.length<=140737488351232) (hk:8<=k) (N:Nat) (hN:N<=1000):∀(m q i:Nat) (xs:List (Int×Int)),i+m=N->m<q->xs.length+m<=549755813888->
    LsLitSpans_0 k (fun (v0:Int×(List (Int×Int)))=>some v0.2) (n,(N:Int),s) q ((i:Int),xs)=some (litFrom (fun t=>shadow s n t==0) xs i m)
  | 0,q+1,i,xs,h,_,_=>by
    show (if decide ((i:Int)<(N:Int))=true then _ else _)=_
    rw [eY (by simp;omega)]
    rfl
  | m+1,q+1,i,xs,h,hq,hx=>by
    show (if decide ((i:Int)<(N:Int))=true then (FsShadowAt k s n (i:Int)).bind _ else _)=_
    rw [dY (by simp;omega),fsShadowAt s n _ hl hk,rZ]
    have hw:IntKind.i64.wrap ((i:Int)+1)=((i+1:Nat):Int):=by rw [T1 (by omega) (by omega)];omega
    have h2:=sput_len xs (i:Int);simp only [litFrom];split
    · rw [fsl4Put xs _ (by omega) (by omega),rZ]
      simp only [hw];exact loop105 s n hl hk N hN m q (i+1) _ (by omega) (by omega) (by omega)
    · simp only [hw];exact loop105 s n hl hk N hN m q (i+1) _ (by omega) (by omega) (by omega)
theorem fsl8Ticks {k:Nat} (T:Int) (hk:1<=k):Fsl8Ticks (k+1) 0 T=some (0,((mn T 1000).toNat:Int)):=by
 rw [esl8Ticks,fsMax _ _ hk,rZ,fsMin _ _ hk,rZ,fsMin _ _ hk,rZ,fsMax _ _ hk,rZ]
 congr 1
 refine Prod.ext ?_ ?_
 · rfl
 · show mx 0 (mn 1000 T)=_
   unfold mx mn;split<;>split<;>(try split)<;>omega
theorem fsLitSpans {k:Nat} (s:TSky) (n T:Int) (hl:s.2.1.length<=140737488351232) (hk:1010<=k):FsLitSpans k s n 0 T=some (lit s n T):=by
 obtain ⟨k,rfl⟩:=pred (d:=1009) hk;have hN:(mn T 1000).toNat<=1000:=by
  have:mn T 1000<=1000:=by unfold mn;split<;>omega
  omega
 obtain ⟨k,rfl⟩:=pred (d:=1008) (show 1009<=k by omega)
 rw [esLitSpans,fsl8Ticks _ (by omega),rZ]
 exact loop105 s n hl (by omega) _ hN (mn T 1000).toNat (k+1) 0 [] (by omega) (by omega) (by simp;omega)
theorem fiLitSpans_1v {k:Nat} (s:TSky) (n t:Int) (hl:s.2.1.length<=140737488351232) (hk:9<=k):FiLitSpans_1v k t s.1 s.2.1 s.2.2.1 s.2.2.2.1 s.2.2.2.2.1 s.2.2.2.2.2.1 s.2.2.2.2.2.2.1 s.2.2.2.2.2.2.2.1 s.2.2.2.2.2.2.2.2.1 s.2.2.2.2.2.2.2.2.2 n=some (shadow s n t==0):=by
 obtain ⟨k,rfl⟩:=pred (d:=8) hk;rw [eiLitSpans_1v,fiShadowAt _ _ _ hl (by omega)]
 rfl
theorem loop191 {k:Nat} (s:TSky) (n T:Int) (hl:s.2.1.length<=140737488351232) (hk:9<=k) (N:Nat) (hN:N<=1000) (hT:(mn T 1000).toNat=N):∀(m q i:Nat) (xs:List (Int×Int)),i+m=N->m<q->xs.length+m<=549755813888->
    LispansWherev_iLitSpans_1_0 k (fun (v0:Int×(List (Int×Int)))=>some v0.2) (T,s.1,s.2.1,s.2.2.1,s.2.2.2.1,s.2.2.2.2.1,s.2.2.2.2.2.1,s.2.2.2.2.2.2.1,s.2.2.2.2.2.2.2.1,s.2.2.2.2.2.2.2.2.1,s.2.2.2.2.2.2.2.2.2,n) q ((i:Int),xs)=some (litFrom (fun t=>shadow s n t==0) xs i m)
  | 0,q+1,i,xs,h,_,_=>by
    show (if decide ((i:Int)<mn T 1000)=true then _ else _)=_
    rw [eY (by simp;omega)]
    rfl
  | m+1,q+1,i,xs,h,hq,hx=>by
    show (if decide ((i:Int)<mn T 1000)=true then (FiLitSpans_1v k (i:Int) s.1 s.2.1 s.2.2.1 s.2.2.2.1 s.2.2.2.2.1 s.2.2.2.2.2.1 s.2.2.2.2.2.2.1 s.2.2.2.2.2.2.2.1 s.2.2.2.2.2.2.2.2.1 s.2.2.2.2.2.2.2.2.2 n).bind _ else _)=_
    rw [dY (by simp;omega),fiLitSpans_1v s n _ hl hk,rZ]
    have hw:IntKind.i64.wrap ((i:Int)+1)=((i+1:Nat):Int):=by rw [T1 (by omega) (by omega)];omega
    have h2:=sput_len xs (i:Int);simp only [litFrom];by_cases hs:(shadow s n (i:Int)==0)=true
    · rw [dY hs,hs,eY (by decide)]
      have ih:=loop191 s n T hl hk N hN hT m q (i+1) (sput xs (i:Int)) (by omega) (by omega) (by omega)
      rw [<-ih];unfold sput;by_cases h0:0<xs.length
      · have h1:xs.length-1<xs.length:=by omega
        have e2:((xs.length-1:Nat):Int).toNat=xs.length-1:=by simp
        have e1:decide (((xs.length-1:Nat):Int)>=0)=true:=by simp
        rw [last_at h0 (by omega),e1,dY (show (true==true)=true from rfl),dY (by omega),dY (by omega),e2,ix_at h1,dZ h1]
        simp only
        by_cases hq:(xs[xs.length-1].2==(i:Int))=true
        · rw [dY hq,dY (by omega),dY (by omega),ix_at h1,dY (by omega),dY (by omega),ix_at h1,dY hq,hw]
          have:xs[xs.length-1].2=(i:Int):=by simpa using hq
          rw [this,hw]
        · rw [eY hq,eY hq,dY (by simp;omega),hw]
      · have e0:xs=[]:=List.eq_nil_of_length_eq_zero (by omega)
        subst e0;rw [eY (show ¬(decide (IntKind.i64.wrap ((([]:List (Int×Int)).length:Int)-1)>=0)==true)=true from by decide),dY (by simp),hw]
        rfl
    · have hs':(shadow s n (i:Int)==0)=false:=by simpa using hs
      rw [eY hs,hs',dY (by decide),hw]
      exact loop191 s n T hl hk N hN hT m q (i+1) xs (by omega) (by omega) (by omega)
theorem fiLitSpans {k:Nat} (s:TSky) (n T:Int) (hl:s.2.1.length<=140737488351232) (hk:1011<=k):FiLitSpans k s n 0 T=some (lit s n T):=by
 obtain ⟨k,rfl⟩:=pred (d:=1010) hk;have hN:(mn T 1000).toNat<=1000:=by
  have:mn T 1000<=1000:=by unfold mn;split<;>omega
  omega
 obtain ⟨k,rfl⟩:=pred (d:=1009) (show 1010<=k by omega)
 rw [eiLitSpans,eispansWherev_iLitSpans_1];have e:mx 0 0=((0:Nat):Int):=rfl;rw [e,loop191 s n T hl (by omega) _ hN rfl (mn T 1000).toNat k 0 [] (by omega) (by omega) (by simp;omega)]
 rfl
def litOf (w:TW) (n:Int):List (Int×Int):=lit w.1 n w.2.2.2.2.2.2.2.2.2.2.2.1
theorem fsLitOf {k:Nat} (w:TW) (n:Int) (hl:w.1.2.1.length<=140737488351232) (hk:1011<=k):FsLitOf k w n=some (litOf w n):=by
 obtain ⟨k,rfl⟩:=pred (d:=1010) hk;rw [esLitOf,fsLitSpans _ _ _ hl (by omega)]
 rfl
theorem fiLitOf {k:Nat} (w:TW) (n:Int) (hl:w.1.2.1.length<=140737488351232) (hk:1012<=k):FiLitOf k w n=some (litOf w n):=by
 obtain ⟨k,rfl⟩:=pred (d:=1011) hk;rw [eiLitOf,fiLitSpans _ _ _ hl (by omega)]
 rfl
def inSpans (xs:List (Int×Int)) (t:Int):Bool:=xs.any fun s=>inSpan s t
theorem fsInSpans {k:Nat} (xs:List (Int×Int)) (t:Int) (hl:xs.length<=140737488351232) (hk:xs.length+4<=k):FsInSpans k xs t=some (inSpans xs t):=by
 obtain ⟨k,rfl⟩:=pred (d:=0) (show 1<=k by omega)
 refine (esInSpans k xs t).trans (row_i (a:=xs) (fun _ l=>some (inSpans l t)) (fun _ _=>rfl) hl rfl (fun m i x r h0 hn hw hi hx ih=> ?_) (by omega))
 dsimp only;rw [hw,ih,fsInSpan _ _ (by omega),rZ]
 unfold inSpans;rw [List.any_cons];cases inSpan x t<;>rfl
def tickRow (p:Nat->Bool):List Bool:=(List.range 1000).map p
theorem tick_set (p:Nat->Bool) {j:Nat} (hj:j<1000):(tickRow p).set j true=tickRow fun u=>p u || u==j:=by
 unfold tickRow;apply List.ext_getElem
 · simp
 · intro u h1 h2;simp only [List.length_set,List.length_map,List.length_range] at h1;rw [List.getElem_set];simp only [List.getElem_map,List.getElem_range];by_cases e:j=u
   · subst e;simp
   · rw [eY e]
     have:(u==j)=false:=by simp;omega
     rw [this,Bool.or_false]
theorem loop256_1 {k:Nat} {R:Type} (X:Viticks_1->Option R) (c:Citicks_1) (N:Nat) (hN:N<=1000) (hc:c.2.2.2.2=(N:Int)):∀(m q i:Nat) (p:Nat->Bool),i+m=N->m<q->
    Liticks_1 k X c q ((i:Int),tickRow p)=X ((N:Int),tickRow fun u=>p u || (decide (i<=u)&&decide (u<N)))
  | 0,q+1,i,p,h,_=>by
    show (if decide ((i:Int)<c.2.2.2.2)=true then _ else _)=_
    rw [hc,eY (by simp;omega)]
    have e:(fun u=>p u || (decide (i<=u)&&decide (u<N)))=p:=by
      funext u
      have:(decide (i<=u)&&decide (u<N))=false:=by simp;omega
      rw [this,Bool.or_false]
    have hi:i=N:=by omega
    rw [e,hi]
  | m+1,q+1,i,p,h,hq=>by
    show (if decide ((i:Int)<c.2.2.2.2)=true then (if 0<=(i:Int) then (if (i:Int)<((tickRow p).length:Int) then ix (tickRow p) (i:Int).toNat fun _=>Liticks_1 k X c q ((IntKind.i64.wrap ((i:Int)+1)),((tickRow p).set (i:Int).toNat true)) else none) else none) else _)=_
    have hlen:(tickRow p).length=1000:=by simp [tickRow]
    have hn:(i:Int).toNat=i:=by simp
    rw [hc,dY (by simp;omega),dY (by omega),dY (by omega),hn,ix_at (by omega),tick_set p (by omega)]
    have hw:IntKind.i64.wrap ((i:Int)+1)=((i+1:Nat):Int):=by rw [T1 (by omega) (by omega)];omega
    rw [hw,loop256_1 X c N hN hc m q (i+1) _ (by omega) (by omega)]
    congr 2
    refine congrArg tickRow (funext fun u=> ?_)
    by_cases e:u=i
    · subst e
      have:decide (u<N)=true:=by simp;omega
      simp [this]
    · have e1:(u==i)=false:=by simp [e]
      have e2:decide (i+1<=u)=decide (i<=u):=by
        by_cases h:i<=u
        · rw [yZ h,yZ (by omega)]
        · rw [vZ h,vZ (by omega)]
      rw [e1,e2,Bool.or_false]
end Go.Proofs.YtdglapefgakccaaGreat.World
