/- 'laws.FnExactFaultOf' returns true for every input. No condition. -/
import Derived.Test.YtdglapefgakccaaGreatXa
import Derived.Test.YtdglapefgakccaaGreatK1
import Derived.Test.YtdglapefgakccaaGreatK2
import Derived.Test.YtdglapefgakccaaGreatK3
import Derived.Test.YtdglapefgakccaaGreatK4
import Derived.Test.YtdglapefgakccaaGreatShelf
import Derived.Test.YtdglapefgakccaaGreatRows
import Derived.Test.YtdglapefgakccaaGreatChecked
import Derived.Shelf.RegionOpenPlain
import Derived.WalkKit
import Derived.Deep.LoopGhost
import Derived.Deep.RegionLaw
import Derived.Lib.Walk
import Derived.Sort.WalkB12
import Derived.Lib.SliceRun
import Derived.KernelRfl
set_option linter.unusedSimpArgs false
set_option linter.unusedVariables false
namespace Go.Proofs.YtdglapefgakccaaGreat.World
open Go Go.V Go.Proofs
set_option maxRecDepth 100000
set_option maxHeartbeats 4000000
theorem fiareWhole {k:Nat} (w:TW) (hl:w.2.2.2.2.2.1.length<=549755813888) (hT:(packets w).length<=549755813888) (hc:w.2.2.2.2.2.2.2.1.length<=549755813888) (hk:w.2.2.2.2.2.1.length+(packets w).length+w.2.2.2.2.2.2.2.1.length+10<=k):FiareWhole k w=some (allIdx (fun i x=>x==(i:Int)) 0 (sortB (ids w))&&(((ids w).length:Int)==sumI w.2.2.2.2.2.2.2.1)):=by
 obtain ⟨k,rfl⟩:=pred (d:=0) (show 1<=k by omega)
 have hil:(ids w).length=(packets w).length:=by simp [ids]
 have hsl:(sortB (ids w)).length=(ids w).length:=by simp [sortB]
 rw [eiareWhole,fipacketsOf w hl hT (by omega),rZ]
 refine (rowO0 (L:=LiareWhole_0 k _ (((packets w).length:Int),w,packets w)) (a:=packets w) (fun (s:List Int) i=>(i,s)) (fun s i r=>(FgSort_int k (s++r.map (·.1))).bind fun p3=>LiareWhole_1 k (fun v1 x4=>some false) (fun v1=>(FisumOf k w.2.2.2.2.2.2.2.1).bind fun p5=>some ((p3.length:Int)==p5)) (((packets w).length:Int),((packets w).length:Int),(p3.length:Int),w,p3,packets w) k 0) (fun s i=>s.length=i) (fun _ _ _=>rfl) (by omega) (fun s _=>by simp) (fun n i s x r hI h0 ht hw hi hx ih=> ?_) (by omega) [] rfl).trans ?_
 · dsimp only;rw [dY (by simp;omega),hw,ih (s++[x.1]) (by simp;omega)]
   simp
 · rw [List.nil_append,show (packets w).map (·.1)=ids w from rfl]
   obtain ⟨k',rfl⟩:=pred (d:=0) (show 1<=k by omega)
   rw [egSort_int,dY (by omega),rZ,hsl]
   refine (all_row (L:=LiareWhole_1 (k'+1) _ _ (((packets w).length:Int),((packets w).length:Int),((ids w).length:Int),w,sortB (ids w),packets w)) (a:=sortB (ids w)) (fun i x=>x==(i:Int)) (some (((ids w).length:Int)==sumI w.2.2.2.2.2.2.2.1)) (fun n i=>by
    show (if decide (i<((ids w).length:Int))=true then _ else _)=_
    rw [<-hsl];exact own_if _ _ _ _) (by omega) ?_ (fun n i x h0 ht hw hi hx=> ?_) (by omega)).trans fsome
   · rw [fisumOf _ (by omega) (by omega),rZ,hsl]
   · dsimp only;rw [fne,hw];simp only [hsl]
def cntP (id:Int) (l:List TPk):Nat:=l.countP fun x=>x.1==id
theorem cntP_le (id:Int) (l:List TPk):cntP id l<=l.length:=List.countP_le_length
theorem cntP_cons (id:Int) (x:TPk) (l:List TPk):cntP id (x::l)=cntP id l+if (x.1==id)=true then 1 else 0:=by unfold cntP;rw [List.countP_cons]
theorem cntP_append (id:Int) (a b:List TPk):cntP id (a++b)=cntP id a+cntP id b:=by unfold cntP;rw [List.countP_append]
theorem pp1 {R:Type} {k:Nat} (X0:VsPacketPlaces_1->List TPk->Option R) (id:Int) (w:TW) (i:Nat) (q:List TPk) (hq:w.2.2.2.2.2.1[i]? =some q) (hl:q.length<=549755813888):∀(m f j:Nat) (s:Int),j+m=q.length->m<f->0<=s->s+(m:Int)<=4194304000000->
    LsPacketPlaces_1 k X0 (id,(i:Int),w) f (s,(j:Int))=X0 (s+(cntP id (q.drop j):Nat),(q.length:Int)) q
  | 0,f+1,j,s,h,_,h0,h1=>by
    obtain rfl:j=q.length:=by omega
    have hq':w.2.2.2.2.2.1[(i:Int).toNat]? =some q:=by rw [show (i:Int).toNat=i by simp];exact hq
    show (if 0<=(i:Int) then ix w.2.2.2.2.2.1 (i:Int).toNat (fun x1=>if decide ((q.length:Int)<(x1.length:Int))=true then _ else X0 (s,(q.length:Int)) x1) else none)=_
    rw [dY (by omega),ix_some hq',eY (by simp),List.drop_length]
    simp [cntP]
  | m+1,f+1,j,s,h,hf,h0,h1=>by
    have hj:j<q.length:=by omega
    have hq':w.2.2.2.2.2.1[(i:Int).toNat]? =some q:=by rw [show (i:Int).toNat=i by simp];exact hq
    have hw:IntKind.i64.wrap ((j:Int)+1)=((j+1:Nat):Int):=wrap_succ hj (by omega)
    have hx:q[(j:Int).toNat]? =some q[j]:=by rw [show (j:Int).toNat=j by simp];exact dZ hj
    show (if 0<=(i:Int) then ix w.2.2.2.2.2.1 (i:Int).toNat (fun x1=>if decide ((j:Int)<(x1.length:Int))=true then if 0<=(i:Int) then ix w.2.2.2.2.2.1 (i:Int).toNat (fun x2=>if 0<=(j:Int) then ix x2 (j:Int).toNat (fun x3=>if (x3.1==id)=true then LsPacketPlaces_1 k X0 (id,(i:Int),w) f (IntKind.i64.wrap (s+1),IntKind.i64.wrap ((j:Int)+1)) else LsPacketPlaces_1 k X0 (id,(i:Int),w) f (s,IntKind.i64.wrap ((j:Int)+1))) else none) else none else X0 (s,(j:Int)) x1) else none)=_
    rw [dY (by omega),ix_some hq',dY (by simp;omega),dY (by omega),ix_some hq',dY (by omega),ix_some hx,hw,cZ hj,cntP_cons]
    by_cases e:(q[j].1==id)=true
    · rw [dY e,dY e,wrap_id (by omega) (by omega),pp1 X0 id w i q hq hl m f (j+1) (s+1) (by omega) (by omega) (by omega) (by omega)]
      congr 2
      omega
    · rw [eY e,eY e,pp1 X0 id w i q hq hl m f (j+1) s (by omega) (by omega) h0 (by omega)]
      rfl
def places (w:TW) (id:Int):Nat:=cntP id w.2.2.2.2.2.1.flatten+cntP id w.2.2.2.2.2.2.2.2.2.2.2.2.1
theorem flat_at {l:List (List TPk)} {i:Nat} {q:List TPk} (hi:i<l.length) (hq:l[i]? =some q):(l.drop i).flatten=q++(l.drop (i+1)).flatten/\l.drop i=q::l.drop (i+1):=by
 have:l.drop i=q::l.drop (i+1):=by
  rw [cZ hi]
  congr 1
  rw [dZ hi] at hq
  exact xZ hq
 exact ⟨by rw [this,List.flatten_cons],this⟩
theorem fsPacketPlaces {k:Nat} (w:TW) (id:Int) (hl:w.2.2.2.2.2.1.length<=549755813888) (hT:(packets w).length<=549755813888) (hk:3000000000000<=k):FsPacketPlaces k w id=some ((places w id:Nat):Int):=by
 obtain ⟨k,rfl⟩:=pred (d:=0) (show 1<=k by omega)
 have hT':w.2.2.2.2.2.2.2.2.2.2.2.2.1.length+w.2.2.2.2.2.1.flatten.length<=549755813888:=by simpa [packets] using hT
 have hTe:(packets w).length=w.2.2.2.2.2.2.2.2.2.2.2.2.1.length+w.2.2.2.2.2.1.flatten.length:=by simp [packets]
 have h2:∀(s z:Int),0<=s->s<=549755813888->LsPacketPlaces_2 k (fun v2=>some v2.1) (id,z,w) k (s,0)=some (s+(cntP id w.2.2.2.2.2.2.2.2.2.2.2.2.1:Nat)):=fun s z h0 h1=>by
  refine row_inv0 (L:=LsPacketPlaces_2 k (fun v2=>some v2.1) (id,z,w)) (a:=w.2.2.2.2.2.2.2.2.2.2.2.2.1) (fun (s:Int) i=>(s,i)) (fun s i r=>some (s+(cntP id r:Nat))) (X:=fun s _=>some s) (fun s i=>0<=s/\s<=549755813888+(i:Int)) (fun _ _ _=>rfl) (by omega) (fun s _=>by simp [cntP]) (fun n i s x r hI h0 ht hw hi hx ih=> ?_) (by omega) s ⟨h0,by omega⟩
  dsimp only;rw [hw,cntP_cons];by_cases e:(x.1==id)=true
  · rw [dY e,dY e,wrap_id (by omega) (by omega),ih (s+1) ⟨by omega,by omega⟩]
    congr 1
    omega
  · rw [eY e,eY e,ih s ⟨by omega,by omega⟩]
    rfl
 refine (esPacketPlaces k w id).trans ((up_inv0 (L:=LsPacketPlaces_0 k _ (id,w)) (len:=w.2.2.2.2.2.1.length) (fun (s:Int) i=>(s,i)) (fun s i=>some (s+(cntP id (w.2.2.2.2.2.1.drop i).flatten:Nat)+(cntP id w.2.2.2.2.2.2.2.2.2.2.2.2.1:Nat))) (fun s i=>0<=s/\s+((w.2.2.2.2.2.1.drop i).flatten.length:Int)<=549755813888) (by omega) (fun n i s hI hi h0 ht hw ih=> ?_) (by omega) 0 ⟨by omega,by rw [List.drop_zero];omega⟩).trans ?_)
 · obtain ⟨I1,I2⟩:=hI;rcases Nat.lt_or_ge i w.2.2.2.2.2.1.length with hlt | hge
   · have hq:w.2.2.2.2.2.1[i]? =some w.2.2.2.2.2.1[i]:=dZ hlt
     obtain ⟨e1,_⟩:=flat_at hlt hq;generalize w.2.2.2.2.2.1[i]=q at hq e1;rw [e1,List.length_append] at I2;have hc:=cntP_le id q;show (if decide ((i:Int)<(w.2.2.2.2.2.1.length:Int))=true then LsPacketPlaces_1 k (fun v1 x1=>LsPacketPlaces_0 k (fun v0=>LsPacketPlaces_2 k (fun v2=>some v2.1) (id,v0.2,w) k (v0.1,0)) (id,w) n (v1.1,IntKind.i64.wrap ((i:Int)+1))) (id,(i:Int),w) k (s,0) else _)=_
     have:=pp1 (k:=k) (fun v1 x1=>LsPacketPlaces_0 k (fun v0=>LsPacketPlaces_2 k (fun v2=>some v2.1) (id,v0.2,w) k (v0.1,0)) (id,w) n (v1.1,IntKind.i64.wrap ((i:Int)+1))) id w i q hq (by omega) q.length k 0 s (by omega) (by omega) I1 (by omega)
     rw [dY (yZ (by omega))]
     refine this.trans ?_
     dsimp only;rw [List.drop_zero,hw,ih hlt _ ⟨by omega,by omega⟩,e1,cntP_append]
     congr 1
     omega
   · obtain rfl:i=w.2.2.2.2.2.1.length:=by omega
     show (if decide ((w.2.2.2.2.2.1.length:Int)<(w.2.2.2.2.2.1.length:Int))=true then _ else LsPacketPlaces_2 k (fun v2=>some v2.1) (id,(w.2.2.2.2.2.1.length:Int),w) k (s,0))=_
     rw [eY (by simp),h2 s _ I1 (by omega),List.drop_length]
     simp [cntP]
 · rw [List.drop_zero];unfold places
   congr 1
   omega
theorem allIdx_const {α:Type} (Q:α->Bool):∀(l:List α) (j:Nat),allIdx (fun _ c=>Q c) j l=l.all Q
 | [],_=>rfl
 | x::r,j=>by rw [allIdx_cons,List.all_cons,allIdx_const Q r]
def onceAll (w:TW) (n:Nat):Bool:=(List.range' 0 n).all fun i=>((places w (i:Int):Nat):Int)==1
theorem sum_range:∀(l:List Int) (s:Int),(∀c ∈ l,0<=c/\c<=10000)->0<=s->s+10000*(l.length:Int)<=1000000->0<=l.foldl (fun s x=>IntKind.i64.wrap (s+x)) s/\l.foldl (fun s x=>IntKind.i64.wrap (s+x)) s<=s+10000*(l.length:Int)
  | [],s,_,h0,_=>by simp;exact h0
  | x::r,s,h,h0,h1=>by
    have hx:=h x (by simp)
    simp only [List.length_cons] at h1;rw [List.foldl_cons,wrap_id (by omega) (by omega)]
    have:=sum_range r (s+x) (fun c hc=>h c (fZ _ hc)) (by omega) (by omega)
    simp only [List.length_cons];omega
theorem fsl33Packets {k:Nat} (w:TW) (hl:w.2.2.2.2.2.1.length<=549755813888) (hT:(packets w).length<=549755813888) (hc:w.2.2.2.2.2.2.2.1.length<=8) (hk:3200000000000<=k):
    Fsl33Packets k w=some (areCts w&&((((packets w).length:Int)==sumI w.2.2.2.2.2.2.2.1)&&onceAll w (sumI w.2.2.2.2.2.2.2.1).toNat)):=by
  obtain ⟨k,rfl⟩:=pred (d:=0) (show 1<=k by omega)
  have hT':w.2.2.2.2.2.2.2.2.2.2.2.2.1.length+w.2.2.2.2.2.1.flatten.length<=549755813888:=by simpa [packets] using hT
  have hTe:(packets w).length=w.2.2.2.2.2.2.2.2.2.2.2.2.1.length+w.2.2.2.2.2.1.flatten.length:=by simp [packets]
  have h2:∀(a b c d:Int) (n:Nat),n<=90000->a=(n:Int)->Lsl33Packets_2 k (fun v2 p5=>some false) (fun v2=>some true) (a,b,c,d,w) k 0=some (onceAll w n):=fun a b c d n hn ha=>by
    subst ha;refine (up_inv0 (L:=Lsl33Packets_2 k (fun v2 p5=>some false) (fun v2=>some true) ((n:Int),b,c,d,w)) (len:=n) (fun (_:Unit) i=>i) (fun _ i=>some ((List.range' i (n-i)).all fun i=>((places w (i:Int):Nat):Int)==1)) (fun _ _=>True) (by omega) (fun m i s hI hi h0 ht hw ih=> ?_) (by omega) () trivial).trans (by rfl)
    rcases Nat.lt_or_ge i n with hlt | hge
    · show (if decide ((i:Int)<(n:Int))=true then (FsPacketPlaces k w (i:Int)).bind (fun p5=>if (p5 !=1)=true then some false else Lsl33Packets_2 k (fun v2 p5=>some false) (fun v2=>some true) ((n:Int),b,c,d,w) m (IntKind.i64.wrap ((i:Int)+1))) else _)=_
      rw [dY (by simp;omega),bs (fsPacketPlaces w _ hl hT (by omega)),fne,hw,ih hlt () trivial,show n-i=(n-(i+1))+1 by omega,List.range'_succ,List.all_cons,fsome]
    · show (if decide ((i:Int)<(n:Int))=true then _ else some true)=_
      rw [eY (by simp;omega),show n-i=0 by omega]
      rfl
  have h1:∀(s z:Int),Lsl33Packets_1 k (fun v1=>if (v1.1 !=s)=true then some false else Lsl33Packets_2 k (fun v2 p5=>some false) (fun v2=>some true) (s,z,v1.1,v1.2,w) k 0) (s,z,w) k ((w.2.2.2.2.2.2.2.2.2.2.2.2.1.length:Int),0)=if (((packets w).length:Int)==s)=true then Lsl33Packets_2 k (fun v2 p5=>some false) (fun v2=>some true) (s,z,((packets w).length:Int),(w.2.2.2.2.2.1.length:Int),w) k 0 else some false:=fun s z=>by
    refine (row_inv0 (L:=Lsl33Packets_1 k (fun v1=>if (v1.1 !=s)=true then some false else Lsl33Packets_2 k (fun v2 p5=>some false) (fun v2=>some true) (s,z,v1.1,v1.2,w) k 0) (s,z,w)) (a:=w.2.2.2.2.2.1) (fun (t:Int) i=>(t,i)) (fun t i r=>if ((t+(r.flatten.length:Int))==s)=true then Lsl33Packets_2 k (fun v2 p5=>some false) (fun v2=>some true) (s,z,t+(r.flatten.length:Int),(w.2.2.2.2.2.1.length:Int),w) k 0 else some false) (X:=fun t i=>if (t !=s)=true then some false else Lsl33Packets_2 k (fun v2 p5=>some false) (fun v2=>some true) (s,z,t,i,w) k 0) (fun t i=>0<=t/\t+((w.2.2.2.2.2.1.drop i).flatten.length:Int)<=549755813888) (fun _ _ _=>rfl) (by omega) (fun t _=>by rw [fne];simp) (fun n i t x r hI h0 ht hw hi hx ih=> ?_) (by omega) ((w.2.2.2.2.2.2.2.2.2.2.2.2.1.length:Nat):Int) ⟨by omega,by rw [List.drop_zero];omega⟩).trans ?_
    · obtain ⟨e1,e2⟩:=flat_at hi hx;have hI2:=hI.2;rw [e1,List.length_append] at hI2;dsimp only;rw [hw,wrap_id (by omega) (by omega),ih (t+(x.length:Int)) ⟨by omega,by omega⟩,List.flatten_cons,List.length_append,Int.natCast_add,Int.add_assoc]
    · rw [hTe,Int.natCast_add]
  rw [esl33Packets];refine (row_inv0 (L:=Lsl33Packets_0 k _ _ w) (a:=w.2.2.2.2.2.2.2.1) (fun (s:Int) i=>(s,i)) (fun s i r=>if r.all (fun c=>inR c 0 10000)=true then (if (((packets w).length:Int)==r.foldl (fun s x=>IntKind.i64.wrap (s+x)) s)=true then Lsl33Packets_2 k (fun v2 p5=>some false) (fun v2=>some true) (r.foldl (fun s x=>IntKind.i64.wrap (s+x)) s,(w.2.2.2.2.2.2.2.1.length:Int),((packets w).length:Int),(w.2.2.2.2.2.1.length:Int),w) k 0 else some false) else some false) (X:=fun s i=>Lsl33Packets_1 k (fun v1=>if (v1.1 !=s)=true then some false else Lsl33Packets_2 k (fun v2 p5=>some false) (fun v2=>some true) (s,i,v1.1,v1.2,w) k 0) (s,i,w) k ((w.2.2.2.2.2.2.2.2.2.2.2.2.1.length:Int),0)) (fun _ _=>True) (fun _ _ _=>rfl) (by omega) (fun s _=>by rw [h1];rfl) (fun n i s x r hI h0 ht hw hi hx ih=> ?_) (by omega) 0 trivial).trans ?_
  · have hx':w.2.2.2.2.2.2.2.1[(i:Int).toNat]? =some x:=by rw [ht];exact hx
    dsimp only;rw [fsl1In _ _ _ (by omega),rZ,fnot2,dY h0,ix_some hx',hw,ih _ trivial,List.all_cons,List.foldl_cons]
    cases inR x 0 10000<;>rfl
  · unfold areCts;rw [allIdx_const];cases hA:w.2.2.2.2.2.2.2.1.all (fun c=>inR c 0 10000) with
    | false=>rw [eY (by decide)];rfl
    | true=>
      rw [dY rfl,Bool.true_and];have hs:=sum_range w.2.2.2.2.2.2.2.1 0 (fun c hc=>by
        have:=uZ.1 hA c hc
        unfold inR at this;simp only [sZ,pZ] at this;exact this) (by omega) (by omega)
      have he:sumI w.2.2.2.2.2.2.2.1=((sumI w.2.2.2.2.2.2.2.1).toNat:Int):=by unfold sumI;omega
      show (if (((packets w).length:Int)==sumI w.2.2.2.2.2.2.2.1)=true then Lsl33Packets_2 k (fun v2 p5=>some false) (fun v2=>some true) (sumI w.2.2.2.2.2.2.2.1,(w.2.2.2.2.2.2.2.1.length:Int),((packets w).length:Int),(w.2.2.2.2.2.1.length:Int),w) k 0 else some false)=_
      rw [h2 _ _ _ _ (sumI w.2.2.2.2.2.2.2.1).toNat (by unfold sumI;omega) he,fsome]
def rgI (n:Nat):List Int:=(List.range n).map fun (i:Nat)=>(i:Int)
theorem rgI_len (n:Nat):(rgI n).length=n:=by simp [rgI]
theorem rgI_lt (n:Nat):(rgI n).Pairwise (· < ·):=by
 unfold rgI;rw [List.pairwise_map];exact List.pairwise_lt_range.imp fun h=>by omega
theorem rgI_mem {n:Nat} {x:Int}:x ∈ rgI n↔0<=x/\x<n:=by
 unfold rgI;simp only [List.mem_map,List.mem_range];constructor
 · rintro ⟨i,hi,rfl⟩;omega
 · intro h;exact ⟨x.toNat,by omega,by omega⟩
theorem perm_rg:∀(n:Nat) (l:List Int),l.length=n->(∀i:Nat,i<n->l.count (i:Int)=1)->l.Perm (rgI n)
  | 0,l,h,_=>by
    have:l=[]:=List.eq_nil_of_length_eq_zero h
    subst this;exact List.Perm.nil
  | n+1,l,h,hc=>by
    have hm:(n:Int) ∈ l:=List.count_pos_iff.1 (by rw [hc n (by omega)];omega)
    have h1:=List.perm_cons_erase hm;have h2:=perm_rg n (l.erase (n:Int)) (by rw [List.length_erase_of_mem hm];omega) fun i hi=>by
      rw [List.count_erase_of_ne (by omega)]
      exact hc i (by omega)
    refine h1.trans ((List.Perm.cons _ h2).trans ?_)
    have:rgI (n+1)=rgI n++[(n:Int)]:=by simp [rgI,List.range_succ]
    rw [this];exact (List.perm_append_singleton _ _).symm
theorem cnt1:∀{l:List Int} {a:Int},l.Pairwise (· ≠ ·)->a ∈ l->l.count a=1
  | x::r,a,h,hm=>by
    obtain ⟨h1,h2⟩:=List.pairwise_cons.1 h;rw [List.count_cons];by_cases e:x=a
    · subst e;rw [List.count_eq_zero.2 (fun hx=>h1 x hx rfl)]
      simp
    · rcases zZ.1 hm with hm | hm
      · exact absurd hm.symm e
      · rw [cnt1 h2 hm];simp [e]
theorem whole_eq (l:List Int) (n:Nat) (hn:l.length=n):allIdx (fun i x=>x==(i:Int)) 0 (sortB l)=(List.range' 0 n).all fun i=>decide (l.count (i:Int)=1):=by
 have hp:(sortB l).Perm l:=List.mergeSort_perm l _;have hs:(sortB l).Pairwise (· <= ·):=by
  have:=List.pairwise_mergeSort (le:=fun x y:Int=>decide (x<=y)) (fun a b c h1 h2=>by simp at*;omega) (fun a b=>by simp;omega) l
  exact this.imp fun h=>by simpa using h
 rw [Bool.eq_iff_iff,allIdx_iff,uZ];constructor
 · intro H i hi;have hi':i<n:=by simpa using hi
   have he:sortB l=rgI n:=by
    apply List.ext_getElem
    · rw [rgI_len,hp.length_eq,hn]
    · intro j h1 h2
      have:=H j (sortB l)[j] (dZ h1)
      simp only [Nat.zero_add,beq_iff_eq] at this;rw [this];simp [rgI]
   rw [pZ,<-hp.count_eq,he];exact cnt1 ((rgI_lt n).imp fun h=>by omega) (rgI_mem.2 ⟨by omega,by omega⟩)
 · intro H i x hx;have hq:=perm_rg n l hn fun i hi=>by simpa using H i (by simpa using hi)
   have he:sortB l=rgI n:=List.Perm.eq_of_pairwise (le:=(· <= ·)) (fun a b _ _ h1 h2=>by omega) hs ((rgI_lt n).imp fun h=>by omega) (hp.trans hq)
   rw [he] at hx;unfold rgI at hx;simp only [List.getElem?_map,Option.map_eq_some_iff] at hx
   obtain ⟨j,h1,h2⟩:=hx;have hj:j=i:=by
    have hlt:i<n:=by
     rcases Nat.lt_or_ge i n with h | h
     · exact h
     · rw [List.getElem?_eq_none (by simpa using h)] at h1;cases h1
    rw [dZ (by simpa using hlt)] at h1
    simpa using (xZ h1).symm
   simp only [Nat.zero_add,beq_iff_eq];omega
theorem places_count (w:TW) (id:Int):places w id=(ids w).count id:=by
 unfold places ids packets cntP;rw [List.count_eq_countP,List.countP_map,List.countP_append,Nat.add_comm];rfl
theorem whole_w (w:TW) (hs:((packets w).length:Int)=sumI w.2.2.2.2.2.2.2.1):allIdx (fun i x=>x==(i:Int)) 0 (sortB (ids w))=onceAll w (sumI w.2.2.2.2.2.2.2.1).toNat:=by
 rw [<-hs,whole_eq (ids w) (packets w).length (by simp [ids])]
 unfold onceAll;rw [show (((packets w).length:Int)).toNat=(packets w).length by simp]
 congr 1
 funext i
 rw [places_count];rw [Bool.eq_iff_iff];simp only [pZ,beq_iff_eq];omega
def world0 (w:TW):Bool:=isSky w.1&&(isProgram w.2.1&&(allIdx (lawAt w.2.2.1 w.2.1) 0 w.2.2.1&&((w.2.1.1==nodes w.1)&&((w.2.1.2.1==(w.1.2.1.length:Int))&&((w.2.2.2.1.all (offOk w.2.1)&&((w.2.2.2.1.length:Int)==w.2.1.1))&&(inR w.2.2.2.2.2.2.2.2.2.2.2.1 1 60&&inR w.2.2.2.2.2.2.2.2.2.2.1 0 w.2.2.2.2.2.2.2.2.2.2.2.1))))))
def whole (w:TW):Bool:=(((packets w).length:Int)==sumI w.2.2.2.2.2.2.2.1)&&onceAll w (sumI w.2.2.2.2.2.2.2.1).toNat
def isWorld (w:TW):Bool:=areFts w&&(world0 w&&(decide ((w.2.2.2.2.2.2.2.2.2.1.length:Int)<=12)&&(areBats w&&(areQs w&&(areFls w&&(areCts w&&whole w))))))
theorem fsIsWorld {k N:Nat} (w:TW) (hr:rowsLe N sWorld w) (hN:N<=549755813888) (hT:(packets w).length<=549755813888) (hn: -9223372036854775808<=w.2.1.1/\w.2.1.1<=9223372036854775807) (hk:3300000000000<=k):FsIsWorld k w=some (isWorld w):=by
  obtain ⟨k,rfl⟩:=pred (d:=0) (show 1<=k by omega)
  have l1:w.1.2.1.length<=N:=(rowsLe_row hr.1.2.1).1;have lw:w.2.2.1.length<=N:=(rowsLe_row (e:=0) (sh:= .i .i64) hr.2.2.1).1;have lo:w.2.2.2.1.length<=N:=(rowsLe_row (e:=0) (sh:= .i .i64) hr.2.2.2.1).1;have l5:w.2.2.2.2.1.length<=N:=(rowsLe_row hr.2.2.2.2.1).1;have l6:w.2.2.2.2.2.1.length<=N:=(rowsLe_row hr.2.2.2.2.2.1).1;have lx:w.2.2.2.2.2.2.2.2.2.1.length<=N:=(rowsLe_row (e:=0) (sh:=sI4) hr.2.2.2.2.2.2.2.2.2.1).1
  have e1:=fsIsSky (k:=k) w.1 hr.1 hN (by omega)
  have e2:=fsIsProgram (k:=k) w.2.1 hr.2.1 hN (by omega)
  have e3:=fsIsLaw (k:=k) w.2.2.1 w.2.1 (by omega) (by omega)
  have e4:=fsNodesOf (k:=k) w.1 (by omega)
  have e5:=fsAreOffsets (k:=k) w.2.1 w.2.2.2.1 (by omega) (by omega)
  have e6:=fsl33Batteries (k:=k) w (by omega) (by omega) (by omega)
  have e7:=fsl33Queues (k:=k) w hr hN (by omega)
  have e8:=fsl33Flows (k:=k) w hr hN (by omega)
  have key:(if (areFls w==true)=true then (Fsl33Packets k w).bind fun p13=>some p13 else some false)=some (areFls w&&(areCts w&&whole w)):=by
    cases h:areFls w with
    | false=>rfl
    | true=>
      have h':=h;unfold areFls sameLens at h';simp only [sZ,beq_iff_eq,Bool.not_eq_true',decide_eq_false_iff_not] at h';rw [fsl33Packets (k:=k) w (by omega) hT (by omega) (by omega)]
      rfl
  refine (esIsWorld k w).trans ((all_row (L:=LsIsWorld_0 k _ _ w) (a:=w.2.2.2.2.2.2.2.2.2.1) (fun _ x=>isFault x w.2.1.1) (some (world0 w&&(decide ((w.2.2.2.2.2.2.2.2.2.1.length:Int)<=12)&&(areBats w&&(areQs w&&(areFls w&&(areCts w&&whole w))))))) (fun _ _=>rfl) (by omega) ?_ (fun n i x h0 ht hw hi hx=> ?_) (by omega)).trans fsome)
  · rw [e1,rZ,fnot,e2,rZ,fnot,e3,rZ,fnot,e4,rZ,fnef,fnef,e5,rZ,fnot2,fsl1In _ _ _ (by omega),rZ,feq,fsl1In _ _ _ (by omega),rZ,feq,feq,e6,rZ,feq,e7,rZ,feq,e8,rZ,key]
    simp only [fsome];unfold world0;simp only [Bool.and_assoc]
  · rw [fsIsFault _ _ hn (by omega),rZ,fnot2,hw]
theorem fiIsWorld {k N:Nat} (w:TW) (hr:rowsLe N sWorld w) (hN:N<=549755813888) (hT:(packets w).length<=549755813888) (hk:3300000000000<=k):FiIsWorld k w=some (isWorld w):=by
  obtain ⟨k,rfl⟩:=pred (d:=0) (show 1<=k by omega)
  have l1:w.1.2.1.length<=N:=(rowsLe_row hr.1.2.1).1;have lw:w.2.2.1.length<=N:=(rowsLe_row (e:=0) (sh:= .i .i64) hr.2.2.1).1;have lo:w.2.2.2.1.length<=N:=(rowsLe_row (e:=0) (sh:= .i .i64) hr.2.2.2.1).1;have l5:w.2.2.2.2.1.length<=N:=(rowsLe_row hr.2.2.2.2.1).1;have l6:w.2.2.2.2.2.1.length<=N:=(rowsLe_row hr.2.2.2.2.2.1).1;have lc:w.2.2.2.2.2.2.2.1.length<=N:=(rowsLe_row (e:=0) (sh:= .i .i64) hr.2.2.2.2.2.2.2.1).1
  rw [eiIsWorld,fiIsSky w.1 hr.1 hN (by omega),rZ,feq,fiIsProgram w.2.1 hr.2.1 hN (by omega),rZ,feq,fiIsLaw _ _ (by omega) (by omega),rZ,feq,fiNodesOf _ (by omega),rZ,feq,feq,fiAreOffsets _ _ (by omega) (by omega),rZ,feq,fiInRange _ _ _ (by omega),rZ,feq,fiInRange _ _ _ (by omega),rZ,feq,fiareBatteries w (by omega) (by omega) (by omega),rZ,feq,fiareQueues w hr hN (by omega),rZ,feq,fiareFlows w hr hN (by omega),rZ,feq,fiareWhole w (by omega) hT (by omega) (by omega),rZ]
  simp only [fsome];have hw:(areCts w&&((allIdx (fun i x=>x==(i:Int)) 0 (sortB (ids w))&&(((ids w).length:Int)==sumI w.2.2.2.2.2.2.2.1))))=(areCts w&&whole w):=by
    congr 1
    have hil:(ids w).length=(packets w).length:=by simp [ids]
    unfold whole;rw [hil,Bool.and_comm];by_cases h:((packets w).length:Int)=sumI w.2.2.2.2.2.2.2.1
    · rw [whole_w w h]
    · rw [show (((packets w).length:Int)==sumI w.2.2.2.2.2.2.2.1)=false by simpa using h]
      rfl
  have hd:(!decide ((w.2.2.2.2.2.2.2.2.2.1.length:Int)>12))=decide ((w.2.2.2.2.2.2.2.2.2.1.length:Int)<=12):=by
    rw [Bool.eq_iff_iff];simp only [Bool.not_eq_true',decide_eq_false_iff_not,pZ];omega
  congr 1
  unfold isWorld world0 areFls;rw [hd];generalize (allIdx (fun i x=>x==(i:Int)) 0 (sortB (ids w))&&(((ids w).length:Int)==sumI w.2.2.2.2.2.2.2.1))=W1 at hw ⊢
  generalize whole w=W2 at hw ⊢;generalize areCts w=cc at hw ⊢;generalize areFts w=c1;generalize decide ((w.2.2.2.2.2.2.2.2.2.1.length:Int)<=12)=c2;generalize areBats w=c3;generalize areQs w=c4;generalize sameLens w=c5;generalize allIdx (flAt w) 0 w.2.2.2.2.2.2.1=c6;generalize isSky w.1=d1;generalize isProgram w.2.1=d2;generalize allIdx (lawAt w.2.2.1 w.2.1) 0 w.2.2.1=d3;generalize (w.2.1.1==nodes w.1)=d4
  generalize (w.2.1.2.1==(w.1.2.1.length:Int))=d5;generalize (w.2.2.2.1.all (offOk w.2.1)&&((w.2.2.2.1.length:Int)==w.2.1.1))=d6;generalize inR w.2.2.2.2.2.2.2.2.2.2.2.1 1 60=d7;generalize inR w.2.2.2.2.2.2.2.2.2.2.1 0 w.2.2.2.2.2.2.2.2.2.2.2.1=d8;cases cc with
  | false=>cases c1<;>cases d1<;>cases d2<;>cases d3<;>cases d4<;>cases d5<;>cases d6<;>cases d7<;>cases d8<;>simp
  | true=>
    rw [Bool.true_and,Bool.true_and] at hw;rw [hw];cases c1<;>cases d1<;>cases d2<;>cases d3<;>cases d4<;>cases d5<;>cases d6<;>cases d7<;>cases d8<;>simp
    cases c2<;>cases c3<;>cases c4<;>cases c5<;>cases c6<;>rfl
theorem flat_le:∀(l:List (List TPk)),l.flatten.length<=szT (.l 0 sQueue) l
  | []=>by simp
  | q::r=>by
    have h:=flat_le r;have e:szT (.l 0 sQueue) (q::r)=(q::r).length+(szT (.l 0 sI6) q+sumL (szT sQueue) r):=rfl;have e2:szT (.l 0 sQueue) r=r.length+sumL (szT sQueue) r:=rfl;have e3:szT (.l 0 sI6) q=q.length:=szT_row (e:=0) (sh:=sI6) rfl q;rw [e2] at h;rw [List.flatten_cons,List.length_append];show q.length+r.flatten.length<=(q::r).length+(szT (.l 0 sI6) q+sumL (szT sQueue) r)
    rw [e3,List.length_cons];omega
theorem hs1 {k:Nat} (Y:Option Bool) (nx:List Int) (i:Nat) (hl:nx.length<=549755813888) (hk:2<=k):
    ∀(m n j:Nat) (x:Int),j+m=nx.length->m<n->(0<=x->x.toNat<nx.length->Pth (Ed nx) i x.toNat)->
      (LsHasLoop_1 k (fun (v1:Int×Int) (p2:Bool)=>some true) (fun (v1:Int×Int) (p2:Bool)=>Y) (fun (v1:Int×Int)=>Y) (nx,(i:Int)) n (x,(j:Int))=some true/\Pth (Ed nx) i i)\/
        LsHasLoop_1 k (fun (v1:Int×Int) (p2:Bool)=>some true) (fun (v1:Int×Int) (p2:Bool)=>Y) (fun (v1:Int×Int)=>Y) (nx,(i:Int)) n (x,(j:Int))=Y:=by
  intro m;induction m with
  | zero=>
    intro n j x h hn hp;obtain ⟨n,rfl⟩:∃q,n=q+1:=⟨n-1,by omega⟩
    exact .inr (eY (show ¬((decide ((j:Int)<(nx.length:Int)))==true)=true by simp;omega))
  | succ m ih=>
    intro n j x h hn hp;obtain ⟨n,rfl⟩:∃q,n=q+1:=⟨n-1,by omega⟩
    have c:((decide ((j:Int)<(nx.length:Int)))==true)=true:=by simp;omega
    have hI1:Fsl1In k x 0 (IntKind.i64.wrap ((nx.length:Int)-1))=some (isIdx x (nx.length:Int)):=by rw [fsl1In _ _ _ (by omega),inR_last x (by omega)]
    have e2:IntKind.i64.wrap ((j:Int)+1)=((j+1:Nat):Int):=by rw [wrap_id (by omega) (by omega)];omega
    cases hI:isIdx x (nx.length:Int) with
    | false=>
      rw [hI] at hI1;exact .inr ((dY c).trans ((bs hI1).trans (eY (by decide))))
    | true=>
      rw [hI] at hI1;obtain ⟨x0,x1⟩:=isIdx_pos hI;have hpx:=hp x0 x1;by_cases hd:(x==(i:Int))=true
      · have hxi : x.toNat = i := by have : x = (i : Int) := by simpa using hd
                                     omega
        rw [hxi] at hpx;exact .inl ⟨(dY c).trans ((bs hI1).trans ((dY rfl).trans (dY hd))),hpx⟩
      · have hstep:LsHasLoop_1 k (fun (v1:Int×Int) (p2:Bool)=>some true) (fun (v1:Int×Int) (p2:Bool)=>Y) (fun (v1:Int×Int)=>Y) (nx,(i:Int)) (n+1) (x,(j:Int))=LsHasLoop_1 k (fun (v1:Int×Int) (p2:Bool)=>some true) (fun (v1:Int×Int) (p2:Bool)=>Y) (fun (v1:Int×Int)=>Y) (nx,(i:Int)) n (nx[x.toNat],IntKind.i64.wrap ((j:Int)+1)):=(dY c).trans ((bs hI1).trans ((dY rfl).trans ((eY hd).trans ((dY x0).trans (ix_at x1 (fun x3=>LsHasLoop_1 k (fun (v1:Int×Int) (p2:Bool)=>some true) (fun (v1:Int×Int) (p2:Bool)=>Y) (fun (v1:Int×Int)=>Y) (nx,(i:Int)) n (x3,(IntKind.i64.wrap ((j:Int)+1)))))))))
        rw [e2] at hstep;have hnext:0<=nx[x.toNat]->nx[x.toNat].toNat<nx.length->Pth (Ed nx) i nx[x.toNat].toNat:=fun y0 y1=> .more hpx ⟨by rw [dZ x1];congr 1;omega,y1⟩
        rcases ih n (j+1) nx[x.toNat] (by omega) (by omega) hnext with ⟨r1,r2⟩ | r1
        · exact .inl ⟨Eq.trans hstep r1,r2⟩
        · exact .inr (Eq.trans hstep r1)
theorem fsHasLoop {k:Nat} (nx:List Int) (hl:nx.length<=549755813888) (hk:nx.length+5<=k):∃b,FsHasLoop k nx=some b/\(b=true->∃i,Pth (Ed nx) i i):=by
  obtain ⟨k,rfl⟩:=pred (d:=0) (show 1<=k by omega)
  have key:∀(m n i:Nat),i+m=nx.length->m<n->∃b,LsHasLoop_0 k (fun (v0:Int) (x1:Int) (v1:Int×Int) (p2:Bool)=>some true) (fun (v0:Int)=>some false) nx n (i:Int)=some b/\(b=true->∃i,Pth (Ed nx) i i):=by
    intro m;induction m with
    | zero=>
      intro n i h hn;obtain ⟨n,rfl⟩:∃q,n=q+1:=⟨n-1,by omega⟩
      exact ⟨false,eY (show ¬decide ((i:Int)<(nx.length:Int))=true by simp;omega),fun h=>by cases h⟩
    | succ m ih=>
      intro n i h hn;obtain ⟨n,rfl⟩:∃q,n=q+1:=⟨n-1,by omega⟩
      have hi:i<nx.length:=by omega
      have e2:IntKind.i64.wrap ((i:Int)+1)=((i+1:Nat):Int):=by rw [wrap_id (by omega) (by omega)];omega
      obtain ⟨b,b1,b2⟩:=ih n (i+1) (by omega) (by omega)
      have c:decide ((i:Int)<(nx.length:Int))=true:=by simp;omega
      have h0:(0:Int)<=(i:Int):=by omega
      have hg:nx[i]? =some nx[i]:=dZ hi
      have hstart:0<=nx[i]->nx[i].toNat<nx.length->Pth (Ed nx) i nx[i].toNat:=fun y0 y1=> .one ⟨by rw [hg];congr 1;omega,y1⟩
      have e:LsHasLoop_0 k (fun (v0:Int) (x1:Int) (v1:Int×Int) (p2:Bool)=>some true) (fun (v0:Int)=>some false) nx (n+1) (i:Int)=LsHasLoop_1 k (fun (v1:Int×Int) (p2:Bool)=>some true) (fun (v1:Int×Int) (p2:Bool)=>LsHasLoop_0 k (fun (v0:Int) (x1:Int) (v1:Int×Int) (p2:Bool)=>some true) (fun (v0:Int)=>some false) nx n (IntKind.i64.wrap ((i:Int)+1))) (fun (v1:Int×Int)=>LsHasLoop_0 k (fun (v0:Int) (x1:Int) (v1:Int×Int) (p2:Bool)=>some true) (fun (v0:Int)=>some false) nx n (IntKind.i64.wrap ((i:Int)+1))) (nx,(i:Int)) k (nx[i],0):=(dY c).trans ((dY h0).trans (ix_some (n:=i) hg (fun x1=>LsHasLoop_1 k (fun (v1:Int×Int) (p2:Bool)=>some true) (fun (v1:Int×Int) (p2:Bool)=>LsHasLoop_0 k (fun (v0:Int) (x1:Int) (v1:Int×Int) (p2:Bool)=>some true) (fun (v0:Int)=>some false) nx n (IntKind.i64.wrap ((i:Int)+1))) (fun (v1:Int×Int)=>LsHasLoop_0 k (fun (v0:Int) (x1:Int) (v1:Int×Int) (p2:Bool)=>some true) (fun (v0:Int)=>some false) nx n (IntKind.i64.wrap ((i:Int)+1))) (nx,(i:Int)) k (x1,0))))
      rcases hs1 (k:=k) (LsHasLoop_0 k (fun (v0:Int) (x1:Int) (v1:Int×Int) (p2:Bool)=>some true) (fun (v0:Int)=>some false) nx n (IntKind.i64.wrap ((i:Int)+1))) nx i hl (by omega) nx.length k 0 nx[i] (by omega) (by omega) hstart with ⟨r1,r2⟩ | r1
      · exact ⟨true,Eq.trans e r1,fun _=>⟨i,r2⟩⟩
      · refine ⟨b,Eq.trans e (r1.trans ?_),b2⟩
        rw [e2];exact b1
  obtain ⟨b,b1,b2⟩:=key nx.length k 0 (by omega) (by omega)
  exact ⟨b,(esHasLoop k nx).trans b1,b2⟩
def mixAt (p:TProgram) (t:Int):List Int:=pcs (t-2*p.2.2.1) (t+2*p.2.2.1) 0 p.2.2.2
structure Hop (p:TProgram) (x d t h:Int) (Q:Prop):Prop where
 s0:0<=p.2.2.1
 s5:p.2.2.1<=5
 t0:0<=t
 t1:t<=1000
 q:Q
 row:0<=x/\∃u:TT,tbl p (pieceAt p t) d=some u/\u.2.2[x.toNat]? =some h
def QS (p:TProgram) (d t:Int):Prop:=∀i,¬Pth (Un (mixS p d (mixAt p t))) i i
def QI (p:TProgram) (d t:Int):Prop:=∀R i,Closed (mixI p d (mixAt p t)) R->¬R i
theorem mixAt_eq {p:TProgram} {t:Int} (s0:0<=p.2.2.1) (s5:p.2.2.1<=5) (t0:0<=t) (t1:t<=1000):
 IntKind.i64.wrap (t-IntKind.i64.wrap (2*p.2.2.1))=t-2*p.2.2.1/\IntKind.i64.wrap (t+IntKind.i64.wrap (2*p.2.2.1))=t+2*p.2.2.1:=by
 have h0:IntKind.i64.wrap (2*p.2.2.1)=2*p.2.2.1:=wrap_id (by omega) (by omega)
 rw [h0];exact ⟨wrap_id (by omega) (by omega),wrap_id (by omega) (by omega)⟩
theorem fsNextB0 {k N:Nat} (p:TProgram) (x d t:Int) (hr:rowsLe N sProgram p) (hN:N<=549755813888) (hk:N+40<=k):
    ∃h,Fsl19Next k p x d t=some h/\(0<=h->0<=x/\∃u:TT,tbl p (pieceAt p t) d=some u/\u.2.2[x.toNat]? =some h):=by
  obtain ⟨k,rfl⟩:=pred (d:=0) (show 1<=k by omega)
  have h1:p.2.2.2.length<=N:=(rowsLe_row hr.2.2.2).1;obtain ⟨t1,_,t3⟩:=fTableIn (k:=k) p (pieceAt p t) d hr hN (by omega)
  have e0:=(esl19Next k p x d t).trans ((bs (fsPieceAt p t (by omega) (by omega))).trans (bs t1))
  cases hq:tbl p (pieceAt p t) d with
  | none=>
    rw [tblR_none hq] at e0;exact ⟨-1,e0,fun h=>by omega⟩
  | some u=>
    rw [tblR_some hq] at e0 t3;have e1:=e0.trans ((dY rfl).trans (bs (fsl1In _ _ _ (by omega))))
    dsimp only at e1 t3;rw [inR_last x (by omega)] at e1
    cases hI:isIdx x (u.2.2.length:Int) with
    | false=>
      rw [hI] at e1;exact ⟨-1,e1.trans (dY rfl),fun h=>by omega⟩
    | true=>
      rw [hI] at e1;obtain ⟨x0,x1⟩:=isIdx_pos hI;exact ⟨_,e1.trans ((eY (by decide)).trans ((dY x0).trans ((dY (by omega)).trans (ix_at x1 _)))),fun h=>⟨x0,u,rfl,dZ x1⟩⟩
theorem fiNextB0 {k N:Nat} (p:TProgram) (x d t:Int) (hr:rowsLe N sProgram p) (hN:N<=549755813888) (hk:N+40<=k):
    ∃h,FinextIn k p (pieceAt p t) d x=some h/\(0<=h.1->0<=x/\∃u:TT,tbl p (pieceAt p t) d=some u/\u.2.2[x.toNat]? =some h.1):=by
  obtain ⟨k,rfl⟩:=pred (d:=0) (show 1<=k by omega)
  have h1:p.2.2.2.length<=N:=(rowsLe_row hr.2.2.2).1;obtain ⟨_,t1,t3⟩:=fTableIn (k:=k) p (pieceAt p t) d hr hN (by omega)
  have e0:=(einextIn k p (pieceAt p t) d x).trans (bs t1);cases hq:tbl p (pieceAt p t) d with
  | none=>
    rw [tblR_none hq] at e0;exact ⟨(-1,false),e0,fun h=>by dsimp only at h;omega⟩
  | some u=>
    rw [tblR_some hq] at e0 t3;have e1:=e0.trans ((dY rfl).trans (bs (fiisIndex _ _ (by omega))))
    dsimp only at e1 t3;cases hI:isIdx x (u.2.2.length:Int) with
    | false=>
      rw [hI] at e1;exact ⟨(-1,false),e1.trans (dY rfl),fun h=>by dsimp only at h;omega⟩
    | true=>
      rw [hI] at e1;obtain ⟨x0,x1⟩:=isIdx_pos hI;exact ⟨_,e1.trans ((eY (by decide)).trans ((dY x0).trans ((dY (by omega)).trans (ix_at x1 _)))),fun h=>⟨x0,u,rfl,dZ x1⟩⟩
theorem fsHopAt {k N:Nat} (p:TProgram) (x d t:Int) (hr:rowsLe N sProgram p) (hN:N<=549755813888) (hk:N+50<=k):
    ∃h,FsHopAt k p x d t=some h/\(0<=h->Hop p x d t h (QS p d t)):=by
  obtain ⟨k,rfl⟩:=pred (d:=0) (show 1<=k by omega)
  have e0:=(esHopAt k p x d t).trans (bs (fsl1In _ _ _ (by omega)))
  cases h1:inR p.2.2.1 0 5 with
  | false=>
    rw [h1] at e0;exact ⟨-1,e0,fun h=>by omega⟩
  | true=>
    rw [h1] at e0;have e1:=e0.trans ((dY (by decide)).trans (bs (fsl1In _ _ _ (by omega))))
    cases h2:inR t 0 1000 with
    | false=>
      rw [h2] at e1;exact ⟨-1,e1,fun h=>by omega⟩
    | true=>
      rw [h2] at e1;obtain ⟨s0,s5⟩:=inR_true h1;obtain ⟨t0,t1⟩:=inR_true h2;obtain ⟨m1,m2⟩:=mixAt_eq s0 s5 t0 t1;rw [m1,m2] at e1;obtain ⟨c,c1,c2⟩:=fsSafe (k:=k) p d (t-2*p.2.2.1) (t+2*p.2.2.1) hr hN (by omega)
      have e2:=e1.trans ((dY (by decide)).trans (bs c1))
      cases c with
      | false=>exact ⟨-1,e2,fun h=>by omega⟩
      | true=>
        obtain ⟨h,g1,g2⟩:=fsNextB0 (k:=k) p x d t hr hN (by omega)
        exact ⟨h,e2.trans ((eY (by decide)).trans ((bs g1).trans rfl)),fun hh=>⟨s0,s5,t0,t1,c2.1 rfl,g2 hh⟩⟩
theorem fiHopAt {k N:Nat} (p:TProgram) (x d t:Int) (hr:rowsLe N sProgram p) (hN:N<=549755813888) (hk:2*N+50<=k):
    ∃h,FiHopAt k p x d t=some h/\(0<=h->Hop p x d t h (QI p d t)):=by
  obtain ⟨k,rfl⟩:=pred (d:=0) (show 1<=k by omega)
  have h1:p.2.2.2.length<=N:=(rowsLe_row hr.2.2.2).1;obtain ⟨h,g1,g2⟩:=fiNextB0 (k:=k) p x d t hr hN (by omega)
  have e0:=(eiHopAt k p x d t).trans ((bs (fiPieceAt p t (by omega) (by omega))).trans (bs g1))
  cases hh:h.2 with
  | false=>
    rw [hh] at e0;exact ⟨-1,e0,fun h=>by omega⟩
  | true=>
    rw [hh] at e0;have e1:=e0.trans ((dY (by decide)).trans (bs (fiisSkewed p t (by omega))))
    cases h1:inR p.2.2.1 0 5 with
    | false=>
      rw [h1] at e1;exact ⟨-1,e1,fun h=>by omega⟩
    | true=>
      cases h2:inR t 0 1000 with
      | false=>
        rw [h1,h2] at e1;exact ⟨-1,e1,fun h=>by omega⟩
      | true=>
        rw [h1,h2] at e1;obtain ⟨s0,s5⟩:=inR_true h1;obtain ⟨t0,t1⟩:=inR_true h2;obtain ⟨m1,m2⟩:=mixAt_eq s0 s5 t0 t1;rw [m1,m2] at e1;obtain ⟨c,c1,c2⟩:=fiSafe (k:=k) p d (t-2*p.2.2.1) (t+2*p.2.2.1) hr hN (by omega)
        have e2:=e1.trans ((dY (by decide)).trans (bs c1))
        cases c with
        | false=>exact ⟨-1,e2,fun h=>by omega⟩
        | true=>exact ⟨h.1,e2.trans (eY (by decide)),fun hh=>⟨s0,s5,t0,t1,c2.1 rfl,g2 hh⟩⟩
/-- Where each node stands, and where it leads. -/
structure Nexts (p:TProgram) (d t:Int) (offs nx:List Int) (Q:Int->Prop):Prop where
 len:nx.length=offs.length
 hop:∀(i:Nat) (h:Int),nx[i]? =some h->0<=h->∃o:Int,-p.2.2.1<=o/\o<=p.2.2.1/\Hop p (i:Int) d (t+o) h (Q (t+o))
theorem findFrom_hit {α:Type} (f:α->Bool):∀(l:List α) (i:Nat),findFrom f i l= -1\/∃j x,findFrom f i l=((i+j:Nat):Int)/\l[j]? =some x/\f x=true
  | [],i=>Or.inl rfl
  | y::r,i=>by
    by_cases h:f y=true
    · exact Or.inr ⟨0,y,by rw [findFrom,dY h];rfl,rfl,h⟩
    · rcases findFrom_hit f r (i+1) with h1 | ⟨j,x,h1,h2,h3⟩
      · exact Or.inl (by rw [findFrom,eY h,h1])
      · exact Or.inr ⟨j+1,x,by rw [findFrom,eY h,h1];congr 1;omega,by simpa using h2,h3⟩
/-- A piece in force at a moment is in the mix of all near moments. -/
theorem near {p:TProgram} {d t t':Int} {u:TT} (s0:0<=p.2.2.1) (h:tbl p (pieceAt p t) d=some u) (h1:t'-2*p.2.2.1<=t) (h2:t<=t'+2*p.2.2.1):pieceAt p t ∈ mixAt p t':=by
 unfold pieceAt at h ⊢;rcases findFrom_hit (fun x:TPiece=>inSpan x.1 t) p.2.2.2 0 with hm | ⟨j,x,hj,hx,hs⟩
 · rw [hm] at h;unfold tbl isIdx at h;simp at h
 · rw [hj];refine pcs_mem _ _ p.2.2.2 0 j x hx ?_
   unfold inSpan at hs;unfold inPc;simp only [sZ,pZ] at hs ⊢;exact ⟨hs.1,by omega,by omega,by omega⟩
theorem Pth.out {E:Nat->Nat->Prop} {a b:Nat} (h:Pth E a b):∃c,E a c:=by
 induction h with
 | one h=>exact ⟨_,h⟩
 | more _ _ ih=>exact ih
theorem noLoopS {p:TProgram} {d t:Int} {offs nx:List Int} (h:Nexts p d t offs nx (QS p d)) (i:Nat):¬Pth (Ed nx) i i:=by
 intro hp;obtain ⟨y,hy,hyl⟩:=hp.out;obtain ⟨o,o1,o2,H⟩:=h.hop i _ hy (by omega)
 have key:∀a b,Pth (Ed nx) a b->(∃c,Ed nx b c)->Pth (Un (mixS p d (mixAt p (t+o)))) a b:=by
  have edge:∀a b,Ed nx a b->(∃c,Ed nx b c)->Un (mixS p d (mixAt p (t+o))) a b:=by
   rintro a b ⟨e1,e2⟩ ⟨c,e3,e4⟩
   obtain ⟨q,q1,q2,K⟩:=h.hop a _ e1 (by omega)
   obtain ⟨q',q1',q2',K'⟩:=h.hop b _ e3 (by omega)
   obtain ⟨_,u,hu,ha⟩:=K.row;obtain ⟨_,u',hu',hb⟩:=K'.row;have m:=near (t':=t+o) K.s0 hu (by omega) (by omega)
   have m':=near (t':=t+o) K.s0 hu' (by omega) (by omega)
   have r:u.2.2 ∈ mixS p d (mixAt p (t+o)):=List.mem_filterMap.2 ⟨_,m,by rw [hu];rfl⟩
   have r':u'.2.2 ∈ mixS p d (mixAt p (t+o)):=List.mem_filterMap.2 ⟨_,m',by rw [hu'];rfl⟩
   refine ⟨⟨_,r,by simpa using ha⟩,?_⟩
   have l1:=(List.getElem?_eq_some_iff.1 hb).1
   have l2:=(mxl_ge (mixS p d (mixAt p (t+o))) 0).2 _ r';unfold mxl;simp only [Int.toNat_natCast] at l1;omega
  intro a b hab;induction hab with
  | one e=>exact fun hc=> .one (edge _ _ e hc)
  | more h1 e ih=>exact fun hc=> .more (ih ⟨_,e⟩) (edge _ _ e hc)
 exact H.q i (key i i hp ⟨y,hy,hyl⟩)
theorem noLoopI {p:TProgram} {d t:Int} {offs nx:List Int} (h:Nexts p d t offs nx (QI p d)) (R:Nat->Prop) (i:Nat) (hR:Closed [nx] R):¬R i:=by
 intro hi;have step:∀x,R x->∃y:Nat,nx[x]? =some (y:Int)/\R y:=fun x hx=>by
  obtain ⟨row,hrow,y,h1,h2⟩:=hR x hx
  obtain rfl:row=nx:=by simpa using hrow
  exact ⟨y,h1,h2⟩
 obtain ⟨y,hy,_⟩:=step i hi;obtain ⟨o,o1,o2,H⟩:=h.hop i _ hy (by omega)
 refine H.q R i (fun x hx=> ?_) hi
 obtain ⟨z,hz,hzR⟩:=step x hx;obtain ⟨q,q1,q2,K⟩:=h.hop x _ hz (by omega)
 obtain ⟨_,u,hu,ha⟩:=K.row;have m:=near (t':=t+o) K.s0 hu (by omega) (by omega)
 exact ⟨u.2.2,List.mem_map.2 ⟨_,m,by rw [tblR_some hu]⟩,z,by simpa using ha,hzR⟩
theorem Nexts.nil (p:TProgram) (d t:Int) (Q:Int->Prop) (offs:List Int) (h:offs=[]):Nexts p d t offs [] Q:=by
 subst h;exact ⟨rfl,fun i h hx=>by simp at hx⟩
/-- What the loop over the offsets has laid so far. -/
structure Part (p:TProgram) (d t:Int) (nx:List Int) (Q:Int->Prop):Prop where
 hop:∀(i:Nat) (h:Int),nx[i]? =some h->0<=h->∃o:Int,-p.2.2.1<=o/\o<=p.2.2.1/\Hop p (i:Int) d (t+o) h (Q (t+o))
theorem Part.snoc {p:TProgram} {d t:Int} {nx:List Int} {Q:Int->Prop} (H:Part p d t nx Q) {h o:Int} (h1: -p.2.2.1<=o) (h2:o<=p.2.2.1) (hh:0<=h->Hop p (nx.length:Int) d (t+o) h (Q (t+o))):Part p d t (nx++[h]) Q:=by
  refine ⟨fun i y hy h0=> ?_⟩
  rcases Nat.lt_or_ge i nx.length with hi | hi
  · rw [List.getElem?_append_left hi] at hy
    exact H.hop i y hy h0
  · rw [List.getElem?_append_right hi] at hy
    cases hj:i-nx.length with
    | zero=>
      rw [hj] at hy;simp only [List.getElem?_cons_zero,nZ] at hy
      subst hy
      obtain rfl:i=nx.length:=by omega
      exact ⟨o,h1,h2,hh h0⟩
    | succ j=>
      rw [hj] at hy;simp at hy
theorem fsNextsAt {k N:Nat} (p:TProgram) (d t:Int) (l:List Int) (hr:rowsLe N sProgram p) (hl:l.length<=N) (hN:N<=549755813888) (hk:N+60<=k):
    ∃nx,FsNextsAt k p d t l=some nx/\nx.length<=N/\Part p d t nx (QS p d):=by
  obtain ⟨k,rfl⟩:=pred (d:=0) (show 1<=k by omega)
  have hnil:Part p d t [] (QS p d):=⟨fun i h hx=>by simp at hx⟩
  have e0:=(esNextsAt k p d t l).trans (bs (fsAreOffsets p l (by omega) (by omega)))
  cases ho:(l.all (offOk p)&&((l.length:Int)==p.1)) with
  | false=>
    rw [ho] at e0;exact ⟨[],e0,by simp,hnil⟩
  | true=>
    rw [ho] at e0;have hoff:∀x ∈ l,offOk p x=true:=uZ.1 (sZ _ _▸ho).1;have e1:=e0.trans ((dY rfl).trans (bs (fsl1In _ _ _ (by omega))))
    cases h2:inR t 0 1000 with
    | false=>
      rw [h2] at e1;exact ⟨[],e1,by simp,hnil⟩
    | true=>
      rw [h2] at e1;obtain ⟨t0,t1⟩:=inR_true h2;have main:∀(m n i:Nat) (s:List Int),i+m=l.length->m<n->s.length=i->Part p d t s (QS p d)->∃nx,LsNextsAt_0 k (fun (v0:Int×(List Int))=>some v0.2) (d,t,l,p) n ((i:Int),s)=some nx/\nx.length<=N/\Part p d t nx (QS p d):=by
        intro m;induction m with
        | zero=>
          intro n i s hi hn hs hP;obtain ⟨n,rfl⟩:=pred (d:=0) (show 1<=n by omega)
          exact ⟨s,eY (by simp;omega),by omega,hP⟩
        | succ m ih=>
          intro n i s hi hn hs hP;obtain ⟨n,rfl⟩:=pred (d:=0) (show 1<=n by omega)
          have hil:i<l.length:=by omega
          have hx:=hoff _ (tZ hil);unfold offOk at hx;rw [sZ] at hx;obtain ⟨o1,o2⟩:=inR_true hx.2;obtain ⟨s0,s5⟩:=inR_true hx.1;have hw:IntKind.i64.wrap (t+l[i])=t+l[i]:=wrap_id (by omega) (by omega)
          have hw1:IntKind.i64.wrap ((i:Int)+1)=((i+1:Nat):Int):=wrap_succ hil (by omega)
          obtain ⟨h,g1,g2⟩:=fsHopAt (k:=k) p (i:Int) d (t+l[i]) hr hN (by omega)
          obtain ⟨nx,n1,n2⟩:=ih n (i+1) (s++[h]) (by omega) (by omega) (by simp;omega) (hP.snoc o1 o2 (by rw [hs];exact g2))
          refine ⟨nx,?_,n2⟩
          refine (dY (show decide ((i:Int)<(l.length:Int))=true by simp;omega)).trans ((dY (by omega)).trans ((ix_at (show ((i:Int)).toNat<l.length by simpa using hil) _).trans ?_))
          dsimp only [Int.toNat_natCast];rw [hw,g1,rZ,dY (by simp;omega),hw1]
          exact n1
      obtain ⟨nx,n1,n2⟩:=main l.length k 0 [] (by omega) (by omega) rfl hnil
      exact ⟨nx,e1.trans ((eY (by decide)).trans n1),n2⟩
theorem fiisMoment {k:Nat} (p:TProgram) (t:Int) (l:List Int) (hl:l.length<=549755813888) (hk:l.length+4<=k):FiisMoment k p t l=some ((l.all (offOk p)&&((l.length:Int)==p.1))&&inR t 0 1000):=by
 obtain ⟨k,rfl⟩:=pred (d:=0) (show 1<=k by omega)
 rw [eiisMoment,fiAreOffsets p l hl (by omega),rZ]
 cases (l.all (offOk p)&&((l.length:Int)==p.1))
 · rfl
 · rw [dY (by decide),fiInRange _ _ _ (by omega)]
   rfl
theorem fiNextsAt {k N:Nat} (p:TProgram) (d t:Int) (l:List Int) (hr:rowsLe N sProgram p) (hl:l.length<=N) (hN:N<=549755813888) (hk:2*N+60<=k):
    ∃nx,FiNextsAt k p d t l=some nx/\nx.length<=N/\Part p d t nx (QI p d):=by
  obtain ⟨k,rfl⟩:=pred (d:=0) (show 1<=k by omega)
  have hnil:Part p d t [] (QI p d):=⟨fun i h hx=>by simp at hx⟩
  have e1:=(eiNextsAt k p d t l).trans (bs (fiisMoment p t l (by omega) (by omega)))
  cases ho:((l.all (offOk p)&&((l.length:Int)==p.1))&&inR t 0 1000) with
  | false=>
    rw [ho] at e1;exact ⟨[],e1,by simp,hnil⟩
  | true=>
    rw [ho] at e1;rw [sZ,sZ] at ho;have hoff:∀x ∈ l,offOk p x=true:=uZ.1 ho.1.1;obtain ⟨t0,t1⟩:=inR_true ho.2;have main:∀(m n i:Nat) (s:List Int),i+m=l.length->m<n->s.length=i->Part p d t s (QI p d)->∃nx,LiNextsAt_0 k (fun (v0:Int×(List Int))=>some v0.2) (d,t,l,(l.length:Int),p) n ((i:Int),s)=some nx/\nx.length<=N/\Part p d t nx (QI p d):=by
      intro m;induction m with
      | zero=>
        intro n i s hi hn hs hP;obtain ⟨n,rfl⟩:=pred (d:=0) (show 1<=n by omega)
        exact ⟨s,eY (by simp;omega),by omega,hP⟩
      | succ m ih=>
        intro n i s hi hn hs hP;obtain ⟨n,rfl⟩:=pred (d:=0) (show 1<=n by omega)
        have hil:i<l.length:=by omega
        have hx:=hoff _ (tZ hil);unfold offOk at hx;rw [sZ] at hx;obtain ⟨o1,o2⟩:=inR_true hx.2;obtain ⟨s0,s5⟩:=inR_true hx.1;have hw:IntKind.i64.wrap (t+l[i])=t+l[i]:=wrap_id (by omega) (by omega)
        have hw1:IntKind.i64.wrap ((i:Int)+1)=((i+1:Nat):Int):=wrap_succ hil (by omega)
        obtain ⟨h,g1,g2⟩:=fiHopAt (k:=k) p (i:Int) d (t+l[i]) hr hN (by omega)
        obtain ⟨nx,n1,n2⟩:=ih n (i+1) (s++[h]) (by omega) (by omega) (by simp;omega) (hP.snoc o1 o2 (by rw [hs];exact g2))
        refine ⟨nx,?_,n2⟩
        refine (dY (show decide ((i:Int)<(l.length:Int))=true by simp;omega)).trans ((dY (by omega)).trans ((ix_at (show ((i:Int)).toNat<l.length by simpa using hil) _).trans ?_))
        dsimp only [Int.toNat_natCast];rw [hw,g1,rZ,dY (by simp;omega),hw1]
        exact n1
    obtain ⟨nx,n1,n2⟩:=main l.length k 0 [] (by omega) (by omega) rfl hnil
    exact ⟨nx,e1.trans ((eY (by decide)).trans n1),n2⟩
theorem fsAny {k N:Nat} (p:TProgram) (t:Int) (l:List Int) (hr:rowsLe N sProgram p) (hl:l.length<=N) (hN:N<=549755813888) (hk:N+90<=k):FsAnyLoopAt k p t l=some false:=by
  obtain ⟨k,rfl⟩:=pred (d:=0) (show 1<=k by omega)
  refine (esAnyLoopAt k p t l).trans (up_loop0 (len:=(mn p.1 12).toNat) (fun _=>some false) (by unfold mn;split<;>omega) (fun n i hle h0 ht hw ih=> ?_) (by unfold mn;split<;>omega))
  refine (bs (fsMin p.1 12 (by omega))).trans ?_
  by_cases hi:(i:Int)<mn p.1 12
  · obtain ⟨nx,n1,n2,n3⟩:=fsNextsAt (k:=k) p (i:Int) t l hr hl hN (by omega)
    obtain ⟨b,b1,b2⟩:=fsHasLoop (k:=k) nx (by omega) (by omega)
    have hb:b=false:=by
      cases b with
      | false=>rfl
      | true=>
        obtain ⟨j,hj⟩:=b2 rfl;exact absurd hj (noLoopS (offs:=nx) ⟨rfl,n3.hop⟩ j)
    rw [hb] at b1;refine (dY (by simpa using hi)).trans ((bs n1).trans ((bs b1).trans ((eY (by decide)).trans ?_)))
    rw [hw];exact ih (by omega)
  · exact eY (by simpa using hi)
theorem fiHas {k N:Nat} (nx:List Int) (hl:nx.length<=N) (hN:N<=549755813888) (h1:1<=N) (hk:2*N+30<=k) (h:∀R i,Closed [nx] R->¬R i):FiHasLoop k nx=some false:=by
  obtain ⟨k,rfl⟩:=pred (d:=0) (show 1<=k by omega)
  obtain ⟨b,b1,b2,_⟩:=fiUnion (k:=k) [nx] (N:=N) (by simpa using h1) (by simpa using hl) hN (by omega)
  refine (eiHasLoop k nx).trans ((bs b1).trans ?_)
  cases b with
  | false=>rfl
  | true=>
    obtain ⟨R,i,hR,hi⟩:=b2 rfl;exact absurd hi (h R i hR)
theorem fiAny {k N:Nat} (p:TProgram) (t:Int) (l:List Int) (hr:rowsLe N sProgram p) (hl:l.length<=N) (hN:N<=549755813888) (hN1:1<=N) (hk:2*N+100<=k):FiAnyLoopAt k p t l=some false:=by
 obtain ⟨k,rfl⟩:=pred (d:=0) (show 1<=k by omega)
 refine (eiAnyLoopAt k p t l).trans (up_loop0 (len:=l.length) (fun _=>some false) (by omega) (fun n i hle h0 ht hw ih=> ?_) (by omega))
 by_cases hi:(i:Int)<(l.length:Int)
 · obtain ⟨nx,n1,n2,n3⟩:=fiNextsAt (k:=k) p (i:Int) t l hr hl (by omega) (by omega)
   have b1:=fiHas (k:=k) (N:=N) nx (by omega) (by omega) (by omega) (by omega) (noLoopI (offs:=nx) ⟨rfl,n3.hop⟩)
   refine (dY (by simpa using hi)).trans ((bs n1).trans ((bs b1).trans ((eY (by decide)).trans ?_)))
   rw [hw];exact ih (by omega)
 · exact eY (by simpa using hi)
theorem fsFree {k N:Nat} (w:TWorld) (hr:rowsLe N sProgram w.2.1) (hl:w.2.2.2.1.length<=N) (hN:N<=549755813888) (hk:N+2000<=k):FsIsLoopFree k w=some true:=by
 obtain ⟨k,rfl⟩:=pred (d:=0) (show 1<=k by omega)
 refine (esIsLoopFree k w).trans (up_loop0 (len:=(mn w.2.2.2.2.2.2.2.2.2.2.2.1 1000).toNat) (fun _=>some true) (by unfold mn;split<;>omega) (fun n i hle h0 ht hw ih=> ?_) (by unfold mn;split<;>omega))
 refine (bs (fsMin _ 1000 (by omega))).trans ?_
 by_cases hi:(i:Int)<mn w.2.2.2.2.2.2.2.2.2.2.2.1 1000
 · refine (dY (by simpa using hi)).trans ((bs (fsAny w.2.1 (i:Int) w.2.2.2.1 hr hl hN (by omega))).trans ((eY (by decide)).trans ?_))
   rw [hw];exact ih (by omega)
 · exact eY (by simpa using hi)
theorem fiFree {k N:Nat} (w:TWorld) (hr:rowsLe N sProgram w.2.1) (hl:w.2.2.2.1.length<=N) (hN:N<=549755813888) (hN1:1<=N) (hk:2*N+2000<=k):FiIsLoopFree k w=some true:=by
 obtain ⟨k,rfl⟩:=pred (d:=0) (show 1<=k by omega)
 refine (eiIsLoopFree k w).trans (up_loop0 (len:=(mn w.2.2.2.2.2.2.2.2.2.2.2.1 1001).toNat) (fun _=>some true) (by unfold mn;split<;>omega) (fun n i hle h0 ht hw ih=> ?_) (by unfold mn;split<;>omega))
 by_cases hi:(i:Int)<mn w.2.2.2.2.2.2.2.2.2.2.2.1 1001
 · refine (dY (by simpa using hi)).trans ((bs (fiAny w.2.1 (i:Int) w.2.2.2.1 hr hl hN hN1 (by omega))).trans ((eY (by decide)).trans ?_))
   rw [hw];exact ih (by omega)
 · exact eY (by simpa using hi)
theorem fsInArc {k:Nat} (x:Int×Int) (a:Int) (hk:4<=k):FsInArc k x a=some (decide (x.2>=0)&&inArc x a):=by
 obtain ⟨k,rfl⟩:=pred (d:=3) hk;rw [esInArc,fsAngleOf _ (by omega),rZ,fsAngleOf _ (by omega),rZ,fsAngleOf _ (by omega),rZ,angle_sub]
 unfold inArc;cases decide (x.2>=0)<;>rfl
theorem fiInArc {k:Nat} (x:Int×Int) (a:Int) (hk:4<=k):FiInArc k x a=some (inArc x a):=by
 obtain ⟨k,rfl⟩:=pred (d:=3) hk;rw [eiInArc,fiAngleOf _ (by omega),rZ,fiAngleOf _ (by omega),rZ,fiAngleOf _ (by omega),rZ,angle_sub]
 rfl
def meet (x y:Int×Int):Bool:=decide (x.2>=0)&&(decide (y.2>=0)&&(inArc x y.1 || inArc y x.1))
theorem fsArcsMeet {k:Nat} (x y:Int×Int) (hk:5<=k):FsArcsMeet k x y=some (meet x y):=by
 obtain ⟨k,rfl⟩:=pred (d:=4) hk;rw [esArcsMeet,fsInArc _ _ (by omega),rZ,fsInArc _ _ (by omega),rZ]
 unfold meet;cases decide (x.2>=0)
 · rfl
 · cases decide (y.2>=0)
   · rfl
   · cases inArc x y.1<;>rfl
/-- Is there an angle from i on, in both? -/
def meetFrom (x y:Int×Int) (i:Nat):Bool:=(List.range' i (360-i)).any fun (a:Nat)=>inArc x (a:Int)&&inArc y (a:Int)
theorem meet_iff (x y:Int×Int):meetFrom x y 0=meet x y:=by
 rw [Bool.eq_iff_iff];unfold meetFrom meet inArc;simp only [List.any_eq_true,List.mem_range',sZ,pZ,Bool.or_eq_true];unfold angle;constructor
 · rintro ⟨a,⟨i,hi,rfl⟩,h1,h2⟩
   omega
 · rintro ⟨h1,h2,h3 | h3⟩
   · exact ⟨(y.1%360).toNat,⟨(y.1%360).toNat,by omega,by omega⟩,by omega,by omega⟩
   · exact ⟨(x.1%360).toNat,⟨(x.1%360).toNat,by omega,by omega⟩,by omega,by omega⟩
theorem fiArcsMeet {k:Nat} (x y:Int×Int) (hk:370<=k):FiArcsMeet k x y=some (meet x y):=by
 obtain ⟨k,rfl⟩:=pred (d:=369) hk;rw [eiArcsMeet,<-meet_iff];refine up_loop0 (len:=360) (fun i=>some (meetFrom x y i)) (by decide) (fun n i hi h0 hn hw ih=> ?_) (by omega)
 show (if decide ((i:Int)<360)=true then (FiInArc k x (i:Int)).bind _ else _)=_
 by_cases hlt:i<360
 · have ih:=ih hlt;have e:meetFrom x y i=((inArc x (i:Int)&&inArc y (i:Int)) || meetFrom x y (i+1)):=by
    unfold meetFrom
    have:360-i=(360-(i+1))+1:=by omega
    rw [this,List.range'_succ,List.any_cons]
   rw [dY (by simp;omega),fiInArc _ _ (by omega),rZ,fiInArc _ _ (by omega),hw,ih,e]
   cases inArc x (i:Int)<;>cases inArc y (i:Int)<;>rfl
 · have e:i=360:=by omega
   subst e;rfl
def planeAt (s:TSky) (n:Int):Int:=match s.2.1[n.toNat]? with
 | some x=>x.1
 | none=>0
def disturbs (s:TSky) (n t:Int):Bool:=isSat s n&&s.2.2.2.2.2.2.2.2.1.any fun z=>z.1==planeAt s n&&meet (satAt s n t) z.2
theorem fsMayDisturb {k:Nat} (s:TSky) (n t:Int) (hl:s.2.1.length<=140737488351232) (hz:s.2.2.2.2.2.2.2.2.1.length<=140737488351232) (hk:s.2.2.2.2.2.2.2.2.1.length+10<=k):FsMayDisturb k s n t=some (disturbs s n t):=by
  obtain ⟨k,rfl⟩:=pred (d:=0) (show 1<=k by omega)
  rw [esMayDisturb,fsl1In _ _ _ (by omega),inR_last _ hl,rZ]
  unfold disturbs;cases h:isSat s n with
  | false=>
    have h':isIdx n (s.2.1.length:Int)=false:=h;rw [h'];rfl
  | true=>
    have h':isIdx n (s.2.1.length:Int)=true:=h;obtain ⟨g0,g1⟩:=isIdx_pos h';rw [h',eY (by decide),Bool.true_and]
    refine row_i (a:=s.2.2.2.2.2.2.2.2.1) (fun _ l=>some (l.any fun z=>z.1==planeAt s n&&meet (satAt s n t) z.2)) (fun _ _=>rfl) hz rfl (fun m i x r h0 hn hw hi hx ih=> ?_) (by omega)
    dsimp only;have a1:=fsNodeAt (k:=k) s n t hl h (by omega)
    have a2:=fsArcsMeet (k:=k) (satAt s n t) x.2 (by omega)
    have a3:planeAt s n=s.2.1[n.toNat].1:=by unfold planeAt;rw [dZ g1]
    simp only [hw,ih,hn,ix_some hx,dY h0,dY g0,ix_at g1,a1,a2,rZ,List.any_cons,a3];cases x.1==s.2.1[n.toNat].1<;>cases meet (satAt s n t) x.2<;>rfl
theorem fiMayDisturb {k:Nat} (s:TSky) (n t:Int) (hl:s.2.1.length<=140737488351232) (hz:s.2.2.2.2.2.2.2.2.1.length<=140737488351232) (hk:s.2.2.2.2.2.2.2.2.1.length+380<=k):FiMayDisturb k s n t=some (disturbs s n t):=by
  obtain ⟨k,rfl⟩:=pred (d:=0) (show 1<=k by omega)
  rw [eiMayDisturb,fiisSatellite _ _ hl (by omega),rZ]
  unfold disturbs;cases h:isSat s n with
  | false=>rfl
  | true=>
    have h':isIdx n (s.2.1.length:Int)=true:=h;obtain ⟨g0,g1⟩:=isIdx_pos h';rw [eY (by decide),Bool.true_and,fiNodeAt s n t hl h (by omega),rZ]
    refine row_i (a:=s.2.2.2.2.2.2.2.2.1) (fun _ l=>some (l.any fun z=>z.1==planeAt s n&&meet (satAt s n t) z.2)) (fun _ _=>rfl) hz rfl (fun m i x r h0 hn hw hi hx ih=> ?_) (by omega)
    dsimp only;have a2:=fiArcsMeet (k:=k) (satAt s n t) x.2 (by omega)
    have a3:planeAt s n=s.2.1[n.toNat].1:=by unfold planeAt;rw [dZ g1]
    simp only [hw,ih,dY g0,ix_at g1,a2,rZ,List.any_cons,a3];cases x.1==s.2.1[n.toNat].1<;>cases meet (satAt s n t) x.2<;>rfl
def quietAt (w:TW) (x:Int×Int×Int×Int):Bool:= !(disturbs w.1 x.2.1 x.1 || disturbs w.1 x.2.2.1 x.1)
def quiet (w:TW):Bool:=(qLog w).all (quietAt w)
theorem fsIsQuiet {k:Nat} (w:TW) (N:Nat) (hN:N<=549755813888) (h1:(qLog w).length<=N) (h2:w.1.2.1.length<=N) (h3:w.1.2.2.2.2.2.2.2.2.1.length<=N) (hk:N+400<=k):FsIsQuiet k w=some (quiet w):=by
 obtain ⟨k,rfl⟩:=pred (d:=0) (show 1<=k by omega)
 refine (esIsQuiet k w).trans (row_i (a:=qLog w) (fun _ l=>some (l.all (quietAt w))) (fun _ _=>rfl) (by omega) rfl (fun m i x r h0 hn hw hi hx ih=> ?_) (by omega))
 dsimp only;have g1:=fsMayDisturb (k:=k) w.1 x.2.1 x.1 (by omega) (by omega) (by omega)
 have g2:=fsMayDisturb (k:=k) w.1 x.2.2.1 x.1 (by omega) (by omega) (by omega)
 simp only [hw,ih,g1,rZ,g2,List.all_cons];unfold quietAt;cases disturbs w.1 x.2.1 x.1<;>cases disturbs w.1 x.2.2.1 x.1<;>rfl
theorem fiIsQuiet {k:Nat} (w:TW) (N:Nat) (hN:N<=549755813888) (h1:(qLog w).length<=N) (h2:w.1.2.1.length<=N) (h3:w.1.2.2.2.2.2.2.2.2.1.length<=N) (hk:N+400<=k):FiIsQuiet k w=some (quiet w):=by
 obtain ⟨k,rfl⟩:=pred (d:=0) (show 1<=k by omega)
 refine (eiIsQuiet k w).trans (row_i (a:=qLog w) (fun _ l=>some (l.all (quietAt w))) (fun _ _=>rfl) (by omega) rfl (fun m i x r h0 hn hw hi hx ih=> ?_) (by omega))
 dsimp only;have g1:=fiMayDisturb (k:=k) w.1 x.2.1 x.1 (by omega) (by omega) (by omega)
 have g2:=fiMayDisturb (k:=k) w.1 x.2.2.1 x.1 (by omega) (by omega) (by omega)
 simp only [hw,ih,g1,rZ,g2,List.all_cons];unfold quietAt;cases disturbs w.1 x.2.1 x.1<;>cases disturbs w.1 x.2.2.1 x.1<;>rfl
def landing (l:List Int) (p:TProgram) (n:Int):Bool:=isIdx n p.1&&(decide (n<p.2.1) || (l.any fun y=>y==n))
theorem fiIsLanding {k:Nat} (l:List Int) (p:TProgram) (n:Int) (hl:l.length<=549755813888) (hk:l.length+4<=k):FiIsLanding k l p n=some (landing l p n):=by
 obtain ⟨k,rfl⟩:=pred (d:=0) (show 1<=k by omega)
 rw [eiIsLanding,fiisIndex _ _ (by omega),rZ,fgContains_int l n hl (by omega)]
 unfold landing;cases isIdx n p.1
 · rfl
 · cases decide (n<p.2.1)<;>rfl
theorem fsIsLanding {k:Nat} (l:List Int) (p:TProgram) (n:Int) (hl:l.length<=549755813888) (hk:l.length+3<=k):FsIsLanding k l p n=some (landing l p n):=by
 obtain ⟨k,rfl⟩:=pred (d:=0) (show 1<=k by omega)
 rw [esIsLanding,fsl15Has l n hl (by omega)]
 unfold landing isIdx;cases decide (n>=0)
 · rfl
 · cases decide (n<p.1)
   · rfl
   · cases decide (n<p.2.1)<;>rfl
def lawDone (w:TW):Bool:=(qDone w).all fun x=>landing w.2.2.1 w.2.1 x.2.2.2.2.1
def lawfulAt (w:TW) (i:Int) (q:List (Int×Int×Int×Int×Int×Int)):Bool:=q.all fun x=> !(site w.1 i&&x.2.2.2.1 !=i)
def lawQ (w:TW):Bool:=allIdx (fun i q=>lawfulAt w (i:Int) q) 0 (qQueues w)
def lawLog (w:TW):Bool:=(qLog w).all fun x=> !(decide (x.2.2.1>=w.2.1.2.1)&& !landing w.2.2.1 w.2.1 x.2.2.1)
def lawful (w:TW):Bool:=lawDone w&&(lawQ w&&lawLog w)
theorem fiIsLawful {k N:Nat} (w:TW) (h1:w.2.2.1.length<=N) (h2:(qDone w).length<=N) (h3:(qQueues w).length<=N) (h4:(qLog w).length<=N) (h5:∀q ∈ qQueues w,q.length<=N) (hN:N<=549755813888) (hk:N+6<=k):FiIsLawful k w=some (lawful w):=by
 obtain ⟨k,rfl⟩:=pred (d:=0) (show 1<=k by omega)
 have hd:∀d:Nat,d<=N->d<=140737488351232:=fun d h=>by omega
 have hlog:∀v1 v2:Int,LiIsLawful_3 k (fun (v3:Int) (x1:Int×Int×Int×Int) (p2:Bool)=>some false) (fun (v3:Int)=>some true) (qDone w,((qDone w).length:Int),v1,qQueues w,((qQueues w).length:Int),v2,qLog w,((qLog w).length:Int),w) k 0=some (lawLog w):=by
  intro v1 v2;refine row_i (a:=qLog w) (fun _ l=>some (l.all fun x=> !(decide (x.2.2.1>=w.2.1.2.1)&& !landing w.2.2.1 w.2.1 x.2.2.1))) (fun _ _=>rfl) (hd _ h4) rfl (fun m i x r h0 hn hw hi hx ih=> ?_) (by omega)
  dsimp only;rw [hw,ih,fiIsLanding _ _ _ (by omega) (by omega),rZ,List.all_cons]
  cases decide (x.2.2.1>=w.2.1.2.1)
  · rfl
  · cases landing w.2.2.1 w.2.1 x.2.2.1<;>rfl
 have hq:∀v1:Int,LiIsLawful_1 k (fun (v1:Int) (x1:List (Int×Int×Int×Int×Int×Int)) (v2:Int) (x2:Int×Int×Int×Int×Int×Int) (p3:Bool)=>some false) (fun (v2:Int)=>some (lawLog w)) (qDone w,((qDone w).length:Int),v1,qQueues w,((qQueues w).length:Int),w) k 0=some (lawQ w&&lawLog w):=by
  intro v1;refine row_i (a:=qQueues w) (fun j l=>some (allIdx (fun i q=>lawfulAt w (i:Int) q) j l&&lawLog w)) (fun _ _=>rfl) (hd _ h3) (by simp [allIdx]) (fun m i x r h0 hn hw hi hx ih=> ?_) (by omega)
  dsimp only;rw [allIdx,Bool.and_assoc];rw [hw,ih];have hxl:=h5 x (iZ hx);refine (row_i (a:=x) (fun _ l=>if (l.all fun x=> !(site w.1 (i:Int)&&x.2.2.2.1 !=(i:Int)))=true then some (allIdx (fun i q=>lawfulAt w (i:Int) q) (i+1) r&&lawLog w) else some false) (fun _ _=>rfl) (hd _ hxl) rfl (fun m i' x' r' h0' hn' hw' hi' hx' ih'=> ?_) (by omega)).trans ?_
  · dsimp only;rw [hw',ih',fiIsSite _ _ (by omega),rZ,List.all_cons]
    cases site w.1 (i:Int)
    · rfl
    · cases x'.2.2.2.1 !=(i:Int)<;>rfl
  · unfold lawfulAt;cases x.all fun x=> !(site w.1 (i:Int)&&x.2.2.2.1 !=(i:Int))<;>rfl
 rw [eiIsLawful];refine (row_i (a:=qDone w) (fun _ l=>if (l.all fun x=>landing w.2.2.1 w.2.1 x.2.2.2.2.1)=true then some (lawQ w&&lawLog w) else some false) (fun _ _=>rfl) (hd _ h2) ?_ (fun m i x r h0 hn hw hi hx ih=> ?_) (by omega)).trans ?_
 · simp only [hlog];exact hq _
 · dsimp only;rw [hw,ih,fiIsLanding _ _ _ (by omega) (by omega),rZ,List.all_cons]
   cases landing w.2.2.1 w.2.1 x.2.2.2.2.1<;>rfl
 · unfold lawful lawDone;cases (qDone w).all fun x=>landing w.2.2.1 w.2.1 x.2.2.2.2.1<;>rfl
theorem fsIsLawful {k N:Nat} (w:TW) (h1:w.2.2.1.length<=N) (h2:(qDone w).length<=N) (h3:(qQueues w).length<=N) (h4:(qLog w).length<=N) (h5:∀q ∈ qQueues w,q.length<=N) (hN:N<=549755813888) (hk:N+6<=k):FsIsLawful k w=some (lawful w):=by
 obtain ⟨k,rfl⟩:=pred (d:=0) (show 1<=k by omega)
 have hd:∀d:Nat,d<=N->d<=140737488351232:=fun d h=>by omega
 have hlog:∀v0 v1:Int,LsIsLawful_3 k (fun (v3:Int) (x1:Int×Int×Int×Int) (x2:Int×Int×Int×Int) (p3:Bool)=>some false) (fun (v3:Int)=>some true) (v0,v1,w) k 0=some (lawLog w):=by
  intro v0 v1;refine row_i (a:=qLog w) (fun _ l=>some (l.all fun x=> !(decide (x.2.2.1>=w.2.1.2.1)&& !landing w.2.2.1 w.2.1 x.2.2.1))) (fun _ _=>rfl) (hd _ h4) rfl (fun m i x r h0 hn hw hi hx ih=> ?_) (by omega)
  dsimp only;rw [hw,ih,hn,ix_some hx,dY h0,fsIsLanding _ _ _ (by omega) (by omega),rZ,List.all_cons]
  cases decide (x.2.2.1>=w.2.1.2.1)
  · rfl
  · cases landing w.2.2.1 w.2.1 x.2.2.1<;>rfl
 have hq:∀v0:Int,LsIsLawful_1 k (fun (v1:Int) (v2:Int) (x1:List (Int×Int×Int×Int×Int×Int)) (p2:Bool) (x3:List (Int×Int×Int×Int×Int×Int)) (x4:Int×Int×Int×Int×Int×Int)=>some false) (fun (v1:Int)=>some (lawLog w)) (v0,w) k 0=some (lawQ w&&lawLog w):=by
  intro v0;have hgen:∀(i:Nat),i<=(qQueues w).length->True:=fun _ _=>trivial
  refine (up_loop0 (len:=(qQueues w).length) (fun j=>some (allIdx (fun i q=>lawfulAt w (i:Int) q) j ((qQueues w).drop j)&&lawLog w)) (hd _ h3) (fun m i hi h0 hn hw ih=> ?_) (by omega)).trans (by simp [lawQ])
  by_cases hlt:i<(qQueues w).length
  · have ih:=ih hlt;have hx:(qQueues w)[i]? =some (qQueues w)[i]:=dZ hlt
    have hxl:=h5 _ (tZ hlt);rw [cZ hlt,allIdx,Bool.and_assoc];generalize hxe:(qQueues w)[i]=x at hx hxl;show (if decide ((i:Int)<((qQueues w).length:Int))=true then LsIsLawful_2 k _ _ _ (v0,(i:Int),w) k 0 else _)=_
    rw [dY (by simp;omega)]
    rw [hw,ih];refine (up_loop0 (len:=x.length) (fun j=>if ((x.drop j).all fun x=> !(site w.1 (i:Int)&&x.2.2.2.1 !=(i:Int)))=true then some (allIdx (fun i q=>lawfulAt w (i:Int) q) (i+1) ((qQueues w).drop (i+1))&&lawLog w) else some false) (hd _ hxl) (fun m' i' hi' h0' hn' hw' ih'=> ?_) (by omega)).trans ?_
    · show (if 0<=(i:Int) then ix (qQueues w) (i:Int).toNat _ else none)=_
      rw [dY h0,hn,ix_some hx];by_cases hlt':i'<x.length
      · have ih':=ih' hlt';have hx':x[i']? =some x[i']:=dZ hlt'
        rw [cZ hlt',List.all_cons];rw [dY (by simp;omega),fsIsSite _ _ (by omega),rZ]
        cases hs:site w.1 (i:Int)
        · simp [hs]
        · rw [dY rfl,dY h0,ix_some hx,dY h0',hn',ix_some hx',hw',ih'];simp only [hs,Bool.true_and];cases x[i'].2.2.2.1 !=(i:Int)<;>rfl
      · have e:i'=x.length:=by omega
        rw [eY (by simp;omega),e,List.drop_length]
        rfl
    · unfold lawfulAt;simp only [List.drop_zero];cases x.all fun x=> !(site w.1 (i:Int)&&x.2.2.2.1 !=(i:Int))<;>rfl
  · have e:i=(qQueues w).length:=by omega
    show (if decide ((i:Int)<((qQueues w).length:Int))=true then _ else some (lawLog w))=_
    rw [eY (by simp;omega),e,List.drop_length]
    rfl
 rw [esIsLawful];refine (row_i (a:=qDone w) (fun _ l=>if (l.all fun x=>landing w.2.2.1 w.2.1 x.2.2.2.2.1)=true then some (lawQ w&&lawLog w) else some false) (fun _ _=>rfl) (hd _ h2) ?_ (fun m i x r h0 hn hw hi hx ih=> ?_) (by omega)).trans ?_
 · simp only [hlog];exact hq _
 · dsimp only;rw [hw,ih,fsIsLanding _ _ _ (by omega) (by omega),rZ,List.all_cons]
   cases landing w.2.2.1 w.2.1 x.2.2.2.2.1<;>rfl
 · unfold lawful lawDone;cases (qDone w).all fun x=>landing w.2.2.1 w.2.1 x.2.2.2.2.1<;>rfl
def contactAt (w:TW) (x:Int×Int×Int×Int):Bool:=linkd w.2.1 x.2.1 x.2.2.1 x.1&& !cut w.2.2.2.2.2.2.2.2.2.1 x.2.1 x.2.2.1 x.1
def inContact (w:TW):Bool:=(qLog w).all (contactAt w)
theorem fiIsInContact {k N:Nat} (w:TW) (hr:rowsLe N sWorld w) (hN:N<=549755813888) (hk:N+20<=k):FiIsInContact k w=some (inContact w):=by
 obtain ⟨k,rfl⟩:=pred (d:=0) (show 1<=k by omega)
 have hp:rowsLe N sProgram w.2.1:=hr.2.1;have l10:w.2.2.2.2.2.2.2.2.2.1.length<=N:=(rowsLe_row hr.2.2.2.2.2.2.2.2.2.1).1;have l14:(qLog w).length<=N:=(rowsLe_row hr.2.2.2.2.2.2.2.2.2.2.2.2.2).1;refine (eiIsInContact k w).trans (row_i (a:=qLog w) (fun _ l=>some (l.all (contactAt w))) (fun _ _=>rfl) (by omega) rfl (fun m i x r h0 hn hw hi hx ih=> ?_) (by omega))
 dsimp only;have g1:=fiIsLinked (k:=k) w.2.1 x.2.1 x.2.2.1 x.1 hp hN (by omega)
 have g2:=fiIsCut (k:=k) w.2.2.2.2.2.2.2.2.2.1 x.2.1 x.2.2.1 x.1 (by omega) (by omega)
 simp only [hw,ih,g1,rZ,g2,List.all_cons];unfold contactAt;cases linkd w.2.1 x.2.1 x.2.2.1 x.1<;>cases cut w.2.2.2.2.2.2.2.2.2.1 x.2.1 x.2.2.1 x.1<;>rfl
theorem fsIsInContact {k N:Nat} (w:TW) (hr:rowsLe N sWorld w) (hN:N<=549755813888) (hk:N+20<=k):FsIsInContact k w=some (inContact w):=by
 obtain ⟨k,rfl⟩:=pred (d:=0) (show 1<=k by omega)
 have hp:rowsLe N sProgram w.2.1:=hr.2.1;have l10:w.2.2.2.2.2.2.2.2.2.1.length<=N:=(rowsLe_row hr.2.2.2.2.2.2.2.2.2.1).1;have l14:(qLog w).length<=N:=(rowsLe_row hr.2.2.2.2.2.2.2.2.2.2.2.2.2).1;refine (esIsInContact k w).trans (row_i (a:=qLog w) (fun _ l=>some (l.all (contactAt w))) (fun _ _=>rfl) (by omega) rfl (fun m i x r h0 hn hw hi hx ih=> ?_) (by omega))
 dsimp only;have g1:=fsIsLinked (k:=k) w.2.1 x.2.1 x.2.2.1 x.1 hp hN (by omega)
 have g2:=fsIsCut (k:=k) w.2.2.2.2.2.2.2.2.2.1 x.2.1 x.2.2.1 x.1 (by omega) (by omega)
 simp only [hw,ih,g1,rZ,g2,List.all_cons];unfold contactAt;cases linkd w.2.1 x.2.1 x.2.2.1 x.1<;>cases cut w.2.2.2.2.2.2.2.2.2.1 x.2.1 x.2.2.1 x.1<;>rfl
def powered (w:TW):Bool:=w.2.2.2.2.1.all fun b=> !decide (b.1<b.2.2.1)
theorem fiIsPowered {k:Nat} (w:TW) (hl:w.2.2.2.2.1.length<=549755813888) (hk:w.2.2.2.2.1.length+2<=k):FiIsPowered k w=some (powered w):=by
 obtain ⟨k,rfl⟩:=pred (d:=0) (show 1<=k by omega)
 refine (eiIsPowered k w).trans (row_i (a:=w.2.2.2.2.1) (fun _ l=>some (l.all fun b=> !decide (b.1<b.2.2.1))) (fun _ _=>rfl) (by omega) rfl (fun m i x r h0 hn hw hi hx ih=> ?_) (by omega))
 dsimp only;rw [hw,ih,List.all_cons];cases decide (x.1<x.2.2.1)<;>rfl
theorem fsIsPowered {k:Nat} (w:TW) (hl:w.2.2.2.2.1.length<=549755813888) (hk:w.2.2.2.2.1.length+2<=k):FsIsPowered k w=some (powered w):=by
 obtain ⟨k,rfl⟩:=pred (d:=0) (show 1<=k by omega)
 refine (esIsPowered k w).trans (row_i (a:=w.2.2.2.2.1) (fun _ l=>some (l.all fun b=> !decide (b.1<b.2.2.1))) (fun _ _=>rfl) (by omega) rfl (fun m i x r h0 hn hw hi hx ih=> ?_) (by omega))
 dsimp only;rw [hw,ih,hn,ix_some hx,dY h0,List.all_cons];cases decide (x.1<x.2.2.1)<;>rfl
theorem fFaultOf {k N:Nat} (w:TW) (hr:rowsLe N sWorld w) (hN:N<=549755813888) (hN1:1<=N) (hT:(packets w).length<=549755813888) (hn: -9223372036854775808<=w.2.1.1/\w.2.1.1<=9223372036854775807) (hk:4000000000000<=k):
 ∃s,FsFaultOf k w=some s/\FiFaultOf k w=some s:=by
 obtain ⟨k,rfl⟩:=pred (d:=0) (show 1<=k by omega)
 have l1:w.1.2.1.length<=N:=(rowsLe_row hr.1.2.1).1;have lz:w.1.2.2.2.2.2.2.2.2.1.length<=N:=(rowsLe_row hr.1.2.2.2.2.2.2.2.2.1).1;have l3:w.2.2.1.length<=N:=(rowsLe_row (e:=0) (sh:= .i .i64) hr.2.2.1).1;have l4:w.2.2.2.1.length<=N:=(rowsLe_row hr.2.2.2.1).1;have l5:w.2.2.2.2.1.length<=N:=(rowsLe_row hr.2.2.2.2.1).1;obtain ⟨l6',q6⟩:=rowsLe_row hr.2.2.2.2.2.1;have l6:(qQueues w).length<=N:=l6';have q6':∀q ∈ qQueues w,q.length<=N:=fun q hq=>(rowsLe_row (e:=0) (sh:=sI6) (q6 _ hq)).1
 have l13:(qDone w).length<=N:=(rowsLe_row hr.2.2.2.2.2.2.2.2.2.2.2.2.1).1;have l14:(qLog w).length<=N:=(rowsLe_row hr.2.2.2.2.2.2.2.2.2.2.2.2.2).1;have es:=(esFaultOf k w).trans (bs (fsIsWorld (N:=N) w hr hN hT hn (by omega)))
 have ei:=(eiFaultOf k w).trans (bs (fiIsWorld (N:=N) w hr hN hT (by omega)))
 cases h1:isWorld w with
 | false=>rw [h1] at es ei;exact ⟨_,es.trans (dY rfl),ei.trans (dY rfl)⟩
 | true=>
 rw [h1] at es ei;have es:=es.trans ((eY (by decide)).trans (bs (fsIsQuiet w N hN l14 l1 lz (by omega))))
 have ei:=ei.trans ((eY (by decide)).trans (bs (fiIsQuiet w N hN l14 l1 lz (by omega))))
 cases h2:quiet w with
 | false=>rw [h2] at es ei;exact ⟨_,es.trans (dY rfl),ei.trans (dY rfl)⟩
 | true=>
 rw [h2] at es ei;have es:=es.trans ((eY (by decide)).trans (bs (fsIsInContact w hr hN (by omega))))
 have ei:=ei.trans ((eY (by decide)).trans (bs (fiIsInContact w hr hN (by omega))))
 cases h3:inContact w with
 | false=>rw [h3] at es ei;exact ⟨_,es.trans (dY rfl),ei.trans (dY rfl)⟩
 | true=>
 rw [h3] at es ei;have es:=es.trans ((eY (by decide)).trans (bs (fsIsPowered w (by omega) (by omega))))
 have ei:=ei.trans ((eY (by decide)).trans (bs (fiIsPowered w (by omega) (by omega))))
 cases h4:powered w with
 | false=>rw [h4] at es ei;exact ⟨_,es.trans (dY rfl),ei.trans (dY rfl)⟩
 | true=>
 rw [h4] at es ei;have es:=es.trans ((eY (by decide)).trans (bs (fsIsLawful w l3 l13 l6 l14 q6' hN (by omega))))
 have ei:=ei.trans ((eY (by decide)).trans (bs (fiIsLawful w l3 l13 l6 l14 q6' hN (by omega))))
 cases h5:lawful w with
 | false=>rw [h5] at es ei;exact ⟨_,es.trans (dY rfl),ei.trans (dY rfl)⟩
 | true=>
 rw [h5] at es ei;have es:=es.trans ((eY (by decide)).trans (bs (fsFree w hr.2.1 l4 hN (by omega))))
 have ei:=ei.trans ((eY (by decide)).trans (bs (fiFree w hr.2.1 l4 hN hN1 (by omega))))
 exact ⟨_,es.trans (eY (by decide)),ei.trans (eY (by decide))⟩
theorem lFnExactFaultOf (w:TW) (hr:rowsLe 140737488351232 sLWorld w) (hw:wfT Tryz.prog sLWorld w):∃k,FlFnExactFaultOf k w=some true:=by
 refine ⟨3*szT sLWorld w+4000000000001,?_⟩
 rw [elFnExactFaultOf,zlszWorld _ w 1048576 hr (by omega) (by omega) (by omega),rZ]
 by_cases hz:szT sLWorld w<=1048576
 · rw [szR_pos (by omega),eY (by simp;omega)]
   have e60:szT sWorld w=szT sLWorld w:=rfl;have hrow:=rows_le sWorld w (szT sLWorld w+1) (by omega)
   have hT:(packets w).length<=549755813888:=by
    have h1:=szW w;have h2:=flat_le w.2.2.2.2.2.1;unfold packets;rw [List.length_append];omega
   have tw:=tltoWorld (3*szT sLWorld w+4000000000000) w hz (by omega)
   obtain ⟨s,hs,hi⟩:=fFaultOf (k:=3*szT sLWorld w+4000000000000) w hrow (by omega) (by omega) hT (num64 hw.2.1.1) (by omega)
   have qw:=qleqWorld (3*szT sLWorld w+4000000000000) w (by rw [e60];omega) (by rw [e60];omega)
   refine (bs tw).trans ((bs hs).trans ((bs tw).trans ((bs hi).trans ?_)))
   refine (eY (by simp)).trans ((bs tw).trans ((bs qw).trans ?_))
   rfl
 · rw [szR_neg (by omega),dY (by decide)]
end Go.Proofs.YtdglapefgakccaaGreat.World
namespace Go.Proofs.YtdglapefgakccaaGreat.World
open Go Go.V Go.Proofs Go.RowKit Go.Lib Go.Sort
set_option maxHeartbeats 4000000 in
theorem compact_tiny (p:Option Addr) (w:World):Calls Tryz.prog 470 #[.slice p 0 0] w fun e w'=>e= .returned (.slice p 0 0)/\w'=w:=by
 go_enter Tryz.func470,Tryz.ntmps470
 go_wp2
 go_ret
 exact ⟨rfl,rfl⟩
end Go.Proofs.YtdglapefgakccaaGreat.World
namespace Go.Proofs.YtdglapefgakccaaGreat.World
open Go Go.V Go.Proofs
open Go.ChangeShapes Go.WideShapes Go.ChangeAt Go.RowKit
set_option maxRecDepth 100000
theorem tyOk:∀t i,E.ty t=some i->TyOk E.P t i:=by
 intro t i h;replace h:ty t=some i:=h;unfold ty at h;split at h<;>first | (cases h;done) | (cases h;exact ⟨by kernel_rfl,by kernel_rfl⟩)
theorem fn0Ok : ∀ f F, fn0 f = some F -> E.P.funcs[f]? = some F /\ F.name ≠ "runtime.NumGoroutine" /\ ∀ c, F.body = some c -> codeOk c = true := by
 intro f F h;unfold fn0 at h;split at h<;>first | (cases h;done) | (cases h;exact ⟨by kernel_rfl,of_decide_eq_true (by kernel_rfl),fun c hc=>by cases hc;kernel_rfl⟩)
theorem fn1Ok : ∀ f F, fn1 f = some F -> E.P.funcs[f]? = some F /\ F.name ≠ "runtime.NumGoroutine" /\ ∀ c, F.body = some c -> codeOk c = true := by
 intro f F h;unfold fn1 at h;split at h<;>first | (cases h;done) | (cases h;exact ⟨by kernel_rfl,of_decide_eq_true (by kernel_rfl),fun c hc=>by cases hc;kernel_rfl⟩)
theorem fn2Ok : ∀ f F, fn2 f = some F -> E.P.funcs[f]? = some F /\ F.name ≠ "runtime.NumGoroutine" /\ ∀ c, F.body = some c -> codeOk c = true := by
 intro f F h;unfold fn2 at h;split at h<;>first | (cases h;done) | (cases h;exact ⟨by kernel_rfl,of_decide_eq_true (by kernel_rfl),fun c hc=>by cases hc;kernel_rfl⟩)
theorem fn3Ok : ∀ f F, fn3 f = some F -> E.P.funcs[f]? = some F /\ F.name ≠ "runtime.NumGoroutine" /\ ∀ c, F.body = some c -> codeOk c = true := by
 intro f F h;unfold fn3 at h;split at h<;>first | (cases h;done) | (cases h;exact ⟨by kernel_rfl,of_decide_eq_true (by kernel_rfl),fun c hc=>by cases hc;kernel_rfl⟩)
theorem fn4Ok : ∀ f F, fn4 f = some F -> E.P.funcs[f]? = some F /\ F.name ≠ "runtime.NumGoroutine" /\ ∀ c, F.body = some c -> codeOk c = true := by
 intro f F h;unfold fn4 at h;split at h<;>first | (cases h;done) | (cases h;exact ⟨by kernel_rfl,of_decide_eq_true (by kernel_rfl),fun c hc=>by cases hc;kernel_rfl⟩)
theorem fnOk : ∀ f F, E.fn f = some F -> E.P.funcs[f]? = some F /\ F.name ≠ "runtime.NumGoroutine" /\ ∀ c, F.body = some c -> codeOk c = true := by
 intro f F h;replace h:fn f=some F:=h;unfold fn at h;split at h
 · rename_i F' hF;rw [<-xZ h];exact fn0Ok f F' hF
 split at h
 · rename_i F' hF;rw [<-xZ h];exact fn1Ok f F' hF
 split at h
 · rename_i F' hF;rw [<-xZ h];exact fn2Ok f F' hF
 split at h
 · rename_i F' hF;rw [<-xZ h];exact fn3Ok f F' hF
 exact fn4Ok f F h
theorem ext324Ok:Sound1 E 324 (extSort):=SoundX.sound1 (E:=E) (f:=324) (extSort_sound (e:=3) ⟨Tryz.f324,Tryz.func324,of_decide_eq_true (by kernel_rfl),by kernel_rfl⟩ Tryz.slices_Sort_int Tryz.slices_Sort_int_none)
theorem ext470Ok:Sound1 E 470 (extCompact):=SoundX.sound1 (E:=E) (f:=470) (extCompact_sound (e:=3) ⟨Tryz.f470,Tryz.func470,of_decide_eq_true (by kernel_rfl),by kernel_rfl⟩ Tryz.slices_Compact_int (fun p w=>compact_tiny p w))
theorem extOk:∀f g,E.ext f=some g->Sound1 E f g:=by
 intro f g h;replace h:ext f=some g:=h;unfold ext at h;split at h
 · rw [<-xZ h];exact ext324Ok
 · rw [<-xZ h];exact ext470Ok
 · cases h
theorem envOk:EnvOk E:=⟨tyOk,fun f F h=>(fnOk f F h).1,fun f F h=>(fnOk f F h).2.1,by kernel_rfl⟩
theorem sound (k:Nat):CallOk E (den E k):=den_sound envOk (fun f F c h=>(fnOk f F h).2.2 c) extOk k
end Go.Proofs.YtdglapefgakccaaGreat.World
namespace Go.Proofs.YtdglapefgakccaaGreat.World
open Go Go.V Go.Proofs
open Go.ChangeShapes Go.WideShapes Go.ChangeAt Go.RowKit
set_option maxRecDepth 100000
theorem walk4 {k:Nat} {y0:TW} (h:FlFnExactFaultOf k y0=some true) {W:World} {v0:Value} (h0:VA W (fun _=>True) (fun _=>undef) (argAV sLWorld y0) v0) (l0:(argAV sLWorld y0).lt 0):
 Calls Tryz.prog 4 #[v0] W fun e W'=>e= .returned (.bool true)/\Go.RowKit.Below W.heap.size W W':=by
 have hs:=(sound k) 4 [argAV sLWorld y0] true h;refine (hs.2 (fun _=>True) W [v0] [] (fun p hp=>absurd (show p ∈ ([]:List (Nat×Array Value)) from hp) (by simp)) (by
  show ArgsT W (fun _=>True) [] _ _ []
  exact ⟨⟨h0,trivial⟩,by intro x hx;simp at hx;rw [hx];exact l0,rfl⟩) List.nodup_nil (by simp)).mono ?_
 rintro e W' ⟨v,rfl,hb,hr⟩
 exact ⟨by rw [resOk_bool hr],Chg.below hb⟩
theorem own:ownKnob Tryz.prog.godebug=none:=by kernel_rfl
theorem lifted (os:Os) (started:os.Started) (H:Type) (enc:TypeId×Value->H):
 ReturnsInHanded {} Tryz.checked os 4 .any (YtdglapefgakccaaGreat.Rows.fnExactFaultOfSpec.pre6 enc Tryz.prog Tryz.f4 YtdglapefgakccaaGreat.Rows.fnExactFaultOfRow.domain false) (YtdglapefgakccaaGreat.Rows.fnExactFaultOfSpec.post enc Tryz.prog Tryz.f4 false true false false):=by
 refine returnsInHanded_of_change_sized (C:=Tryz.checked) own started (by kernel_rfl) Tryz.func4
  (ChangeSpec.witness6 (enc:=enc) (C:=Tryz.checked) false ⟨#[],#[.agg #[(.int .i64 0),(.slice none 0 0),(.slice none 0 0),(.int .i64 0),(.int .i64 0),(.int .i64 0),(.int .i64 0),(.int .i64 0),(.slice none 0 0),(.int .i64 0),(.int .i64 0),(.int .i64 0),(.int .i64 0),(.slice none 0 0),(.slice none 0 0),(.slice none 0 0),(.slice none 0 0),(.slice none 0 0),(.slice none 0 0),(.slice none 0 0),(.slice none 0 0),(.slice none 0 0),(.int .i64 0),(.int .i64 0),(.slice none 0 0),(.slice none 0 0)]],[]⟩ 8 (by kernel_rfl) (by kernel_rfl) (by kernel_rfl) (by kernel_rfl)) ?_
 intro W base args ds gs before hval0 hW hcnd hsz0 _;have hsz:(DataW.weightsEach Tryz.prog (Tryz.f4.params.toList++YtdglapefgakccaaGreat.Rows.fnExactFaultOfSpec.plain.varTypes Tryz.prog) (ds++gs)).all (· <=reachBytes)=true:=hsz0;have hval:∀(j:Nat) t v,Tryz.f4.params[j]? =some t->args[j]? =some v->Value.okWide Tryz.prog W .any base t v:=hval0;have hW':=hW;obtain ⟨p,q,hA0,hV,rfl,hfz,hnd⟩:=hW;have hA:DataW.TrodAll enc Tryz.prog W 0 (fun _=>true) true Tryz.f4.params.toList args.toList ds p:=hA0
 have hAA:=hA;rw [Tryz.params4] at hA hval hsz;obtain ⟨v0,vs0,d0,ds0,p0,q0,hargs,rfl,rfl,h0,r0⟩:=trodAll_cons hA;obtain ⟨rfl,rfl,rfl⟩:=trodAll_nil r0
 obtain rfl:args=#[v0]:=by cases args;simp_all
 obtain ⟨rfl,rfl⟩:=trodVars_none hV;have hwt0:∀n ∈ d0.weights Tryz.prog 75,n<=reachBytes:=by
  intro n hn
  have:=uZ.1 hsz n (by simp [DataW.weightsEach,hn])
  simpa using this
 obtain ⟨y0,a0,b0,w0⟩:=arg_VA (sh:=sLWorld) (by kernel_rfl) (hval 0 75 v0 rfl rfl) h0 hwt0
 obtain ⟨k,hk⟩:=lFnExactFaultOf y0 (rows_wf (P:=Tryz.prog) sLWorld y0 (by kernel_rfl) w0) w0
 have hlt:∀x ∈ p0++[],x.block<W.heap.size:=fun x hx=>hW'.lt x (by simpa using hx)
 refine (walk4 hk a0 b0).mono fun e W' ⟨he,bel⟩=> ?_
 subst he;exact ⟨_,rfl,_,_,_,[],_,[],hW',trodAll_mk1 (shut_bool Tryz.underlying4 _),below_trodAll (by kernel_rfl) bel _ _ _ _ (by kernel_rfl) hAA hlt,rfl,bel.frame _,fun h=>by cases h⟩
theorem facts_of {P:Program} {f:FuncId} {fn:Func} {s:ChangeSpec} {c:OpenClaim} (k1:(c.wf (OpenSpec.ofChange s))=true) (k2:(laidOutB P)=true) (k3:(mapsRowed P)=true) (k4:(fn.params.all (P.readableRec ·))=true) (k5:(namedTie P c.named s.vars)=true) (k6:((c.stops==[]))=true) (k7:((P.stops==[]))=true) (k8:((c.knobs==[]))=true) (k9:((P.stopKnobs==[]))=true) (k10:((c.inPlace==P.inPlace f))=true) (k11:((c.unfollowed==P.unfollowed f))=true) (k12:((c.recurses==P.recurses f))=true) (k13:((c.named==P.varsNamed f))=true) (k14:((c.maps==(fn.params.toList++s.plain.varTypes P).any (P.mapsRec ·)))=true) (k15:((c.ifaces==(fn.params.toList++s.plain.varTypes P).any (P.ifacesRec ·)))=true) (k16:((c.mapsOut==P.mapsAmong fn.resultTypes.toList))=true) (k17:((c.loops==(fn.params.toList++s.plain.varTypes P).any (P.loopsFrom ·)))=true) (k18:((c.wideKeys==(fn.params.toList++s.plain.varTypes P++fn.resultTypes.toList).any (P.wideKeysFrom ·)))=true) (k19:(s.vars.all (P.varReadable ·))=true) (k20:(fn.resultTypes.all (fun t=>P.readableRec t&&decide (t<P.types.size)))=true) (k21:((c.ifacesOut==fn.resultTypes.toList.any (P.ifacesRec ·)))=true) (k22:((c.loopsOut==fn.resultTypes.toList.any (P.loopsFrom ·)))=true) (k23:((c.plainKeys==P.plainKeys))=true) (k24:(c.shortTexts.isNone)=true) (k25:(P.stopsHeard)=true) (k26:(P.mayEnter)=true) (k27:((c.lifted==P.liftsFinal))=true) (k28:((P.make==some c.make))=true) (k29:((c.kinds==(if c.domain.isEmpty then [] else fn.params.toList.map fun t=>match P.underlying t with | some (.int k)=>some k | _=>none)))=true) (k30:((c.pinned==c.pinnedBy))=true) (k31:((c.veiled==(fn.params.toList++s.plain.varTypes P++fn.resultTypes.toList).any (P.veiledRec ·)))=true) (k32:(c.veiledFits P fn.params.toList (fn.params.toList++s.plain.varTypes P++fn.resultTypes.toList))=true):joinedFacts P f fn s c=true:=by
 unfold joinedFacts;simp only [k1,k2,k3,k4,k5,k6,k7,k8,k9,k10,k11,k12,k13,k14,k15,k16,k17,k18,k19,k20,k21,k22,k23,k24,k25,k26,k27,k28,k30,k31,k32,Bool.and_true,Bool.true_and];exact k29
theorem wrapper:Tryz.f4.isWrapper Tryz.checked.prog YtdglapefgakccaaGreat.Rows.fnExactFaultOfRow.wrapper YtdglapefgakccaaGreat.Rows.fnExactFaultOfRow.mainSum:=by
 unfold Func.isWrapper
 first | (rw [dY (by decide+kernel)];kernel_rfl) | (rw [eY (by decide+kernel)];exact ⟨rfl,rfl⟩)
theorem facts:joinedFacts YtdglapefgakccaaGreat.Tryz.pinned.checked.prog 4 Tryz.f4 YtdglapefgakccaaGreat.Rows.fnExactFaultOfSpec YtdglapefgakccaaGreat.Rows.fnExactFaultOfRow=true:=facts_of k1 k2 k3 k4 k5 k6 k7 k8 k9 k10 k11 k12 k13 k14 k15 k16 k17 k18 k19 k20 k21 k22 k23 k24 k25 k26 k27 k28 k29 k30 k31 k32
theorem over:YtdglapefgakccaaGreat.Rows.fnExactFaultOfRow.holds YtdglapefgakccaaGreat.Tryz.pinned (OpenSpec.ofChange YtdglapefgakccaaGreat.Rows.fnExactFaultOfSpec):=
 OpenClaim.holds_of_wide 4 Tryz.f4 rfl rfl rfl rfl rfl rfl rfl ⟨rfl,rfl,rfl,rfl,rfl⟩ rfl rfl rfl rfl rfl k0 Tryz.func4 facts
  (of_decide_eq_true (by kernel_rfl)) wrapper
  (fun os started H enc _=>lifted os started H enc)
end Go.Proofs.YtdglapefgakccaaGreat.World
namespace Go.Proofs.YtdglapefgakccaaGreat
/-- The row, under a short name. -/
theorem fnExactFaultOf_holds:Rows.FnExactFaultOfSaid:=World.over
end Go.Proofs.YtdglapefgakccaaGreat
