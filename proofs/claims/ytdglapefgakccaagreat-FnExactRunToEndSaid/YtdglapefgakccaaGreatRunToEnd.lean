/- 'laws.FnExactRunToEnd' returns true for every input. No condition. -/
import Derived.Test.YtdglapefgakccaaGreatXa
import Derived.Test.YtdglapefgakccaaGreatK1
import Derived.Test.YtdglapefgakccaaGreatK2
import Derived.Test.YtdglapefgakccaaGreatK3
import Derived.Test.YtdglapefgakccaaGreatK4
import Derived.Test.YtdglapefgakccaaGreatShelf
import Derived.Test.YtdglapefgakccaaGreatRows
import Derived.Test.YtdglapefgakccaaGreatChecked
import Derived.Shelf.RegionOpenPlain
import Derived.WalkKit
import Derived.Deep.LoopGhost
import Derived.Deep.RegionLaw
import Derived.Lib.Walk
import Derived.Sort.WalkB12
import Derived.Lib.SliceRun
import Derived.KernelRfl
set_option linter.unusedSimpArgs false
set_option linter.unusedVariables false
namespace Go.Proofs.YtdglapefgakccaaGreat.World
open Go Go.V Go.Proofs
set_option maxRecDepth 100000
set_option maxHeartbeats 4000000
theorem fiticks {k:Nat} (xs:List (Int×Int)) (hl:xs.length<=140737488351232) (hk:xs.length+1010<=k):Fiticks k xs=some (tickRow fun u=>inSpans xs (u:Int)):=by
  obtain ⟨k,rfl⟩:=pred (d:=0) (show 1<=k by omega)
  have e0:List.replicate (1000:Int).toNat false=tickRow fun _=>false:=by
    unfold tickRow;rw [List.map_const'];simp
  refine (eiticks k xs).trans ?_
  rw [e0];refine (row_s0 (S:=Nat->Bool) (a:=xs) (fun p i=>(i,tickRow p)) (fun p _ l=>some (tickRow fun u=>p u || inSpans l (u:Int))) (fun _ _ _=>rfl) hl (fun p=>by simp [inSpans]) (fun m i p x r h0 hn hw hi hx ih=> ?_) (by omega) (fun _=>false)).trans ?_
  · dsimp only;rw [fiIsSpan _ (by omega),rZ,hw]
    cases hs:isSpan x with
    | false=>
      rw [eY (by decide),ih]
      have e:∀u:Int,inSpan x u=false:=fun u=>by unfold inSpan;rw [hs];rfl
      simp [inSpans,e]
    | true=>
      have hs':=hs;unfold isSpan at hs';simp only [sZ,pZ] at hs';rw [dY rfl];obtain ⟨a,ha⟩:∃a:Nat,x.1=(a:Int):=⟨x.1.toNat,by omega⟩
      obtain ⟨b,hb⟩:∃b:Nat,x.2=(b:Int):=⟨x.2.toNat,by omega⟩
      rw [ha,loop256_1 _ _ b (by omega) hb (b-a) _ a p (by omega) (by omega)]
      simp only
      rw [ih]
      congr 1
      refine congrArg tickRow (funext fun u=> ?_)
      have e:inSpan x (u:Int)=(decide (a<=u)&&decide (u<b)):=by
        unfold inSpan;rw [hs,ha,hb,Bool.true_and]
        congr 1
        · by_cases h:a<=u
          · rw [yZ h,yZ (by omega)]
          · rw [vZ h,vZ (by omega)]
        · by_cases h:u<b
          · rw [yZ h,yZ (by omega)]
          · rw [vZ h,vZ (by omega)]
      unfold inSpans;rw [List.any_cons,e,Bool.or_assoc]
  · simp
abbrev TB:=Int×Int×Int×Int×Int×Int
def needStep (b:TB) (xs:List (Int×Int)) (u v:Int):Int:=if inSpans xs u then mx 0 (IntKind.i64.wrap (IntKind.i64.wrap (v+b.2.2.2.1)-b.2.2.2.2.2)) else mx 0 (IntKind.i64.wrap (v+b.2.2.2.1))
/-- What is needed at tick lo, m ticks ahead of the end. -/
def needFrom (b:TB) (xs:List (Int×Int)):Nat->Nat->Int
 | _,0=>0
 | lo,m+1=>needStep b xs (lo:Int) (needFrom b xs (lo+1) m)
theorem need_at (b:TB) (xs:List (Int×Int)) {lo m n:Nat} (h:m+1<=n):needFrom b xs (lo+m) (n-m)=needStep b xs ((lo+m:Nat):Int) (needFrom b xs (lo+(m+1)) (n-(m+1))):=by
 have:n-m=(n-(m+1))+1:=by omega
 rw [this,needFrom];rfl
theorem loopsNeedAt {k:Nat} (b:TB) (xs:List (Int×Int)) (hl:xs.length<=1000) (hk:1004<=k) (lo n:Nat) (hn:lo+n<=1000):∀(m q:Nat),m<=n->m<q->
    LsNeedAt_0 k (fun (v0:Int×Int)=>some v0.1) (xs,(lo:Int),b) q (needFrom b xs (lo+m) (n-m),((lo+m:Nat):Int)-1)=some (needFrom b xs lo n)
  | 0,q+1,_,_=>by
    show (if decide (((lo+0:Nat):Int)-1>=(lo:Int))=true then _ else _)=_
    rw [eY (by simp;omega)]
    rfl
  | m+1,q+1,hm,hq=>by
    have e:((lo+(m+1):Nat):Int)-1=((lo+m:Nat):Int):=by omega
    rw [e];show (if decide (((lo+m:Nat):Int)>=(lo:Int))=true then (FsInSpans k xs ((lo+m:Nat):Int)).bind _ else _)=_
    have hw:IntKind.i64.wrap (((lo+m:Nat):Int)-1)=((lo+m:Nat):Int)-1:=T1 (by omega) (by omega)
    rw [dY (by simp;omega),fsInSpans _ _ (by omega) (by omega),rZ]
    have ih:=loopsNeedAt b xs hl hk lo n hn m q (by omega) (by omega)
    rw [need_at b xs hm] at ih;unfold needStep at ih;cases hs:inSpans xs ((lo+m:Nat):Int) with
    | true=>
      rw [dY rfl,fsMax _ _ (by omega),rZ,hw]
      rw [hs,dY rfl] at ih;exact ih
    | false=>
      rw [eY (by decide),fsMax _ _ (by omega),rZ,hw]
      rw [hs,eY (by decide)] at ih
      exact ih
def rates (b:TB):Bool:=inR b.2.2.2.1 0 100&&inR b.2.2.2.2.2 0 100
theorem fsl22Rates {k:Nat} (b:TB) (hk:2<=k):Fsl22Rates k b=some (rates b):=by
 obtain ⟨k,rfl⟩:=pred (d:=1) hk;rw [esl22Rates,fsl1In _ _ _ (by omega),rZ]
 unfold rates;cases inR b.2.2.2.1 0 100
 · rfl
 · rw [dY (show (true==true)=true from rfl),fsl1In _ _ _ (by omega)]
   rfl
def needAt (b:TB) (xs:List (Int×Int)) (lo hi:Int):Int:=if rates b then if lo<0 then 0 else if hi>1000 then 0 else if hi<=lo then 0 else needFrom b xs lo.toNat (hi-lo).toNat else 0
theorem fsNeedAt {k:Nat} (b:TB) (xs:List (Int×Int)) (lo hi:Int) (hl:xs.length<=1000) (hk:1006<=k):FsNeedAt k b xs lo hi=some (needAt b xs lo hi):=by
 obtain ⟨k,rfl⟩:=pred (d:=1005) hk;rw [esNeedAt,fsl22Rates _ (by omega),rZ]
 unfold needAt;cases rates b
 · rfl
 · rw [dY (show ((!true)==false)=true from rfl),dY rfl]
   by_cases h1:lo<0
   · rw [eY (by simp;omega),dY h1]
   · rw [dY (by simp;omega),eY h1]
     by_cases h2:hi>1000
     · rw [eY (by simp;omega),dY h2]
     · rw [dY (by simp;omega),eY h2]
       by_cases h3:hi<=lo
       · rw [dY (by simpa using h3),dY h3]
       · rw [eY (by simpa using h3),eY h3]
         obtain ⟨a,rfl⟩:∃a:Nat,lo=(a:Int):=⟨lo.toNat,by omega⟩
         obtain ⟨c,rfl⟩:∃c:Nat,hi=(c:Int):=⟨hi.toNat,by omega⟩
         have e1:((c:Int)-(a:Int)).toNat=c-a:=by omega
         have e2:(a:Int).toNat=a:=by simp
         have:=loopsNeedAt b xs hl (show 1004<=k by omega) a (c-a) (by omega) (c-a) k (by omega) (by omega)
         rw [show a+(c-a)=c by omega,show c-a-(c-a)=0 by omega] at this
         rw [e1,e2,T1 (by omega) (by omega)]
         exact this
theorem loopineeds {k:Nat} (b:TB) (xs:List (Int×Int)) (lo n:Nat) (hn:lo+n<=1000):∀(m q:Nat) (out:List Int),m<=n->m<q->out.length=n+1->out[m]? =some (needFrom b xs (lo+m) (n-m))->
    ∃out',Lineeds_0 k (fun (v0:Int×(List Int))=>some v0.2) ((lo:Int),tickRow (fun u=>inSpans xs (u:Int)),b) q (((lo+m:Nat):Int)-1,out)=some out'/\out'[0]? =some (needFrom b xs lo n)
  | 0,q+1,out,_,_,_,h0=>by
    refine ⟨out,?_,h0⟩
    show (if decide (((lo+0:Nat):Int)-1>=(lo:Int))=true then _ else _)=_
    rw [eY (by simp;omega)]
  | m+1,q+1,out,hm,hq,hlen,h0=>by
    have hm1:m+1<out.length:=by omega
    have hm0:m<out.length:=by omega
    have e:((lo+(m+1):Nat):Int)-1=((lo+m:Nat):Int):=by omega
    have h0':out[m+1]=needFrom b xs (lo+(m+1)) (n-(m+1)):=by
      rw [dZ hm1] at h0
      exact xZ h0
    obtain ⟨out',h1,h2⟩:=loopineeds (k:=k) b xs lo n hn m q (out.set m (needFrom b xs (lo+m) (n-m))) (by omega) (by omega) (by simpa using hlen) (by rw [List.getElem?_set];simp [hm0])
    refine ⟨out',?_,h2⟩
    rw [<-h1,e];have hw:IntKind.i64.wrap (((lo+m:Nat):Int)-1)=((lo+m:Nat):Int)-1:=T1 (by omega) (by omega)
    have hw1:IntKind.i64.wrap (((lo+m:Nat):Int)-(lo:Int))=(m:Int):=by rw [T1 (by omega) (by omega)];omega
    have hw2:IntKind.i64.wrap ((m:Int)+1)=((m+1:Nat):Int):=by rw [T1 (by omega) (by omega)];omega
    have hn1:((m+1:Nat):Int).toNat=m+1:=by simp
    have hn0:(m:Int).toNat=m:=by simp
    have hnu:((lo+m:Nat):Int).toNat=lo+m:=by omega
    have htl:(tickRow (fun u=>inSpans xs (u:Int))).length=1000:=by simp [tickRow]
    have ht:(tickRow (fun u=>inSpans xs (u:Int)))[lo+m]'(by omega)=inSpans xs ((lo+m:Nat):Int):=by simp [tickRow]
    show (Bineeds_0 k (fun (v0:Int×(List Int))=>some v0.2) ((lo:Int),tickRow (fun u=>inSpans xs (u:Int)),b) (Lineeds_0 k (fun (v0:Int×(List Int))=>some v0.2) ((lo:Int),tickRow (fun u=>inSpans xs (u:Int)),b) q) (((lo+m:Nat):Int),out))=_
    unfold Bineeds_0;dsimp only;rw [dY (by simp;omega),hw1,hw2,hn1,hn0,hnu,hw,dY (by omega),dY (by omega),ix_at hm1,h0',dY (by omega),ix_at (by omega),ht,need_at b xs hm]
    unfold needStep;split
    · rename_i hs;rw [dY (by omega),dY (by omega),ix_at hm0]
    · rename_i hs;rw [dY (by omega),dY (by omega),ix_at hm0]
theorem fineeds {k:Nat} (b:TB) (xs:List (Int×Int)) (lo hi:Int) (hl:xs.length<=1000) (hk:2012<=k):∃out,Fineeds k b xs lo hi=some out/\out[0]? =some (needAt b xs lo hi):=by
 obtain ⟨k,rfl⟩:=pred (d:=2011) hk;rw [eineeds,fiInRange _ _ _ (by omega),rZ]
 unfold needAt rates;cases h0:inR b.2.2.2.1 0 100
 · exact ⟨_,rfl,rfl⟩
 · rw [dY (show ((!true)==false)=true from rfl),fiInRange _ _ _ (by omega),rZ]
   cases h0':inR b.2.2.2.2.2 0 100
   · exact ⟨_,rfl,rfl⟩
   · rw [dY (show ((!true)==false)=true from rfl),dY (show (true&&true)=true from rfl)]
     by_cases h1:lo<0
     · rw [eY (by simp;omega),dY h1];exact ⟨_,rfl,rfl⟩
     · rw [dY (by simp;omega),eY h1]
       by_cases h2:hi>1000
       · rw [eY (by simp;omega),dY h2];exact ⟨_,rfl,rfl⟩
       · rw [dY (by simp;omega),eY h2]
         by_cases h3:hi<=lo
         · rw [dY (by simpa using h3),dY h3];exact ⟨_,rfl,rfl⟩
         · rw [eY (by simp;omega),eY h3,fiticks _ (by omega) (by omega),rZ]
           obtain ⟨a,rfl⟩:∃a:Nat,lo=(a:Int):=⟨lo.toNat,by omega⟩
           obtain ⟨c,rfl⟩:∃c:Nat,hi=(c:Int):=⟨hi.toNat,by omega⟩
           have e1:((c:Int)-(a:Int)).toNat=c-a:=by omega
           have e2:(a:Int).toNat=a:=by simp
           have hw:IntKind.i64.wrap (IntKind.i64.wrap ((c:Int)-(a:Int))+1)=((c-a+1:Nat):Int):=by
            rw [T1 (n:=(c:Int)-(a:Int)) (by omega) (by omega),T1 (by omega) (by omega)]
            omega
           have hw1:IntKind.i64.wrap ((c:Int)-1)=((a+(c-a):Nat):Int)-1:=by rw [T1 (by omega) (by omega)];omega
           have hn1:((c-a+1:Nat):Int).toNat=c-a+1:=by simp
           rw [hw,dY (beq_self_eq_true _),dY (by omega),hn1,dY (by omega),hw1,e1,e2]
           exact loopineeds b xs a (c-a) (by omega) (c-a) k _ (by omega) (by omega) (by simp) (by rw [show c-a-(c-a)=0 by omega];rw [List.getElem?_replicate];simp [needFrom])
theorem fiNeedAt {k:Nat} (b:TB) (xs:List (Int×Int)) (lo hi:Int) (hl:xs.length<=1000) (hk:2013<=k):FiNeedAt k b xs lo hi=some (needAt b xs lo hi):=by
 obtain ⟨k,rfl⟩:=pred (d:=2012) hk;obtain ⟨out,h1,h2⟩:=fineeds (k:=k) b xs lo hi hl (by omega)
 rw [eiNeedAt,h1,rZ];have hlt:0<out.length:=by
  rcases Nat.eq_zero_or_pos out.length with h | h
  · rw [List.getElem?_eq_none (by omega)] at h2;cases h2
  · exact h
 rw [dY (by omega)]
 unfold ix;rw [show (0:Int).toNat=0 from rfl,h2]
theorem litOf_le (w:TW) (n:Int):(litOf w n).length<=1000:=lit_le _ _ _
def needNow (w:TW) (n:Int):Int:=if isIdx n (w.2.2.2.2.1.length:Int) then match w.2.2.2.2.1[n.toNat]? with
 | some b=>needAt b (litOf w n) w.2.2.2.2.2.2.2.2.2.2.1 w.2.2.2.2.2.2.2.2.2.2.2.1
 | none=>0
 else 0
theorem fsNeedNow {k:Nat} (w:TW) (n:Int) (h1:w.1.2.1.length<=549755813888) (h2:w.2.2.2.2.1.length<=549755813888) (hk:1020<=k):FsNeedNow k w n=some (needNow w n):=by
  obtain ⟨k,rfl⟩:=pred (d:=1019) hk;rw [esNeedNow,fsl1In _ _ _ (by omega),inR_last _ (by omega),rZ]
  unfold needNow;cases h:isIdx n (w.2.2.2.2.1.length:Int) with
  | false=>rfl
  | true=>
    obtain ⟨h0,hlt⟩:=isIdx_pos h;rw [eY (by decide),dY h0,ix_at hlt,dZ hlt,fsLitOf w n (by omega) (by omega),rZ,fsNeedAt _ _ _ _ (litOf_le w n) (by omega)]
    rfl
theorem fiNeedNow {k:Nat} (w:TW) (n:Int) (h1:w.1.2.1.length<=549755813888) (h2:w.2.2.2.2.1.length<=549755813888) (hk:2020<=k):FiNeedNow k w n=some (needNow w n):=by
  obtain ⟨k,rfl⟩:=pred (d:=2019) hk;rw [eiNeedNow,fiisIndex _ _ (by omega),rZ]
  unfold needNow;cases h:isIdx n (w.2.2.2.2.1.length:Int) with
  | false=>rfl
  | true=>
    obtain ⟨h0,hlt⟩:=isIdx_pos h;rw [eY (by decide),dY h0,ix_at hlt,dZ hlt,fiLitOf w n (by omega) (by omega),rZ,fiNeedAt _ _ _ _ (litOf_le w n) (by omega)]
    rfl
def isBat (b:TB):Bool:=inR b.2.2.2.1 0 100&&(inR b.2.2.2.2.1 0 100&&(inR b.2.2.2.2.2 0 100&&(inR b.2.1 0 10000&&(inR b.2.2.1 0 b.2.1&&inR b.1 b.2.2.1 b.2.1))))
theorem fsIsBattery {k:Nat} (b:TB) (hk:3<=k):FsIsBattery k b=some (isBat b):=by
 obtain ⟨k,rfl⟩:=pred (d:=2) hk;simp only [esIsBattery,fsl22Rates b (show 2<=k by omega),rZ,fsl1In _ _ _ (show 1<=k by omega)]
 unfold isBat rates;cases inR b.2.2.2.1 0 100<;>cases inR b.2.2.2.2.1 0 100<;>cases inR b.2.2.2.2.2 0 100<;>cases inR b.2.1 0 10000<;>cases inR b.2.2.1 0 b.2.1<;>rfl
theorem fiIsBattery {k:Nat} (b:TB) (hk:2<=k):FiIsBattery k b=some (isBat b):=by
 obtain ⟨k,rfl⟩:=pred (d:=1) hk;simp only [eiIsBattery,rZ,fiInRange _ _ _ (show 1<=k by omega)]
 unfold isBat;cases inR b.2.2.2.1 0 100<;>cases inR b.2.2.2.2.1 0 100<;>cases inR b.2.2.2.2.2 0 100<;>cases inR b.2.1 0 10000<;>cases inR b.2.2.1 0 b.2.1<;>rfl
def maySend (b:TB) (v:Int):Bool:=isBat b&&(inR v 0 10000&&decide (IntKind.i64.wrap (b.1-b.2.2.2.2.1)>=IntKind.i64.wrap (b.2.2.1+v)))
theorem fsMaySend {k:Nat} (b:TB) (v:Int) (hk:4<=k):FsMaySend k b v=some (maySend b v):=by
 obtain ⟨k,rfl⟩:=pred (d:=3) hk;simp only [esMaySend,fsIsBattery b (show 3<=k by omega),rZ,fsl1In _ _ _ (show 1<=k by omega)]
 unfold maySend;cases isBat b<;>cases inR v 0 10000<;>rfl
theorem fiMaySend {k:Nat} (b:TB) (v:Int) (hk:4<=k):FiMaySend k b v=some (maySend b v):=by
 obtain ⟨k,rfl⟩:=pred (d:=3) hk;simp only [eiMaySend,fiIsBattery b (show 2<=k by omega),rZ,fiInRange _ _ _ (show 1<=k by omega)]
 unfold maySend;cases isBat b<;>cases inR v 0 10000<;>rfl
def canSend (w:TW) (n:Int):Bool:=isIdx n w.2.1.1&&(!down w.2.2.2.2.2.2.2.2.2.1 n w.2.2.2.2.2.2.2.2.2.2.1&&(if n>=w.2.1.2.1 then true else if isIdx n (w.2.2.2.2.1.length:Int) then match w.2.2.2.2.1[n.toNat]? with
 | some b=>maySend b (needNow w n)
 | none=>false
 else false))
theorem fsCanSend {k:Nat} (w:TW) (n:Int) (h1:w.1.2.1.length<=549755813888) (h2:w.2.2.2.2.1.length<=549755813888) (h3:w.2.2.2.2.2.2.2.2.2.1.length<=549755813888) (hk:w.2.2.2.2.2.2.2.2.2.1.length+1030<=k):FsCanSend k w n=some (canSend w n):=by
  obtain ⟨k,rfl⟩:=pred (d:=1029) (show 1030<=k by omega)
  rw [esCanSend];unfold canSend;by_cases g1:n<0
  · rw [eY (by simp;omega)]
    have:isIdx n w.2.1.1=false:=by unfold isIdx;simp;omega
    rw [this];rfl
  · rw [dY (by simp;omega)]
    by_cases g2:n>=w.2.1.1
    · rw [eY (by simp;omega)]
      have:isIdx n w.2.1.1=false:=by unfold isIdx;simp;omega
      rw [this];rfl
    · rw [dY (by simp;omega),fsIsDown _ _ _ (by omega) (by omega),rZ]
      have:isIdx n w.2.1.1=true:=by unfold isIdx;simp;omega
      rw [this];cases down w.2.2.2.2.2.2.2.2.2.1 n w.2.2.2.2.2.2.2.2.2.2.1
      · rw [eY (by decide)]
        by_cases g3:n>=w.2.1.2.1
        · rw [dY (by simpa using g3),dY g3];rfl
        · rw [eY (by simpa using g3),eY g3]
          cases h:isIdx n (w.2.2.2.2.1.length:Int) with
          | false=>
            have:¬n<(w.2.2.2.2.1.length:Int):=fun hlt=>by unfold isIdx at h;simp at h;omega
            rw [eY (by simp;omega)]
            rfl
          | true=>
            obtain ⟨h0,hlt⟩:=isIdx_pos h;rw [dY (by simp;omega),dY h0,ix_at hlt,dZ hlt,fsNeedNow w n h1 h2 (by omega),rZ,fsMaySend _ _ (by omega)]
            rfl
      · rfl
theorem fiCanSend {k:Nat} (w:TW) (n:Int) (h1:w.1.2.1.length<=549755813888) (h2:w.2.2.2.2.1.length<=549755813888) (h3:w.2.2.2.2.2.2.2.2.2.1.length<=549755813888) (hk:w.2.2.2.2.2.2.2.2.2.1.length+2030<=k):FiCanSend k w n=some (canSend w n):=by
  obtain ⟨k,rfl⟩:=pred (d:=2029) (show 2030<=k by omega)
  rw [eiCanSend,fiisIndex _ _ (by omega),rZ]
  unfold canSend;cases isIdx n w.2.1.1
  · rfl
  · rw [dY (by decide),fiIsDown _ _ _ (by omega) (by omega),rZ]
    cases down w.2.2.2.2.2.2.2.2.2.1 n w.2.2.2.2.2.2.2.2.2.2.1
    · rw [eY (by decide)]
      by_cases g3:n>=w.2.1.2.1
      · rw [eY (by simp;omega),dY g3];rfl
      · rw [dY (by simp;omega),eY g3,fiisIndex _ _ (by omega),rZ]
        cases h:isIdx n (w.2.2.2.2.1.length:Int) with
        | false=>rfl
        | true=>
          obtain ⟨h0,hlt⟩:=isIdx_pos h;rw [dY (by decide),dY h0,ix_at hlt,dZ hlt,fiNeedNow w n h1 h2 (by omega),rZ,fiMaySend _ _ (by omega)]
          rfl
    · rfl
abbrev TPk:Type:=Int×Int×Int×Int×Int×Int
def ordI (p:TPk->Bool):Nat->List TPk->List Int
 | _,[]=>[]
 | i,x::r=>if p x=true then (i:Int)::ordI p (i+1) r else ordI p (i+1) r
theorem ordI_len (p:TPk->Bool):∀(l:List TPk) (i:Nat),(ordI p i l).length<=l.length
  | [],_=>cY 0
  | x::r,i=>by
    have:=ordI_len p r (i+1)
    unfold ordI;split
    · simpa using this
    · simp;omega
theorem ordI_mem (p:TPk->Bool):∀(l:List TPk) (i:Nat) (y:Int),y ∈ ordI p i l->∃j,y=((i+j:Nat):Int)/\j<l.length
  | [],_,y,h=>by simp [ordI] at h
  | x::r,i,y,h=>by
    unfold ordI at h;have hrec:y ∈ ordI p (i+1) r->∃j,y=((i+j:Nat):Int)/\j<(x::r).length:=fun h=>by
      obtain ⟨j,h1,h2⟩:=ordI_mem p r (i+1) y h;exact ⟨j+1,by omega,by simpa using h2⟩
    split at h
    · rcases zZ.1 h with h | h
      · exact ⟨0,by simpa using h,by simp⟩
      · exact hrec h
    · exact hrec h
def p1 (x:TPk):Bool:=x.2.2.2.2.2==1
def p2 (x:TPk):Bool:=x.2.2.2.2.2 !=1
def order (q:List TPk):List Int:=ordI p1 0 q++ordI p2 0 q
theorem fsOrderOf {k:Nat} (q:List TPk) (hl:q.length<=549755813888) (hk:q.length+3<=k):FsOrderOf k q=some (order q):=by
 obtain ⟨k,rfl⟩:=pred (d:=0) (show 1<=k by omega)
 have h2:∀(s0:List Int) (z:Int),s0.length<=549755813888->LsOrderOf_1 k (fun (v1:Int×(List Int))=>some v1.2) (z,q) k (0,s0)=some (s0++ordI p2 0 q):=by
  intro s0 z hs0;refine row_inv0 (L:=LsOrderOf_1 k (fun (v1:Int×(List Int))=>some v1.2) (z,q)) (a:=q) (fun (s:List Int) i=>(i,s)) (fun s i r=>some (s++ordI p2 i r)) (X:=fun s _=>some s) (fun s i=>s.length<=s0.length+i) (fun _ _ _=>rfl) (by omega) (fun s _=>by simp [ordI]) (fun n i s x r hI h0 ht hw hi hx ih=> ?_) (by omega) s0 (by omega)
  dsimp only;rw [hw];show _=some (s++(if p2 x=true then (i:Int)::ordI p2 (i+1) r else ordI p2 (i+1) r))
  by_cases h:p2 x=true
  · rw [dY (show (x.2.2.2.2.2 !=1)=true from h),dY (by simp;omega),ih _ (by simp;omega),dY h]
    simp
  · rw [eY (show ¬(x.2.2.2.2.2 !=1)=true from h),ih _ (by omega),eY h]
 refine (esOrderOf k q).trans ((row_inv0 (L:=LsOrderOf_0 k (fun (v0:Int×(List Int))=>LsOrderOf_1 k (fun (v1:Int×(List Int))=>some v1.2) (v0.1,q) k (0,v0.2)) q) (a:=q) (fun (s:List Int) i=>(i,s)) (fun s i r=>some (s++ordI p1 i r++ordI p2 0 q)) (X:=fun s i=>LsOrderOf_1 k (fun (v1:Int×(List Int))=>some v1.2) (i,q) k (0,s)) (fun s i=>s.length<=i) (fun _ _ _=>rfl) (by omega) (fun s hs=>by rw [h2 s _ (by omega)];simp [ordI]) (fun n i s x r hI h0 ht hw hi hx ih=> ?_) (by omega) [] (by simp)).trans (by simp [order]))
 dsimp only;rw [hw];show _=some (s++(if p1 x=true then (i:Int)::ordI p1 (i+1) r else ordI p1 (i+1) r)++ordI p2 0 q)
 by_cases h:p1 x=true
 · rw [dY (show (x.2.2.2.2.2==1)=true from h),dY (by simp;omega),ih _ (by simp;omega),dY h]
   simp
 · rw [eY (show ¬(x.2.2.2.2.2==1)=true from h),ih _ (by omega),eY h]
theorem fiOrderOf {k:Nat} (q:List TPk) (hl:q.length<=549755813888) (hk:q.length+3<=k):FiOrderOf k q=some (order q):=by
 obtain ⟨k,rfl⟩:=pred (d:=0) (show 1<=k by omega)
 refine (eiOrderOf k q).trans ((row_inv0 (L:=LiOrderOf_0 k (fun (v0:Int×(List Int)×(List Int))=>if (v0.2.1.length+v0.2.2.length)*8<=140737488355328 then some (v0.2.1++v0.2.2) else none) (q,(q.length:Int))) (a:=q) (fun (s:List Int×List Int) i=>(i,s.1,s.2)) (fun s i r=>some ((s.1++ordI p1 i r)++(s.2++ordI p2 i r))) (X:=fun s _=>if (s.1.length+s.2.length)*8<=140737488355328 then some (s.1++s.2) else none) (fun s i=>s.1.length<=i/\s.2.length<=i) (fun _ _ _=>rfl) (by omega) (fun s hs=>by rw [dY (by omega)];simp [ordI]) (fun n i s x r hI h0 ht hw hi hx ih=> ?_) (by omega) ([],[]) (by simp)).trans (by simp [order]))
 obtain ⟨I1,I2⟩:=hI;dsimp only;rw [hw];show _=some ((s.1++(if p1 x=true then (i:Int)::ordI p1 (i+1) r else ordI p1 (i+1) r))++(s.2++(if p2 x=true then (i:Int)::ordI p2 (i+1) r else ordI p2 (i+1) r)))
 by_cases h:p1 x=true
 · have h':¬p2 x=true:=by unfold p1 at h;unfold p2;rw [bne,h];decide
   rw [dY (show (x.2.2.2.2.2==1)=true from h),dY (by simp;omega),dY h,eY h']
   refine (ih (s.1++[(i:Int)],s.2) ⟨by simp;omega,by simp;omega⟩).trans ?_
   simp
 · have h':p2 x=true:=by unfold p1 at h;unfold p2;rw [bne];simpa using h
   rw [eY (show ¬(x.2.2.2.2.2==1)=true from h),dY (by simp;omega),eY h,dY h']
   refine (ih (s.1,s.2++[(i:Int)]) ⟨by simp;omega,by simp;omega⟩).trans ?_
   simp
def pick (q:List TPk) (hop:Int->Int):List Int->TPk×Int×Bool
 | []=>((0,0,0,0,0,0),-1,false)
 | x::r=>if hop ((q[x.toNat]?).getD (0,0,0,0,0,0)).2.2.2.2.1>=0 then ((q[x.toNat]?).getD (0,0,0,0,0,0),hop ((q[x.toNat]?).getD (0,0,0,0,0,0)).2.2.2.2.1,true) else pick q hop r
theorem pick_cons (q:List TPk) (hop:Int->Int) (x:Int) (r:List Int):pick q hop (x::r)=if hop ((q[x.toNat]?).getD (0,0,0,0,0,0)).2.2.2.2.1>=0 then ((q[x.toNat]?).getD (0,0,0,0,0,0),hop ((q[x.toNat]?).getD (0,0,0,0,0,0)).2.2.2.2.1,true) else pick q hop r:=rfl
theorem fChoiceFor {k j N:Nat} (w:TW) (n:Int) (hr:rowsLe N Q0 w) (hN:N<=549755813888) (hk:2*N+5000<=k) (hj:2*N+5000<=j):
    ∃c,FsChoiceFor j w n=some c/\FiChoiceFor k w n=some c:=by
  obtain ⟨k,rfl⟩:=pred (d:=0) (show 1<=k by omega)
  obtain ⟨j,rfl⟩:=pred (d:=0) (show 1<=j by omega)
  have l1:w.1.2.1.length<=N:=(Z0 hr.1.2.1).1;have l5:w.2.2.2.2.1.length<=N:=(Z0 hr.2.2.2.2.1).1;have l10:w.2.2.2.2.2.2.2.2.2.1.length<=N:=(Z0 hr.2.2.2.2.2.2.2.2.2.1).1;obtain ⟨l6',q6⟩:=Z0 hr.2.2.2.2.2.1;have l6:w.2.2.2.2.2.1.length<=N:=l6';have es:=(esChoiceFor j w n).trans (bs (fsCanSend w n (by omega) (by omega) (by omega) (by omega)))
  have ei:=(eiChoiceFor k w n).trans (bs (fiCanSend w n (by omega) (by omega) (by omega) (by omega)))
  cases hC:canSend w n with
  | false=>
    rw [hC] at es ei;exact ⟨_,es.trans (eY (by decide)),ei.trans (eY (by decide))⟩
  | true=>
  rw [hC] at es ei;have hn0:0<=n:=by
    unfold canSend at hC;simp only [sZ] at hC
    have:=hC.1
    unfold isIdx at this;simp only [sZ,pZ] at this;exact this.1
  have es:=es.trans (dY rfl);have ei:=ei.trans ((dY rfl).trans (bs (fiisIndex _ _ (by omega))))
  by_cases hl:n>=(w.2.2.2.2.2.1.length:Int)
  · have:isIdx n (w.2.2.2.2.2.1.length:Int)=false:=by unfold isIdx;simp;omega
    rw [this] at ei;exact ⟨_,es.trans (dY (yZ hl)),ei.trans (eY (by decide))⟩
  have hI:isIdx n (w.2.2.2.2.2.1.length:Int)=true:=by unfold isIdx;simp;omega
  rw [hI] at ei;have hlt:n.toNat<w.2.2.2.2.2.1.length:=by omega
  have hq:w.2.2.2.2.2.1[n.toNat]? =some w.2.2.2.2.2.1[n.toNat]:=dZ hlt
  have hql:(w.2.2.2.2.2.1[n.toNat]).length<=N:=(Z0 (e:=0) (sh:=sI6) (q6 _ (tZ hlt))).1;have es:=es.trans ((eY (by rw [vZ hl];decide)).trans ((dY hn0).trans ((Y0 hq _).trans (bs (fsOrderOf _ (by omega) (by omega))))))
  have ei:=ei.trans ((dY rfl).trans ((dY hn0).trans ((Y0 hq _).trans (bs (fiOrderOf _ (by omega) (by omega))))))
  generalize w.2.2.2.2.2.1[n.toNat]=q at es ei hql;have hhop:∀d,∃h,FsHopFor j w n d=some h/\FiHopFor k w n d=some h:=fun d=>fHopFor (j:=j) w n d hr hN (by omega) (by omega)
  obtain ⟨hop,hh⟩:=Classical.axiomOfChoice hhop;have hom:∀y ∈ order q,0<=y/\y.toNat<q.length:=fun y hy=>by
    rcases wZ.1 hy with h | h
    · obtain ⟨j,h1,h2⟩:=ordI_mem _ _ _ _ h;omega
    · obtain ⟨j,h1,h2⟩:=ordI_mem _ _ _ _ h;omega
  have hol:(order q).length<=2*N:=by
    have h1:=ordI_len p1 q 0;have h2:=ordI_len p2 q 0;unfold order;simp;omega
  generalize order q=o at es ei hom hol;have hq0:∀y ∈ o,q[y.toNat]? =some ((q[y.toNat]?).getD (0,0,0,0,0,0)):=fun y hy=>by
    rw [dZ (hom y hy).2];rfl
  refine ⟨pick q hop o,es.trans ?_,ei.trans ?_⟩
  · refine row_i (L:=LsChoiceFor_0 j (fun (v0:Int) (x4:Int) (x5:TPk) (p6:Int)=>some (x5,p6,true)) (fun (v0:Int)=>some ((0,0,0,0,0,0),-1,false)) (n,w,0,0,0,0,0,0,q,o)) (X:=fun _=>some ((0,0,0,0,0,0),-1,false)) (a:=o) (body:=fun m i x4=>if 0<=x4 then ix q x4.toNat fun x5=>(FsHopFor j w n x5.2.2.2.2.1).bind fun p6=>if (decide (p6>=0))=true then some (x5,p6,true) else LsChoiceFor_0 j (fun (v0:Int) (x4:Int) (x5:TPk) (p6:Int)=>some (x5,p6,true)) (fun (v0:Int)=>some ((0,0,0,0,0,0),-1,false)) (n,w,0,0,0,0,0,0,q,o) m (IntKind.i64.wrap (i+1)) else none) (fun _ r=>some (pick q hop r)) (fun m i=>own_if _ _ _ _) (by omega) rfl (fun m i x r h0 ht hw hi hx ih=> ?_) (by omega)
    have hm:=iZ hx;rw [dY (hom x hm).1,Y0 (hq0 x hm),(hh _).1,rZ,hw,ih];rw [pick_cons];by_cases h:hop ((q[x.toNat]?).getD (0,0,0,0,0,0)).2.2.2.2.1>=0
    · rw [dY (yZ h),dY h]
    · rw [eY (by rw [vZ h];decide),eY h]
  · refine row_i (L:=LiChoiceFor_0 k (fun (v0:Int) (x5:Int) (x6:TPk) (p7:Int) (x8:TPk)=>some (x8,p7,true)) (fun (v0:Int)=>some ((0,0,0,0,0,0),-1,false)) (n,(o.length:Int),w,0,0,0,0,0,0,q,o)) (X:=fun _=>some ((0,0,0,0,0,0),-1,false)) (a:=o) (body:=fun m i x5=>if 0<=x5 then ix q x5.toNat fun x6=>(FiHopFor k w n x6.2.2.2.2.1).bind fun p7=>if (decide (p7>=0))=true then if 0<=x5 then ix q x5.toNat fun x8=>some (x8,p7,true) else none else LiChoiceFor_0 k (fun (v0:Int) (x5:Int) (x6:TPk) (p7:Int) (x8:TPk)=>some (x8,p7,true)) (fun (v0:Int)=>some ((0,0,0,0,0,0),-1,false)) (n,(o.length:Int),w,0,0,0,0,0,0,q,o) m (IntKind.i64.wrap (i+1)) else none) (fun _ r=>some (pick q hop r)) (fun m i=>own_if _ _ _ _) (by omega) rfl (fun m i x r h0 ht hw hi hx ih=> ?_) (by omega)
    have hm:=iZ hx;rw [dY (hom x hm).1,Y0 (hq0 x hm),(hh _).2,rZ,hw,ih];rw [pick_cons];by_cases h:hop ((q[x.toNat]?).getD (0,0,0,0,0,0)).2.2.2.2.1>=0
    · rw [dY (yZ h),dY h,dY (hom x hm).1,Y0 (hq0 x hm)]
    · rw [eY (by rw [vZ h];decide),eY h]
def chStep (now i:Int) (c:TPk×Int×Bool) (out:List (Int×Int×Int×Int)):List (Int×Int×Int×Int):=if c.2.2=true then out++[(now,i,c.2.1,c.1.1)] else out
theorem chStep_len (now i:Int) (c:TPk×Int×Bool) (out:List (Int×Int×Int×Int)):(chStep now i c out).length<=out.length+1:=by
 unfold chStep;split<;>simp
def chs (cf:Int->TPk×Int×Bool) (now:Int):Nat->Nat->List (Int×Int×Int×Int)->List (Int×Int×Int×Int)
 | 0,_,out=>out
 | m+1,i,out=>chs cf now m (i+1) (chStep now (i:Int) (cf (i:Int)) out)
theorem chs_len (cf:Int->TPk×Int×Bool) (now:Int):∀(m i:Nat) (out:List (Int×Int×Int×Int)),(chs cf now m i out).length<=out.length+m
  | 0,_,_=>cY _
  | m+1,i,out=>by
    have h1:=chs_len cf now m (i+1) (chStep now (i:Int) (cf (i:Int)) out);have h2:=chStep_len now (i:Int) (cf (i:Int)) out;unfold chs;omega
theorem chs_pos (cf:Int->TPk×Int×Bool) (now:Int):∀(m i:Nat) (out:List (Int×Int×Int×Int)),(∀x ∈ out,0<=x.2.1)->∀x ∈ chs cf now m i out,0<=x.2.1
  | 0,_,_,h=>h
  | m+1,i,out,h=>by
    refine chs_pos cf now m (i+1) (chStep now (i:Int) (cf (i:Int)) out) fun x hx=> ?_
    unfold chStep at hx;split at hx
    · rcases wZ.1 hx with hx | hx
      · exact h x hx
      · obtain rfl:=kZ.1 hx
        exact Int.natCast_nonneg _
    · exact h x hx
theorem fChoices {k j N:Nat} (w:TW) (hr:rowsLe N Q0 w) (hN:N<=549755813888) (hk:2*N+5100<=k) (hj:2*N+5100<=j):
    ∃c:List (Int×Int×Int×Int),c.length<=12/\(∀x ∈ c,0<=x.2.1)/\FsChoices j w=some c/\FiChoices k w=some c:=by
  obtain ⟨k,rfl⟩:=pred (d:=0) (show 1<=k by omega)
  obtain ⟨j,rfl⟩:=pred (d:=0) (show 1<=j by omega)
  have hcf:∀n,∃c,FsChoiceFor j w n=some c/\FiChoiceFor k w n=some c:=fun n=>fChoiceFor (j:=j) w n hr hN (by omega) (by omega)
  obtain ⟨cf,hh⟩:=Classical.axiomOfChoice hcf;obtain ⟨M,hM,hM12⟩:∃M:Nat,mx 0 (mn w.2.1.1 12)=(M:Int)/\M<=12:=⟨(mx 0 (mn w.2.1.1 12)).toNat,by unfold mx mn;split<;>split<;>omega,by unfold mx mn;split<;>split<;>omega⟩
  have hlt:∀i:Nat,decide ((i:Int)<mn w.2.1.1 12)=decide (i<M):=fun i=>by
    by_cases h:i<M
    · rw [yZ h,yZ];unfold mx at hM;split at hM<;>omega
    · rw [vZ h,vZ];unfold mx at hM;split at hM<;>omega
  refine ⟨chs cf w.2.2.2.2.2.2.2.2.2.2.1 M 0 [],by have:=chs_len cf w.2.2.2.2.2.2.2.2.2.2.1 M 0 [];simp at this;omega,chs_pos _ _ _ _ _ (fun _ h=>absurd h (List.not_mem_nil)),?_,?_⟩
  · have key:∀(m q i:Nat) (out:List (Int×Int×Int×Int)),m<q->i+m=M->out.length<=i->LsChoices_0 j (fun (v0:Int×(List (Int×Int×Int×Int))) (p1:Int)=>some v0.2) w q ((i:Int),out)=some (chs cf w.2.2.2.2.2.2.2.2.2.2.1 m i out):=by
      intro m;induction m with
      | zero=>
        intro q i out hq hi ho;obtain ⟨q,rfl⟩:∃z,q=z+1:=⟨q-1,by omega⟩
        show ((FsMin j w.2.1.1 12).bind fun p1=>if (decide ((i:Int)<p1))=true then _ else some out)=_
        refine (bs (fsMin _ _ (by omega))).trans ?_
        exact eY (by rw [hlt,vZ (by omega)];decide)
      | succ m ih=>
        intro q i out hq hi ho;obtain ⟨q,rfl⟩:∃z,q=z+1:=⟨q-1,by omega⟩
        show ((FsMin j w.2.1.1 12).bind fun p1=>if (decide ((i:Int)<p1))=true then _ else some out)=_
        refine (bs (fsMin _ _ (by omega))).trans ?_
        refine (dY (by rw [hlt,yZ (by omega)])).trans ?_
        refine (bs (hh _).1).trans ?_
        have hw:IntKind.i64.wrap ((i:Int)+1)=((i+1:Nat):Int):=by rw [wrapD (by omega) (by omega)];omega
        show (if (cf (i:Int)).2.2=true then _ else _)=some (chs cf w.2.2.2.2.2.2.2.2.2.2.1 m (i+1) (chStep w.2.2.2.2.2.2.2.2.2.2.1 (i:Int) (cf (i:Int)) out))
        have hl:=chStep_len w.2.2.2.2.2.2.2.2.2.2.1 (i:Int) (cf (i:Int)) out;rw [<-ih q (i+1) _ (by omega) (by omega) (by omega)]
        unfold chStep;by_cases h:(cf (i:Int)).2.2=true
        · rw [dY h,dY h,dY (by simp;omega),hw]
        · rw [eY h,eY h,hw]
    exact (esChoices j w).trans (key M j 0 [] (by omega) (by omega) (by simp))
  · have key:∀(m q i:Nat) (out:List (Int×Int×Int×Int)),m<q->i+m=M->out.length<=i->LiChoices_0 k (fun (v0:Int×(List (Int×Int×Int×Int)))=>some v0.2) ((M:Int),w) q ((i:Int),out)=some (chs cf w.2.2.2.2.2.2.2.2.2.2.1 m i out):=by
      intro m;induction m with
      | zero=>
        intro q i out hq hi ho;obtain ⟨q,rfl⟩:∃z,q=z+1:=⟨q-1,by omega⟩
        show (if (decide ((i:Int)<(M:Int)))=true then _ else some out)=_
        exact eY (by rw [vZ (by omega)];decide)
      | succ m ih=>
        intro q i out hq hi ho;obtain ⟨q,rfl⟩:∃z,q=z+1:=⟨q-1,by omega⟩
        show (if (decide ((i:Int)<(M:Int)))=true then _ else some out)=_
        refine (dY (yZ (by omega))).trans ?_
        refine (bs (hh _).2).trans ?_
        have hw:IntKind.i64.wrap ((i:Int)+1)=((i+1:Nat):Int):=by rw [wrapD (by omega) (by omega)];omega
        show (if (cf (i:Int)).2.2=true then _ else _)=some (chs cf w.2.2.2.2.2.2.2.2.2.2.1 m (i+1) (chStep w.2.2.2.2.2.2.2.2.2.2.1 (i:Int) (cf (i:Int)) out))
        have hl:=chStep_len w.2.2.2.2.2.2.2.2.2.2.1 (i:Int) (cf (i:Int)) out;rw [<-ih q (i+1) _ (by omega) (by omega) (by omega)]
        unfold chStep;by_cases h:(cf (i:Int)).2.2=true
        · rw [dY h,dY h,dY (by simp;omega),hw]
        · rw [eY h,eY h,hw]
    have e:=eiChoices k w;rw [hM] at e;exact e.trans (key M k 0 [] (by omega) (by omega) (by simp))
theorem fgClone_Sat {k:Nat} (x:List (Int×Int×Int×Int)) (hl:x.length<=549755813888) (hk:1<=k):FgClone_Sat k x=some x:=by
 obtain ⟨k,rfl⟩:=pred (d:=0) hk;rw [egClone_Sat,dY (by omega),clone_eq]
theorem fgClone_Site {k:Nat} (x:List (Int×Int×Int)) (hl:x.length<=549755813888) (hk:1<=k):FgClone_Site k x=some x:=by
 obtain ⟨k,rfl⟩:=pred (d:=0) hk;rw [egClone_Site,dY (by omega),clone_eq]
theorem fgClone_Zone {k:Nat} (x:List (Int×Int×Int)) (hl:x.length<=549755813888) (hk:1<=k):FgClone_Zone k x=some x:=by
 obtain ⟨k,rfl⟩:=pred (d:=0) hk;rw [egClone_Zone,dY (by omega),clone_eq]
theorem fgClone_Battery {k:Nat} (x:List (Int×Int×Int×Int×Int×Int)) (hl:x.length<=549755813888) (hk:1<=k):FgClone_Battery k x=some x:=by
 obtain ⟨k,rfl⟩:=pred (d:=0) hk;rw [egClone_Battery,dY (by omega),clone_eq]
theorem fgClone_Fault {k:Nat} (x:List (Int×Int×Int×Int)) (hl:x.length<=549755813888) (hk:1<=k):FgClone_Fault k x=some x:=by
 obtain ⟨k,rfl⟩:=pred (d:=0) hk;rw [egClone_Fault,dY (by omega),clone_eq]
theorem fgClone_Flow {k:Nat} (x:List (Int×Int×Int×Int)) (hl:x.length<=549755813888) (hk:1<=k):FgClone_Flow k x=some x:=by
 obtain ⟨k,rfl⟩:=pred (d:=0) hk;rw [egClone_Flow,dY (by omega),clone_eq]
theorem fgClone_Link {k:Nat} (x:List (Int×Int)) (hl:x.length<=549755813888) (hk:1<=k):FgClone_Link k x=some x:=by
 obtain ⟨k,rfl⟩:=pred (d:=0) hk;rw [egClone_Link,dY (by omega),clone_eq]
theorem fgClone_Packet {k:Nat} (x:List (Int×Int×Int×Int×Int×Int)) (hl:x.length<=549755813888) (hk:1<=k):FgClone_Packet k x=some x:=by
 obtain ⟨k,rfl⟩:=pred (d:=0) hk;rw [egClone_Packet,dY (by omega),clone_eq]
theorem fgClone_Sent {k:Nat} (x:List (Int×Int×Int×Int)) (hl:x.length<=549755813888) (hk:1<=k):FgClone_Sent k x=some x:=by
 obtain ⟨k,rfl⟩:=pred (d:=0) hk;rw [egClone_Sent,dY (by omega),clone_eq]
theorem ficloneQueue {k:Nat} (x:List (Int×Int×Int×Int×Int×Int)) (hl:x.length<=549755813888) (hk:2<=k):FicloneQueue k x=some x:=by
 obtain ⟨k,rfl⟩:=pred (d:=1) hk;rw [eicloneQueue,fgClone_Packet x hl (by omega),rZ]
theorem ficloneLinks {k:Nat} (x:List (Int×Int)) (hl:x.length<=549755813888) (hk:2<=k):FicloneLinks k x=some x:=by
 obtain ⟨k,rfl⟩:=pred (d:=1) hk;rw [eicloneLinks,fgClone_Link x hl (by omega),rZ]
theorem ficloneStream {k:Nat} (x:Int×Int×List Int) (hl:x.2.2.length<=549755813888) (hk:2<=k):FicloneStream k x=some x:=by
 obtain ⟨k,rfl⟩:=pred (d:=1) hk;rw [eicloneStream,fgClone_int _ hl (by omega),rZ]
theorem fsl24Copy {k:Nat} (x:List (Int×Int×Int×Int×Int×Int)) (hl:x.length<=549755813888) (hk:1<=k):Fsl24Copy k x=some x:=by
 obtain ⟨k,rfl⟩:=pred (d:=0) hk;rw [esl24Copy,dY (by omega)]
theorem fsl25Copy {k:Nat} (x:Int×Int×List Int) (hl:x.2.2.length<=549755813888) (hk:1<=k):Fsl25Copy k x=some x:=by
 obtain ⟨k,rfl⟩:=pred (d:=0) hk;rw [esl25Copy,dY (by omega)]
theorem ficloneSky {k N:Nat} (s:TSky) (hr:rowsLe N sSky s) (hN:N<=549755813888) (hk:2<=k):FicloneSky k s=some s:=by
 obtain ⟨k,rfl⟩:=pred (d:=1) hk;have h1:s.2.1.length<=N:=(Z0 hr.2.1).1;have h2:s.2.2.1.length<=N:=(Z0 hr.2.2.1).1;have h3:s.2.2.2.2.2.2.2.2.1.length<=N:=(Z0 hr.2.2.2.2.2.2.2.2.1).1;rw [eicloneSky,fgClone_Sat _ (by omega) (by omega),rZ,fgClone_Site _ (by omega) (by omega),rZ,fgClone_Zone _ (by omega) (by omega),rZ]
theorem fsl33Sky {k N:Nat} (s:TSky) (hr:rowsLe N sSky s) (hN:N<=549755813888) (hk:1<=k):Fsl33Sky k s=some s:=by
 obtain ⟨k,rfl⟩:=pred (d:=0) hk;have h1:s.2.1.length<=N:=(Z0 hr.2.1).1;have h2:s.2.2.1.length<=N:=(Z0 hr.2.2.1).1;have h3:s.2.2.2.2.2.2.2.2.1.length<=N:=(Z0 hr.2.2.2.2.2.2.2.2.1).1;rw [esl33Sky,dY (by omega),dY (by omega),dY (by omega)]
theorem ficloneProgram {k N:Nat} (p:W0) (hr:rowsLe N m0 p) (hN:N<=549755813888) (hk:N+4<=k):FicloneProgram k p=some p:=by
 obtain ⟨k,rfl⟩:=pred (d:=0) (show 1<=k by omega)
 obtain ⟨h1',h2⟩:=Z0 hr.2.2.2;have h1:p.2.2.2.length<=N:=h1';refine (eicloneProgram k p).trans (take_loop (L:=LicloneProgram_0 k _ _) (a:=p.2.2.2) (fun n i h h0 ht hd hw hlen=> ?_) (fun n hd=> ?_) (by omega) (by omega))
 · refine (dY hd).trans ((dY h0).trans ?_)
   have hx:=h2 _ (tZ h);have g1:(p.2.2.2[i]).2.1.length<=N:=(Z0 hx.2.1).1;obtain ⟨g2',g3⟩:=Z0 hx.2.2;have g2:(p.2.2.2[i]).2.2.length<=N:=g2';dsimp only;rw [ht,ix_at h,ficloneLinks _ (by omega) (by omega),rZ]
   refine take_loop (L:=LicloneProgram_1 k _ _) (a:=(p.2.2.2[i]).2.2) (fun m j hj j0 jt jd jw jlen=> ?_) (fun m jd=> ?_) (by omega) (by omega)
   · refine (dY jd).trans ((dY j0).trans ?_)
     have hy:=g3 _ (tZ hj);have e1:((p.2.2.2[i]).2.2[j]).2.1.length<=N:=(Z0 hy.2.1).1;have e2:((p.2.2.2[i]).2.2[j]).2.2.length<=N:=(Z0 hy.2.2).1;dsimp only;rw [jt,ix_at hj,ficloneTable _ (by omega) (by omega) (by omega),rZ,dY (by rw [jlen];simp;omega),jw]
   · refine (eY (by rw [jd];decide)).trans ?_
     dsimp only;rw [dY (by rw [hlen];simp;omega),hw]
 · exact (eY (by rw [hd];decide))
theorem fsl17Copy {k N:Nat} (p:W0) (hr:rowsLe N m0 p) (hN:N<=549755813888) (hk:N+4<=k):Fsl17Copy k p=some p:=by
 obtain ⟨k,rfl⟩:=pred (d:=0) (show 1<=k by omega)
 obtain ⟨h1',h2⟩:=Z0 hr.2.2.2;have h1:p.2.2.2.length<=N:=h1';refine (esl17Copy k p).trans (take_loop (L:=Lsl17Copy_0 k _ _) (a:=p.2.2.2) (fun n i h h0 ht hd hw hlen=> ?_) (fun n hd=> ?_) (by omega) (by omega))
 · refine (dY hd).trans ((dY h0).trans ?_)
   have hx:=h2 _ (tZ h);have g1:(p.2.2.2[i]).2.1.length<=N:=(Z0 hx.2.1).1;obtain ⟨g2',g3⟩:=Z0 hx.2.2;have g2:(p.2.2.2[i]).2.2.length<=N:=g2';dsimp only;rw [ht,ix_at h,dY h0,ix_at h,dY (by omega)]
   refine take_loop (L:=Lsl17Copy_1 k _ _) (a:=(p.2.2.2[i]).2.2) (fun m j hj j0 jt jd jw jlen=> ?_) (fun m jd=> ?_) (by omega) (by omega)
   · refine (show Lsl17Copy_1 k _ _ (m+1) _=(if (0:Int)<=(i:Int) then ix p.2.2.2 (i:Int).toNat _ else none) from rfl).trans ?_
     rw [dY h0,ht,ix_at h];have hy:=g3 _ (tZ hj);have e1:((p.2.2.2[i]).2.2[j]).2.1.length<=N:=(Z0 hy.2.1).1;have e2:((p.2.2.2[i]).2.2[j]).2.2.length<=N:=(Z0 hy.2.2).1;dsimp only;rw [dY jd,dY h0,ix_at h,dY j0,jt,ix_at hj,fsl15Copy _ (by omega) (by omega) (by omega),rZ,dY (by rw [jlen];simp;omega),jw]
   · refine (show Lsl17Copy_1 k _ _ (m+1) _=(if (0:Int)<=(i:Int) then ix p.2.2.2 (i:Int).toNat _ else none) from rfl).trans ?_
     rw [dY h0,ht,ix_at h];dsimp only;rw [eY (by rw [jd];decide),dY (by rw [hlen];simp;omega),hw]
 · exact (eY (by rw [hd];decide))
theorem ficloneWorld {k N:Nat} (w:TW) (hr:rowsLe N Q0 w) (hN:N<=549755813888) (hk:N+5<=k):FicloneWorld k w=some w:=by
 obtain ⟨k,rfl⟩:=pred (d:=0) (show 1<=k by omega)
 obtain ⟨r1,r2,r3,r4,r5,r6,r7,r8,r9,r10,r11,r12,r13,r14⟩:=hr;have h3:w.2.2.1.length<=N:=(Z0 (e:=3) (sh:= .i .i64) r3).1;have h4:w.2.2.2.1.length<=N:=(Z0 r4).1;have h5:w.2.2.2.2.1.length<=N:=(Z0 r5).1;have h7:w.2.2.2.2.2.2.1.length<=N:=(Z0 r7).1;have h8:w.2.2.2.2.2.2.2.1.length<=N:=(Z0 r8).1;have h10:w.2.2.2.2.2.2.2.2.2.1.length<=N:=(Z0 r10).1;have h13:w.2.2.2.2.2.2.2.2.2.2.2.2.1.length<=N:=(Z0 r13).1
 have h14:w.2.2.2.2.2.2.2.2.2.2.2.2.2.length<=N:=(Z0 r14).1;obtain ⟨h6',q6⟩:=Z0 r6;obtain ⟨h9',q9⟩:=Z0 r9;have h6:w.2.2.2.2.2.1.length<=N:=h6';have h9:w.2.2.2.2.2.2.2.2.1.length<=N:=h9';refine (eicloneWorld k w).trans ?_
 rw [ficloneSky w.1 r1 hN (by omega),rZ,ficloneProgram w.2.1 r2 hN (by omega),rZ,fgClone_int _ (by omega) (by omega),rZ,fgClone_int _ (by omega) (by omega),rZ,fgClone_Battery _ (by omega) (by omega),rZ,
  fgClone_Flow _ (by omega) (by omega),rZ,fgClone_int _ (by omega) (by omega),rZ,fgClone_Fault _ (by omega) (by omega),rZ,fgClone_Packet _ (by omega) (by omega),rZ,fgClone_Sent _ (by omega) (by omega),rZ]
 refine take_loop (L:=LicloneWorld_0 k _ _) (a:=w.2.2.2.2.2.1) (fun n i h h0 ht hd hw hlen=> ?_) (fun n hd=> ?_) (by omega) (by omega)
 · refine (dY hd).trans ((dY h0).trans ?_)
   have hx:(w.2.2.2.2.2.1[i]).length<=N:=(Z0 (e:=0) (sh:=sI6) (q6 _ (tZ h))).1;dsimp only;rw [ht,ix_at h,ficloneQueue _ (by omega) (by omega),rZ,dY (by rw [hlen];simp;omega),hw]
 · refine (eY (by rw [hd];decide)).trans ?_
   refine take_loop (L:=LicloneWorld_1 k _ _) (a:=w.2.2.2.2.2.2.2.2.1) (fun n i h h0 ht hd hw hlen=> ?_) (fun n hd=> ?_) (by omega) (by omega)
   · refine (dY hd).trans ((dY h0).trans ?_)
     have hx:(w.2.2.2.2.2.2.2.2.1[i]).2.2.length<=N:=(Z0 (e:=0) (sh:= .i .i64) (q9 _ (tZ h)).2.2).1;dsimp only;rw [ht,ix_at h,ficloneStream _ (by omega) (by omega),rZ,dY (by rw [hlen];simp;omega),hw]
   · exact (eY (by rw [hd];decide))
theorem fsl33Copy {k N:Nat} (w:TW) (hr:rowsLe N Q0 w) (hN:N<=549755813888) (hk:N+5<=k):Fsl33Copy k w=some w:=by
 obtain ⟨k,rfl⟩:=pred (d:=0) (show 1<=k by omega)
 obtain ⟨r1,r2,r3,r4,r5,r6,r7,r8,r9,r10,r11,r12,r13,r14⟩:=hr;have h3:w.2.2.1.length<=N:=(Z0 (e:=3) (sh:= .i .i64) r3).1;have h4:w.2.2.2.1.length<=N:=(Z0 r4).1;have h5:w.2.2.2.2.1.length<=N:=(Z0 r5).1;have h7:w.2.2.2.2.2.2.1.length<=N:=(Z0 r7).1;have h8:w.2.2.2.2.2.2.2.1.length<=N:=(Z0 r8).1;have h10:w.2.2.2.2.2.2.2.2.2.1.length<=N:=(Z0 r10).1;have h13:w.2.2.2.2.2.2.2.2.2.2.2.2.1.length<=N:=(Z0 r13).1
 have h14:w.2.2.2.2.2.2.2.2.2.2.2.2.2.length<=N:=(Z0 r14).1;obtain ⟨h6',q6⟩:=Z0 r6;obtain ⟨h9',q9⟩:=Z0 r9;have h6:w.2.2.2.2.2.1.length<=N:=h6';have h9:w.2.2.2.2.2.2.2.2.1.length<=N:=h9';refine (esl33Copy k w).trans ?_
 rw [fsl33Sky w.1 r1 hN (by omega),rZ,fsl17Copy w.2.1 r2 hN (by omega),rZ,dY (by omega),dY (by omega),dY (by omega)]
 refine take_loop (L:=Lsl33Copy_0 k _ _) (a:=w.2.2.2.2.2.1) (fun n i h h0 ht hd hw hlen=> ?_) (fun n hd=> ?_) (by omega) (by omega)
 · refine (dY hd).trans ((dY h0).trans ?_)
   have hx:(w.2.2.2.2.2.1[i]).length<=N:=(Z0 (e:=0) (sh:=sI6) (q6 _ (tZ h))).1;dsimp only;rw [ht,ix_at h,fsl24Copy _ (by omega) (by omega),rZ,dY (by rw [hlen];simp;omega),hw]
 · refine (eY (by rw [hd];decide)).trans ?_
   dsimp only;rw [dY (by omega),dY (by omega)]
   refine take_loop (L:=Lsl33Copy_1 k _ _) (a:=w.2.2.2.2.2.2.2.2.1) (fun n i h h0 ht hd hw hlen=> ?_) (fun n hd=> ?_) (by omega) (by omega)
   · refine (dY hd).trans ((dY h0).trans ?_)
     have hx:(w.2.2.2.2.2.2.2.2.1[i]).2.2.length<=N:=(Z0 (e:=0) (sh:= .i .i64) (q9 _ (tZ h)).2.2).1;dsimp only;rw [ht,ix_at h,fsl25Copy _ (by omega) (by omega),rZ,dY (by rw [hlen];simp;omega),hw]
   · refine (eY (by rw [hd];decide)).trans ?_
     dsimp only;rw [dY (by omega),dY (by omega),dY (by omega)]
/-- A world's size. -/
theorem szW (w:TW):szT Q0 w=szT sSky w.1+(szT m0 w.2.1+(szT sLaw w.2.2.1+(w.2.2.2.1.length+(w.2.2.2.2.1.length+(szT (.l 0 J0) w.2.2.2.2.2.1+(w.2.2.2.2.2.2.1.length+(w.2.2.2.2.2.2.2.1.length+(szT (.l 0 T0) w.2.2.2.2.2.2.2.2.1+(w.2.2.2.2.2.2.2.2.2.1.length+(0+(0+(w.2.2.2.2.2.2.2.2.2.2.2.2.1.length+w.2.2.2.2.2.2.2.2.2.2.2.2.2.length)))))))))))):=by
 have h:szT Q0 w=szT sSky w.1+(szT m0 w.2.1+(szT sLaw w.2.2.1+(szT (.l 0 (.i .i64)) w.2.2.2.1+(szT (.l 0 sI6) w.2.2.2.2.1+(szT (.l 0 J0) w.2.2.2.2.2.1+(szT (.l 0 sI4) w.2.2.2.2.2.2.1+(szT (.l 0 (.i .i64)) w.2.2.2.2.2.2.2.1+(szT (.l 0 T0) w.2.2.2.2.2.2.2.2.1+(szT (.l 0 sI4) w.2.2.2.2.2.2.2.2.2.1+(0+(0+(szT (.l 0 sI6) w.2.2.2.2.2.2.2.2.2.2.2.2.1+szT (.l 0 sI4) w.2.2.2.2.2.2.2.2.2.2.2.2.2)))))))))))):=rfl
 have f1 (xs:List Int):szT (.l 0 (.i .i64)) xs=xs.length:=szT_row (e:=0) (sh:= .i .i64) rfl xs;have f4 (xs:List (Int×Int×Int×Int)):szT (.l 0 sI4) xs=xs.length:=szT_row (e:=0) (sh:=sI4) rfl xs;have f6 (xs:List (Int×Int×Int×Int×Int×Int)):szT (.l 0 sI6) xs=xs.length:=szT_row (e:=0) (sh:=sI6) rfl xs;rw [h,f1,f1,f4,f4,f4,f6,f6]
def flowIdx (l:List (Int×Int×Int×Int)) (id:Int):Int:=findFrom (fun x=>x.1==id) 0 l
theorem fsl33Flow {k:Nat} (w:TW) (id:Int) (hl:w.2.2.2.2.2.2.1.length<=549755813888) (hk:w.2.2.2.2.2.2.1.length+2<=k):Fsl33Flow k w id=some (flowIdx w.2.2.2.2.2.2.1 id):=by
 obtain ⟨k,rfl⟩:=pred (d:=0) (show 1<=k by omega)
 refine (esl33Flow k w id).trans (row_i (L:=Lsl33Flow_0 k _ _ _) (a:=w.2.2.2.2.2.2.1) (fun i l=>some (findFrom (fun x=>x.1==id) i l)) (fun _ _=>rfl) (by omega) rfl (fun n i x r h0 ht hw hi hx ih=> ?_) (by omega))
 show (if (x.1==id)=true then some (i:Int) else _)=_
 rw [hw,ih];show _=some (if (x.1==id)=true then (i:Int) else findFrom (fun x=>x.1==id) (i+1) r)
 by_cases h:(x.1==id)=true
 · rw [dY h,dY h]
 · rw [eY h,eY h]
theorem fiflowAt {k:Nat} (w:TW) (id:Int) (hl:w.2.2.2.2.2.2.1.length<=549755813888) (hk:w.2.2.2.2.2.2.1.length+4<=k):FiflowAt k w id=some (flowIdx w.2.2.2.2.2.2.1 id):=by
 obtain ⟨k,rfl⟩:=pred (d:=1) (show 2<=k by omega)
 refine (eiflowAt k w id).trans ((bs ?_).trans rfl)
 obtain ⟨k,rfl⟩:=pred (d:=0) (show 1<=k by omega)
 refine (egIndexFunc_Flowv_iflowAt_1 k _ id).trans (row_i (L:=LgIndexFunc_Flowv_iflowAt_1_0 k _ _ _) (a:=w.2.2.2.2.2.2.1) (fun i l=>some (findFrom (fun x=>x.1==id) i l)) (fun _ _=>rfl) (by omega) rfl (fun n i x r h0 ht hw hi hx ih=> ?_) (by omega))
 obtain ⟨k,rfl⟩:=pred (d:=0) (show 1<=k by omega)
 refine (bs (eiflowAt_1v k x id)).trans ?_
 show (if (x.1==id)=true then some (i:Int) else _)=_
 rw [hw,ih];show _=some (if (x.1==id)=true then (i:Int) else findFrom (fun x=>x.1==id) (i+1) r)
 by_cases h:(x.1==id)=true
 · rw [dY h,dY h]
 · rw [eY h,eY h]
def findPacket (l:List TPk) (id:Int):Int:=findFrom (fun x=>x.1==id) 0 l
theorem fsFindPacket {k:Nat} (l:List TPk) (id:Int) (hl:l.length<=549755813888) (hk:l.length+2<=k):FsFindPacket k l id=some (findPacket l id):=by
 obtain ⟨k,rfl⟩:=pred (d:=0) (show 1<=k by omega)
 refine (esFindPacket k l id).trans (row_i (L:=LsFindPacket_0 k _ _ _) (a:=l) (fun i l=>some (findFrom (fun x=>x.1==id) i l)) (fun _ _=>rfl) (by omega) rfl (fun n i x r h0 ht hw hi hx ih=> ?_) (by omega))
 show (if (x.1==id)=true then some (i:Int) else _)=_
 rw [hw,ih];show _=some (if (x.1==id)=true then (i:Int) else findFrom (fun x=>x.1==id) (i+1) r)
 by_cases h:(x.1==id)=true
 · rw [dY h,dY h]
 · rw [eY h,eY h]
theorem fiFindPacket {k:Nat} (l:List TPk) (id:Int) (hl:l.length<=549755813888) (hk:l.length+4<=k):FiFindPacket k l id=some (findPacket l id):=by
 obtain ⟨k,rfl⟩:=pred (d:=1) (show 2<=k by omega)
 refine (eiFindPacket k l id).trans ((bs ?_).trans rfl)
 obtain ⟨k,rfl⟩:=pred (d:=0) (show 1<=k by omega)
 refine (egIndexFunc_Packetv_iFindPacket_1 k _ id).trans (row_i (L:=LgIndexFunc_Packetv_iFindPacket_1_0 k _ _ _) (a:=l) (fun i l=>some (findFrom (fun x=>x.1==id) i l)) (fun _ _=>rfl) (by omega) rfl (fun n i x r h0 ht hw hi hx ih=> ?_) (by omega))
 obtain ⟨k,rfl⟩:=pred (d:=0) (show 1<=k by omega)
 refine (bs (eiFindPacket_1v k x id)).trans ?_
 show (if (x.1==id)=true then some (i:Int) else _)=_
 rw [hw,ih];show _=some (if (x.1==id)=true then (i:Int) else findFrom (fun x=>x.1==id) (i+1) r)
 by_cases h:(x.1==id)=true
 · rw [dY h,dY h]
 · rw [eY h,eY h]
def push (q:List TPk) (x:TPk):List TPk×Bool:=if (q.length:Int)>=12 then (q,false) else if findPacket q x.1>=0 then (q,false) else (q++[x],true)
theorem push_len (q:List TPk) (x:TPk):(push q x).1.length<=q.length+1:=by
 unfold push;split
 · simp
 · split<;>simp
theorem fsPushPacket {k:Nat} (q:List TPk) (x:TPk) (hl:q.length<=549755813888) (hk:q.length+5<=k):FsPushPacket k q x=some (push q x):=by
 obtain ⟨k,rfl⟩:=pred (d:=0) (show 1<=k by omega)
 refine (esPushPacket k q x).trans ((bs (fsl24Copy q hl (by omega))).trans ?_)
 unfold push;by_cases h:(q.length:Int)>=12
 · rw [dY h,yZ h,eY (by decide)]
 · rw [eY h,vZ h,dY (by decide)]
   refine (bs (fsFindPacket q x.1 hl (by omega))).trans ?_
   by_cases h2:findPacket q x.1>=0
   · rw [dY h2,dY (by simpa using h2)]
   · rw [eY h2,eY (by simpa using h2),dY (by simp;omega)]
theorem fiPushPacket {k:Nat} (q:List TPk) (x:TPk) (hl:q.length<=549755813888) (hk:q.length+5<=k):FiPushPacket k q x=some (push q x):=by
 obtain ⟨k,rfl⟩:=pred (d:=0) (show 1<=k by omega)
 refine (eiPushPacket k q x).trans ((bs (ficloneQueue q hl (by omega))).trans ?_)
 unfold push;by_cases h:(q.length:Int)>=12
 · rw [dY h,yZ h,eY (by decide)]
 · rw [eY h,vZ h,dY (by decide)]
   refine (bs (fiFindPacket q x.1 hl (by omega))).trans ?_
   by_cases h2:findPacket q x.1>=0
   · rw [dY h2,dY (by simpa using h2)]
   · rw [eY h2,eY (by simpa using h2),dY (by simp;omega)]
theorem sumL_set {α:Type} {f:α->Nat}:∀{l:List α} {i:Nat} (h:i<l.length) (y:α),sumL f (l.set i y)+f l[i]=sumL f l+f y
  | x::l,0,h,y=>by simp only [List.set_cons_zero,sumL,List.getElem_cons_zero];omega
  | x::l,i+1,h,y=>by
    have:=sumL_set (f:=f) (l:=l) (i:=i) (by simpa using h) y
    simp only [List.set_cons_succ,sumL,List.getElem_cons_succ];omega
theorem wrap_pred {i:Nat} (h0:0<i) (h:i<=549755813888):IntKind.i64.wrap ((i:Int)-1)=((i-1:Nat):Int):=by
 rw [T1 (by omega) (by omega)];omega
abbrev TSt:Type:=Int×Int×List Int
def chk (w:List Int) (f:Int):Nat->List Int->Bool
 | _,[]=>true
 | i,x::r=>if x<=f then false else if x>9999 then false else if 0<i/\(w[i-1]?).getD 0>=x then false else chk w f (i+1) r
theorem chk_cons (w:List Int) (f:Int) (i:Nat) (x:Int) (r:List Int):chk w f i (x::r)=if x<=f then false else if x>9999 then false else if 0<i/\(w[i-1]?).getD 0>=x then false else chk w f (i+1) r:=rfl
theorem chk_sorted (w:List Int) (f:Int):∀(r:List Int) (i:Nat),chk w f i r=true->w.drop i=r->(∀y,0<i->w[i-1]? =some y->∀z ∈ r,y<z)/\r.Pairwise (· < ·)
  | [],i,_,_=>⟨fun _ _ _ _ hz=>absurd hz (List.not_mem_nil),List.Pairwise.nil⟩
  | x::r,i,h,hd=>by
    rw [chk_cons] at h;by_cases h1:x<=f
    · rw [dY h1] at h;cases h
    rw [eY h1] at h;by_cases h2:x>9999
    · rw [dY h2] at h;cases h
    rw [eY h2] at h;by_cases h3:0<i/\(w[i-1]?).getD 0>=x
    · rw [dY h3] at h;cases h
    rw [eY h3] at h;have hx:w[i]? =some x:=by
      have:(w.drop i)[0]? =some x:=by rw [hd];rfl
      simpa using this
    have hr:w.drop (i+1)=r:=by rw [<-List.drop_drop,hd];rfl
    obtain ⟨a,b⟩:=chk_sorted w f r (i+1) h hr;have a':=a x (by omega) (by simpa using hx)
    refine ⟨fun y hi hy z hz=> ?_,List.pairwise_cons.2 ⟨a',b⟩⟩
    have hyx:y<x:=by
      have:¬(w[i-1]?).getD 0>=x:=fun h=>h3 ⟨hi,h⟩
      rw [hy] at this;simp at this;exact this
    rcases zZ.1 hz with rfl | hz
    · exact hyx
    · exact Int.lt_trans hyx (a' z hz)
def isSt (a:TSt):Bool:=inR a.1 0 10000&&(inR a.2.1 0 10000&&(decide ((a.2.2.length:Int)<=20)&&chk a.2.2 a.2.1 0 a.2.2))
theorem isSt_sorted {a:TSt} (h:isSt a=true):a.2.2.length<=20/\a.2.2.Pairwise (· < ·):=by
 unfold isSt at h;simp only [sZ,pZ] at h;exact ⟨by omega,(chk_sorted a.2.2 a.2.1 a.2.2 0 h.2.2.2 rfl).2⟩
theorem fsIsStream {k:Nat} (a:TSt) (hl:a.2.2.length<=549755813888) (hk:a.2.2.length+3<=k):FsIsStream k a=some (isSt a):=by
 obtain ⟨k,rfl⟩:=pred (d:=1) (show 2<=k by omega)
 refine (esIsStream k a).trans ?_
 rw [fsl1In _ _ _ (by omega),fsl1In _ _ _ (by omega)]
 refine (row_i (L:=LsIsStream_0 k _ _ _ _ _) (a:=a.2.2) (fun i l=>some (inR a.1 0 10000&&(inR a.2.1 0 10000&&(decide ((a.2.2.length:Int)<=20)&&chk a.2.2 a.2.1 i l)))) (fun _ _=>rfl) (by omega) ?_ (fun n i x r h0 ht hw hi hx ih=> ?_) (by omega)).trans rfl
 · show (if (inR a.1 0 10000==true)=true then (if (inR a.2.1 0 10000==true)=true then some (decide ((a.2.2.length:Int)<=20)) else some false) else some false)=some (inR a.1 0 10000&&(inR a.2.1 0 10000&&(decide ((a.2.2.length:Int)<=20)&&true)))
   cases inR a.1 0 10000<;>cases inR a.2.1 0 10000<;>simp
 have hx':a.2.2[(i:Int).toNat]? =some x:=by rw [ht];exact hx
 rw [chk_cons];show (if ((decide (x<=a.2.1))==false)=true then _ else _)=_
 by_cases h1:x<=a.2.1
 · rw [eY (by rw [yZ h1];decide),dY h1];simp
 rw [dY (by rw [vZ h1];rfl),eY h1]
 refine (dY h0).trans ((Y0 hx' _).trans ?_)
 by_cases h2:x>9999
 · refine (eY (by rw [yZ h2];decide)).trans ?_
   rw [dY h2];simp
 refine (dY (by rw [vZ h2];rfl)).trans ?_
 rw [eY h2];by_cases hi0:0<i
 · have hd:(decide ((i:Int)>0)==true)=true:=by rw [yZ (by omega)];rfl
   refine (dY hd).trans ?_
   rw [wrap_pred hi0 (by omega)]
   have hp:i-1<a.2.2.length:=by omega
   have hy:a.2.2[((i-1:Nat):Int).toNat]? =some a.2.2[i-1]:=by rw [show ((i-1:Nat):Int).toNat=i-1 by omega];exact dZ hp
   refine (dY (by omega)).trans ((Y0 hy _).trans ((dY h0).trans ((Y0 hx' _).trans ?_)))
   have hg:(a.2.2[i-1]?).getD 0=a.2.2[i-1]:=by rw [dZ hp];rfl
   rw [hg];by_cases h3:a.2.2[i-1]>=x
   · refine (dY (yZ h3)).trans ?_
     rw [dY ⟨hi0,h3⟩];simp
   · refine (eY (by rw [vZ h3];decide)).trans ?_
     rw [eY (fun h=>h3 h.2),hw]
     exact ih
 · have hd:¬(decide ((i:Int)>0)==true)=true:=by rw [vZ (by omega)];decide
   refine (eY hd).trans ?_
   rw [eY (fun h=>hi0 h.1),hw]
   exact ih
theorem fiIsStream {k:Nat} (a:TSt) (hl:a.2.2.length<=549755813888) (hk:a.2.2.length+3<=k):FiIsStream k a=some (isSt a):=by
 obtain ⟨k,rfl⟩:=pred (d:=1) (show 2<=k by omega)
 refine (eiIsStream k a).trans ((bs (fiInRange _ _ _ (by omega))).trans ?_)
 unfold isSt;cases hA:inR a.1 0 10000 with
 | false=>rfl
 | true=>
 refine (dY rfl).trans ((bs (fiInRange _ _ _ (by omega))).trans ?_)
 cases hB:inR a.2.1 0 10000 with
 | false=>rfl
 | true=>
 refine (dY rfl).trans ?_
 by_cases hL:(a.2.2.length:Int)>20
 · refine (dY (yZ hL)).trans ?_
   rw [vZ (show ¬(a.2.2.length:Int)<=20 by omega)];rfl
 refine (eY (by rw [vZ hL];decide)).trans ?_
 rw [yZ (show (a.2.2.length:Int)<=20 by omega)]
 refine (row_i (L:=LiIsStream_0 k _ _ _ _ _) (a:=a.2.2) (fun i l=>some (chk a.2.2 a.2.1 i l)) (fun _ _=>rfl) (by omega) rfl (fun n i x r h0 ht hw hi hx ih=> ?_) (by omega)).trans rfl
 rw [chk_cons];show (if ((decide (x<=a.2.1))==false)=true then _ else _)=_
 by_cases h1:x<=a.2.1
 · rw [eY (by rw [yZ h1];decide),dY h1]
 rw [dY (by rw [vZ h1];rfl),eY h1]
 by_cases h2:x>9999
 · refine (eY (by rw [yZ h2];decide)).trans ?_
   rw [dY h2]
 refine (dY (by rw [vZ h2];rfl)).trans ?_
 rw [eY h2];by_cases hi0:0<i
 · have hd:(decide ((i:Int)>0)==true)=true:=by rw [yZ (by omega)];rfl
   refine (dY hd).trans ?_
   rw [wrap_pred hi0 (by omega)]
   have hp:i-1<a.2.2.length:=by omega
   have hy:a.2.2[((i-1:Nat):Int).toNat]? =some a.2.2[i-1]:=by rw [show ((i-1:Nat):Int).toNat=i-1 by omega];exact dZ hp
   refine (dY (by omega)).trans ((Y0 hy _).trans ?_)
   have hg:(a.2.2[i-1]?).getD 0=a.2.2[i-1]:=by rw [dZ hp];rfl
   rw [hg];by_cases h3:a.2.2[i-1]>=x
   · refine (dY (yZ h3)).trans ?_
     rw [dY ⟨hi0,h3⟩]
   · refine (eY (by rw [vZ (show ¬x<=a.2.2[i-1] from h3)];decide)).trans ?_
     rw [eY (fun h=>h3 h.2),hw]
     exact ih
 · have hd:¬(decide ((i:Int)>0)==true)=true:=by rw [vZ (by omega)];decide
   refine (eY hd).trans ?_
   rw [eY (fun h=>hi0 h.1),hw]
   exact ih
theorem cnt_at (a:Int):∀(l:List Int) (t:Nat) (x:Int),l.Pairwise (· < ·)->l[t]? =some x->(x<a↔t<cnt a l)
  | [],t,x,_,h=>by simp at h
  | y::r,0,x,_,h=>by
    have:y=x:=by simpa using h
    subst this;unfold cnt;by_cases h:y<a
    · rw [dY h];exact ⟨fun _=>by omega,fun _=>h⟩
    · rw [eY h];exact ⟨fun h'=>absurd h' h,fun h=>absurd h (by omega)⟩
  | y::r,t+1,x,hs,h=>by
    obtain ⟨h1,h2⟩:=List.pairwise_cons.1 hs;have hr:r[t]? =some x:=by simpa using h
    have ih:=cnt_at a r t x h2 hr;have hyx:y<x:=h1 x (iZ hr);unfold cnt;by_cases h:y<a
    · rw [dY h,ih];omega
    · rw [eY h];exact ⟨fun h'=>absurd (Int.lt_trans hyx h') h,fun h=>absurd h (by omega)⟩
theorem fgLess_int {k:Nat} (x y:Int) (hk:2<=k):FgLess_int k x y=some (decide (x<y)):=by
 obtain ⟨k,rfl⟩:=pred (d:=1) hk;obtain ⟨k,rfl⟩:=pred (d:=0) (show 1<=k by omega)
 refine (egLess_int (k+1) x y).trans ((bs (egisNaN_int k x)).trans ?_)
 exact eY (by simp)
theorem mid_eq {i j:Nat} (h1:i<=549755813888) (h2:j<=549755813888):IntKind.i64.wrap (((IntKind.u64.wrap (IntKind.i64.wrap ((i:Int)+(j:Int))))).fdiv (2^(min (1:Int).toNat IntKind.u64.bits)))=(((i+j) / 2:Nat):Int):=by
 have e1:IntKind.i64.wrap ((i:Int)+(j:Int))=((i+j:Nat):Int):=by rw [T1 (by omega) (by omega)];omega
 have e2:IntKind.u64.wrap ((i+j:Nat):Int)=((i+j:Nat):Int):=by
  rw [show IntKind.u64.wrap ((i+j:Nat):Int)=((i+j:Nat):Int)%18446744073709551616 from rfl];omega
 have e3:(2:Int)^(min (1:Int).toNat IntKind.u64.bits)=2:=by decide
 rw [e1,e2,e3];have e4:Int.fdiv ((i+j:Nat):Int) 2=(((i+j) / 2:Nat):Int):=by
  rw [Int.fdiv_eq_ediv_of_nonneg _ (by omega)];omega
 rw [e4,T1 (by omega) (by omega)]
theorem lgBS {R:Type} {k:Nat} (X:VgBinarySearch_int_0->Option R) (l:List Int) (a:Int) (c:CgBinarySearch_int_0) (hc:c.1=l) (hc2:c.2.1=a) (hs:l.Pairwise (· < ·)) (hl:l.length<=549755813888) (hk:2<=k):∀(m n i j:Nat),j-i<n->n<=m->i<=j->j<=l.length->i<=cnt a l->cnt a l<=j->LgBinarySearch_int_0 k X c m ((i:Int),(j:Int))=X ((cnt a l:Int),(cnt a l:Int))
  | 0,n,i,j,h,hm,_,_,_,_=>by omega
  | m+1,n,i,j,h,hm,hij,hj,hi,hj2=>by
    show (if (decide ((i:Int)<(j:Int)))=true then _ else X ((i:Int),(j:Int)))=_
    by_cases hlt:i<j
    · refine (dY (yZ (by omega))).trans ?_
      dsimp only;rw [mid_eq (by omega) (by omega)]
      have hml:(i+j) / 2<l.length:=by omega
      have hx:c.1[(((i+j) / 2:Nat):Int).toNat]? =some l[(i+j) / 2]:=by
        rw [hc,show (((i+j) / 2:Nat):Int).toNat=(i+j) / 2 by omega];exact dZ hml
      have hat:=cnt_at a l ((i+j) / 2) _ hs (dZ hml)
      refine (dY (by omega)).trans ((Y0 hx _).trans ((bs (fgLess_int _ _ hk)).trans ?_))
      rw [hc2];by_cases hd:l[(i+j) / 2]<a
      · refine (dY (yZ hd)).trans ?_
        rw [show IntKind.i64.wrap ((((i+j) / 2:Nat):Int)+1)=(((i+j) / 2+1:Nat):Int) by rw [T1 (by omega) (by omega)];omega]
        have:=hat.1 hd
        exact lgBS X l a c hc hc2 hs hl hk m (n-1) _ _ (by omega) (by omega) (by omega) hj (by omega) hj2
      · refine (eY (by rw [vZ hd];decide)).trans ?_
        have:¬(i+j) / 2<cnt a l:=fun h=>hd (hat.2 h)
        exact lgBS X l a c hc hc2 hs hl hk m (n-1) _ _ (by omega) (by omega) (by omega) (by omega) hi (by omega)
    · refine (eY (by rw [vZ (by omega)];decide)).trans ?_
      rw [show i=cnt a l by omega,show j=cnt a l by omega]
theorem fgBinarySearch_int {k:Nat} (l:List Int) (a:Int) (hs:l.Pairwise (· < ·)) (hl:l.length<=549755813888) (hk:l.length+3<=k):∃b,FgBinarySearch_int k l a=some ((cnt a l:Int),b):=by
 obtain ⟨k,rfl⟩:=pred (d:=1) (show 2<=k by omega)
 have e:=(egBinarySearch_int k l a).trans (lgBS _ l a _ rfl rfl hs hl (by omega) k (l.length+1) 0 l.length (by omega) (by omega) (by omega) (cY _) (by omega) (cnt_le a l))
 dsimp only at e;by_cases h:(cnt a l:Int)<(l.length:Int)
 · have hx:l[(cnt a l:Int).toNat]? =some (l[cnt a l]'(by omega)):=by rw [Int.toNat_natCast];exact dZ (by omega)
   have e:=e.trans ((dY (by rw [yZ h];rfl)).trans ((dY (by omega)).trans (Y0 hx _)))
   by_cases h2:((l[cnt a l]'(by omega))==a)=true
   · exact ⟨true,e.trans (eY (by rw [h2];decide))⟩
   · have h2':((l[cnt a l]'(by omega))==a)=false:=by simpa using h2
     obtain ⟨k,rfl⟩:=pred (d:=0) (show 1<=k by omega)
     exact ⟨false,e.trans ((dY (by rw [h2'];rfl)).trans ((dY (by omega)).trans ((Y0 hx _).trans ((bs (egisNaN_int_410 k _)).trans (eY (by simp))))))⟩
 · exact ⟨false,e.trans (eY (by rw [vZ h];decide))⟩
def give:Int->List Int->List Int->Int×List Int×List Int
 | n,o,[]=>(n,o,[])
 | n,o,x::r=>if (x==n)=true then give (IntKind.i64.wrap (n+1)) (o++[n]) r else (n,o,x::r)
theorem give_len:∀(p:List Int) (n:Int) (o:List Int),(give n o p).2.2.length<=p.length
  | [],_,_=>cY _
  | x::r,n,o=>by
    unfold give;split
    · have:=give_len r (IntKind.i64.wrap (n+1)) (o++[n])
      simp only [List.length_cons];omega
    · exact cY _
theorem lsGive {R:Type} {k:Nat} (X0:VsAcceptSeq_1->Int->Option R) (X1:VsAcceptSeq_1->Option R) (c:CsAcceptSeq_1) (hX:∀v x,X0 v x=X1 v):∀(p:List Int) (m:Nat) (n:Int) (o:List Int),o.length+p.length<=549755813889->p.length<m->LsAcceptSeq_1 k X0 X1 c m (n,o,p)=X1 (give n o p)
  | _,0,_,_,_,h=>by omega
  | [],m+1,n,o,_,_=>by
    unfold LsAcceptSeq_1 BsAcceptSeq_1;exact eY (by simp)
  | x::r,m+1,n,o,ho,hm=>by
    have hlen:(x::r).length=r.length+1:=rfl;have hd:((decide (((x::r).length:Int)>0))==true)=true:=by rw [yZ (by omega)];rfl
    show (if ((decide (((x::r).length:Int)>0))==true)=true then _ else _)=_
    refine (dY hd).trans ((dY (by show 0<((x::r).length:Int);omega)).trans ((Y0 (x:=x) rfl _).trans ?_))
    unfold give;by_cases h:(x==n)=true
    · refine (dY h).trans ?_
      have e:((x::r).take (((x::r).length:Int).toNat)).drop ((1:Int).toNat)=r:=by simp
      refine (dY (by show (o.length+[n].length)*8<=140737488355328;simp;omega)).trans ((dY (by show 1<=((x::r).length:Int);omega)).trans ((dY (Int.le_refl _)).trans ((dY (by show (0+(((x::r).take (((x::r).length:Int).toNat)).drop ((1:Int).toNat)).length)*8<=140737488355328;rw [e];omega)).trans ?_)))
      show LsAcceptSeq_1 k X0 X1 c m (IntKind.i64.wrap (n+1),o++[n],((x::r).take (((x::r).length:Int).toNat)).drop ((1:Int).toNat))=_
      rw [e,dY h];exact lsGive X0 X1 c hX r m _ _ (by simp;omega) (by omega)
    · refine (eY h).trans ?_
      rw [eY h];exact hX _ _
theorem liGive {R:Type} {k:Nat} (X0:ViAcceptSeq_0->Int->Option R) (X1:ViAcceptSeq_0->Option R) (c:CiAcceptSeq_0) (hX:∀v x,X0 v x=X1 v):∀(p:List Int) (m:Nat) (n:Int) (o:List Int),o.length+p.length<=549755813889->p.length<m->LiAcceptSeq_0 k X0 X1 c m (n,o,p)=X1 (give n o p)
  | _,0,_,_,_,h=>by omega
  | [],m+1,n,o,_,_=>by
    unfold LiAcceptSeq_0 BiAcceptSeq_0;exact eY (by simp)
  | x::r,m+1,n,o,ho,hm=>by
    have hlen:(x::r).length=r.length+1:=rfl;have hd:((decide (((x::r).length:Int)>0))==true)=true:=by rw [yZ (by omega)];rfl
    show (if ((decide (((x::r).length:Int)>0))==true)=true then _ else _)=_
    refine (dY hd).trans ((dY (by show 0<((x::r).length:Int);omega)).trans ((Y0 (x:=x) rfl _).trans ?_))
    unfold give;by_cases h:(x==n)=true
    · refine (dY h).trans ?_
      have e:((x::r).take (((x::r).length:Int).toNat)).drop ((1:Int).toNat)=r:=by simp
      refine (dY (by show (o.length+[n].length)*8<=140737488355328;simp;omega)).trans ((dY (by show 1<=((x::r).length:Int);omega)).trans ((dY (Int.le_refl _)).trans ?_))
      show LiAcceptSeq_0 k X0 X1 c m (IntKind.i64.wrap (n+1),o++[n],((x::r).take (((x::r).length:Int).toNat)).drop ((1:Int).toNat))=_
      rw [e,dY h];exact liGive X0 X1 c hX r m _ _ (by simp;omega) (by omega)
    · refine (eY h).trans ?_
      rw [eY h];exact hX _ _
def accL (a:TSt) (n:Int):List Int:=a.2.2.take (cnt n a.2.2)++n::a.2.2.drop (cnt n a.2.2)
def acc (a:TSt) (n:Int):TSt×List Int×Bool:=
 if isSt a=true then if inR n 0 9999=true then if n<a.2.1 then (a,[],true) else if (a.2.2.any fun y=>y==n)=true then (a,[],true) else
  if isSt (a.1,(give a.2.1 [] (accL a n)).1,(give a.2.1 [] (accL a n)).2.2)=true then ((a.1,(give a.2.1 [] (accL a n)).1,(give a.2.1 [] (accL a n)).2.2),(give a.2.1 [] (accL a n)).2.1,true) else (a,[],false)
 else (a,[],false) else (a,[],false)
theorem accL_len (a:TSt) (n:Int):(accL a n).length=a.2.2.length+1:=by
 have:=cnt_le n a.2.2
 unfold accL;simp;omega
theorem acc_len (a:TSt) (n:Int):(acc a n).1.2.2.length<=a.2.2.length+1:=by
 have h:=give_len (accL a n) a.2.1 [];have h2:=accL_len a n;unfold acc;split<;>try (simp only;omega)
 split<;>try (simp only;omega)
 split<;>try (simp only;omega)
 split<;>try (simp only;omega)
 split
 · simp only;omega
 · simp only;omega
theorem cnt_loop {R:Type} {k:Nat} (X0:VsAcceptSeq_0->Int->Option R) (X1:VsAcceptSeq_0->Option R) (c:CsAcceptSeq_0) (hX:∀v x,X0 v x=X1 v) (hl:c.2.1.2.2.length<=549755813888) (hk:c.2.1.2.2.length<k):LsAcceptSeq_0 k X0 X1 c k 0=X1 (cnt c.1 c.2.1.2.2:Int):=by
 refine (row_i (L:=LsAcceptSeq_0 k X0 X1 c) (X:=X1) (a:=c.2.1.2.2) (body:=fun n i x=>if (decide (x<c.1))=true then LsAcceptSeq_0 k X0 X1 c n (IntKind.i64.wrap (i+1)) else X0 i x) (fun i l=>X1 ((i+cnt c.1 l:Nat):Int)) (fun n i=> ?_) (by omega) rfl (fun n i x r h0 ht hw hi hx ih=> ?_) hk).trans (by simp)
 · show (if ((decide (i<(c.2.1.2.2.length:Int)))==true)=true then _ else _)=_
   rw [beq_true]
 · show (if (decide (x<c.1))=true then _ else _)=_
   unfold cnt;by_cases h:x<c.1
   · rw [dY (yZ h),dY h,hw,ih]
     congr 2;omega
   · rw [eY (by rw [vZ h];decide),eY h]
     exact hX _ _
theorem fsAcceptSeq {k:Nat} (a:TSt) (n:Int) (hl:a.2.2.length<=549755813888) (hk:a.2.2.length+30<=k):FsAcceptSeq k a n=some (acc a n):=by
 obtain ⟨k,rfl⟩:=pred (d:=1) (show 2<=k by omega)
 have es:=(esAcceptSeq k a n).trans (bs (fsIsStream a hl (by omega)))
 unfold acc;by_cases h1:isSt a=true
 rotate_left
 · have h1':isSt a=false:=by simpa using h1
   rw [eY h1];exact es.trans ((eY (by rw [h1'];decide)).trans (bs (fsl25Copy a hl (by omega))))
 obtain ⟨hl20,hsort⟩:=isSt_sorted h1;have es:=es.trans ((dY (by rw [h1];rfl)).trans (bs (fsl1In _ _ _ (by omega))))
 rw [dY h1];by_cases h2:inR n 0 9999=true
 rotate_left
 · have h2':inR n 0 9999=false:=by simpa using h2
   rw [eY h2];exact es.trans ((dY (by rw [h2'];rfl)).trans (bs (fsl25Copy a hl (by omega))))
 have es:=es.trans (eY (by rw [h2];decide))
 rw [dY h2];by_cases h3:n<a.2.1
 · rw [dY h3];exact es.trans ((eY (by rw [yZ h3];decide)).trans (bs (fsl25Copy a hl (by omega))))
 have es:=es.trans ((dY (by rw [vZ h3];rfl)).trans (bs (fsl15Has a.2.2 n hl (by omega))))
 rw [eY h3];by_cases h4:(a.2.2.any fun y=>y==n)=true
 · rw [dY h4];exact es.trans ((dY h4).trans (bs (fsl25Copy a hl (by omega))))
 rw [eY h4];have es:=es.trans (eY h4);have es:=es.trans (cnt_loop _ _ _ (by intros;rfl) hl (by show a.2.2.length<k;omega))
 have es:=es.trans (bs (fsl25Copy a hl (by omega)))
 have hc:=cnt_le n a.2.2;have e1:((a.2.2.take (cnt n a.2.2:Int).toNat).drop (0:Int).toNat)=a.2.2.take (cnt n a.2.2):=by simp
 have e2:((a.2.2.take (a.2.2.length:Int).toNat).drop (cnt n a.2.2:Int).toNat)=a.2.2.drop (cnt n a.2.2):=by simp
 have e3:(a.2.2.take (cnt n a.2.2)++[n])++a.2.2.drop (cnt n a.2.2)=accL a n:=by unfold accL;simp
 have t1:(a.2.2.take (cnt n a.2.2)).length<=a.2.2.length:=by simp;omega
 have t2:(a.2.2.drop (cnt n a.2.2)).length<=a.2.2.length:=by simp
 dsimp only at es;rw [e1,e2] at es;have es:=es.trans ((dY (by omega)).trans ((dY (by omega)).trans ((dY (by omega)).trans ((dY (by simp;omega)).trans ((dY (by omega)).trans ((dY (by omega)).trans ((dY (Int.le_refl _)).trans (dY (by simp;omega)))))))))
 rw [e3] at es;have hal:=accL_len a n;have es:=es.trans (lsGive _ _ _ (by intros;rfl) (accL a n) k a.2.1 [] (by simp;omega) (by omega))
 have hg:=give_len (accL a n) a.2.1 [];have es:=es.trans (bs (fsIsStream _ (by show (give a.2.1 [] (accL a n)).2.2.length<=_;omega) (by show (give a.2.1 [] (accL a n)).2.2.length+3<=_;omega)))
 by_cases h5:isSt (a.1,(give a.2.1 [] (accL a n)).1,(give a.2.1 [] (accL a n)).2.2)=true
 · rw [dY h5];exact es.trans (eY (by rw [h5];decide))
 · have h5':isSt (a.1,(give a.2.1 [] (accL a n)).1,(give a.2.1 [] (accL a n)).2.2)=false:=by simpa using h5
   rw [eY h5];exact es.trans ((dY (by rw [h5'];rfl)).trans (bs (fsl25Copy a hl (by omega))))
theorem fiAcceptSeq {k:Nat} (a:TSt) (n:Int) (hl:a.2.2.length<=549755813888) (hk:a.2.2.length+30<=k):FiAcceptSeq k a n=some (acc a n):=by
 obtain ⟨k,rfl⟩:=pred (d:=1) (show 2<=k by omega)
 have es:=(eiAcceptSeq k a n).trans (bs (fiIsStream a hl (by omega)))
 unfold acc;by_cases h1:isSt a=true
 rotate_left
 · have h1':isSt a=false:=by simpa using h1
   rw [eY h1];exact es.trans ((eY (by rw [h1'];decide)).trans (bs (ficloneStream a hl (by omega))))
 obtain ⟨hl20,hsort⟩:=isSt_sorted h1;have es:=es.trans ((dY (by rw [h1];rfl)).trans (bs (fiInRange _ _ _ (by omega))))
 rw [dY h1];by_cases h2:inR n 0 9999=true
 rotate_left
 · have h2':inR n 0 9999=false:=by simpa using h2
   rw [eY h2];exact es.trans ((dY (by rw [h2'];rfl)).trans (bs (ficloneStream a hl (by omega))))
 have es:=es.trans ((eY (by rw [h2];decide)).trans (bs (ficloneStream a hl (by omega))))
 rw [dY h2];by_cases h3:n<a.2.1
 · rw [dY h3];exact es.trans (eY (by rw [yZ h3];decide))
 have es:=es.trans ((dY (by rw [vZ h3];rfl)).trans (bs (fgContains_int a.2.2 n hl (by omega))))
 rw [eY h3];by_cases h4:(a.2.2.any fun y=>y==n)=true
 · rw [dY h4];exact es.trans (dY h4)
 rw [eY h4];obtain ⟨b,hb⟩:=fgBinarySearch_int (k:=k) a.2.2 n hsort hl (by omega)
 have es:=es.trans ((eY h4).trans (bs hb));have hc:=cnt_le n a.2.2;have hal:=accL_len a n;have hins:FgInsert_int k a.2.2 (cnt n a.2.2:Int) [n]=some (accL a n):=by
  obtain ⟨k,rfl⟩:=pred (d:=0) (show 1<=k by omega)
  refine (egInsert_int k a.2.2 _ [n]).trans ?_
  refine (dY (by omega)).trans ((dY (by omega)).trans ((dY (by omega)).trans ?_))
  unfold insB accL;simp
 have es:=es.trans (bs hins);have es:=es.trans (liGive _ _ _ (by intros;rfl) (accL a n) k a.2.1 [] (by simp;omega) (by omega))
 have hg:=give_len (accL a n) a.2.1 [];have es:=es.trans (bs (fiIsStream _ (by show (give a.2.1 [] (accL a n)).2.2.length<=_;omega) (by show (give a.2.1 [] (accL a n)).2.2.length+3<=_;omega)))
 by_cases h5:isSt (a.1,(give a.2.1 [] (accL a n)).1,(give a.2.1 [] (accL a n)).2.2)=true
 · rw [dY h5];exact es.trans (eY (by rw [h5];decide))
 · have h5':isSt (a.1,(give a.2.1 [] (accL a n)).1,(give a.2.1 [] (accL a n)).2.2)=false:=by simpa using h5
   rw [eY h5];exact es.trans ((dY (by rw [h5'];rfl)).trans (bs (ficloneStream a hl (by omega))))
def takeP (q:List TPk) (i:Int):List TPk×TPk×Bool:=if isIdx i (q.length:Int)=true then (q.take i.toNat++q.drop (i.toNat+1),(q[i.toNat]?).getD (0,0,0,0,0,0),true) else (q,(0,0,0,0,0,0),false)
theorem takeP_len (q:List TPk) (i:Int):(takeP q i).1.length<=q.length:=by
 unfold takeP;split
 · rename_i h;obtain ⟨_,h⟩:=isIdx_pos h;simp;omega
 · exact cY _
theorem fsTakePacket {k:Nat} (q:List TPk) (i:Int) (hl:q.length<=549755813888) (hk:3<=k):FsTakePacket k q i=some (takeP q i):=by
 obtain ⟨k,rfl⟩:=pred (d:=0) (show 1<=k by omega)
 have es:=(esTakePacket k q i).trans (bs (fsl1In _ _ _ (by omega)))
 rw [inR_last _ (by omega)] at es
 unfold takeP;by_cases h:isIdx i (q.length:Int)=true
 rotate_left
 · have h':isIdx i (q.length:Int)=false:=by simpa using h
   rw [eY h];exact es.trans ((dY (by rw [h'];rfl)).trans (bs (fsl24Copy q hl (by omega))))
 obtain ⟨h0,hi⟩:=isIdx_pos h;have hw:IntKind.i64.wrap (i+1)=i+1:=T1 (by omega) (by omega)
 rw [hw] at es;have hx:q[i.toNat]? =some q[i.toNat]:=dZ hi
 have e1:((q.take i.toNat).drop (0:Int).toNat)=q.take i.toNat:=by simp
 have e2:((q.take (q.length:Int).toNat).drop (i+1).toNat)=q.drop (i.toNat+1):=by
  rw [show (i+1).toNat=i.toNat+1 by omega];simp
 rw [e1,e2] at es;have t1:(q.take i.toNat).length<=q.length:=by simp;omega
 have t2:(q.drop (i.toNat+1)).length<=q.length:=by simp
 rw [dY h,hx];exact es.trans ((eY (by rw [h];decide)).trans ((dY h0).trans ((dY (by omega)).trans ((dY (by omega)).trans ((dY (by omega)).trans ((dY (Int.le_refl _)).trans ((dY h0).trans ((Y0 hx _).trans ((dY (by omega)).trans (dY (by omega)))))))))))
theorem fiTakePacket {k:Nat} (q:List TPk) (i:Int) (hl:q.length<=549755813888) (hk:4<=k):FiTakePacket k q i=some (takeP q i):=by
 obtain ⟨k,rfl⟩:=pred (d:=1) (show 2<=k by omega)
 obtain ⟨k,rfl⟩:=pred (d:=0) (show 1<=k by omega)
 have es:=(eiTakePacket (k+1) q i).trans ((bs (ficloneQueue q hl (by omega))).trans (bs (fiisIndex _ _ (by omega))))
 unfold takeP;by_cases h:isIdx i (q.length:Int)=true
 rotate_left
 · have h':isIdx i (q.length:Int)=false:=by simpa using h
   rw [eY h];exact es.trans (dY (by rw [h'];rfl))
 obtain ⟨h0,hi⟩:=isIdx_pos h;have hw:IntKind.i64.wrap (i+1)=i+1:=T1 (by omega) (by omega)
 rw [hw] at es;have hx:q[i.toNat]? =some q[i.toNat]:=dZ hi
 have hd:FgDelete_Packet (k+1) q i (i+1)=some (q.take i.toNat++q.drop (i.toNat+1)):=by
  refine (egDelete_Packet k q i (i+1)).trans ?_
  rw [dY h0,dY (by omega),dY (by omega),show (i+1).toNat=i.toNat+1 by omega]
 rw [dY h,hx];exact es.trans ((eY (by rw [h];decide)).trans ((bs hd).trans ((dY h0).trans (Y0 hx _))))
def withD (w:TW) (q:List (List TPk)) (s:List TSt) (p:List TPk) (n:List (Int×Int×Int×Int)):TW:=(w.1,w.2.1,w.2.2.1,w.2.2.2.1,w.2.2.2.2.1,q,w.2.2.2.2.2.2.1,w.2.2.2.2.2.2.2.1,s,w.2.2.2.2.2.2.2.2.2.1,w.2.2.2.2.2.2.2.2.2.2.1,w.2.2.2.2.2.2.2.2.2.2.2.1,p,n)
theorem stepDeliver {N:Nat} (k j:Nat) (w:TW) (x:Int×Int×Int×Int) (hr:rowsLe N Q0 w) (hN:N<=549755813888) (hk:N+50<=k) (hj:N+50<=j):
    ∃r b,FsDeliver j w x=some (r,b)/\FiDeliver k w x=some (r,b)/\szT Q0 r<=szT Q0 w+3/\(r.1,r.2.1,r.2.2.2.2.1,r.2.2.2.2.2.2.2.2.2.2.1)=(w.1,w.2.1,w.2.2.2.2.1,w.2.2.2.2.2.2.2.2.2.2.1)/\(b=false->r=w):=by
  obtain ⟨k,rfl⟩:=pred (d:=0) (show 1<=k by omega)
  obtain ⟨j,rfl⟩:=pred (d:=0) (show 1<=j by omega)
  have l7:w.2.2.2.2.2.2.1.length<=N:=(Z0 hr.2.2.2.2.2.2.1).1;obtain ⟨l6',q6⟩:=Z0 hr.2.2.2.2.2.1;have l6:w.2.2.2.2.2.1.length<=N:=l6';obtain ⟨l9',q9⟩:=Z0 hr.2.2.2.2.2.2.2.2.1;have l9:w.2.2.2.2.2.2.2.2.1.length<=N:=l9';have l13:w.2.2.2.2.2.2.2.2.2.2.2.2.1.length<=N:=(Z0 hr.2.2.2.2.2.2.2.2.2.2.2.2.1).1;have l14:w.2.2.2.2.2.2.2.2.2.2.2.2.2.length<=N:=(Z0 hr.2.2.2.2.2.2.2.2.2.2.2.2.2).1
  have CW:FicloneWorld k w=some w:=ficloneWorld w hr hN (by omega)
  have es:=(esDeliver j w x).trans ((bs (fsl33Copy w hr hN (by omega))).trans (bs (fsl1In _ _ _ (by omega))))
  have ei:=(eiDeliver k w x).trans (bs (fiisIndex _ _ (by omega)))
  rw [inR_last _ (by omega)] at es
  cases hA:isIdx x.2.1 (w.2.2.2.2.2.1.length:Int) with
  | false=>
    rw [hA] at es ei;exact ⟨w,false,es.trans (eY (by decide)),ei.trans ((eY (by decide)).trans (bs CW)),by omega,rfl,fun _=>rfl⟩
  | true=>
  obtain ⟨a0,a1⟩:=isIdx_pos hA;rw [hA] at es ei;have es:=es.trans ((dY rfl).trans (bs (fsl1In _ _ _ (by omega))))
  have ei:=ei.trans ((dY rfl).trans (bs (fiisIndex _ _ (by omega))))
  rw [inR_last _ (by omega)] at es
  cases hB:isIdx x.2.2.1 (w.2.2.2.2.2.1.length:Int) with
  | false=>
    rw [hB] at es ei;exact ⟨w,false,es.trans (eY (by decide)),ei.trans ((eY (by decide)).trans (bs CW)),by omega,rfl,fun _=>rfl⟩
  | true=>
  obtain ⟨b0,b1⟩:=isIdx_pos hB;rw [hB] at es ei;have es:=es.trans (dY rfl);have ei:=ei.trans (dY rfl);by_cases hC:(x.2.1==x.2.2.1)=true
  · exact ⟨w,false,es.trans (dY hC),ei.trans ((dY hC).trans (bs CW)),by omega,rfl,fun _=>rfl⟩
  have hC':x.2.1≠x.2.2.1:=by simpa using hC
  have hAB:x.2.1.toNat≠x.2.2.1.toNat:=by omega
  have hq:w.2.2.2.2.2.1[x.2.1.toNat]? =some w.2.2.2.2.2.1[x.2.1.toNat]:=dZ a1
  have hql:(w.2.2.2.2.2.1[x.2.1.toNat]).length<=N:=(Z0 (e:=0) (sh:=sI6) (q6 _ (tZ a1))).1;have hq2:w.2.2.2.2.2.1[x.2.2.1.toNat]? =some w.2.2.2.2.2.1[x.2.2.1.toNat]:=dZ b1
  have hql2:(w.2.2.2.2.2.1[x.2.2.1.toNat]).length<=N:=(Z0 (e:=0) (sh:=sI6) (q6 _ (tZ b1))).1;have es:=es.trans ((eY hC).trans ((dY a0).trans ((Y0 hq _).trans ((dY a0).trans ((Y0 hq _).trans ((bs (fsFindPacket _ _ (by omega) (by omega))).trans ((bs (fsTakePacket _ _ (by omega) (by omega))).trans (bs (fsl33Flow _ _ (by omega) (by omega))))))))))
  have ei:=ei.trans ((eY hC).trans ((bs CW).trans ((dY a0).trans ((Y0 hq _).trans ((dY a0).trans ((Y0 hq _).trans ((bs (fiFindPacket _ _ (by omega) (by omega))).trans ((bs (fiTakePacket _ _ (by omega) (by omega))).trans (bs (fiflowAt _ _ (by omega) (by omega)))))))))))
  have htl:=takeP_len w.2.2.2.2.2.1[x.2.1.toNat] (findPacket w.2.2.2.2.2.1[x.2.1.toNat] x.2.2.2);generalize takeP w.2.2.2.2.2.1[x.2.1.toNat] (findPacket w.2.2.2.2.2.1[x.2.1.toNat] x.2.2.2)=t at es ei htl;obtain ⟨t1,tp,tb⟩:=t;dsimp only at htl;cases tb with
  | false=>exact ⟨w,false,es.trans (eY (by simp)),ei.trans ((eY (by simp)).trans (bs CW)),by omega,rfl,fun _=>rfl⟩
  | true=>
  have es:=es.trans (dY rfl);have ei:=ei.trans (dY rfl);by_cases h1:flowIdx w.2.2.2.2.2.2.1 tp.2.1<0
  · have c:¬((decide (flowIdx w.2.2.2.2.2.2.1 tp.2.1<0))==false)=true:=by rw [yZ h1];decide
    exact ⟨w,false,es.trans (eY c),ei.trans ((eY c).trans (bs CW)),by omega,rfl,fun _=>rfl⟩
  have c1:((decide (flowIdx w.2.2.2.2.2.2.1 tp.2.1<0))==false)=true:=by rw [vZ h1];rfl
  have es:=es.trans (dY c1);have ei:=ei.trans (dY c1)
  try dsimp only at es
  try dsimp only at ei
  generalize flowIdx w.2.2.2.2.2.2.1 tp.2.1=j at es ei h1;have j0:0<=j:=by omega
  by_cases h2:j>=(w.2.2.2.2.2.2.2.2.1.length:Int)
  · exact ⟨w,false,es.trans (dY (yZ h2)),ei.trans ((dY (yZ h2)).trans (bs CW)),by omega,rfl,fun _=>rfl⟩
  have hjl:j.toNat<w.2.2.2.2.2.2.2.2.1.length:=by omega
  have c2:¬decide (j>=(w.2.2.2.2.2.2.2.2.1.length:Int))=true:=by rw [vZ h2];decide
  have es:=es.trans (eY c2);have ei:=ei.trans ((eY c2).trans ((dY a0).trans ((dY (by omega)).trans (Y0 hq _))))
  have hset:∀(l:List (List TPk)) (i:Nat) (hi:i<l.length) (q:List TPk),szT (.l 0 J0) (l.set i q)+l[i].length=szT (.l 0 J0) l+q.length:=by
    intro l i hi q;have hs:sumL (szT J0) (l.set i q)+szT J0 l[i]=sumL (szT J0) l+szT J0 q:=sumL_set (f:=szT J0) hi q;have e1:szT J0 q=q.length:=szT_row (e:=0) (sh:=sI6) rfl q;have e2:szT J0 l[i]=l[i].length:=szT_row (e:=0) (sh:=sI6) rfl _;have g1:szT (.l 0 J0) (l.set i q)=(l.set i q).length+sumL (szT J0) (l.set i q):=szT_rowS 0 J0 _;have g2:szT (.l 0 J0) l=l.length+sumL (szT J0) l:=szT_rowS 0 J0 _
    rw [List.length_set] at g1;omega
  by_cases hD:(tp.2.2.2.2.1==x.2.2.1)=true
  · have hD':(x.2.2.1==tp.2.2.2.2.1)=true:=by rw [beq_iff_eq] at hD ⊢;exact hD.symm
    have hs:w.2.2.2.2.2.2.2.2.1[j.toNat]? =some w.2.2.2.2.2.2.2.2.1[j.toNat]:=dZ hjl
    have hsl:(w.2.2.2.2.2.2.2.2.1[j.toNat]).2.2.length<=N:=(Z0 (e:=3) (sh:= .i .i64) ((q9 _ (tZ hjl)).2.2)).1;have es:=es.trans ((dY hD).trans ((dY j0).trans ((Y0 hs _).trans (bs (fsAcceptSeq _ _ (by omega) (by omega))))))
    have ei:=ei.trans ((dY hD').trans ((dY (by simp;omega)).trans ((dY j0).trans ((Y0 hs _).trans ((bs (fiAcceptSeq _ _ (by omega) (by omega))).trans ((dY j0).trans ((dY (by omega)).trans (Y0 hs _))))))))
    have hacc:=acc_len w.2.2.2.2.2.2.2.2.1[j.toNat] tp.2.2.1
    try dsimp only at es
    try dsimp only at ei
    generalize acc w.2.2.2.2.2.2.2.2.1[j.toNat] tp.2.2.1=g at es ei hacc;obtain ⟨g1,go,gb⟩:=g;dsimp only at hacc;cases gb with
    | false=>exact ⟨w,false,es.trans (dY rfl),ei.trans ((dY rfl).trans (bs CW)),by omega,rfl,fun _=>rfl⟩
    | true=>
      have es:=es.trans ((eY (by simp)).trans ((dY j0).trans ((dY (by omega)).trans ((Y0 hs _).trans ((dY (by simp;omega)).trans ((dY a0).trans ((dY (by omega)).trans ((Y0 hq _).trans (dY (by simp;omega))))))))))
      have ei:=ei.trans ((eY (by simp)).trans (dY (by simp;omega)))
      refine ⟨withD w (w.2.2.2.2.2.1.set x.2.1.toNat t1) (w.2.2.2.2.2.2.2.2.1.set j.toNat g1) (w.2.2.2.2.2.2.2.2.2.2.2.2.1++[tp]) (w.2.2.2.2.2.2.2.2.2.2.2.2.2++[x]),true,es,ei,?_,rfl,fun h=>nomatch h⟩
      have hset1:=hset w.2.2.2.2.2.1 x.2.1.toNat a1 t1;have hs2:sumL (szT T0) (w.2.2.2.2.2.2.2.2.1.set j.toNat g1)+szT T0 w.2.2.2.2.2.2.2.2.1[j.toNat]=sumL (szT T0) w.2.2.2.2.2.2.2.2.1+szT T0 g1:=sumL_set (f:=szT T0) hjl g1;have eS (s:TSt):szT T0 s=0+(0+s.2.2.length):=by
        have e:szT (.l 3 (.i .i64)) s.2.2=s.2.2.length:=szT_row (e:=3) (sh:= .i .i64) rfl s.2.2;show 0+(0+szT (.l 3 (.i .i64)) s.2.2)=_
        rw [e]
      have g1':szT (.l 0 T0) (w.2.2.2.2.2.2.2.2.1.set j.toNat g1)=(w.2.2.2.2.2.2.2.2.1.set j.toNat g1).length+sumL (szT T0) (w.2.2.2.2.2.2.2.2.1.set j.toNat g1):=szT_rowS 0 T0 _;have g2':szT (.l 0 T0) w.2.2.2.2.2.2.2.2.1=w.2.2.2.2.2.2.2.2.1.length+sumL (szT T0) w.2.2.2.2.2.2.2.2.1:=szT_rowS 0 T0 _;rw [List.length_set] at g1';have e1:=eS g1;have e2:=eS w.2.2.2.2.2.2.2.2.1[j.toNat]
      rw [szW,szW w];simp only [withD,List.length_append,List.length_cons,List.length_nil];omega
  · have hD':¬(x.2.2.1==tp.2.2.2.2.1)=true:=by rw [beq_iff_eq] at hD ⊢;exact fun h=>hD h.symm
    have es:=es.trans ((eY hD).trans ((dY b0).trans ((Y0 hq2 _).trans (bs (fsPushPacket _ _ (by omega) (by omega))))))
    have hy:(w.2.2.2.2.2.1.set x.2.1.toNat t1)[x.2.2.1.toNat]? =some w.2.2.2.2.2.1[x.2.2.1.toNat]:=by rw [List.getElem?_set_ne hAB];exact hq2
    have ei:=ei.trans ((eY hD').trans ((dY b0).trans ((Y0 hq2 _).trans ((bs (fiPushPacket _ _ (by omega) (by omega))).trans ((dY b0).trans ((dY (by show x.2.2.1<((w.2.2.2.2.2.1.set x.2.1.toNat t1).length:Int);rw [List.length_set];omega)).trans (Y0 hy _)))))))
    have hpl:=push_len w.2.2.2.2.2.1[x.2.2.1.toNat] tp
    try dsimp only at es
    try dsimp only at ei
    generalize push w.2.2.2.2.2.1[x.2.2.1.toNat] tp=g at es ei hpl;obtain ⟨g1,gb⟩:=g;dsimp only at hpl;cases gb with
    | false=>exact ⟨w,false,es.trans (dY rfl),ei.trans ((dY rfl).trans (bs CW)),by omega,rfl,fun _=>rfl⟩
    | true=>
      have hy2:(w.2.2.2.2.2.1.set x.2.2.1.toNat g1)[x.2.1.toNat]? =some w.2.2.2.2.2.1[x.2.1.toNat]:=by rw [List.getElem?_set_ne (fun h=>hAB h.symm)];exact hq
      have es:=es.trans ((eY (by simp)).trans ((dY b0).trans ((dY (by omega)).trans ((Y0 hq2 _).trans ((dY a0).trans ((dY (by show x.2.1<((w.2.2.2.2.2.1.set x.2.2.1.toNat g1).length:Int);rw [List.length_set];omega)).trans ((Y0 hy2 _).trans (dY (by simp;omega)))))))))
      have ei:=ei.trans ((eY (by simp)).trans (dY (by simp;omega)))
      try dsimp only at es
      try dsimp only at ei
      rw [List.set_comm _ _ (fun h=>hAB h.symm)] at es
      refine ⟨withD w ((w.2.2.2.2.2.1.set x.2.1.toNat t1).set x.2.2.1.toNat g1) w.2.2.2.2.2.2.2.2.1 w.2.2.2.2.2.2.2.2.2.2.2.2.1 (w.2.2.2.2.2.2.2.2.2.2.2.2.2++[x]),true,es,ei,?_,rfl,fun h=>nomatch h⟩
      have hset1:=hset w.2.2.2.2.2.1 x.2.1.toNat a1 t1;have hset2:=hset (w.2.2.2.2.2.1.set x.2.1.toNat t1) x.2.2.1.toNat (by rw [List.length_set];exact b1) g1
      rw [List.getElem_set_ne hAB] at hset2;rw [szW,szW w];simp only [withD,List.length_append,List.length_cons,List.length_nil];omega
def evV (w:TW) (i:Int):VsRunToEnd_0:=(i,w.1.1,w.1.2.2.2.1,w.1.2.2.2.2.1,w.1.2.2.2.2.2.1,w.1.2.2.2.2.2.2.1,w.1.2.2.2.2.2.2.2.1,w.1.2.2.2.2.2.2.2.2.2,w.2.1.1,w.2.1.2.1,w.2.1.2.2.1,w.2.2.2.2.2.2.2.2.2.2.1,w.2.2.2.2.2.2.2.2.2.2.2.1,w.1.2.1,w.1.2.2.1,w.1.2.2.2.2.2.2.2.2.1,w.2.1.2.2.2,w.2.2.1,w.2.2.2.1,w.2.2.2.2.1,w.2.2.2.2.2.1,w.2.2.2.2.2.2.1,w.2.2.2.2.2.2.2.1,w.2.2.2.2.2.2.2.2.1,w.2.2.2.2.2.2.2.2.2.1,w.2.2.2.2.2.2.2.2.2.2.2.2.1,w.2.2.2.2.2.2.2.2.2.2.2.2.2)
def tkV (w:TW) (i:Int) (s:List Int):VsStepTick_1:=(i,w.1.1,w.1.2.2.2.1,w.1.2.2.2.2.1,w.1.2.2.2.2.2.1,w.1.2.2.2.2.2.2.1,w.1.2.2.2.2.2.2.2.1,w.1.2.2.2.2.2.2.2.2.2,w.2.1.1,w.2.1.2.1,w.2.1.2.2.1,w.2.2.2.2.2.2.2.2.2.2.1,w.2.2.2.2.2.2.2.2.2.2.2.1,s,w.1.2.1,w.1.2.2.1,w.1.2.2.2.2.2.2.2.2.1,w.2.1.2.2.2,w.2.2.1,w.2.2.2.1,w.2.2.2.2.1,w.2.2.2.2.2.1,w.2.2.2.2.2.2.1,w.2.2.2.2.2.2.2.1,w.2.2.2.2.2.2.2.2.1,w.2.2.2.2.2.2.2.2.2.1,w.2.2.2.2.2.2.2.2.2.2.2.2.1,w.2.2.2.2.2.2.2.2.2.2.2.2.2)
def tickL (b:TB) (sun:Bool) (s:Int):Int:=b.1-(b.2.2.2.1+s*b.2.2.2.2.1)+(if sun=true then b.2.2.2.2.2 else 0)
def tickB (b:TB) (sun:Bool) (s:Int):TB:=if isBat b=true then (mx 0 (mn (tickL b sun (if inR s 0 100=true then s else 0)) b.2.1),b.2.1,b.2.2.1,b.2.2.2.1,b.2.2.2.2.1,b.2.2.2.2.2) else b
theorem isBat_le {b:TB} (h:isBat b=true):(0<=b.2.2.2.1/\b.2.2.2.1<=100)/\(0<=b.2.2.2.2.1/\b.2.2.2.2.1<=100)/\(0<=b.2.2.2.2.2/\b.2.2.2.2.2<=100)/\(0<=b.2.1/\b.2.1<=10000)/\0<=b.1/\b.1<=10000:=by
 unfold isBat inR at h;simp only [sZ,pZ] at h;omega
theorem mn_comm (a b:Int):mn a b=mn b a:=by unfold mn;split<;>split<;>omega
theorem prod_le {s b:Int} (h1:0<=s) (h2:s<=100) (h3:0<=b) (h4:b<=100):0<=s*b/\s*b<=10000:=⟨Int.mul_nonneg h1 h3,by
 have:=Int.mul_le_mul h2 h4 h3 (show (0:Int)<=100 by omega)
 omega⟩
theorem fiTickBattery {k:Nat} (b:TB) (sun:Bool) (s:Int) (hk:4<=k):FiTickBattery k b sun s=some (tickB b sun s):=by
  obtain ⟨k,rfl⟩:=pred (d:=3) hk;rw [eiTickBattery,fiIsBattery _ (by omega),rZ,fiInRange _ _ _ (by omega),rZ]
  unfold tickB;cases h:isBat b with
  | false=>rfl
  | true=>
    obtain ⟨⟨p1,p2⟩,⟨p3,p4⟩,⟨p5,p6⟩,⟨p7,p8⟩,p9,p10⟩:=isBat_le h;rw [eY (by decide),dY rfl]
    unfold tickL;cases hI:inR s 0 100 with
    | false=>
      cases sun<;>simp only [Bool.not_false,Bool.false_eq_true,if_true,if_false,Int.zero_mul,T1 (n:=0) (by omega) (by omega),T1 (n:=b.2.2.2.1) (by omega) (by omega),T1 (n:=b.1-b.2.2.2.1) (by omega) (by omega),T1 (n:=b.1-b.2.2.2.1+b.2.2.2.2.2) (by omega) (by omega),Int.add_zero]
    | true=>
      unfold inR at hI;simp only [sZ,pZ] at hI;obtain ⟨g1,g2⟩:=prod_le hI.1 hI.2 p3 p4;rw [eY (by decide),dY rfl]
      generalize s*b.2.2.2.2.1=P at g1 g2;rw [T1 (n:=P) (by omega) (by omega)]
      cases sun
      · rw [eY (by decide),eY (by decide),T1 (n:=b.2.2.2.1+P) (by omega) (by omega),T1 (by omega) (by omega),Int.add_zero (b.1-(b.2.2.2.1+P))]
      · rw [dY rfl,dY rfl,T1 (n:=b.2.2.2.1+P) (by omega) (by omega),T1 (n:=b.1-(b.2.2.2.1+P)) (by omega) (by omega),T1 (by omega) (by omega)]
theorem fsTickBattery {k:Nat} (b:TB) (sun:Bool) (s:Int) (hk:4<=k):FsTickBattery k b sun s=some (tickB b sun s):=by
  obtain ⟨k,rfl⟩:=pred (d:=3) hk;rw [esTickBattery,fsIsBattery _ (by omega),rZ,fsl1In _ _ _ (by omega),rZ]
  unfold tickB;cases h:isBat b with
  | false=>rfl
  | true=>
    obtain ⟨⟨p1,p2⟩,⟨p3,p4⟩,⟨p5,p6⟩,⟨p7,p8⟩,p9,p10⟩:=isBat_le h;rw [eY (by decide),dY rfl]
    unfold tickL;simp only [fsMin _ _ (show 1<=k by omega),fsMax _ _ (show 1<=k by omega),rZ]
    cases hI:inR s 0 100 with
    | false=>
      cases sun<;>simp only [Bool.not_false,Bool.false_eq_true,if_true,if_false,Int.zero_mul,T1 (n:=0) (by omega) (by omega),T1 (n:=b.1-b.2.2.2.1) (by omega) (by omega),T1 (n:=b.1-b.2.2.2.1-0) (by omega) (by omega),T1 (n:=b.1-b.2.2.2.1+b.2.2.2.2.2) (by omega) (by omega),Int.add_zero,Int.sub_zero,mn_comm b.2.1]
    | true=>
      unfold inR at hI;simp only [sZ,pZ] at hI;obtain ⟨g1,g2⟩:=prod_le hI.1 hI.2 p3 p4;rw [eY (by decide),dY rfl]
      generalize s*b.2.2.2.2.1=P at g1 g2;rw [T1 (n:=P) (by omega) (by omega),T1 (n:=b.1-b.2.2.2.1) (by omega) (by omega),T1 (n:=b.1-b.2.2.2.1-P) (by omega) (by omega)]
      cases sun
      · rw [eY (by decide),eY (by decide),mn_comm,show b.1-b.2.2.2.1-P=b.1-(b.2.2.2.1+P)+0 by omega]
      · rw [dY rfl,dY rfl,T1 (by omega) (by omega),mn_comm,show b.1-b.2.2.2.1-P+b.2.2.2.2.2=b.1-(b.2.2.2.1+P)+b.2.2.2.2.2 by omega]
theorem fiInSpans {k:Nat} (xs:List (Int×Int)) (t:Int) (hl:xs.length<=140737488351232) (hk:xs.length+4<=k):FiInSpans k xs t=some (inSpans xs t):=by
 obtain ⟨k,rfl⟩:=pred (d:=0) (show 1<=k by omega)
 refine (eiInSpans k xs t).trans (row_i (a:=xs) (fun _ l=>some (inSpans l t)) (fun _ _=>rfl) hl rfl (fun m i x r h0 hn hw hi hx ih=> ?_) (by omega))
 dsimp only;rw [hw,ih,fiInSpan _ _ (by omega),rZ]
 unfold inSpans;rw [List.any_cons];cases inSpan x t<;>rfl
/-- All batteries, from the i-th on. -/
def tickGo (w:TW) (ss:List Int):Nat->List TB->List TB->List TB
 | _,[],o=>o
 | i,b::r,o=>tickGo w ss (i+1) r (o.set i (tickB b (inSpans (litOf w (i:Int)) w.2.2.2.2.2.2.2.2.2.2.1) ((ss[i]?).getD 0)))
theorem tickGo_len (w:TW) (ss:List Int):∀(r:List TB) (i:Nat) (o:List TB),(tickGo w ss i r o).length=o.length
 | [],_,_=>rfl
 | b::r,i,o=>by unfold tickGo;rw [tickGo_len w ss r];simp
def sendsS (c:CsStepTick_2):List Int:=c.2.2.2.2.2.2.2.2.2.2.2.2.2.2.2.2.2.2.2.2.2.2.2.2.2.2.2.1
def sendsI (c:CiStepTick_1):List Int:=c.2.2.2.2.2.2.2.2.2.2.2.2.2.2.2.2.2.2.2.2.2.2.2.2.2.2.2.2.2.1
theorem tickS {k:Nat} (X:VsStepTick_2->Option (TW×Bool)) (c:CsStepTick_2) (w:TW) (hw:c.2.2.1=w) (ob:List TB) (hn:ob.length=w.2.2.2.2.1.length) (hs:(sendsS c).length=w.2.2.2.2.1.length) (h1:w.1.2.1.length<=549755813888) (h2:w.2.2.2.2.1.length<=549755813888) (hk:w.2.2.2.2.1.length+2100<=k):
 LsStepTick_2 k X c k (0,ob)=X ((w.2.2.2.2.1.length:Int),tickGo w (sendsS c) 0 w.2.2.2.2.1 ob):=by
 subst hw;refine row_inv0 (L:=LsStepTick_2 k X c) (a:=c.2.2.1.2.2.2.2.1) (fun (s:List TB) i=>(i,s)) (fun s i r=>X ((c.2.2.1.2.2.2.2.1.length:Int),tickGo c.2.2.1 (sendsS c) i r s)) (X:=fun s i=>X (i,s)) (fun s i=>s.length=c.2.2.1.2.2.2.2.1.length) (fun _ _ _=>rfl) (by omega) (fun s _=>rfl) (fun n i s b r hI h0 ht hw hi hx ih=> ?_) (by omega) ob hn
 have hsx:(sendsS c)[(i:Int).toNat]? =some (((sendsS c)[i]?).getD 0):=by
  rw [ht,dZ (by omega)];rfl
 have hbx:s[(i:Int).toNat]? =some s[i]:=by rw [ht];exact dZ (by omega)
 refine (bs (fsLitOf c.2.2.1 _ (by omega) (by omega))).trans ((bs (fsInSpans _ _ (bY (litOf_le _ _) (by omega)) (bY (Nat.add_le_add_right (litOf_le _ _) 4) (by omega)))).trans ((dY h0).trans ((dY (show (i:Int)<((sendsS c).length:Int) by omega)).trans ((Y0 hsx _).trans ((bs (fsTickBattery _ _ _ (by omega))).trans ((dY h0).trans ((dY (show (i:Int)<(s.length:Int) by omega)).trans ((Y0 hbx _).trans ?_))))))))
 dsimp only;rw [hw,ht,ih _ (by simpa using hI)]
 rfl
theorem tickI {k:Nat} (X:ViStepTick_1->Option (TW×Bool)) (c:CiStepTick_1) (w:TW) (hw:c.2.2.2.2.1=w) (hb:c.2.2.1=w.2.2.2.2.1) (hc:c.2.2.2.1=(w.2.2.2.2.1.length:Int)) (ob:List TB) (hn:ob.length=w.2.2.2.2.1.length) (hs:(sendsI c).length=w.2.2.2.2.1.length) (h1:w.1.2.1.length<=549755813888) (h2:w.2.2.2.2.1.length<=549755813888) (hk:w.2.2.2.2.1.length+2100<=k):
 LiStepTick_1 k X c k (0,ob)=X ((w.2.2.2.2.1.length:Int),tickGo w (sendsI c) 0 w.2.2.2.2.1 ob):=by
 subst hw;refine row_inv0 (L:=LiStepTick_1 k X c) (a:=c.2.2.2.2.1.2.2.2.2.1) (fun (s:List TB) i=>(i,s)) (fun s i r=>X ((c.2.2.2.2.1.2.2.2.2.1.length:Int),tickGo c.2.2.2.2.1 (sendsI c) i r s)) (X:=fun s i=>X (i,s)) (fun s i=>s.length=c.2.2.2.2.1.2.2.2.2.1.length) (fun n s i=>by rw [<-hc,<-hb];rfl) (by omega) (fun s _=>rfl) (fun n i s b r hI h0 ht hw hi hx ih=> ?_) (by omega) ob hn
 have hsx:(sendsI c)[(i:Int).toNat]? =some (((sendsI c)[i]?).getD 0):=by
  rw [ht,dZ (by omega)];rfl
 have hbx:s[(i:Int).toNat]? =some s[i]:=by rw [ht];exact dZ (by omega)
 refine (bs (fiLitOf c.2.2.2.2.1 _ (by omega) (by omega))).trans ((bs (fiInSpans _ _ (bY (litOf_le _ _) (by omega)) (bY (Nat.add_le_add_right (litOf_le _ _) 4) (by omega)))).trans ((dY h0).trans ((dY (show (i:Int)<((sendsI c).length:Int) by omega)).trans ((Y0 hsx _).trans ((bs (fiTickBattery _ _ _ (by omega))).trans ((dY h0).trans ((dY (show (i:Int)<(s.length:Int) by omega)).trans ((Y0 hbx _).trans ?_))))))))
 dsimp only;rw [hw,ht,ih _ (by simpa using hI)]
 rfl
theorem sendsFill {R:Type} {k:Nat} (X:VsStepTick_0->Option R) (c:CsStepTick_0) (n:Nat) (hc:c.1.2.2.2.2.1.length=n) (hn:n<=549755813888):∀(m q i:Nat),i+m=n->m<q->LsStepTick_0 k X c q ((i:Int),List.replicate i 0)=X ((n:Int),List.replicate n 0)
  | 0,q+1,i,h,_=>by
    obtain rfl:i=n:=by omega
    show (if decide ((i:Int)<(c.1.2.2.2.2.1.length:Int))=true then _ else _)=_
    rw [hc,eY (by simp)]
  | m+1,q+1,i,h,hq=>by
    show (if decide ((i:Int)<(c.1.2.2.2.2.1.length:Int))=true then if ((List.replicate i (0:Int)).length+([(0:Int)]).length)*8<=140737488355328 then LsStepTick_0 k X c q (IntKind.i64.wrap ((i:Int)+1),List.replicate i 0++[0]) else none else _)=_
    rw [hc,dY (by simp;omega),dY (by simp;omega),wrap_succ (m:=n) (by omega) (by omega),<-List.replicate_succ']
    exact sendsFill X c n hc hn m q (i+1) (by omega) (by omega)
theorem dlv {Z k j:Nat} (p:List (Int×Int×Int×Int)) (hp:∀x ∈ p,0<=x.2.1) (hZ:Z+3*p.length<=549755813888) (hk:Z+3*p.length+60<=k) (hj:Z+3*p.length+60<=j) (hl:p.length<=1000):∀(m i:Nat) (w:TW) (s:List Int),i+m=p.length->szT Q0 w<=Z+3*i->s.length<=549755813888->
    ∃(w':TW) (s':List Int),s'.length=s.length/\szT Q0 w'<=Z+3*p.length/\(w'.1,w'.2.1,w'.2.2.2.2.1,w'.2.2.2.2.2.2.2.2.2.2.1)=(w.1,w.2.1,w.2.2.2.2.1,w.2.2.2.2.2.2.2.2.2.2.1)/\
      ∀q:Nat,m<q->(∀(X:VsStepTick_1->Option (TW×Bool)) (c:CsStepTick_1),c.2.2.2.2.2.2.2.2.2.2.2.2.2.2=p->LsStepTick_1 j X c q (tkV w (i:Int) s)=X (tkV w' (p.length:Int) s'))/\
        (∀(X:ViStepTick_0->Option (TW×Bool)) (c:CiStepTick_0),c.1=(p.length:Int)->c.2.2.2.2.2.2.2.2.2.2.2.2.2.2=p->LiStepTick_0 k X c q (tkV w (i:Int) s)=X (tkV w' (p.length:Int) s'))
  | 0,i,w,s,h,hz,_=>by
    obtain rfl:i=p.length:=by omega
    refine ⟨w,s,rfl,by omega,rfl,fun q hq=> ?_⟩
    obtain ⟨q,rfl⟩:=pred (d:=0) (show 1<=q by omega)
    refine ⟨fun X c hc=> ?_,fun X c h1 hc=> ?_⟩
    · show BsStepTick_1 j X c (LsStepTick_1 j X c q) (tkV w (p.length:Int) s)=_
      unfold BsStepTick_1;exact eY (show ¬decide ((p.length:Int)<(c.2.2.2.2.2.2.2.2.2.2.2.2.2.2.length:Int))=true by rw [hc];simp)
    · show BiStepTick_0 k X c (LiStepTick_0 k X c q) (tkV w (p.length:Int) s)=_
      unfold BiStepTick_0;exact eY (show ¬decide ((p.length:Int)<c.1)=true by rw [h1];simp)
  | m+1,i,w,s,h,hz,hsl=>by
    have hi:i<p.length:=by omega
    have hx:p[(i:Int).toNat]? =some p[i]:=by rw [Int.toNat_natCast];exact dZ hi
    have hx0:0<=(p[i]).2.1:=hp _ (tZ hi);generalize p[i]=x at hx hx0;obtain ⟨r,b,hs,hv,hsz,he,hb⟩:=stepDeliver k j w x (rows_le Q0 w (Z+3*i) hz) (by omega) (by omega) (by omega)
    have hw:IntKind.i64.wrap ((i:Int)+1)=((i+1:Nat):Int):=wrap_succ hi (by omega)
    have c1:∀c:CsStepTick_1,c.2.2.2.2.2.2.2.2.2.2.2.2.2.2=p->decide ((i:Int)<(c.2.2.2.2.2.2.2.2.2.2.2.2.2.2.length:Int))=true:=fun c hc=>by rw [hc];simp;omega
    have c2:∀c:CsStepTick_1,c.2.2.2.2.2.2.2.2.2.2.2.2.2.2=p->(i:Int)<(c.2.2.2.2.2.2.2.2.2.2.2.2.2.2.length:Int):=fun c hc=>by rw [hc];omega
    have c3:∀c:CsStepTick_1,c.2.2.2.2.2.2.2.2.2.2.2.2.2.2=p->c.2.2.2.2.2.2.2.2.2.2.2.2.2.2[(i:Int).toNat]? =some x:=fun c hc=>by rw [hc];exact hx
    have d2:∀c:CiStepTick_0,c.2.2.2.2.2.2.2.2.2.2.2.2.2.2=p->(i:Int)<(c.2.2.2.2.2.2.2.2.2.2.2.2.2.2.length:Int):=fun c hc=>by rw [hc];omega
    have d3:∀c:CiStepTick_0,c.2.2.2.2.2.2.2.2.2.2.2.2.2.2=p->c.2.2.2.2.2.2.2.2.2.2.2.2.2.2[(i:Int).toNat]? =some x:=fun c hc=>by rw [hc];exact hx
    have h0:(0:Int)<=(i:Int):=by omega
    cases b with
    | false=>
      rw [hb rfl] at hs hv;obtain ⟨w',s',g1,g2,g3,g4⟩:=dlv p hp hZ hk hj hl m (i+1) w s (by omega) (by omega) hsl
      refine ⟨w',s',g1,g2,g3,fun q hq=> ?_⟩
      obtain ⟨q,rfl⟩:=pred (d:=0) (show 1<=q by omega)
      obtain ⟨k1,k2⟩:=g4 q (by omega)
      refine ⟨fun X c hc=> ?_,fun X c h1 hc=> ?_⟩
      · show BsStepTick_1 j X c (LsStepTick_1 j X c q) (tkV w (i:Int) s)=_
        unfold BsStepTick_1;refine (dY (c1 c hc)).trans ((dY h0).trans ((dY (c2 c hc)).trans ((Y0 (c3 c hc) _).trans ((bs hs).trans ((dY rfl).trans ?_)))))
        show LsStepTick_1 j X c q (tkV w (IntKind.i64.wrap ((i:Int)+1)) s)=_
        rw [hw];exact k1 X c hc
      · show BiStepTick_0 k X c (LiStepTick_0 k X c q) (tkV w (i:Int) s)=_
        unfold BiStepTick_0;refine (dY (show decide ((i:Int)<c.1)=true by rw [h1];simp;omega)).trans ((dY h0).trans ((dY (d2 c hc)).trans ((Y0 (d3 c hc) _).trans ((bs hv).trans ((eY (show ¬(false==true)=true by decide)).trans ?_)))))
        show LiStepTick_0 k X c q (tkV w (IntKind.i64.wrap ((i:Int)+1)) s)=_
        rw [hw];exact k2 X c h1 hc
    | true=>
      by_cases hls:x.2.1<(s.length:Int)
      · have hy:s[x.2.1.toNat]? =some s[x.2.1.toNat]:=dZ (by omega)
        obtain ⟨w',s',g1,g2,g3,g4⟩:=dlv p hp hZ hk hj hl m (i+1) r (s.set x.2.1.toNat 1) (by omega) (by omega) (by simpa using hsl)
        refine ⟨w',s',by simpa using g1,g2,g3.trans he,fun q hq=> ?_⟩
        obtain ⟨q,rfl⟩:=pred (d:=0) (show 1<=q by omega)
        obtain ⟨k1,k2⟩:=g4 q (by omega)
        refine ⟨fun X c hc=> ?_,fun X c h1 hc=> ?_⟩
        · show BsStepTick_1 j X c (LsStepTick_1 j X c q) (tkV w (i:Int) s)=_
          unfold BsStepTick_1;refine (dY (c1 c hc)).trans ((dY h0).trans ((dY (c2 c hc)).trans ((Y0 (c3 c hc) _).trans ((bs hs).trans ((eY (show ¬(!true)=true by decide)).trans ?_)))))
          refine (dY h0).trans ((dY (c2 c hc)).trans ((Y0 (c3 c hc) _).trans ((dY (show decide (x.2.1<(s.length:Int))=true from yZ hls)).trans ?_)))
          refine (dY h0).trans ((dY (c2 c hc)).trans ((Y0 (c3 c hc) _).trans ((dY hx0).trans ((dY hls).trans ((Y0 hy _).trans ?_)))))
          show LsStepTick_1 j X c q (tkV r (IntKind.i64.wrap ((i:Int)+1)) (s.set x.2.1.toNat 1))=_
          rw [hw];exact k1 X c hc
        · show BiStepTick_0 k X c (LiStepTick_0 k X c q) (tkV w (i:Int) s)=_
          unfold BiStepTick_0;refine (dY (show decide ((i:Int)<c.1)=true by rw [h1];simp;omega)).trans ((dY h0).trans ((dY (d2 c hc)).trans ((Y0 (d3 c hc) _).trans ((bs hv).trans ((dY rfl).trans ?_)))))
          refine (dY (show decide (x.2.1<(s.length:Int))=true from yZ hls)).trans ((dY hx0).trans ((dY hls).trans ((Y0 hy _).trans ?_)))
          show LiStepTick_0 k X c q (tkV r (IntKind.i64.wrap ((i:Int)+1)) (s.set x.2.1.toNat 1))=_
          rw [hw];exact k2 X c h1 hc
      · obtain ⟨w',s',g1,g2,g3,g4⟩:=dlv p hp hZ hk hj hl m (i+1) r s (by omega) (by omega) hsl
        refine ⟨w',s',g1,g2,g3.trans he,fun q hq=> ?_⟩
        obtain ⟨q,rfl⟩:=pred (d:=0) (show 1<=q by omega)
        obtain ⟨k1,k2⟩:=g4 q (by omega)
        have hd:¬decide (x.2.1<(s.length:Int))=true:=by simpa using hls
        refine ⟨fun X c hc=> ?_,fun X c h1 hc=> ?_⟩
        · show BsStepTick_1 j X c (LsStepTick_1 j X c q) (tkV w (i:Int) s)=_
          unfold BsStepTick_1;refine (dY (c1 c hc)).trans ((dY h0).trans ((dY (c2 c hc)).trans ((Y0 (c3 c hc) _).trans ((bs hs).trans ((eY (show ¬(!true)=true by decide)).trans ?_)))))
          refine (dY h0).trans ((dY (c2 c hc)).trans ((Y0 (c3 c hc) _).trans ((eY hd).trans ?_)))
          show LsStepTick_1 j X c q (tkV r (IntKind.i64.wrap ((i:Int)+1)) s)=_
          rw [hw];exact k1 X c hc
        · show BiStepTick_0 k X c (LiStepTick_0 k X c q) (tkV w (i:Int) s)=_
          unfold BiStepTick_0;refine (dY (show decide ((i:Int)<c.1)=true by rw [h1];simp;omega)).trans ((dY h0).trans ((dY (d2 c hc)).trans ((Y0 (d3 c hc) _).trans ((bs hv).trans ((dY rfl).trans ((eY hd).trans ?_))))))
          show LiStepTick_0 k X c q (tkV r (IntKind.i64.wrap ((i:Int)+1)) s)=_
          rw [hw];exact k2 X c h1 hc
def tkW (w:TW) (b:List TB) (now:Int):TW:=(w.1,w.2.1,w.2.2.1,w.2.2.2.1,b,w.2.2.2.2.2.1,w.2.2.2.2.2.2.1,w.2.2.2.2.2.2.2.1,w.2.2.2.2.2.2.2.2.1,w.2.2.2.2.2.2.2.2.2.1,now,w.2.2.2.2.2.2.2.2.2.2.2.1,w.2.2.2.2.2.2.2.2.2.2.2.2.1,w.2.2.2.2.2.2.2.2.2.2.2.2.2)
theorem stepStepTick {Z:Nat} (k j:Nat) (w:TW) (hz:szT Q0 w<=Z) (hZ:Z+36<=549755813888) (hk:2*Z+6000<=k) (hj:2*Z+6000<=j):
 ∃r b,FsStepTick j w=some (r,b)/\FiStepTick k w=some (r,b)/\szT Q0 r<=Z+36/\r.2.1=w.2.1/\(b=false->r=w):=by
 obtain ⟨k,rfl⟩:=pred (d:=0) (show 1<=k by omega)
 obtain ⟨j,rfl⟩:=pred (d:=0) (show 1<=j by omega)
 have hr:=rows_le Q0 w Z hz;have es:=(esStepTick j w).trans (bs (fsl33Copy w hr (by omega) (by omega)))
 have ei:=(eiStepTick k w).trans (bs (ficloneWorld w hr (by omega) (by omega)))
 by_cases hE:decide (w.2.2.2.2.2.2.2.2.2.2.1>=w.2.2.2.2.2.2.2.2.2.2.2.1)=true
 · exact ⟨w,false,es.trans (dY hE),ei.trans (dY hE),by omega,rfl,fun _=>rfl⟩
 have es:=es.trans (eY hE);have ei:=ei.trans (eY hE);have lB:w.2.2.2.2.1.length<=Z:=(Z0 hr.2.2.2.2.1).1;have lS:w.1.2.1.length<=Z:=(Z0 hr.1.2.1).1;obtain ⟨p,pl,pp,cs,ci⟩:=fChoices (k:=k) (j:=j) w hr (by omega) (by omega) (by omega)
 obtain ⟨w',s',g1,g2,g3,g4⟩:=dlv (Z:=Z) (k:=k) (j:=j) p pp (by omega) (by omega) (by omega) (by omega) p.length 0 w (List.replicate w.2.2.2.2.1.length 0) (by omega) (by omega) (by simp;omega)
 obtain ⟨g4s,_⟩:=g4 j (by omega)
 obtain ⟨_,g4i⟩:=g4 k (by omega)
 simp only [Prod.mk.injEq] at g3;obtain ⟨e1,e2,e3,e4⟩:=g3;rw [List.length_replicate] at g1;refine ⟨tkW w' (tickGo w s' 0 w.2.2.2.2.1 w'.2.2.2.2.1) (IntKind.i64.wrap (w.2.2.2.2.2.2.2.2.2.2.1+1)),true,?_,?_,?_,e2,fun h=>absurd h (by decide)⟩
 · refine es.trans ((sendsFill (R:=TW×Bool) _ _ w.2.2.2.2.1.length rfl (by omega) w.2.2.2.2.1.length j 0 (by omega) (by omega)).trans ?_)
   refine (bs cs).trans ?_
   refine (g4s _ _ rfl).trans ?_
   refine (tickS (k:=j) _ _ w ?_ w'.2.2.2.2.1 ?_ ?_ ?_ ?_ ?_).trans ?_
   · rfl
   · rw [e3]
   · exact g1
   · omega
   · omega
   · omega
   · rfl
 · refine ei.trans ((dY (by simp)).trans ((dY (by omega)).trans ((dY (by omega)).trans ?_)))
   refine (bs ci).trans ?_
   refine (g4i _ _ rfl rfl).trans ?_
   refine (tickI (k:=k) _ _ w ?_ ?_ ?_ w'.2.2.2.2.1 ?_ ?_ ?_ ?_ ?_).trans ?_
   · rfl
   · rfl
   · rfl
   · rw [e3]
   · exact g1
   · omega
   · omega
   · omega
   show some (tkW w' (tickGo w s' 0 w.2.2.2.2.1 w'.2.2.2.2.1) (IntKind.i64.wrap (w'.2.2.2.2.2.2.2.2.2.2.1+1)),true)=_
   rw [e4]
 · have hb:=tickGo_len w s' w.2.2.2.2.1 0 w'.2.2.2.2.1;rw [szW] at g2 ⊢;simp only [tkW,hb];omega
theorem endLoop {Z k j:Nat} (hZ:Z+2400<=549755813888) (hk:2*(Z+2200)+6000<=k) (hj:2*(Z+2200)+6000<=j):∀(m i:Nat) (w:TW),i+m=60->szT Q0 w<=Z+36*i->
    ∃r:TW,szT Q0 r<=Z+2160/\r.2.1=w.2.1/\∀q:Nat,m<q->
      (∀(X0:VsRunToEnd_0->(z2×Bool)->Option TW) (X1:VsRunToEnd_0->Option TW) (c:CsRunToEnd_0),(∀w i p,X0 (evV w i) p=some w)->(∀w i,X1 (evV w i)=some w)->LsRunToEnd_0 j X0 X1 c q (evV w (i:Int))=some r)/\
      (∀(X0 X1:Viticked_0->Option TW) (c:Citicked_0),c.1=60->(∀b w i,X0 (b,evV w i)=some w)->(∀b w i,X1 (b,evV w i)=some w)->Liticked_0 k X0 X1 c q (true,evV w (i:Int))=some r)
  | 0,i,w,h,hz=>by
    obtain rfl:i=60:=by omega
    refine ⟨w,by omega,rfl,fun q hq=> ?_⟩
    obtain ⟨q,rfl⟩:=pred (d:=0) (show 1<=q by omega)
    refine ⟨fun X0 X1 c h0 h1=> ?_,fun X0 X1 c hc h0 h1=> ?_⟩
    · show BsRunToEnd_0 j X0 X1 c (LsRunToEnd_0 j X0 X1 c q) (evV w ((60:Nat):Int))=_
      unfold BsRunToEnd_0;exact (eY (show ¬decide (((60:Nat):Int)<60)=true by decide)).trans (h1 w _)
    · show Biticked_0 k X0 X1 c (Liticked_0 k X0 X1 c q) (true,evV w ((60:Nat):Int))=_
      unfold Biticked_0;exact (eY (show ¬(decide (((60:Nat):Int)<c.1)==true)=true by rw [hc];decide)).trans (h1 true w _)
  | m+1,i,w,h,hz=>by
    obtain ⟨r,b,hs,hv,hsz,he,hb⟩:=stepStepTick (Z:=Z+36*i) k j w hz (by omega) (by omega) (by omega)
    have hi:i<60:=by omega
    have hw:IntKind.i64.wrap ((i:Int)+1)=((i+1:Nat):Int):=wrap_succ hi (by omega)
    have hd:decide ((i:Int)<60)=true:=yZ (by omega)
    cases b with
    | false=>
      rw [hb rfl] at hs hv;refine ⟨w,by omega,rfl,fun q hq=> ?_⟩
      obtain ⟨q,rfl⟩:=pred (d:=1) (show 2<=q by omega)
      refine ⟨fun X0 X1 c h0 h1=> ?_,fun X0 X1 c hc h0 h1=> ?_⟩
      · show BsRunToEnd_0 j X0 X1 c (LsRunToEnd_0 j X0 X1 c q) (evV w (i:Int))=_
        unfold BsRunToEnd_0;exact (dY hd).trans ((bs hs).trans ((dY rfl).trans (h0 w _ _)))
      · obtain ⟨q,rfl⟩:=pred (d:=0) (show 1<=q by omega)
        show Biticked_0 k X0 X1 c (Liticked_0 k X0 X1 c (q+1)) (true,evV w (i:Int))=_
        unfold Biticked_0;refine (dY (show (decide ((i:Int)<c.1)==true)=true by rw [hc,hd];rfl)).trans ((dY rfl).trans ((bs hv).trans ?_))
        show Biticked_0 k X0 X1 c (Liticked_0 k X0 X1 c q) (false,evV w (IntKind.i64.wrap ((i:Int)+1)))=_
        unfold Biticked_0;by_cases hx:(decide (IntKind.i64.wrap ((i:Int)+1)<c.1)==true)=true
        · exact (dY hx).trans ((eY (show ¬false=true by decide)).trans (h0 false w _))
        · exact (eY hx).trans (h1 false w _)
    | true=>
      obtain ⟨r',g2,g3,g4⟩:=endLoop hZ hk hj m (i+1) r (by omega) (by omega)
      refine ⟨r',g2,g3.trans he,fun q hq=> ?_⟩
      obtain ⟨q,rfl⟩:=pred (d:=0) (show 1<=q by omega)
      obtain ⟨k1,k2⟩:=g4 q (by omega)
      refine ⟨fun X0 X1 c h0 h1=> ?_,fun X0 X1 c hc h0 h1=> ?_⟩
      · show BsRunToEnd_0 j X0 X1 c (LsRunToEnd_0 j X0 X1 c q) (evV w (i:Int))=_
        unfold BsRunToEnd_0;refine (dY hd).trans ((bs hs).trans ((eY (show ¬(!true)=true by decide)).trans ?_))
        show LsRunToEnd_0 j X0 X1 c q (evV r (IntKind.i64.wrap ((i:Int)+1)))=_
        rw [hw];exact k1 X0 X1 c h0 h1
      · show Biticked_0 k X0 X1 c (Liticked_0 k X0 X1 c q) (true,evV w (i:Int))=_
        unfold Biticked_0;refine (dY (show (decide ((i:Int)<c.1)==true)=true by rw [hc,hd];rfl)).trans ((dY rfl).trans ((bs hv).trans ?_))
        show Liticked_0 k X0 X1 c q (true,evV r (IntKind.i64.wrap ((i:Int)+1)))=_
        rw [hw];exact k2 X0 X1 c hc h0 h1
theorem stepRunToEnd {Z:Nat} (k:Nat) (w:TW) (hz:szT Q0 w<=Z) (hZ:Z+2400<=549755813888) (hk:2*Z+12000<=k):
 ∃r,FsRunToEnd k w=some r/\FiRunToEnd k w=some r/\szT Q0 r<=Z+2160/\r.2.1=w.2.1:=by
 obtain ⟨k,rfl⟩:=pred (d:=1) (show 2<=k by omega)
 obtain ⟨k,rfl⟩:=pred (d:=0) (show 1<=k by omega)
 have hr:=rows_le Q0 w Z hz;obtain ⟨r,g2,g3,g4⟩:=endLoop (Z:=Z) (k:=k) (j:=k+1) (by omega) (by omega) (by omega) 60 0 w (by omega) (by omega)
 refine ⟨r,?_,?_,g2,g3⟩
 · refine (esRunToEnd (k+1) w).trans ((bs (fsl33Copy w hr (by omega) (by omega))).trans ?_)
   exact (g4 (k+1) (by omega)).1 _ _ _ (fun _ _ _=>rfl) (fun _ _=>rfl)
 · refine (eiRunToEnd (k+1) w).trans (bs (v:=r) ?_)
   refine (eiticked k w 60).trans ((bs (ficloneWorld w hr (by omega) (by omega))).trans ?_)
   exact (g4 k (by omega)).2 _ _ _ rfl (fun _ _ _=>rfl) (fun _ _ _=>rfl)
theorem lFnExactRunToEnd (w:TW) (hr:rowsLe 140737488351232 sLWorld w):∃k,FlFnExactRunToEnd k w=some true:=by
 refine ⟨(3*szT sLWorld w+300*1+20000),?_⟩
 rw [elFnExactRunToEnd,zlszWorld _ w 1048576 hr (by omega) (by omega) (by omega),rZ]
 by_cases hz:szT sLWorld w<=1048576
 rotate_left
 · rw [szR_neg (by omega),dY (by decide)]
 rw [szR_pos (by omega),eY (by simp;omega)]
 have e60:szT Q0 w=szT sLWorld w:=rfl;obtain ⟨r,hs,hi,hsz,_⟩:=stepRunToEnd (Z:=szT sLWorld w) (3*szT sLWorld w+300*1+19999) w (Nat.le_of_eq e60) (by omega) (by omega)
 have tw:=tltoWorld (3*szT sLWorld w+300*1+19999) w hz (by omega)
 have qw:=qleqWorld (3*szT sLWorld w+300*1+19999) w (by rw [e60];omega) (by rw [e60];omega)
 have qr:=qleqWorld (3*szT sLWorld w+300*1+19999) r (by omega) (by omega)
 have mw:=mlmarkWorld (3*szT sLWorld w+300*1+19999) w 1 (by omega) (by rw [e60];omega) (by rw [e60];omega) (by rw [e60];omega)
 have mr:=mlmarkWorld (3*szT sLWorld w+300*1+19999) r 1 (by omega) (by omega) (by omega) (by omega)
 have hh:=hlheldWorld (3*szT sLWorld w+300*1+19999) r 1 (by omega) (by omega) (by omega) (by omega)
 have nW:decide ((mkT Q0 w 1).2<0)=false:=by have:=mkT_le Q0 w 1 rfl;rw [vZ];omega
 have nR:decide ((mkT Q0 r 1).2<0)=false:=by have:=mkT_le Q0 r 1 rfl;rw [vZ];omega
 refine (bs tw).trans ?_
 refine (bs hs).trans ?_
 refine (bs tw).trans ?_
 refine (bs hi).trans ?_
 refine (bs qr).trans ?_
 refine (eY (by decide)).trans ?_
 refine (bs tw).trans ?_
 refine (bs qw).trans ?_
 refine (eY (by decide)).trans ?_
 refine (bs mw).trans ?_
 refine (dY (show ((decide ((mkT Q0 w 1).2<0))==false)=true by rw [nW];rfl)).trans ?_
 refine (bs qr).trans ?_
 refine (eY (by decide)).trans ?_
 refine (bs mr).trans ?_
 refine (bs hh).trans ?_
 refine (eY (by rw [nR];decide)).trans ?_
 refine (eY (by simp)).trans ?_
 refine (bs tw).trans ?_
 refine (bs hi).trans ?_
 refine (bs qr).trans ?_
 refine (eY (by decide)).trans ?_
 refine (bs hh).trans ?_
 refine (eY (by rw [nR];decide)).trans ?_
 refine (eY (by simp)).trans ?_
 rfl
end Go.Proofs.YtdglapefgakccaaGreat.World
namespace Go.Proofs.YtdglapefgakccaaGreat.World
open Go Go.V Go.Proofs Go.RowKit Go.Lib Go.Sort
theorem run_clear_k {P:Program} (w:World) (t e ty:TypeId) (z:Value) (ht:P.underlying t=some (.slice e)) (hv:∀w,(zeroValue e).run P w= .ok z w) (b o n c:Nat) (hn:0<n) (zs:List Value) (hzs:(Builtin.zeroCells z.cells n).toList=zs)
 (h1:∀u ∈ zs,u.oneCell'=true) (hc:∀j,j<zs.length->(w.cell? ⟨b,o+j,none⟩).isSome=true) (hf:∀j,j<zs.length->w.frozen? ⟨b,o+j,none⟩=false):
 (Builtin.clear_ #[t] ty #[.slice (some ⟨b,o,none⟩) n c]).run P w= .ok (.tuple #[]) (w.setCells b o zs):=by
 have hst:=run_storeCells_cells (P:=P) b o zs 0 w (by simpa using hc) (by simpa using hf) h1
 simp only [Nat.add_zero] at hst;obtain ⟨m,rfl⟩:∃m,n=m+1:=⟨n-1,by omega⟩
 simp [Builtin.clear_,run_underlying ht,hv,hzs,hst]
set_option maxHeartbeats 4000000 in
set_option maxRecDepth 1000000 in
theorem delete_walk (blk off cap i j m:Nat) (cur:Array Value) (w:World) (hg:w.heap[blk]? =some (.cells cur 229 (0,0))) (hm:m<=cap) (hc:cap<=9223372036854775807) (hcs:cur.size=off+cap*6) (hij:i<j) (hjm:j<=m) (h1:∀u ∈ (cur.toList.drop off).take (m*6),u.oneCell'=true):
 Calls Tryz.prog 341 #[.slice (some ⟨blk,off,none⟩) m cap,.int .i64 i,.int .i64 j] w fun r w'=>r= .returned (.slice (some ⟨blk,off,none⟩) (m-(j-i)) cap)/\
  w'=(w.drew.setCells blk (off+i*6) (((cur.toList.drop off).take (m*6)).drop (j*6))).setCells blk (off+(i+(m-j))*6) (Builtin.zeroCells #[.int .i64 0,.int .i64 0,.int .i64 0,.int .i64 0,.int .i64 0,.int .i64 0] (m-(i+(m-j)))).toList:=by
 obtain ⟨news,hnews⟩:∃news,news=((cur.toList.drop off).take (m*6)).drop (j*6):=⟨_,rfl⟩;have hll:((cur.toList.drop off).take (m*6)).length=m*6:=by
  rw [List.length_take,List.length_drop,Array.length_toList];omega
 have hlen:news.length=(m-j)*6:=by rw [hnews,List.length_drop,hll];omega
 have hcell:∀k,k<cap*6->(w.drew.cell? ⟨blk,off+k,none⟩)=cur[off+k]? :=fun k hk=>cell_of_row w.drew blk _ cur 229 (0,0) hg
 have hfroz:∀k,w.frozen? ⟨blk,k,none⟩=false:=fun k=>by simp [World.frozen?,hg]
 obtain ⟨A,hA,hsrc⟩:∃A:Addr,(if cap=j then (some ⟨blk,off,none⟩:Option Addr) else some ⟨blk,off+j*6,none⟩)=some A/\Hid (∀t u,news[t]? =some u->w.drew.cell? (A.add t)=some u):=by
  by_cases h:cap=j
  · refine ⟨⟨blk,off,none⟩,by simp [h],fun t u hu=> ?_⟩
    have h0:news.length=0:=by rw [hlen];omega
    rw [List.length_eq_zero_iff.1 h0] at hu;simp at hu
  · refine ⟨⟨blk,off+j*6,none⟩,by simp [h],fun t u hu=> ?_⟩
    have ht:t<(m-j)*6:=by
     have:=(List.getElem?_eq_some_iff.1 hu).1
     rwa [hlen] at this
    rw [hnews,mZ,lZ] at hu
    rw [dY (by omega),mZ,Array.getElem?_toList] at hu
    rw [Addr.add_lit,show off+j*6+t=off+(j*6+t) by omega,hcell _ (by omega)]
    exact hu
 have s1:Hid (news.length=(m-j)*6):=hlen;have s2:Hid (∀u ∈ news,u.oneCell'=true):=fun u hu=>h1 u (by rw [hnews] at hu;exact List.mem_of_mem_drop hu)
 have s3:Hid (∀t,t<news.length->(w.drew.cell? ⟨blk,off+i*6+t,none⟩).isSome=true/\w.drew.frozen? ⟨blk,off+i*6+t,none⟩=false):=by
  intro t ht;rw [hlen] at ht;refine ⟨?_,hfroz _⟩
  rw [Nat.add_assoc,hcell _ (by omega),Array.getElem?_eq_getElem (by omega)]
  rfl
 obtain ⟨W1,hW1⟩:∃W1,W1=w.drew.setCells blk (off+i*6) news:=⟨_,rfl⟩;have hz:(Builtin.zeroCells #[.int .i64 0,.int .i64 0,.int .i64 0,.int .i64 0,.int .i64 0,.int .i64 0] (m-(i+(m-j)))).toList.length=(m-(i+(m-j)))*6:=by
  rw [Array.length_toList,size_zeroCells];rfl
 have hcl:∀ty,(Builtin.clear_ #[46] ty #[.slice (some ⟨blk,off+(i+(m-j))*6,none⟩) (m-(i+(m-j))) (cap-(i+(m-j)))]).run Tryz.prog W1= .ok (.tuple #[]) (W1.setCells blk (off+(i+(m-j))*6) (Builtin.zeroCells #[.int .i64 0,.int .i64 0,.int .i64 0,.int .i64 0,.int .i64 0,.int .i64 0] (m-(i+(m-j)))).toList):=fun ty=>by
  refine run_clear_k W1 46 229 ty (.agg #[.int .i64 0,.int .i64 0,.int .i64 0,.int .i64 0,.int .i64 0,.int .i64 0]) Tryz.underlying46 Tryz.zeroValue229 blk _ _ _ (by omega) _ rfl (fun u hu=> ?_) (fun k hk=> ?_) (fun k hk=> ?_)
  · rw [Array.mem_toList_iff] at hu;unfold Builtin.zeroCells at hu;obtain ⟨k,_,rfl⟩:=Array.mem_map.1 hu
    have:k%6=0\/k%6=1\/k%6=2\/k%6=3\/k%6=4\/k%6=5:=by omega
    rcases this with h | h | h | h | h | h<;>simp [h]<;>rfl
  · rw [hz] at hk;rw [hW1];by_cases hin:off+i*6<=off+(i+(m-j))*6+k/\off+(i+(m-j))*6+k<off+i*6+news.length
    · omega
    · rw [World.cell?_setCells_out _ _ _ _ _ (fun _ _=>by rw [hlen];show _<_\/_<=off+(i+(m-j))*6+k;omega),Nat.add_assoc,hcell _ (by omega),Array.getElem?_eq_getElem (by omega)]
      rfl
  · rw [hW1,World.frozen?_setCells]
    exact hfroz _
 have hW:Hid (W1=w.drew.setCells blk (off+i*6) news):=hW1;have hic:i<=cap:=by omega
 have hjc:j<=cap:=by omega
 rw [<-hnews,<-hW1];clear hW1 hnews hlen hcell hfroz h1 hll hg hcs;have mixed:Tryz.prog.follows .mixedOrders=true:=by kernel_rfl
 have hi0:Tryz.prog.info? 229=some Tryz.t229:=by kernel_rfl
 have hz1:Tryz.t229.size=6:=by kernel_rfl
 go_enter Tryz.func341,Tryz.ntmps341
 go_wp2_with fail
 go_region_law_o (refine step_append_room rfl (.tmp 22) (.tmp 25) 46 rfl 229 Tryz.t229 6 Tryz.underlying46 hi0 hz1 blk off i cap (by simp [Act.eval,Act.put]) A (m-j) (cap-j) news (by simp [Act.eval,Act.put]) s1.out hsrc.out s2.out (by omega) s3.out ?_;rw [<-hW.out])
 go_wp2
 go_ret
 exact ⟨by rw [show m-(j-i)=i+(m-j) by omega];rfl,rfl⟩
theorem compact_tiny (p:Option Addr) (w:World):Calls Tryz.prog 470 #[.slice p 0 0] w fun e w'=>e= .returned (.slice p 0 0)/\w'=w:=by
 go_enter Tryz.func470,Tryz.ntmps470
 go_wp2
 go_ret
 exact ⟨rfl,rfl⟩
end Go.Proofs.YtdglapefgakccaaGreat.World
namespace Go.Proofs.YtdglapefgakccaaGreat.World
open Go Go.V Go.Proofs
open Go.ChangeShapes Go.WideShapes Go.ChangeAt Go.RowKit
set_option maxRecDepth 100000
theorem tyOk:∀t i,E.ty t=some i->TyOk E.P t i:=by
 intro t i h;replace h:ty t=some i:=h;unfold ty at h;split at h<;>first | (cases h;done) | (cases h;exact ⟨by kernel_rfl,by kernel_rfl⟩)
theorem fn0Ok : ∀ f F, fn0 f = some F -> E.P.funcs[f]? = some F /\ F.name ≠ "runtime.NumGoroutine" /\ ∀ c, F.body = some c -> codeOk c = true := by
 intro f F h;unfold fn0 at h;split at h<;>first | (cases h;done) | (cases h;exact ⟨by kernel_rfl,of_decide_eq_true (by kernel_rfl),fun c hc=>by cases hc;kernel_rfl⟩)
theorem fn1Ok : ∀ f F, fn1 f = some F -> E.P.funcs[f]? = some F /\ F.name ≠ "runtime.NumGoroutine" /\ ∀ c, F.body = some c -> codeOk c = true := by
 intro f F h;unfold fn1 at h;split at h<;>first | (cases h;done) | (cases h;exact ⟨by kernel_rfl,of_decide_eq_true (by kernel_rfl),fun c hc=>by cases hc;kernel_rfl⟩)
theorem fn2Ok : ∀ f F, fn2 f = some F -> E.P.funcs[f]? = some F /\ F.name ≠ "runtime.NumGoroutine" /\ ∀ c, F.body = some c -> codeOk c = true := by
 intro f F h;unfold fn2 at h;split at h<;>first | (cases h;done) | (cases h;exact ⟨by kernel_rfl,of_decide_eq_true (by kernel_rfl),fun c hc=>by cases hc;kernel_rfl⟩)
theorem fn3Ok : ∀ f F, fn3 f = some F -> E.P.funcs[f]? = some F /\ F.name ≠ "runtime.NumGoroutine" /\ ∀ c, F.body = some c -> codeOk c = true := by
 intro f F h;unfold fn3 at h;split at h<;>first | (cases h;done) | (cases h;exact ⟨by kernel_rfl,of_decide_eq_true (by kernel_rfl),fun c hc=>by cases hc;kernel_rfl⟩)
theorem fn4Ok : ∀ f F, fn4 f = some F -> E.P.funcs[f]? = some F /\ F.name ≠ "runtime.NumGoroutine" /\ ∀ c, F.body = some c -> codeOk c = true := by
 intro f F h;unfold fn4 at h;split at h<;>first | (cases h;done) | (cases h;exact ⟨by kernel_rfl,of_decide_eq_true (by kernel_rfl),fun c hc=>by cases hc;kernel_rfl⟩)
theorem fn5Ok : ∀ f F, fn5 f = some F -> E.P.funcs[f]? = some F /\ F.name ≠ "runtime.NumGoroutine" /\ ∀ c, F.body = some c -> codeOk c = true := by
 intro f F h;unfold fn5 at h;split at h<;>first | (cases h;done) | (cases h;exact ⟨by kernel_rfl,of_decide_eq_true (by kernel_rfl),fun c hc=>by cases hc;kernel_rfl⟩)
theorem fnOk : ∀ f F, E.fn f = some F -> E.P.funcs[f]? = some F /\ F.name ≠ "runtime.NumGoroutine" /\ ∀ c, F.body = some c -> codeOk c = true := by
 intro f F h;replace h:fn f=some F:=h;unfold fn at h;split at h
 · rename_i F' hF;rw [<-xZ h];exact fn0Ok f F' hF
 split at h
 · rename_i F' hF;rw [<-xZ h];exact fn1Ok f F' hF
 split at h
 · rename_i F' hF;rw [<-xZ h];exact fn2Ok f F' hF
 split at h
 · rename_i F' hF;rw [<-xZ h];exact fn3Ok f F' hF
 split at h
 · rename_i F' hF;rw [<-xZ h];exact fn4Ok f F' hF
 exact fn5Ok f F h
theorem ext324Ok:Sound1 E 324 (extSort):=SoundX.sound1 (E:=E) (f:=324) (extSort_sound (e:=3) ⟨Tryz.f324,Tryz.func324,of_decide_eq_true (by kernel_rfl),by kernel_rfl⟩ Tryz.slices_Sort_int Tryz.slices_Sort_int_none)
theorem ext341Ok:Sound1 E 341 (extDelete (sh:= .a [.i .i64,.i .i64,.i .i64,.i .i64,.i .i64,.i .i64])):=SoundX.sound1 (E:=E) (f:=341) (extDelete_sound (sh:= .a [.i .i64,.i .i64,.i .i64,.i .i64,.i .i64,.i .i64]) (e:=229) (by rfl) #[.int .i64 0,.int .i64 0,.int .i64 0,.int .i64 0,.int .i64 0,.int .i64 0] (by rfl) ⟨Tryz.f341,Tryz.func341,of_decide_eq_true (by kernel_rfl),by kernel_rfl⟩ delete_walk)
theorem ext347Ok:Sound1 E 347 (extInsert):=SoundX.sound1 (E:=E) (f:=347) (extInsert_sound (e:=3) ⟨Tryz.f347,Tryz.func347,of_decide_eq_true (by kernel_rfl),by kernel_rfl⟩ Tryz.slices_Insert_int_shift Tryz.slices_Insert_int_end_room Tryz.slices_Insert_int_end_grow Tryz.slices_Insert_int_grow)
theorem ext470Ok:Sound1 E 470 (extCompact):=SoundX.sound1 (E:=E) (f:=470) (extCompact_sound (e:=3) ⟨Tryz.f470,Tryz.func470,of_decide_eq_true (by kernel_rfl),by kernel_rfl⟩ Tryz.slices_Compact_int (fun p w=>compact_tiny p w))
theorem extOk:∀f g,E.ext f=some g->Sound1 E f g:=by
 intro f g h;replace h:ext f=some g:=h;unfold ext at h;split at h
 · rw [<-xZ h];exact ext324Ok
 · rw [<-xZ h];exact ext341Ok
 · rw [<-xZ h];exact ext347Ok
 · rw [<-xZ h];exact ext470Ok
 · cases h
theorem envOk:EnvOk E:=⟨tyOk,fun f F h=>(fnOk f F h).1,fun f F h=>(fnOk f F h).2.1,by kernel_rfl⟩
theorem sound (k:Nat):CallOk E (den E k):=den_sound envOk (fun f F c h=>(fnOk f F h).2.2 c) extOk k
end Go.Proofs.YtdglapefgakccaaGreat.World
namespace Go.Proofs.YtdglapefgakccaaGreat.World
open Go Go.V Go.Proofs
open Go.ChangeShapes Go.WideShapes Go.ChangeAt Go.RowKit
set_option maxRecDepth 100000
theorem walk6 {k:Nat} {y0:TW} (h:FlFnExactRunToEnd k y0=some true) {W:World} {v0:Value} (h0:VA W (fun _=>True) (fun _=>undef) (argAV sLWorld y0) v0) (l0:(argAV sLWorld y0).lt 0):
 Calls Tryz.prog 6 #[v0] W fun e W'=>e= .returned (.bool true)/\Go.RowKit.Below W.heap.size W W':=by
 have hs:=(sound k) 6 [argAV sLWorld y0] true h;refine (hs.2 (fun _=>True) W [v0] [] (fun p hp=>absurd (show p ∈ ([]:List (Nat×Array Value)) from hp) (by simp)) (by
  show ArgsT W (fun _=>True) [] _ _ []
  exact ⟨⟨h0,trivial⟩,by intro x hx;simp at hx;rw [hx];exact l0,rfl⟩) List.nodup_nil (by simp)).mono ?_
 rintro e W' ⟨v,rfl,hb,hr⟩
 exact ⟨by rw [resOk_bool hr],Chg.below hb⟩
theorem own:ownKnob Tryz.prog.godebug=none:=by kernel_rfl
theorem lifted (os:Os) (started:os.Started) (H:Type) (enc:TypeId×Value->H):
 ReturnsInHanded {} Tryz.checked os 6 .any (YtdglapefgakccaaGreat.Rows.fnExactRunToEndSpec.pre6 enc Tryz.prog Tryz.f6 YtdglapefgakccaaGreat.Rows.fnExactRunToEndRow.domain false) (YtdglapefgakccaaGreat.Rows.fnExactRunToEndSpec.post enc Tryz.prog Tryz.f6 false true false false):=by
 refine returnsInHanded_of_change_sized (C:=Tryz.checked) own started (by kernel_rfl) Tryz.func6
  (ChangeSpec.witness6 (enc:=enc) (C:=Tryz.checked) false ⟨#[],#[.agg #[(.int .i64 0),(.slice none 0 0),(.slice none 0 0),(.int .i64 0),(.int .i64 0),(.int .i64 0),(.int .i64 0),(.int .i64 0),(.slice none 0 0),(.int .i64 0),(.int .i64 0),(.int .i64 0),(.int .i64 0),(.slice none 0 0),(.slice none 0 0),(.slice none 0 0),(.slice none 0 0),(.slice none 0 0),(.slice none 0 0),(.slice none 0 0),(.slice none 0 0),(.slice none 0 0),(.int .i64 0),(.int .i64 0),(.slice none 0 0),(.slice none 0 0)]],[]⟩ 8 (by kernel_rfl) (by kernel_rfl) (by kernel_rfl) (by kernel_rfl)) ?_
 intro W base args ds gs before hval0 hW hcnd hsz0 _;have hsz:(DataW.weightsEach Tryz.prog (Tryz.f6.params.toList++YtdglapefgakccaaGreat.Rows.fnExactRunToEndSpec.plain.varTypes Tryz.prog) (ds++gs)).all (· <=reachBytes)=true:=hsz0;have hval:∀(j:Nat) t v,Tryz.f6.params[j]? =some t->args[j]? =some v->Value.okWide Tryz.prog W .any base t v:=hval0;have hW':=hW;obtain ⟨p,q,hA0,hV,rfl,hfz,hnd⟩:=hW;have hA:DataW.TrodAll enc Tryz.prog W 0 (fun _=>true) true Tryz.f6.params.toList args.toList ds p:=hA0
 have hAA:=hA;rw [Tryz.params6] at hA hval hsz;obtain ⟨v0,vs0,d0,ds0,p0,q0,hargs,rfl,rfl,h0,r0⟩:=trodAll_cons hA;obtain ⟨rfl,rfl,rfl⟩:=trodAll_nil r0
 obtain rfl:args=#[v0]:=by cases args;simp_all
 obtain ⟨rfl,rfl⟩:=trodVars_none hV;have hwt0:∀n ∈ d0.weights Tryz.prog 75,n<=reachBytes:=by
  intro n hn
  have:=uZ.1 hsz n (by simp [DataW.weightsEach,hn])
  simpa using this
 obtain ⟨y0,a0,b0,w0⟩:=arg_VA (sh:=sLWorld) (by kernel_rfl) (hval 0 75 v0 rfl rfl) h0 hwt0
 obtain ⟨k,hk⟩:=lFnExactRunToEnd y0 (rows_wf (P:=Tryz.prog) sLWorld y0 (by kernel_rfl) w0)
 have hlt:∀x ∈ p0++[],x.block<W.heap.size:=fun x hx=>hW'.lt x (by simpa using hx)
 refine (walk6 hk a0 b0).mono fun e W' ⟨he,bel⟩=> ?_
 subst he;exact ⟨_,rfl,_,_,_,[],_,[],hW',trodAll_mk1 (shut_bool Tryz.underlying4 _),below_trodAll (by kernel_rfl) bel _ _ _ _ (by kernel_rfl) hAA hlt,rfl,bel.frame _,fun h=>by cases h⟩
theorem facts_of {P:Program} {f:FuncId} {fn:Func} {s:ChangeSpec} {c:OpenClaim} (k1:(c.wf (OpenSpec.ofChange s))=true) (k2:(laidOutB P)=true) (k3:(mapsRowed P)=true) (k4:(fn.params.all (P.readableRec ·))=true) (k5:(namedTie P c.named s.vars)=true) (k6:((c.stops==[]))=true) (k7:((P.stops==[]))=true) (k8:((c.knobs==[]))=true) (k9:((P.stopKnobs==[]))=true) (k10:((c.inPlace==P.inPlace f))=true) (k11:((c.unfollowed==P.unfollowed f))=true) (k12:((c.recurses==P.recurses f))=true) (k13:((c.named==P.varsNamed f))=true) (k14:((c.maps==(fn.params.toList++s.plain.varTypes P).any (P.mapsRec ·)))=true) (k15:((c.ifaces==(fn.params.toList++s.plain.varTypes P).any (P.ifacesRec ·)))=true) (k16:((c.mapsOut==P.mapsAmong fn.resultTypes.toList))=true) (k17:((c.loops==(fn.params.toList++s.plain.varTypes P).any (P.loopsFrom ·)))=true) (k18:((c.wideKeys==(fn.params.toList++s.plain.varTypes P++fn.resultTypes.toList).any (P.wideKeysFrom ·)))=true) (k19:(s.vars.all (P.varReadable ·))=true) (k20:(fn.resultTypes.all (fun t=>P.readableRec t&&decide (t<P.types.size)))=true) (k21:((c.ifacesOut==fn.resultTypes.toList.any (P.ifacesRec ·)))=true) (k22:((c.loopsOut==fn.resultTypes.toList.any (P.loopsFrom ·)))=true) (k23:((c.plainKeys==P.plainKeys))=true) (k24:(c.shortTexts.isNone)=true) (k25:(P.stopsHeard)=true) (k26:(P.mayEnter)=true) (k27:((c.lifted==P.liftsFinal))=true) (k28:((P.make==some c.make))=true) (k29:((c.kinds==(if c.domain.isEmpty then [] else fn.params.toList.map fun t=>match P.underlying t with | some (.int k)=>some k | _=>none)))=true) (k30:((c.pinned==c.pinnedBy))=true) (k31:((c.veiled==(fn.params.toList++s.plain.varTypes P++fn.resultTypes.toList).any (P.veiledRec ·)))=true) (k32:(c.veiledFits P fn.params.toList (fn.params.toList++s.plain.varTypes P++fn.resultTypes.toList))=true):joinedFacts P f fn s c=true:=by
 unfold joinedFacts;simp only [k1,k2,k3,k4,k5,k6,k7,k8,k9,k10,k11,k12,k13,k14,k15,k16,k17,k18,k19,k20,k21,k22,k23,k24,k25,k26,k27,k28,k30,k31,k32,Bool.and_true,Bool.true_and];exact k29
theorem wrapper:Tryz.f6.isWrapper Tryz.checked.prog YtdglapefgakccaaGreat.Rows.fnExactRunToEndRow.wrapper YtdglapefgakccaaGreat.Rows.fnExactRunToEndRow.mainSum:=by
 unfold Func.isWrapper
 first | (rw [dY (by decide+kernel)];kernel_rfl) | (rw [eY (by decide+kernel)];exact ⟨rfl,rfl⟩)
theorem facts:joinedFacts YtdglapefgakccaaGreat.Tryz.pinned.checked.prog 6 Tryz.f6 YtdglapefgakccaaGreat.Rows.fnExactRunToEndSpec YtdglapefgakccaaGreat.Rows.fnExactRunToEndRow=true:=facts_of k1 k2 k3 k4 k5 k6 k7 k8 k9 k10 k11 k12 k13 k14 k15 k16 k17 k18 k19 k20 k21 k22 k23 k24 k25 k26 k27 k28 k29 k30 k31 k32
theorem over:YtdglapefgakccaaGreat.Rows.fnExactRunToEndRow.holds YtdglapefgakccaaGreat.Tryz.pinned (OpenSpec.ofChange YtdglapefgakccaaGreat.Rows.fnExactRunToEndSpec):=
 OpenClaim.holds_of_wide 6 Tryz.f6 rfl rfl rfl rfl rfl rfl rfl ⟨rfl,rfl,rfl,rfl,rfl⟩ rfl rfl rfl rfl rfl k0 Tryz.func6 facts
  (of_decide_eq_true (by kernel_rfl)) wrapper
  (fun os started H enc _=>lifted os started H enc)
end Go.Proofs.YtdglapefgakccaaGreat.World
namespace Go.Proofs.YtdglapefgakccaaGreat
/-- The row, under a short name. -/
theorem fnExactRunToEnd_holds:Rows.FnExactRunToEndSaid:=World.over
end Go.Proofs.YtdglapefgakccaaGreat
