/- The interpreter's second part: rows that are made, written and handed on, and calls. No condition. -/
import Derived.Test.YtdglapefgakccaaGreatV1
set_option linter.unusedSimpArgs false
set_option linter.unusedVariables false
namespace Go.V
open Go.RowKit (Below)
theorem ownT_len {w:World} {sh:Sh} {x:Ty sh} {us:List Value} {L:List Nat} (h:ownT w sh x us L):us.length=sh.n:=
 repT_len _ _ _ (ownT_reads (ok:=fun _=>True) sh x us L (fun _ _=>trivial) h)
mutual
theorem ownT_flat {w:World}:(sh:Sh)->(x:Ty sh)->(us:List Value)->(L:List Nat)->sh.flat=true->ownT w sh x us L->L=[]
 | .b,x,us,L,_,h=>by simp only [ownT] at h;exact h.2
 | .i k,x,us,L,_,h=>by simp only [ownT] at h;exact h.2
 | .s,x,us,L,_,h=>by simp only [ownT] at h;exact h.2
 | .l e sh,x,us,L,hf,h=>by simp [Sh.flat] at hf
 | .a fs,x,us,L,hf,h=>by simp only [ownT] at h;exact ownTL_flat fs x us L (by simpa only [Sh.flat] using hf) h
theorem ownTL_flat {w:World}:(fs:List Sh)->(x:TyL fs)->(us:List Value)->(L:List Nat)->Sh.flatL fs=true->ownTL w fs x us L->L=[]
  | [],_,us,L,_,h=>by simp only [ownTL] at h;exact h.2
  | [f],x,us,L,hf,h=>by simp only [ownTL] at h;exact ownT_flat f x us L (by simpa [Sh.flatL] using hf) h
  | f::g::r,x,us,L,hf,h=>by
    simp only [ownTL] at h;rw [Sh.flatL,sZ] at hf;obtain ⟨vs,ws,L1,L2,rfl,rfl,h1,h2⟩:=h;rw [ownT_flat f _ _ _ hf.1 h1,ownTL_flat (g::r) _ _ _ hf.2 h2];rfl
end
mutual
theorem own_of_flat {w w':World} {ok:Nat->Prop}:(sh:Sh)->(x:Ty sh)->(us:List Value)->sh.flat=true->repT w ok sh x us->ownT w' sh x us []
 | .b,x,us,_,h=>by simp only [repT] at h;simp only [ownT];exact ⟨h,trivial⟩
 | .i k,x,us,_,h=>by simp only [repT] at h;simp only [ownT];exact ⟨h,trivial⟩
 | .s,x,us,_,h=>by simp only [repT] at h;simp only [ownT];exact ⟨h,trivial⟩
 | .l e sh,x,us,hf,h=>by simp [Sh.flat] at hf
 | .a fs,x,us,hf,h=>by simp only [repT] at h;simp only [ownT];exact ownL_of_flat fs x us (by simpa only [Sh.flat] using hf) h
theorem ownL_of_flat {w w':World} {ok:Nat->Prop}:(fs:List Sh)->(x:TyL fs)->(us:List Value)->Sh.flatL fs=true->repTL w ok fs x us->ownTL w' fs x us []
  | [],_,us,_,h=>by simp only [repTL] at h;simp only [ownTL];exact ⟨h,trivial⟩
  | [f],x,us,hf,h=>by simp only [repTL] at h;simp only [ownTL];exact own_of_flat f x us (by simpa [Sh.flatL] using hf) h
  | f::g::r,x,us,hf,h=>by
    simp only [repTL] at h;rw [Sh.flatL,sZ] at hf;obtain ⟨vs,ws,rfl,h1,h2⟩:=h;simp only [ownTL];exact ⟨vs,ws,[],[],rfl,rfl,own_of_flat f _ _ hf.1 h1,ownL_of_flat (g::r) _ _ hf.2 h2⟩
end
theorem ownT_one {w:World} {sh:Sh} {x:Ty sh} {us:List Value} {L:List Nat} (h:ownT w sh x us L):∀u ∈ us,u.oneCell'=true:=by
 have h1:=rep_avs sh x us (ownT_reads (ok:=fun _=>True) sh x us L (fun _ _=>trivial) h)
 exact all_one (w:=w) (ok:=fun _=>True) (β:=fun _=>undef) (All2.of_repL h1)
theorem rowO_one {w:World} {sh:Sh} {xs:List (Ty sh)} {us:List Value} {L:List Nat} (h:rowO sh.n (ownT w sh) xs us L):∀u ∈ us.take (xs.length*sh.n),u.oneCell'=true:=by
  induction xs generalizing us L with
  | nil=>simp
  | cons x xs ih=>
    obtain ⟨L1,L2,rfl,h1,h2⟩:=h;intro u hu;have e:(x::xs).length*sh.n=sh.n+xs.length*sh.n:=by simp [Nat.add_mul,Nat.add_comm]
    rw [e,List.take_add] at hu;rcases wZ.1 hu with hu | hu
    · exact ownT_one h1 u hu
    · exact ih h2 u hu
theorem rowO_world {w w':World} {sh:Sh} {xs:List (Ty sh)} {us:List Value} {L:List Nat} (h:rowO sh.n (ownT w sh) xs us L) (hk:KeptL L w w'):rowO sh.n (ownT w' sh) xs us L:=
 rowO_imp h fun x vs L1 h1 h2=>ownT_world sh x vs L1 (fun b hb=>hk b (h1 b hb)) h2
theorem rowT_cells {w:World} {ok:Nat->Prop} {sh:Sh} {xs:List (Ty sh)} {u:Value} (h:rowT w ok sh.n (repT w ok sh) xs u) (hf:sh.flat=true):
    ∃A c news,u= .slice A xs.length c/\news.length=xs.length*sh.n/\(0<xs.length->∃ad,A=some ad/\∀(j:Nat) (v:Value),news[j]? =some v->w.cell? (ad.add j)=some v)/\∀w',rowO sh.n (ownT w' sh) xs news []:=by
  obtain ⟨A,c,rfl,h1,h2,h3⟩:=h;by_cases hp:0<xs.length
  · obtain ⟨ad,rfl,_,_,h4⟩:=h3 hp;have key:∀m,m<=xs.length->∃news,news.length=m*sh.n/\(∀(j:Nat) (v:Value),news[j]? =some v->w.cell? (ad.add j)=some v)/\∀w',rowO sh.n (ownT w' sh) (xs.take m) news []:=by
      intro m;induction m with
      | zero=>exact fun _=>⟨[],by simp,by simp,fun _=>rfl⟩
      | succ m ih=>
        intro hm;obtain ⟨news,h5,h6,h7⟩:=ih (by omega)
        obtain ⟨vs,h8,h9⟩:=h4 m xs[m] (dZ (by omega))
        have hl:=repT_len _ _ _ h8;refine ⟨news++vs,by rw [List.length_append,h5,hl,Nat.add_mul,Nat.one_mul],fun j v hv=> ?_,fun w'=> ?_⟩
        · rcases Nat.lt_or_ge j news.length with hj | hj
          · rw [List.getElem?_append_left hj] at hv;exact h6 j v hv
          · rw [List.getElem?_append_right hj] at hv
            have:=h9 _ _ hv
            rwa [h5,Nat.add_sub_cancel' (by omega)] at this
        · rw [List.take_succ_eq_append_getElem (by omega)]
          have h10:rowO sh.n (ownT w' sh) [xs[m]] vs []:=⟨[],[],rfl,by rw [List.take_of_length_le (by omega)];exact own_of_flat sh _ vs hf h8,rfl⟩
          simpa using rowO_append (h7 w') (by rw [h5,List.length_take,Nat.min_eq_left (by omega)]) h10
    obtain ⟨news,h5,h6,h7⟩:=key xs.length (cY _);rw [List.take_length] at h7;exact ⟨_,c,news,rfl,h5,fun _=>⟨ad,rfl,h6⟩,h7⟩
  · have:xs=[]:=List.eq_nil_of_length_eq_zero (by omega)
    subst this;exact ⟨A,c,[],rfl,by simp,fun h=>absurd h hp,fun _=>rfl⟩
theorem ownRow_cells {w:World} {e:Nat} {sh:Sh} {xs:List (Ty sh)} {u:Value} {L:List Nat} (h:ownRow w e sh.n (ownT w sh) xs u L):
 ∃A c news L',u= .slice A xs.length c/\news.length=xs.length*sh.n/\(0<xs.length->∃ad,A=some ad/\∀(j:Nat) (v:Value),news[j]? =some v->w.cell? (ad.add j)=some v)/\rowO sh.n (ownT w sh) xs news L'/\(∀b ∈ L',b ∈ L)/\(L.Nodup->L'.Nodup):=by
 rcases h with ⟨rfl,rfl,A,rfl⟩ | ⟨g,off,cap,cur,L',rfl,h1,h2,h3,h4,rfl,h5⟩
 · exact ⟨A,0,[],[],rfl,by simp,fun h=>by simp at h,rfl,by simp,by simp⟩
 · have hcl:(cur.toList.drop off).length=cap*sh.n:=by rw [List.length_drop,Array.length_toList,h4];omega
   have hl:xs.length*sh.n<=(cur.toList.drop off).length:=by rw [hcl];exact Nat.mul_le_mul_right _ h2
   refine ⟨_,cap,(cur.toList.drop off).take (xs.length*sh.n),L',rfl,by rw [List.length_take];omega,fun _=>⟨_,rfl,fun j v hv=> ?_⟩,rowO_congr h5 (by rw [List.take_take,Nat.min_self]),fun b hb=>fZ _ hb,fun h=>(List.nodup_cons.1 h).2⟩
   rw [lZ] at hv
   split at hv;rotate_left;cases hv
   rw [mZ] at hv
   rw [addr_add,cell_of_row w g _ cur e (0,0) h1];simpa using hv
theorem run_append_room_off {P:Program} (w:World) (t ty e:TypeId) (i:TypeInfo) (ht:P.underlying t=some (.slice e)) (hi:P.info? e=some i)
 (g off sLen sCap:Nat) (cur:Array Value) (hg:w.heap[g]? =some (.cells cur e (0,0)))
 (a:Addr) (m c:Nat) (news:List Value) (hl:news.length=m*i.size) (hnews:∀j u,news[j]? =some u->w.cell? (a.add j)=some u) (h1:∀u ∈ news,u.oneCell'=true)
 (hroom:sLen+m<=sCap) (hfit:off+sLen*i.size+news.length<=cur.size):
 (Builtin.append_ #[t,t] ty #[.slice (some ⟨g,off,none⟩) sLen sCap,.slice (some a) m c]).run P w=
  .ok (.slice (some ⟨g,off,none⟩) (sLen+m) sCap) (w.setRow g (cur.toList.take (off+sLen*i.size)++news++cur.toList.drop (off+sLen*i.size+news.length)).toArray):=by
 have hf:=run_firstCells_some (P:=P) w i.size m a m c news hl hnews;have hst:=run_storeCells_at P g (off+sLen*i.size) e news 0 cur w hg (by simpa using hfit) h1
 simp only [Nat.add_zero] at hst;simp [Builtin.append_,run_underlying ht,sizeOf,typeInfo,hi,Builtin.lenOf,hroom,hf,Addr.add_lit,hst]
theorem drop_off {α:Type} (l c:List α) (off p q:Nat) (h:off+p<=l.length):(l.take (off+p)++c++l.drop (off+p+q)).drop off=(l.drop off).take p++c++(l.drop off).drop (p+q):=by
 have e1:l.take (off+p)=l.take off++(l.drop off).take p:=List.take_add;have e2:(l.take off).length=off:=by rw [List.length_take];omega
 rw [e1,List.append_assoc,List.append_assoc,List.drop_append,e2,Nat.sub_self,List.drop_of_length_le (by omega),List.drop_zero,List.nil_append,List.append_assoc,List.drop_drop,Nat.add_assoc]
theorem run_append {P:Program} {t ty e:Nat} {i:TyI} (ht:P.underlying t=some (.slice e)) (hT:TyOk P e i) {w:World} {ys xs:List (Ty i.sh)} {u:Value} {L L2:List Nat} (hO:ownRow w e i.sh.n (ownT w i.sh) ys u L) (hnd:L.Nodup)
    {A:Option Addr} {c:Nat} {news:List Value} (hn:news.length=xs.length*i.sh.n) (hc:0<xs.length->∃ad,A=some ad/\∀(j:Nat) (v:Value),news[j]? =some v->w.cell? (ad.add j)=some v)
    (hR:rowO i.sh.n (ownT w i.sh) xs news L2) (hd:∀b ∈ L2,b ∉ L) (hlt:∀b ∈ L2,b<w.heap.size) (hltL:∀b ∈ L,b<w.heap.size) (hnd2:L2.Nodup) (hlim:(ys.length+xs.length)*i.by_<=140737488355328):
    ∃v w' L',(Builtin.append_ #[t,t] ty #[u,.slice A xs.length c]).run P w= .ok v w'/\Chg L' w w'/\ownRow w' e i.sh.n (ownT w' i.sh) (ys++xs) v L'/\L'.Nodup/\(∀b ∈ L',(w.heap.size<=b/\b<w'.heap.size)\/b ∈ L\/b ∈ L2)/\∃A n c,v= .slice A n c:=by
  obtain ⟨inf,d,z,hinf,_,hz,hsz,hby,hzc,_,_⟩:=hT.parts;have hsn:=hT.n;have hpos:=hT.pos;have hbpos:=hT.bpos;have hsmall:ys.length+xs.length<=140737488355328:=bY (Nat.le_mul_of_pos_right _ hbpos) hlim;have hzs:z.cells.size=i.sh.n:=by rw [<-Array.length_toList,hzc,hT.zlen,hsn]
  by_cases hx:xs=[]
  · subst hx;have hv:∃A n c,u= .slice A n c/\n<=c:=by
      rcases hO with ⟨_,_,A,rfl⟩ | ⟨g,off,cap,cur,L',rfl,h1,h2,_⟩
      · exact ⟨A,0,0,rfl,cY _⟩
      · exact ⟨_,_,cap,rfl,h2⟩
    obtain ⟨A0,n0,c0,hu,hle⟩:=hv;refine ⟨u,w,L,?_,Chg.refl _ _,by simpa using hO,hnd,fun b hb=> .inr (.inl hb),A0,n0,c0,hu⟩
    rw [hu];cases A0<;>cases A<;>simp [Builtin.append_,run_underlying ht,sizeOf,typeInfo,hinf,Builtin.lenOf,Builtin.firstCells,loadCells,loadCellsFrom,storeCells,hle]
  · have hxp:0<xs.length:=List.length_pos_iff.2 hx;obtain ⟨ad,rfl,hcells⟩:=hc hxp;have h1c:∀v ∈ news,v.oneCell'=true:=by
      have:=rowO_one hR
      rwa [<-hn,List.take_length] at this
    have hnl:news.length=xs.length*inf.size:=by rw [hn,hsn,hsz]
    -- a new block
    have grown:∀(olds:List Value) (Lo:List Nat) (cap:Nat),olds.length=ys.length*i.sh.n->rowO i.sh.n (ownT w i.sh) ys olds Lo->Lo.Nodup->(∀b ∈ Lo,b ∈ L)->
        let w':=w.drew.alloc (.cells (olds.toArray++news.toArray++Builtin.zeroCells z.cells (grownCap w (ys.length+xs.length) cap e-(ys.length+xs.length))) e)
        ∃L',Chg L' w w'/\ownRow w' e i.sh.n (ownT w' i.sh) (ys++xs) (.slice (some ⟨w.heap.size,0,none⟩) (ys.length+xs.length) (grownCap w (ys.length+xs.length) cap e)) L'/\L'.Nodup/\(∀b ∈ L',(w.heap.size<=b/\b<w'.heap.size)\/b ∈ L\/b ∈ L2):=by
      intro olds Lo cap hol hor hLo hLoL w';have hbel:Below w.heap.size w w':=((Below.refl _ w).drew).alloc (cY _) _;have hk:KeptL (Lo++L2) w w':=fun b hb=>hbel.block b ((wZ.1 hb).elim (fun hb=>hltL b (hLoL b hb)) (fun hb=>hlt b hb))
      have hge:=grownCap_ge w (ys.length+xs.length) cap e;have hcm:grownCap w (ys.length+xs.length) cap e<=maxLen:=grownCap_le_maxLen w _ cap e (by simp only [maxLen];omega)
      refine ⟨w.heap.size::(Lo++L2),Chg.of_below hbel _,.inr ⟨w.heap.size,0,_,_,Lo++L2,by simp,heap_alloc_new w.drew _,by simpa using hge,hcm,?_,rfl,?_⟩,?_,?_⟩
      · simp only [Array.size_append,List.size_toArray,size_zeroCells,hzs,hol,hn,<-Nat.add_mul,Nat.zero_add]
        congr 1
        omega
      · have h3:=rowO_world (rowO_append hor hol hR) hk;rw [List.drop_zero];refine rowO_congr h3 ?_
        rw [Array.toList_append,Array.toList_append];exact (List.take_append_of_le_length (by simp [hol,hn,Nat.add_mul])).symm
      · refine List.nodup_cons.2 ⟨fun hm=> ?_,qZ.2 ⟨hLo,hnd2,?_⟩⟩
        · rcases wZ.1 hm with hm | hm
          · have:=hltL _ (hLoL _ hm);omega
          · have:=hlt _ hm;omega
        · rintro b hb b' hb' rfl
          exact hd b hb' (hLoL b hb)
      · intro b hb;rcases zZ.1 hb with rfl | hb
        · exact .inl ⟨cY _,by simp [w']⟩
        · rcases wZ.1 hb with hb | hb
          · exact .inr (.inl (hLoL b hb))
          · exact .inr (.inr hb)
    rcases hO with ⟨rfl,rfl,A0,rfl⟩ | ⟨g,off,cap,cur,Lo,rfl,hg,hnc,hcm,hcs,rfl,hrow⟩
    · obtain ⟨L',h1,h2,h3,h4⟩:=grown [] [] 0 (by simp) rfl List.nodup_nil (by simp)
      simp only [List.length_nil,Nat.zero_add,Array.empty_append,List.nil_append] at h1 h2 h4;cases A0 with
      | none=>
        have hr:=run_append_nil (P:=P) w t ty e inf z ht hinf hz ad xs.length c news hnl hcells hxp (by omega) (by rw [hby];simp at hlim;omega)
        exact ⟨_,_,L',hr,h1,h2,h3,h4,_,_,_,rfl⟩
      | some b0=>
        have hr:=run_append_grow (P:=P) w t ty e inf z ht hinf hz b0 0 0 [] (by simp) (by simp) ad xs.length c news hnl hcells (by omega) (by omega) (by rw [hby];exact growslice_fits (by omega) (by simpa using hlim))
        simp only [Nat.zero_add,Array.empty_append] at hr;exact ⟨_,_,L',hr,h1,h2,h3,h4,_,_,_,rfl⟩
    · have hgl:g<w.heap.size:=hltL g (by simp)
      have hol:((cur.toList.drop off).take (ys.length*i.sh.n)).length=ys.length*i.sh.n:=by
        have hcl:(cur.toList.drop off).length=cap*i.sh.n:=by rw [List.length_drop,Array.length_toList,hcs];omega
        rw [List.length_take,hcl];exact Nat.min_eq_left (Nat.mul_le_mul_right _ hnc)
      have hrow':rowO i.sh.n (ownT w i.sh) ys ((cur.toList.drop off).take (ys.length*i.sh.n)) Lo:=rowO_congr hrow (by rw [List.take_take,Nat.min_self])
      by_cases hroom:ys.length+xs.length<=cap
      · have hfit:off+ys.length*inf.size+news.length<=cur.size:=by rw [hnl,hcs,hsz,hsn,Nat.add_assoc,<-Nat.add_mul];exact Nat.add_le_add_left (Nat.mul_le_mul_right _ hroom) _
        have hr:=run_append_room_off (P:=P) w t ty e inf ht hinf g off ys.length cap cur hg ad xs.length c news hnl hcells h1c hroom hfit;have hk:KeptL (Lo++L2) w (w.setRow g (cur.toList.take (off+ys.length*inf.size)++news++cur.toList.drop (off+ys.length*inf.size+news.length)).toArray):=by
          intro b hb;refine setRow_other w g b _ ?_
          rintro rfl
          rcases wZ.1 hb with hb | hb
          · exact (List.nodup_cons.1 hnd).1 hb
          · exact hd b hb (by simp)
        refine ⟨_,_,g::(Lo++L2),hr,⟨rfl,rfl,rfl,by simp,fun k _ hk=>setRow_other w g k _ (by rintro rfl;exact hk (by simp))⟩,.inr ⟨g,off,cap,_,Lo++L2,by simp,setRow_heap w g cur _ e _ hg,by simpa using hroom,hcm,?_,rfl,?_⟩,?_,?_,_,_,_,rfl⟩
        · simp only [List.size_toArray,List.length_append,List.length_take,List.length_drop,Array.length_toList];rw [<-hcs];omega
        · have h3:=rowO_world (rowO_append hrow' hol hR) hk;have hlen:off+ys.length*inf.size<=cur.toList.length:=by rw [Array.length_toList];exact bY (Nat.le_add_right _ _) hfit
          rw [drop_off cur.toList news off _ _ hlen];refine rowO_congr h3 ?_
          rw [hsz,<-hsn];exact (List.take_append_of_le_length (by rw [List.length_append,List.length_append,hol,hn,Nat.add_mul];exact cY _)).symm
        · refine List.nodup_cons.2 ⟨fun hm=> ?_,qZ.2 ⟨(List.nodup_cons.1 hnd).2,hnd2,?_⟩⟩
          · rcases wZ.1 hm with hm | hm
            · exact (List.nodup_cons.1 hnd).1 hm
            · exact hd g hm (by simp)
          · rintro b hb b' hb' rfl
            exact hd b hb' (fZ _ hb)
        · intro b hb;rcases zZ.1 hb with rfl | hb
          · exact .inr (.inl (by simp))
          · rcases wZ.1 hb with hb | hb
            · exact .inr (.inl (fZ _ hb))
            · exact .inr (.inr hb)
      · obtain ⟨L',h1,h2,h3,h4⟩:=grown ((cur.toList.drop off).take (ys.length*i.sh.n)) Lo cap hol hrow' (List.nodup_cons.1 hnd).2 (fun b hb=>fZ _ hb)
        have holds:∀(j:Nat) (v:Value),((cur.toList.drop off).take (ys.length*i.sh.n))[j]? =some v->w.cell? ((⟨g,off,none⟩:Addr).add j)=some v:=by
          intro j v hv;rw [lZ] at hv
          split at hv;rotate_left;cases hv
          rw [mZ] at hv;rw [addr_add,cell_of_row w g _ cur e (0,0) hg];simpa using hv
        have hr:=run_append_grow (P:=P) w t ty e inf z ht hinf hz ⟨g,off,none⟩ ys.length cap ((cur.toList.drop off).take (ys.length*i.sh.n)) (by rw [hol,hsz,hsn]) holds ad xs.length c news hnl hcells (by omega) (by omega) (by rw [hby];exact growslice_fits (by omega) hlim)
        exact ⟨_,_,L',hr,h1,h2,h3,h4,_,_,_,rfl⟩
end Go.V
namespace Go.V
open Go.RowKit (Below)
section
variable {E:Env} {G:Nat->Prop} {w0:Base} {st:St} {a:Act} {w:World} {β:Nat->Value} {Lf:Nat->List Nat} {R:Type} {r:R} {o:Oper} {call:CallD E} {K:St->Option R} {X:Act->World->Prop} {Q:Exit->Act->World->Prop}
theorem appArg_sound (S:Sim G w0 st a w β Lf) {sh:Sh} {x:C} {u:Value} {xs:List (Ty sh)} {st1:St} (hx:VC w (imm G st Lf) β x u) (h:appArg st sh x=some (xs,st1)):
 ∃ob',st1={ st with ob:=ob' }/\(∀n o,look ob' n=some o->look st.ob n=some o)/\
 ∃A c news L2,u= .slice A xs.length c/\news.length=xs.length*sh.n/\(0<xs.length->∃ad,A=some ad/\∀(j:Nat) (v:Value),news[j]? =some v->w.cell? (ad.add j)=some v)/\rowO sh.n (ownT w sh) xs news L2/\L2.Nodup/\
  (∀b ∈ L2,∃h o,look st.ob h=some o/\look ob' h=none/\b ∈ Lf h):=by
 unfold appArg at h;split at h
 rotate_left
 · cases h
   have hr:rep w (imm G st Lf) (.v (.slice none 0 0)) u:=hx;simp only [rep] at hr;exact ⟨_,rfl,fun _ _ h=>h,none,0,[],[],hr.1,by simp,fun h=>by simp at h,rfl,List.nodup_nil,by simp⟩
 ·
  cases h
  have hr:rep w (imm G st Lf) .emp u:=hx;simp only [rep] at hr;obtain ⟨A,rfl⟩:=hr;exact ⟨_,rfl,fun _ _ h=>h,A,0,[],[],rfl,by simp,fun h=>by simp at h,rfl,List.nodup_nil,by simp⟩
 · rename_i hh;split at h;rotate_left;cases h
   rename_i e sh1 ys hob;split at h;rotate_left;cases h
   rename_i zs hz;cases h
   obtain ⟨e1,e2⟩:=castSh_eq hz;subst e1;simp only at e2
   subst e2;obtain ⟨hu,_⟩:u=β hh/\∃A n c,u= .slice A n c:=hx;have hor:ownRow w e sh1.n (ownT w sh1) ys (β hh) (Lf hh):=S.obs _ _ hob;obtain ⟨A,c,news,L',h1,h2,h3,h4,h5,h6⟩:=ownRow_cells hor;exact ⟨_,rfl,fun n o ho=>(look_del ho).2,A,c,news,L',by rw [hu,h1],h2,h3,h4,h6 (S.nodup _ _ hob),fun b hb=>⟨hh,_,hob,i2 _ _,h5 b hb⟩⟩
 · rename_i hh sz lo hi;split at h;rotate_left;cases h
   rename_i e sh1 ys hob;split at h;rotate_left;cases h
   rename_i hc;simp only [sZ,pZ] at hc;obtain ⟨rfl,hf⟩:=hc;split at h;rotate_left;cases h
   rename_i zs hz;cases h
   obtain ⟨e1,e2⟩:=castSh_eq hz;subst e1;simp only at e2
   subst e2;obtain ⟨A0,n',c',hb0,hlh,hhn,hnc,hu⟩:VC w (imm G st Lf) β (.sub hh sh1.n lo hi) u:=hx;have hor:ownRow w e sh1.n (ownT w sh1) ys (β hh) (Lf hh):=S.obs _ _ hob;rw [hb0] at hor;obtain ⟨L0,g1,g2,g3⟩:=ownRow_part hor hlh hhn;obtain ⟨A,c,news,L',h1,h2,h3,h4,h5,h6⟩:=ownRow_cells g1;have hL:L'=[]:=rowO_flat h4 fun x vs L hx=>ownT_flat sh1 x vs L hf hx
   exact ⟨_,rfl,fun n o ho=>ho,A,c,news,L',by rw [hu,h1],h2,h3,h4,by rw [hL];exact List.nodup_nil,by rw [hL];simp⟩
 · cases h
 · rename_i e sh1 ys;split at h;rotate_left;cases h
   rename_i hf;split at h;rotate_left;cases h
   rename_i zs hz;cases h
   obtain ⟨e1,e2⟩:=castSh_eq hz;subst e1;simp only at e2
   subst e2;have hr:rep w (imm G st Lf) (.l e sh1 ys) u:=hx;simp only [rep] at hr;obtain ⟨A,c,news,h1,h2,h3,h4⟩:=rowT_cells hr hf;exact ⟨_,rfl,fun _ _ h=>h,A,c,news,[],h1,h2,h3,h4 w,List.nodup_nil,by simp⟩
theorem eff_append (hE:EnvOk E) (S:Sim G w0 st a w β Lf) {args:Array Operand} {tys:Array TypeId} (ho:o.op= .call { callee:= .builtin .append,args,argTypes:=tys }) (h:eff E call st o K=some r) (hX:∀st' a' w',SimE G w0 st' a' w'->K st'=some r->X a' w'):o.wp E.P a w X Q:=by
 simp only [eff,ho] at h;split at h;rotate_left;cases h
 rename_i s x t t' hargs htys
 obtain rfl:args=#[s,x]:=by cases args;simp_all
 obtain rfl:tys=#[t,t']:=by cases tys;simp_all
 split at h;rotate_left;cases h
 rename_i s' x' e i hs hx hel;split at h;rotate_left;cases h
 rename_i htt;subst htt;obtain ⟨ht,he⟩:=elemTy_ok hE hel;split at h;cases h
 rename_i xs st1 happ;obtain ⟨hsa,hslt⟩:=S.ev hs;obtain ⟨hxa,hxlt⟩:=S.ev hx;have hsc:VC w (imm G st Lf) β s' (a.eval s):=hsa;have hxc:VC w (imm G st Lf) β x' (a.eval x):=hxa;obtain ⟨ob',rfl,hsub,A,c,news,L2,hu,hn,hcells,hrow,hnd2,hL2⟩:=appArg_sound S hxc happ;have hlt2:∀b ∈ L2,b<w.heap.size:=fun b hb=>by
  obtain ⟨h,o,h1,h2,h3⟩:=hL2 b hb;exact (S.new h o h1 b h3).2
 have hrun:∀v w',(Builtin.append_ #[t,t] o.type #[a.eval s,.slice A xs.length c]).run E.P w= .ok v w'->(execOp a.eval o).run E.P w= .ok (.value v) w':=by
  intro v w' hr;simp [execOp,ho,resolve,invoke,builtin,hu,hr]
 split at h
 · rename_i hh;split at h;rotate_left;cases h
   rename_i e' sh ys hob;split at h;rotate_left;cases h
   rename_i hee;subst hee;split at h;rotate_left;cases h
   rename_i zs hz;split at h;rotate_left;cases h
   rename_i hlim;obtain ⟨e1,e2⟩:=castSh_eq hz;subst e1;simp only at e2
   subst e2;simp only at hob
   obtain ⟨hv,hsl⟩:a.eval s=β hh/\∃A n c,a.eval s= .slice A n c:=hsc;have hob0:=hsub _ _ hob;have hor:ownRow w e' i.sh.n (ownT w i.sh) ys (β hh) (Lf hh):=S.obs _ _ hob0;rw [<-hv] at hor;obtain ⟨v,w',L',hr,hC,hO,hnd',hL',hsl'⟩:=run_append (ty:=o.type) ht he hor (S.nodup _ _ hob0) hn hcells hrow
    (fun b hb hm=>by
     obtain ⟨h,o,h1,h2,h3⟩:=hL2 b hb;exact S.disj h o hh _ h1 hob0 (fun e=>by rw [e,hob] at h2;cases h2) b h3 hm) hlt2 (fun b hb=>(S.new _ _ hob0 b hb).2) hnd2 hlim
   refine wp_value (hrun v w' hr) (hX _ _ _ (new_arr S o.dst (ob':=del hh ob') (fun n o ho=>hsub n o (look_del ho).2) hC ?_ hnd' hO hsl') h)
   intro b hb;rcases hL' b hb with h1 | h1 | h1
   · exact .inl h1
   · exact .inr ⟨hh,_,hob0,i2 _ _,h1⟩
   · obtain ⟨h,o,h2,h3,h4⟩:=hL2 b h1;refine .inr ⟨h,o,h2,?_,h4⟩
     cases hq:look (del hh ob') h with
     | none=>rfl
     | some q=>rw [(look_del hq).2] at h3;cases h3
 · split at h;rotate_left;cases h
   rename_i hlim;have hr0:rep w (imm G st Lf) (.v (.slice none 0 0)) (a.eval s):=hsc;simp only [rep] at hr0;obtain ⟨v,w',L',hr,hC,hO,hnd',hL',hsl'⟩:=run_append (ty:=o.type) (ys:=[]) (u:=a.eval s) (L:=[]) ht he (.inl ⟨rfl,rfl,none,hr0.1⟩) List.nodup_nil hn hcells hrow
    (by simp) hlt2 (by simp) hnd2 (by simpa using hlim)
   refine wp_value (hrun v w' hr) (hX _ _ _ (new_arr S o.dst (ob':=ob') hsub hC ?_ hnd' hO hsl') h)
   intro b hb;rcases hL' b hb with h1 | h1 | h1
   · exact .inl h1
   · simp at h1
   · exact .inr (hL2 b h1)
 · split at h;rotate_left;cases h
   rename_i hlim;have hr0:rep w (imm G st Lf) .emp (a.eval s):=hsc;simp only [rep] at hr0;obtain ⟨v,w',L',hr,hC,hO,hnd',hL',hsl'⟩:=run_append (ty:=o.type) (ys:=[]) (u:=a.eval s) (L:=[]) ht he (.inl ⟨rfl,rfl,hr0⟩) List.nodup_nil hn hcells hrow
    (by simp) hlt2 (by simp) hnd2 (by simpa using hlim)
   refine wp_value (hrun v w' hr) (hX _ _ _ (new_arr S o.dst (ob':=ob') hsub hC ?_ hnd' hO hsl') h)
   intro b hb;rcases hL' b hb with h1 | h1 | h1
   · exact .inl h1
   · simp at h1
   · exact .inr (hL2 b h1)
 · cases h
theorem rowO_replicate {w:World} {sh:Sh} {z:Ty sh} {zs:List Value} (hz:ownT w sh z zs []):∀n,rowO sh.n (ownT w sh) (List.replicate n z) ((List.range n).flatMap fun _=>zs) []:=by
  have hl:=ownT_len hz;intro n;induction n with
  | zero=>rfl
  | succ n ih=>
    have h1:rowO sh.n (ownT w sh) [z] zs []:=⟨[],[],rfl,by rw [<-hl,List.take_length];exact hz,rfl⟩
    rw [List.replicate_succ,List.range_succ_eq_map,List.flatMap_cons,List.flatMap_map];simpa using rowO_append h1 (by simp [hl]) ih
theorem madeCells_eq (z:List Value) (n:Nat) (hz:0<z.length):(madeCells z.toArray (n*z.length)).toList=(List.range n).flatMap fun _=>z:=by
  induction n with
  | zero=>simp [madeCells]
  | succ n ih=>
    rw [List.range_succ,List.flatMap_append,<-ih];simp only [madeCells,Array.toList_map,Array.toList_range,List.flatMap_cons,List.flatMap_nil,List.append_nil];rw [Nat.add_mul,Nat.one_mul,List.range_add,List.map_append]
    congr 1
    apply List.ext_getElem?
    intro k;simp only [List.getElem?_map,List.map_map]
    rcases Nat.lt_or_ge k z.length with hk | hk
    · rw [List.getElem?_range hk]
      simp [Nat.mod_eq_of_lt hk,hk]
    · rw [List.getElem?_eq_none (by simpa using hk),List.getElem?_eq_none hk]
      rfl
theorem mvL_vals {w:World} (us:List Value) (h:∀u ∈ us,u.oneCell'=true):mvL w (us.map .v) us []:=by
 induction us with
 | nil=>exact ⟨rfl,rfl⟩
 | cons u us ih=>exact ⟨u,us,[],[],rfl,rfl,⟨rfl,h u (by simp),rfl⟩,ih fun v hv=>h v (by simp [hv])⟩
theorem zero_own {i:TyI} {P:Program} {e:TypeId} (hT:TyOk P e i) {z:Ty i.sh} (h:rd i.sh (i.zero.map .v)=some (z,[])) (w:World):ownT w i.sh z i.zero []:=by
 obtain ⟨vs,ws,L1,L2,h1,h2,h3,h4⟩:=rd_own (w:=w) i.sh _ z [] i.zero [] h (mvL_vals _ hT.zone);obtain ⟨rfl,rfl⟩:=h4;simp at h1 h2;subst h1 h2;exact h3
theorem eff_makeSlice (hE:EnvOk E) (S:Sim G w0 st a w β Lf) {t:TypeId} {l c:Operand} (ho:o.op= .makeSlice t l c) (h:eff E call st o K=some r) (hX:∀st' a' w',SimE G w0 st' a' w'->K st'=some r->X a' w'):o.wp E.P a w X Q:=by
 simp only [eff,ho] at h;split at h;rotate_left;cases h
 rename_i e i n m hel hn hm;obtain ⟨ht,he⟩:=elemTy_ok hE hel;split at h;rotate_left;cases h
 rename_i hnm
 obtain rfl:=(beq_iff_eq.1 hnm)
 split at h;rotate_left;cases h
 rename_i h0;split at h;rotate_left;cases h
 rename_i hlim;split at h;rotate_left;cases h
 rename_i z hz;obtain ⟨inf,d,zv,hinf,_,hzv,hsz,hby,hzc,_,_⟩:=he.parts;have hb:=he.bpos;have hnat:(n.toNat:Int)=n:=Int.toNat_of_nonneg h0;have hn63:n.toNat<=281474976710656:=bY (Nat.le_mul_of_pos_left _ hb) hlim;have hb2:(inf.bytes:Int)*n<=281474976710656:=by
  have h:((i.by_*n.toNat:Nat):Int)<=281474976710656:=by omega
  rw [Int.natCast_mul,hnat] at h;rw [hby];exact h
 have hr:=run_make (P:=E.P) w t e inf zv ht hinf hzv .i64 .i64 n n h0 (Int.le_refl _) hb2 (by omega)
 have hzo:=zero_own he hz;have hzs:zv.cells=i.zero.toArray:=by rw [<-hzc]
 rw [hzs,hsz,<-he.zlen] at hr;refine wp_value (u:= .slice (some ⟨w.heap.size,0,none⟩) n.toNat n.toNat) (w':=w.alloc (.cells (madeCells i.zero.toArray (n.toNat*i.zero.length)) e)) ?_ (hX _ _ _ (new_arr S o.dst (ob':=st.ob) (fun _ _ h=>h) (L:=[w.heap.size]) (Chg.of_below (Below.alloc1 _ _) _) ?_ (by simp) (.inr ⟨w.heap.size,0,n.toNat,_,[],by simp,heap_alloc_new w _,by simp,by simp only [maxLen];omega,?_,rfl,?_⟩) ⟨_,_,_,rfl⟩) h)
 · simp [execOp,ho,S.int hn,S.int hm,hr]
 · intro b hb;simp at hb;subst hb;exact .inl ⟨cY _,by simp⟩
 · rw [size_madeCells,he.zlen,he.n,Nat.zero_add]
 · rw [madeCells_eq _ _ (by rw [he.zlen];exact he.pos),List.drop_zero]
   exact rowO_replicate (hzo _) _
end
end Go.V
namespace Go.V
open Go.RowKit (Below)
theorem run_storeAt {P:Program} {t:TypeId} {i:TyI} (hT:TyOk P t i) {w:World} {b off:Nat} {us:List Value} {ty:TypeId} (hb:w.heap[b]? =some (.cells us.toArray ty (0,0))) {v:Value} (h1:∀u ∈ v.cells.toList,u.oneCell'=true)
 (hl:v.cells.toList.length=i.sz) (hf:off+i.sz<=us.length):
 (Instr.storeAt t (.pointer (some ⟨b,off,none⟩)) v).run P w= .ok () (w.setRow b (fillAt us off v.cells.toList).toArray):=by
 have hs:=run_storeCells_at P b off ty v.cells.toList 0 us.toArray w hb (by simp only [Nat.add_zero,hl];simpa using hf) h1
 have hl':v.cells.size=i.sz:=by rw [<-hl];simp
 have hc:¬(v.cells.size≠i.sz):=by rw [hl'];simp
 simp only [Nat.add_zero] at hs;simp only [Instr.storeAt,Instr.sureAddr,storeVar,aY,Sem.run_pure,oZ,hT.run_sizeOf,eY hc,hs,fillAt]
theorem mvL_append {w:World} {cs ds:List C} {us vs:List Value} {L1 L2:List Nat} (h1:mvL w cs us L1) (h2:mvL w ds vs L2):mvL w (cs++ds) (us++vs) (L1++L2):=by
  induction cs generalizing us L1 with
  | nil=>obtain ⟨rfl,rfl⟩:=h1;simpa using h2
  | cons c cs ih=>
    obtain ⟨u,ws,La,Lb,rfl,rfl,h3,h4⟩:=h1;exact ⟨u,ws++vs,La,Lb++L2,rfl,by simp,h3,ih h4⟩
theorem mvL_len {w:World} {cs:List C} {us:List Value} {L:List Nat} (h:mvL w cs us L):us.length=cs.length:=by
 induction cs generalizing us L with
 | nil=>obtain ⟨rfl,rfl⟩:=h;rfl
 | cons c cs ih=>obtain ⟨u,ws,La,Lb,rfl,rfl,h3,h4⟩:=h;simp [ih h4]
mutual
theorem mv_avs {w:World}:(sh:Sh)->(x:Ty sh)->(us:List Value)->(L:List Nat)->sh.flat=true->ownT w sh x us L->mvL w (avs sh x) us []
 | .b,x,us,L,_,h=>by simp only [ownT] at h;rw [h.1];simp only [avs];exact ⟨_,[],[],[],rfl,rfl,⟨rfl,rfl,rfl⟩,rfl,rfl⟩
 | .i k,x,us,L,_,h=>by simp only [ownT] at h;rw [h.1];simp only [avs];exact ⟨_,[],[],[],rfl,rfl,⟨rfl,rfl,rfl⟩,rfl,rfl⟩
 | .s,x,us,L,_,h=>by simp only [ownT] at h;rw [h.1];simp only [avs];exact ⟨_,[],[],[],rfl,rfl,⟨rfl,rfl,rfl⟩,rfl,rfl⟩
 | .l e sh,x,us,L,hf,h=>by simp [Sh.flat] at hf
 | .a fs,x,us,L,hf,h=>by simp only [ownT] at h;simp only [avs];exact mv_avsL fs x us L (by simpa only [Sh.flat] using hf) h
theorem mv_avsL {w:World}:(fs:List Sh)->(x:TyL fs)->(us:List Value)->(L:List Nat)->Sh.flatL fs=true->ownTL w fs x us L->mvL w (avsL fs x) us []
  | [],_,us,L,_,h=>by simp only [ownTL] at h;rw [h.1];simp only [avsL];exact ⟨rfl,rfl⟩
  | [f],x,us,L,hf,h=>by simp only [ownTL] at h;simp only [avsL];exact mv_avs f x us L (by simpa [Sh.flatL] using hf) h
  | f::g::r,x,us,L,hf,h=>by
    simp only [ownTL] at h;rw [Sh.flatL,sZ] at hf;obtain ⟨vs,ws,L1,L2,rfl,rfl,h1,h2⟩:=h;simp only [avsL];exact mvL_append (L1:=[]) (L2:=[]) (mv_avs f _ _ _ hf.1 h1) (mv_avsL (g::r) _ _ _ hf.2 h2)
end
theorem rd_all {w:World} {sh:Sh} {cs:List C} {x:Ty sh} {us:List Value} {L:List Nat} (h:rd sh cs=some (x,[])) (hm:mvL w cs us L):ownT w sh x us L:=by
 obtain ⟨vs,ws,L1,L2,rfl,rfl,h3,h4⟩:=rd_own sh cs x [] us L h hm;obtain ⟨rfl,rfl⟩:=h4;simpa using h3
theorem fill_part {cur us:List Value} {p n j:Nat} {vs:List Value} (hj:j+vs.length<=n) (hp:p+n<=cur.length):
 fillAt cur (p+j) vs=cur.take p++fillAt ((cur.drop p).take n) j vs++cur.drop (p+n):=by
 unfold fillAt;have e1:cur.take (p+j)=cur.take p++(cur.drop p).take j:=List.take_add;have e2:((cur.drop p).take n).take j=(cur.drop p).take j:=by rw [List.take_take,Nat.min_eq_left (by omega)]
 have e3:cur.drop (p+j+vs.length)=((cur.drop p).take n).drop (j+vs.length)++cur.drop (p+n):=by
  rw [List.drop_take,List.drop_drop,<-Nat.add_assoc]
  have:cur.drop (p+n)=(cur.drop (p+j+vs.length)).drop (n-(j+vs.length)):=by
   rw [List.drop_drop]
   congr 1
   omega
  rw [this,List.take_append_drop]
 rw [e1,e2,e3];simp
section
variable {E:Env} {G:Nat->Prop} {w0:Base} {st:St} {a:Act} {w:World} {β:Nat->Value} {Lf:Nat->List Nat} {R:Type} {r:R} {o:Oper} {call:CallD E} {K:St->Option R} {X:Act->World->Prop} {Q:Exit->Act->World->Prop}
theorem movedParts_sound {sh:Sh} {sz:Nat} (hsz:sz=sh.n):∀(ps:List (Nat×List C)) (qs:List (Nat×Value)) (k:Nat) (xs:List (Ty sh)) (st st1:St),Sim G w0 st a w β Lf->
    All2 (fun p q=>p.1=q.1/\All2 (VC w (imm G st Lf) β) p.2 q.2.cells.toList) ps qs->movedParts sh st ps k=some (xs,st1)->
    ∃news L,st1={ st with ob:=st1.ob }/\(∀n o,look st1.ob n=some o->look st.ob n=some o)/\(∀b ∈ L,∃h o,look st.ob h=some o/\look st1.ob h=none/\b ∈ Lf h)/\L.Nodup/\
      rowO sh.n (ownT w sh) xs news L/\news.length=xs.length*sh.n/\
      ∀pre rest:List Value,pre.length=k*sz->rest.length=xs.length*sz->Instr.fill (fun i=>some (i*sz,sz)) (pre++rest).toArray qs=some (pre++news).toArray
  | [],qs,k,xs,st,st1,S,h,hm=>by
    simp only [movedParts,nZ,Prod.mk.injEq] at hm;obtain ⟨rfl,rfl⟩:=hm;cases qs with
    | nil=>
      refine ⟨[],[],rfl,fun _ _ h=>h,by simp,List.nodup_nil,rfl,by simp,fun pre rest _ hr=> ?_⟩
      have:rest=[]:=List.eq_nil_of_length_eq_zero (by simpa using hr)
      subst this;rfl
    | cons q qs=>simp [All2] at h
  | (n,v)::ps,qs,k,xs,st,st1,S,h,hm=>by
    cases qs with
    | nil=>simp [All2] at h
    | cons q qs=>
    obtain ⟨m,y⟩:=q;obtain ⟨⟨hnm,hv⟩,h⟩:=h;simp only at hnm hv
    subst hnm;simp only [movedParts] at hm;split at hm;rotate_left;cases hm
    rename_i hnk;subst hnk;split at hm;cases hm
    rename_i cs st2 hmv;split at hm;rotate_left;cases hm
    rename_i x hrd;split at hm;cases hm
    rename_i ys st3 hrest;simp only [nZ,Prod.mk.injEq] at hm;obtain ⟨rfl,rfl⟩:=hm;obtain ⟨L1,h1,h2,h3,h4,h5⟩:=moved_sound v cs _ st st2 S hv hmv;have hown:=rd_all hrd h1;have hlen:=ownT_len hown;have S2:Sim G w0 { st with ob:=st2.ob } a w β Lf:=S.fewer h3
    have himm:∀k,imm G st Lf k->k<w.heap.size->imm G { st with ob:=st2.ob } Lf k/\w.heap[k]? =w.heap[k]? :=fun k hk _=>⟨⟨hk.1,fun n o ho=>hk.2 n o (h3 n o ho)⟩,rfl⟩
    rw [h2] at hrest;obtain ⟨news,L2,g1,g2,g3,g4,g5,g6,g7⟩:=movedParts_sound hsz ps qs (n+1) ys _ st3 S2 (h.imp fun p _ q hq=>⟨hq.1,hq.2.imp fun c _ u hu=>hu.step himm fun _ _=>rfl⟩) hrest
    refine ⟨y.cells.toList++news,L1++L2,g1,fun n o ho=>h3 n o (g2 n o ho),?_,?_,?_,?_,?_⟩
    · intro b hb;rcases wZ.1 hb with hb | hb
      · obtain ⟨h,o,e1,e2,e3⟩:=h4 b hb;refine ⟨h,o,e1,?_,e3⟩
        cases hl:look st3.ob h with
        | none=>rfl
        | some o'=>have:=g2 h o' hl;rw [e2] at this;cases this
      · obtain ⟨h,o,e1,e2,e3⟩:=g3 b hb;exact ⟨h,o,h3 h o e1,e2,e3⟩
    · refine qZ.2 ⟨h5,g4,?_⟩
      rintro b hb b' hb' rfl
      obtain ⟨h,o,e1,e2,e3⟩:=h4 b hb;obtain ⟨h',o',f1,f2,f3⟩:=g3 b hb';exact S.disj h o h' o' e1 (h3 h' o' f1) (fun e=>by rw [<-e,e2] at f1;cases f1) b e3 f3
    · have h6:rowO sh.n (ownT w sh) [x] y.cells.toList L1:=⟨L1,[],by simp,by rw [<-hlen,List.take_length];exact hown,rfl⟩
      exact rowO_append h6 (by simp [hlen]) g5
    · simp only [List.length_append,hlen,g6,List.length_cons,Nat.add_mul,Nat.one_mul];omega
    · intro pre rest hp hr;have hr':rest.length=sz+ys.length*sz:=by rw [hr];simp [Nat.add_mul,Nat.add_comm]
      have hysz:y.cells.size=sz:=by rw [hsz,<-hlen];simp
      have hcond:¬((decide (y.cells.size≠sz) || decide (n*sz+y.cells.size>(pre++rest).toArray.size))=true):=by
        simp [hysz,hp];omega
      simp only [Instr.fill];rw [eY hcond];have hfold:=foldl_set (pre++rest).toArray (n*sz) y.cells.toList 0 (by simp [hp,hysz];omega)
      simp only [Nat.add_zero] at hfold;have key:y.cells.zipIdx.foldl (fun cs (p:Value×Nat)=>cs.setIfInBounds (n*sz+p.2) p.1) (pre++rest).toArray=((pre++y.cells.toList)++rest.drop sz).toArray:=by
        rw [<-Array.foldl_toList,Array.toList_zipIdx,hfold]
        congr 1
        have e1:(pre++rest).take (n*sz)=pre:=List.take_left' hp;have e2:(pre++rest).drop (n*sz+y.cells.toList.length)=rest.drop sz:=by
          rw [<-List.drop_drop,List.drop_left' hp];simp [hysz]
        rw [e1,e2]
      show Instr.fill (fun i=>some (i*sz,sz)) (y.cells.zipIdx.foldl (fun cs (p:Value×Nat)=>cs.setIfInBounds (n*sz+p.2) p.1) (pre++rest).toArray) qs=_
      rw [key,g7 (pre++y.cells.toList) (rest.drop sz) (by simp [hp,hysz,Nat.add_mul]) (by rw [List.length_drop,hr'];omega)]
      simp
theorem fill_step {sz n:Nat} {y:Value} {pre rest:List Value} {qs:List (Nat×Value)} (hp:pre.length=n*sz) (hysz:y.cells.size=sz) (hr:sz<=rest.length):
 Instr.fill (fun i=>some (i*sz,sz)) (pre++rest).toArray ((n,y)::qs)=Instr.fill (fun i=>some (i*sz,sz)) ((pre++y.cells.toList)++rest.drop sz).toArray qs:=by
 have hcond:¬((decide (y.cells.size≠sz) || decide (n*sz+y.cells.size>(pre++rest).toArray.size))=true):=by
  simp [hysz,hp];omega
 simp only [Instr.fill];rw [eY hcond];have hfold:=foldl_set (pre++rest).toArray (n*sz) y.cells.toList 0 (by simp [hp,hysz];omega)
 simp only [Nat.add_zero] at hfold;have key:y.cells.zipIdx.foldl (fun cs (p:Value×Nat)=>cs.setIfInBounds (n*sz+p.2) p.1) (pre++rest).toArray=((pre++y.cells.toList)++rest.drop sz).toArray:=by
  rw [<-Array.foldl_toList,Array.toList_zipIdx,hfold]
  congr 1
  have e1:(pre++rest).take (n*sz)=pre:=List.take_left' hp;have e2:(pre++rest).drop (n*sz+y.cells.toList.length)=rest.drop sz:=by
   rw [<-List.drop_drop,List.drop_left' hp];simp [hysz]
  rw [e1,e2]
 show Instr.fill (fun i=>some (i*sz,sz)) (y.cells.zipIdx.foldl (fun cs (p:Value×Nat)=>cs.setIfInBounds (n*sz+p.2) p.1) (pre++rest).toArray) qs=_
 rw [key]
theorem still_rep {w:World} {ok:Nat->Prop} {β:Nat->Value}:∀{cs:List C} {us:List Value},cs.all C.still=true->All2 (VC w ok β) cs us->repL w ok cs us
  | [],us,_,h=>by cases us with | nil=>rfl | cons _ _=>exact h.elim
  | c::cs,[],_,h=>h.elim
  | c::cs,u::us,hs,h=>by
    simp only [List.all_cons,sZ] at hs;simp only [repL];refine ⟨u,us,rfl,?_,still_rep hs.2 h.2⟩
    cases c<;>first | exact h.1 | (simp [C.still] at hs)
theorem stillParts_sound {w:World} {ok:Nat->Prop} {β:Nat->Value} {sh:Sh} {sz:Nat} (hsz:sz=sh.n):∀(ps:List (Nat×List C)) (qs:List (Nat×Value)) (k:Nat) (xs:List (Ty sh)),
    All2 (fun p q=>p.1=q.1/\All2 (VC w ok β) p.2 q.2.cells.toList) ps qs->stillParts sh ps k=some xs->
    ∃news:List Value,news.length=xs.length*sz/\(∀(j:Nat) (x:Ty sh),xs[j]? =some x->repT w ok sh x ((news.drop (j*sz)).take sz))/\
      ∀pre rest:List Value,pre.length=k*sz->rest.length=xs.length*sz->Instr.fill (fun i=>some (i*sz,sz)) (pre++rest).toArray qs=some (pre++news).toArray
  | [],qs,k,xs,h,hm=>by
    simp only [stillParts,nZ] at hm;subst hm;cases qs with
    | nil=>
      refine ⟨[],by simp,by simp,fun pre rest _ hr=> ?_⟩
      have:rest=[]:=List.eq_nil_of_length_eq_zero (by simpa using hr)
      subst this;rfl
    | cons q qs=>simp [All2] at h
  | (n,v)::ps,qs,k,xs,h,hm=>by
    cases qs with
    | nil=>simp [All2] at h
    | cons q qs=>
    obtain ⟨m,y⟩:=q;obtain ⟨⟨hnm,hv⟩,h⟩:=h;simp only at hnm hv
    subst hnm;simp only [stillParts] at hm;split at hm;rotate_left;cases hm
    rename_i hnk;subst hnk;split at hm;rotate_left;cases hm
    rename_i hst;split at hm;rotate_left;cases hm
    rename_i x hrd;split at hm;cases hm
    rename_i ys hrest;cases hm
    obtain ⟨vs,ws,e,h1,h2⟩:=rd_rep sh v x [] _ hrd (still_rep hst hv);simp only [repL] at h2;subst h2;rw [List.append_nil] at e;rw [<-e] at h1;have hlen:=repT_len _ _ _ h1;have hysz:y.cells.size=sz:=by rw [hsz,<-hlen];simp
    obtain ⟨news,g1,g2,g3⟩:=stillParts_sound hsz ps qs (n+1) ys h hrest;refine ⟨y.cells.toList++news,?_,?_,?_⟩
    · simp [hysz,g1,Nat.add_mul,Nat.add_comm]
    · intro j z hj;cases j with
      | zero=>
        simp only [List.getElem?_cons_zero,nZ] at hj
        subst hj;rw [Nat.zero_mul,List.drop_zero,List.take_left' (by simp [hysz])]
        exact h1
      | succ j=>
        have:=g2 j z (by simpa using hj)
        rw [Nat.add_mul,Nat.one_mul,Nat.add_comm (j*sz),<-List.drop_drop,List.drop_left' (by simp [hysz])]
        exact this
    · intro pre rest hp hr;have hr':rest.length=sz+ys.length*sz:=by rw [hr];simp [Nat.add_mul,Nat.add_comm]
      rw [fill_step hp hysz (by omega),g3 (pre++y.cells.toList) (rest.drop sz) (by simp [hp,hysz,Nat.add_mul]) (by rw [List.length_drop,hr'];omega)]
      simp
theorem agree_sound {R:Type} {e:Bool} {a b:Option R} {r:R} (h:agree e a b=some r):(e=true->a=some r)/\b=some r:=by
  unfold agree at h;cases e with
  | false=>exact ⟨by simp,by simpa using h⟩
  | true=>
    rw [dY rfl] at h;split at h;rotate_left;cases h
    rename_i hab;exact ⟨fun _=>h,by rw [<-hab];exact h⟩
theorem eff_nilQ (hE:EnvOk E) (S:Sim G w0 st a w β Lf) {op:BinOp} {t u:TypeId} {x y:Operand} (ho:o.op= .binOp op t x y u) (h:eff E call st o K=some r) (hX:∀st' a' w',SimE G w0 st' a' w'->K st'=some r->X a' w'):o.wp E.P a w X Q:=by
  simp only [eff,ho] at h;split at h;rotate_left;cases h
  rename_i b hb;obtain ⟨h1,h2⟩:=agree_sound h;unfold nilQ at hb;split at hb;rotate_left;cases hb
  rename_i e c hel hx;obtain ⟨hu,_⟩:=elemTy_ok hE hel;have hv:=(S.ev hx).1;split at hb;rotate_left;cases hb;cases hb
  rename_i e' sh xs;cases hb
  obtain ⟨A,cp,hA,_,_,hne⟩:rowT w (imm G st Lf) sh.n (repT w (imm G st Lf) sh) xs (a.eval x):=hv;have hrun:(execOp a.eval o).run E.P w= .ok (.value (.bool A.isNone)) w:=by
    have hg:(eqGuard .eql t x (.const (.slice none 0 0)) (.slice A xs.length cp) (.slice none 0 0)).run E.P w= .ok () w:=by
      unfold eqGuard;split<;>simp
    have hc:a.eval (.const (.slice none 0 0))= .slice none 0 0:=rfl;simp [execOp,ho,hA,hc,hg,Go.Lib.run_eql_slice_nil w t _ A xs.length cp 0 0 hu]
  refine wp_value hrun ?_
  cases hn:A.isNone with
  | true=>
    have hxs:xs=[]:=by
      cases xs with
      | nil=>rfl
      | cons z zs=>
        obtain ⟨ad,hA',_⟩:=hne (by simp)
        rw [hA'] at hn;cases hn
    refine hX _ _ _ ⟨_,_,S.set o.dst (v:= .c (.v (.bool true))) (u:= .bool true) (VA.scalar rfl) (AV.lt_v _ _)⟩ (h1 (by rw [hxs];rfl))
  | false=>exact hX _ _ _ ⟨_,_,S.set o.dst (v:= .c (.v (.bool false))) (u:= .bool false) (VA.scalar rfl) (AV.lt_v _ _)⟩ h2
theorem eff_buildSlice (hE:EnvOk E) (S:Sim G w0 st a w β Lf) {t:TypeId} {n:Nat} {parts:Array (Nat×Operand)} (ho:o.op= .buildSlice t n parts) (h:eff E call st o K=some r) (hX:∀st' a' w',SimE G w0 st' a' w'->K st'=some r->X a' w'):o.wp E.P a w X Q:=by
 simp only [eff,ho] at h;split at h;rotate_left;cases h
 rename_i e i ps hel hps;obtain ⟨ht,he⟩:=elemTy_ok hE hel;split at h;rotate_left;cases h
 rename_i hlim;split at h
 · rename_i xs st1 hmv;split at h;rotate_left;cases h
   rename_i hxn;subst hxn;obtain ⟨h1,h2⟩:=evParts_sound S _ _ hps;obtain ⟨news,L,g1,g2,g3,g4,g5,g6,g7⟩:=movedParts_sound he.n.symm ps _ 0 xs st st1 S h1 hmv;obtain ⟨inf,d,zv,hinf,_,hzv,hsz,hby,hzc,_,_⟩:=he.parts;have hzs:zv.cells=i.zero.toArray:=by rw [<-hzc]
   have hpos:=he.pos;have hrun:(Instr.buildSlice t xs.length (parts.map fun (i,x)=>(i,a.eval x))).run E.P w= .ok (.slice (some ⟨w.heap.size,0,none⟩) xs.length xs.length) (w.alloc (.cells news.toArray e)):=by
    have hlim':¬(xs.length*i.sz>2^24):=by simp only [Nat.reducePow];omega
    have hf:∀zero:Array Value,Instr.fill (fun k=>some (k*i.sz,i.sz)) ((Array.range (xs.length*i.sz)).map (zero[· %zero.size]!)) (parts.map fun (i,x)=>(i,a.eval x)).toList=some news.toArray:=by
     intro zero;have hf:=g7 [] ((Array.range (xs.length*i.sz)).map (zero[· %zero.size]!)).toList (by simp) (by simp)
     rw [List.nil_append,Array.toArray_toList,List.nil_append] at hf;rw [Array.toList_map];exact hf
    have hzr:(zeroValue e).run E.P w= .ok zv w:=by simp [zeroValue,typeInfo,hinf,hzv]
    simp only [Instr.buildSlice,aY,run_underlying ht,oZ,he.run_sizeOf,eY hlim'];by_cases h0:xs.length*i.sz=0
    · rw [dY h0];simp only [aY,Sem.run_pure,oZ,hf,newRow];rfl
    · rw [eY h0];simp only [aY,Sem.run_pure,oZ,hzr,hf,newRow];rfl
   refine wp_value (u:= .slice (some ⟨w.heap.size,0,none⟩) xs.length xs.length) (w':=w.alloc (.cells news.toArray e)) (by simp [execOp,ho,hrun]) ?_
   have S':=new_arr S o.dst (ob':=st1.ob) g2 (e:=e) (sh:=i.sh) (xs:=xs) (L:=w.heap.size::L) (Chg.of_below (Below.alloc1 w (.cells news.toArray e)) _) ?_ ?_ (.inr ⟨w.heap.size,0,xs.length,news.toArray,L,rfl,heap_alloc_new w _,cY _,?_,by simp [g6],rfl,?_⟩) ⟨_,_,_,rfl⟩
   · rw [<-g1] at S';refine hX _ _ _ S' ?_
     have e1:st1.nx=st.nx:=by rw [g1]
     rw [e1] at h;exact h
   · intro b hb;rcases zZ.1 hb with rfl | hb
     · exact .inl ⟨cY _,by simp⟩
     · exact .inr (g3 b hb)
   · refine List.nodup_cons.2 ⟨fun hm=> ?_,g4⟩
     obtain ⟨h,o,e1,_,e3⟩:=g3 _ hm
     have:=(S.new h o e1 _ e3).2
     omega
   · have:xs.length<=xs.length*i.sz:=Nat.le_mul_of_pos_right _ hpos
     simp only [maxLen];omega
   · refine rowO_world g5 fun b hb=>heap_alloc_old w _ b ?_
     obtain ⟨h,o,e1,_,e3⟩:=g3 _ hb;exact (S.new h o e1 _ e3).2
 · split at h;rotate_left;cases h
   rename_i xs hmv;split at h;rotate_left;cases h
   rename_i hxn;subst hxn;obtain ⟨h1,h2⟩:=evParts_sound S _ _ hps;obtain ⟨news,g1,g2,g3⟩:=stillParts_sound (sz:=i.sz) he.n.symm ps _ 0 xs h1 hmv;obtain ⟨inf,d,zv,hinf,_,hzv,hsz,hby,hzc,_,_⟩:=he.parts;have hpos:=he.pos;have hrun:(Instr.buildSlice t xs.length (parts.map fun (i,x)=>(i,a.eval x))).run E.P w= .ok (.slice (some ⟨w.heap.size,0,none⟩) xs.length xs.length) (w.alloc (.cells news.toArray e)):=by
    have hlim':¬(xs.length*i.sz>2^24):=by simp only [Nat.reducePow];omega
    have hf:∀zero:Array Value,Instr.fill (fun k=>some (k*i.sz,i.sz)) ((Array.range (xs.length*i.sz)).map (zero[· %zero.size]!)) (parts.map fun (i,x)=>(i,a.eval x)).toList=some news.toArray:=by
     intro zero;have hf:=g3 [] ((Array.range (xs.length*i.sz)).map (zero[· %zero.size]!)).toList (by simp) (by simp)
     rw [List.nil_append,Array.toArray_toList,List.nil_append] at hf;rw [Array.toList_map];exact hf
    have hzr:(zeroValue e).run E.P w= .ok zv w:=by simp [zeroValue,typeInfo,hinf,hzv]
    simp only [Instr.buildSlice,aY,run_underlying ht,oZ,he.run_sizeOf,eY hlim'];by_cases h0:xs.length*i.sz=0
    · rw [dY h0];simp only [aY,Sem.run_pure,oZ,hf,newRow];rfl
    · rw [eY h0];simp only [aY,Sem.run_pure,oZ,hzr,hf,newRow];rfl
   refine wp_value (u:= .slice (some ⟨w.heap.size,0,none⟩) xs.length xs.length) (w':=w.alloc (.cells news.toArray e)) (by simp [execOp,ho,hrun]) ?_
   have S':=S.kept (Below.alloc1 w (.cells news.toArray e));refine hX _ _ _ ⟨_,_,S'.set o.dst (v:= .c (.l e i.sh xs)) (u:= .slice (some ⟨w.heap.size,0,none⟩) xs.length xs.length) ?_ (by intro h hh;simp [C.hs] at hh)⟩ h
   show rowT _ _ i.sh.n (repT _ _ i.sh) xs _
   refine ⟨some ⟨w.heap.size,0,none⟩,xs.length,rfl,cY _,?_,fun _=>⟨_,rfl,⟨S.fresh _ (.inl S.below.size),fun h o ho hm=> ?_⟩,?_,fun j x hx=> ?_⟩⟩
   · have:xs.length<=xs.length*i.sz:=Nat.le_mul_of_pos_right _ hpos
     simp only [maxLen];omega
   · exact absurd (S.new h o ho _ hm).2 (Nat.lt_irrefl _)
   · have:=heap_alloc_new w (.cells news.toArray e)
     exact (bZ.1 this).1
   · refine ⟨_,repT_step (fun k hk hlt=>⟨hk,heap_alloc_old w _ k hlt⟩) _ _ _ (g2 j x hx),fun i' v hv=> ?_⟩
     rw [lZ] at hv
     split at hv;rotate_left;cases hv
     rw [mZ] at hv
     have hadd:(⟨w.heap.size,0,none⟩:Addr).add (j*i.sh.n+i')=⟨w.heap.size,j*i.sh.n+i',none⟩:=by unfold Addr.add;split<;>simp_all
     rw [hadd,cell_of_row _ _ _ news.toArray e (0,0) (heap_alloc_new w _)];rw [he.n];simpa using hv
theorem rowO_split {α:Type} {n:Nat} {R:α->List Value->List Nat->Prop}:∀{xs:List α} {us:List Value} {L:List Nat} (j:Nat) (x:α),rowO n R xs us L->xs[j]? =some x->xs.length*n<=us.length->
    ∃A B D,L=A++B++D/\rowO n R (xs.take j) (us.take (j*n)) A/\R x ((us.drop (j*n)).take n) B/\rowO n R (xs.drop (j+1)) (us.drop (j*n+n)) D
  | [],us,L,j,x,h,hx,_=>by simp at hx
  | y::ys,us,L,j,x,h,hx,hl=>by
    obtain ⟨L1,L2,rfl,h1,h2⟩:=h;have hn:n<=us.length:=by simp only [List.length_cons,Nat.add_mul,Nat.one_mul] at hl;omega
    cases j with
    | zero=>
      simp only [List.getElem?_cons_zero,nZ] at hx
      subst hx;exact ⟨[],L1,L2,by simp,rfl,by simpa using h1,by simpa using h2⟩
    | succ j=>
      obtain ⟨A,B,D,rfl,h3,h4,h5⟩:=rowO_split j x h2 (by simpa using hx) (by simp only [List.length_cons,Nat.add_mul,Nat.one_mul] at hl;rw [List.length_drop];omega)
      have e1:(j+1)*n=n+j*n:=by rw [Nat.add_mul,Nat.one_mul,Nat.add_comm]
      refine ⟨L1++A,B,D,by simp,⟨L1,A,rfl,?_,?_⟩,?_,?_⟩
      · rw [List.take_take,e1,Nat.min_eq_left (by omega)];exact h1
      · rw [e1,List.drop_take,Nat.add_sub_cancel_left];exact h3
      · rw [List.drop_drop] at h4;rw [e1];exact h4
      · rw [List.drop_drop] at h5;have e2:(j+1)*n+n=n+(j*n+n):=by rw [e1,Nat.add_assoc]
        rw [e2];exact h5
theorem rowO_join {α:Type} {n:Nat} {R:α->List Value->List Nat->Prop} {xs:List α} {us c:List Value} {A B D:List Nat} {j:Nat} {z:α} (hj:j<xs.length) (hl:xs.length*n<=us.length)
 (h1:rowO n R (xs.take j) (us.take (j*n)) A) (hc:c.length=n) (h2:R z c B) (h3:rowO n R (xs.drop (j+1)) (us.drop (j*n+n)) D):rowO n R (xs.set j z) (us.take (j*n)++c++us.drop (j*n+n)) (A++B++D):=by
 have hjn:j*n<=xs.length*n:=Nat.mul_le_mul_right _ (Nat.le_of_lt hj);have hlen:(xs.take j).length=j:=by rw [List.length_take];omega
 rw [List.set_eq_take_append_cons_drop,dY hj];have e:xs.take j++z::xs.drop (j+1)=(xs.take j++[z])++xs.drop (j+1):=by simp
 rw [e];have h4:rowO n R [z] c B:=⟨B,[],by simp,by rw [<-hc,List.take_length];exact h2,rfl⟩
 have h5:=rowO_append h1 (by rw [List.length_take,hlen];omega) h4
 exact rowO_append h5 (by rw [List.length_append,List.length_take,List.length_append,hlen,hc,List.length_singleton,Nat.add_mul,Nat.one_mul];omega) h3
theorem drop_written {α:Type} (l c:List α) (off p q:Nat) (h:off+p<=l.length):(l.take (off+p)++c++l.drop (off+p+q)).drop off=(l.drop off).take p++c++(l.drop off).drop (p+q):=by
 have e1:l.take (off+p)=l.take off++(l.drop off).take p:=List.take_add;have e2:(l.take off).length=off:=by rw [List.length_take];omega
 rw [e1,List.append_assoc,List.append_assoc,List.drop_append,e2,Nat.sub_self,List.drop_of_length_le (by omega),List.drop_zero,List.nil_append,List.append_assoc,List.drop_drop,Nat.add_assoc]
theorem cur_join (us:List Value) (p n:Nat):us.take p++(us.drop p).take n++us.drop (p+n)=us:=by
 rw [List.append_assoc,<-List.drop_drop,List.take_append_drop,List.take_append_drop]
mutual
theorem mv_avs' {w:World}:(sh:Sh)->(x:Ty sh)->(us:List Value)->(L:List Nat)->ownT w sh x us L->mvL w (avs sh x) us L
 | .b,x,us,L,h=>by simp only [ownT] at h;rw [h.1,h.2];simp only [avs];exact ⟨_,[],[],[],rfl,rfl,⟨rfl,rfl,rfl⟩,rfl,rfl⟩
 | .i k,x,us,L,h=>by simp only [ownT] at h;rw [h.1,h.2];simp only [avs];exact ⟨_,[],[],[],rfl,rfl,⟨rfl,rfl,rfl⟩,rfl,rfl⟩
 | .s,x,us,L,h=>by simp only [ownT] at h;rw [h.1,h.2];simp only [avs];exact ⟨_,[],[],[],rfl,rfl,⟨rfl,rfl,rfl⟩,rfl,rfl⟩
 | .l e sh,x,us,L,h=>by simp only [ownT] at h;obtain ⟨u,rfl,h⟩:=h;simp only [avs];exact ⟨u,[],L,[],rfl,by simp,h,rfl,rfl⟩
 | .a fs,x,us,L,h=>by simp only [ownT] at h;simp only [avs];exact mv_avsL' fs x us L h
theorem mv_avsL' {w:World}:(fs:List Sh)->(x:TyL fs)->(us:List Value)->(L:List Nat)->ownTL w fs x us L->mvL w (avsL fs x) us L
  | [],_,us,L,h=>by simp only [ownTL] at h;rw [h.1,h.2];simp only [avsL];exact ⟨rfl,rfl⟩
  | [f],x,us,L,h=>by simp only [ownTL] at h;simp only [avsL];exact mv_avs' f x us L h
  | f::g::r,x,us,L,h=>by
    simp only [ownTL] at h;obtain ⟨vs,ws,L1,L2,rfl,rfl,h1,h2⟩:=h;simp only [avsL];exact mvL_append (mv_avs' f _ _ _ h1) (mv_avsL' (g::r) _ _ _ h2)
end
theorem mvL_split {w:World}:∀{cs:List C} {us:List Value} {L:List Nat} (n:Nat),mvL w cs us L->∃L1 L2,L=L1++L2/\mvL w (cs.take n) (us.take n) L1/\mvL w (cs.drop n) (us.drop n) L2
  | cs,us,L,0,h=>⟨[],L,rfl,⟨rfl,rfl⟩,h⟩
  | [],us,L,n+1,h=>by obtain ⟨rfl,rfl⟩:=h;exact ⟨[],[],rfl,⟨rfl,rfl⟩,⟨rfl,rfl⟩⟩
  | c::cs,us,L,n+1,h=>by
    obtain ⟨u,ws,La,Lb,rfl,rfl,h3,h4⟩:=h;obtain ⟨L1,L2,rfl,h5,h6⟩:=mvL_split n h4;exact ⟨La++L1,L2,by simp,⟨u,_,La,L1,rfl,rfl,h3,h5⟩,h6⟩
theorem close1_sim {hh:Nat} {st':St} (S:SimE G w0 st a w) (h:close1 hh st=some st'):SimE G w0 st' a w/\st'={ st with ob:=st'.ob }:=by
 obtain ⟨β,Lf,S⟩:=S;unfold close1 at h;split at h
 · rename_i e sh xs i cs hob;split at h;rotate_left;cases h
   rename_i ds st1 hmv;split at h;rotate_left;cases h
   rename_i z hrd;split at h;rotate_left;cases h
   rename_i o1 o2 o3 o4 o5 hob1;cases h
   obtain ⟨g,off,cap,cur,La,Lb,k1,k2,k3,k4,k5,k6,k7,k8,k9,k10⟩:=S.obs _ _ hob;obtain ⟨Lw,m1,m2,m3,m4,m5⟩:=moved_sound cs ds _ st st1 S k9 hmv;have hown:=rd_all hrd m1;have hcl:(cur.toList.drop off).length=cap*sh.n:=by rw [List.length_drop,Array.length_toList,k5];omega
   have hxl:xs.length*sh.n<=(cur.toList.drop off).length:=by rw [hcl];exact Nat.mul_le_mul_right _ k3
   have hnd:=S.nodup _ _ hob;have hLw:∀b ∈ Lw,b ∉ Lf hh:=fun b hb hm=>by
    obtain ⟨h,o,e1,e2,e3⟩:=m4 b hb;exact S.disj h o hh _ e1 hob (fun e=>by rw [e,hob1] at e2;cases e2) b e3 hm
   have S':=S.mod (ob':=st1.ob) m3 (w':=w) (h:=hh) (o:= .arr e sh (xs.set i z)) (L:=g::(La++Lw++Lb)) hob1 (Chg.refl _ w) ?_ ?_ ?_ trivial
    (.inr ⟨g,off,cap,cur,La++Lw++Lb,by rw [k1];simp,k2,by simpa using k3,k4,k5,rfl,?_⟩)
   · have e1:st1.nt=st.nt:=by rw [m2]
     have e2:st1.nx=st.nx:=by rw [m2]
     have e3:st1.sl=st.sl:=by rw [m2]
     rw [e1,e2,e3];exact ⟨⟨_,_,S'⟩,rfl⟩
   · intro b hb;rcases zZ.1 hb with rfl | hb
     · exact .inl (by rw [k6];simp)
     · simp only [wZ] at hb;rcases hb with (hb | hb) | hb
       · exact .inl (by rw [k6];simp [hb])
       · obtain ⟨h,o,e1,e2,e3⟩:=m4 b hb;exact .inr ⟨h,o,e1,(fun e=>by rw [e,hob1] at e2;cases e2),e3⟩
       · exact .inl (by rw [k6];simp [hb])
   · intro h' o' ho' hne b hb hm;have ho0:=m3 _ _ ho';have hdj:b ∉ Lf hh:=S.disj h' o' hh _ ho0 hob hne b hb;rw [k6] at hdj;simp only [zZ,wZ,not_or] at hm hdj;rcases hm with rfl | (hm | hm) | hm
     · exact hdj.1 rfl
     · exact hdj.2.1 hm
     · obtain ⟨h,o,e1,e2,e3⟩:=m4 b hm;exact S.disj h' o' h o ho0 e1 (fun e=>by rw [<-e,ho'] at e2;cases e2) b hb e3
     · exact hdj.2.2 hm
   · rw [k6] at hnd;have hg:g ∉ Lw:=fun hm=>hLw g hm (by rw [k6];simp)
     have hdis:∀b ∈ Lw,b ∉ La++Lb:=fun b hb hm=>hLw b hb (by rw [k6];exact fZ _ hm)
     obtain ⟨n1,n2⟩:=List.nodup_cons.1 hnd;obtain ⟨n3,n4,n5⟩:=qZ.1 n2;refine List.nodup_cons.2 ⟨?_,?_⟩
     · simp only [wZ,not_or] at n1 ⊢;exact ⟨⟨n1.1,hg⟩,n1.2⟩
     · refine qZ.2 ⟨qZ.2 ⟨n3,m5,?_⟩,n4,?_⟩
       · rintro b hb b' hb' rfl
         exact hdis b hb' (gZ _ hb)
       · rintro b hb b' hb' rfl
         rcases wZ.1 hb with hb | hb
         · exact n5 b hb b hb' rfl
         · exact hdis b hb (eZ _ hb')
   · have hj:=rowO_join k7 hxl k8 (ownT_len hown) hown k10;rw [cur_join] at hj;exact hj
 · cases h
   exact ⟨⟨_,_,S⟩,rfl⟩
theorem closeL_sim:∀{hs:List Nat} {st st':St},SimE G w0 st a w->closeL hs st=some st'->SimE G w0 st' a w/\st'={ st with ob:=st'.ob }
  | [],st,st',S,h=>by
    simp only [closeL,nZ] at h;subst h;exact ⟨S,rfl⟩
  | x::r,st,st',S,h=>by
    simp only [closeL] at h;split at h;rotate_left;cases h
    rename_i st1 h1;obtain ⟨S1,e1⟩:=close1_sim S h1;obtain ⟨S2,e2⟩:=closeL_sim S1 h;refine ⟨S2,?_⟩
    rw [e2,e1]
theorem closeAll_sim {st':St} (S:SimE G w0 st a w) (h:st.closeAll=some st'):SimE G w0 st' a w:=by
 unfold St.closeAll at h;split at h
 · cases h
   exact S
 · exact (closeL_sim S h).1
theorem closeFor_sim {st':St} (S:SimE G w0 st a w) (h:st.closeFor o=some st'):SimE G w0 st' a w:=by
 unfold St.closeFor at h;split at h
 · cases h
   exact S
 · exact (closeL_sim S h).1
theorem store_el (hE:EnvOk E) {st1:St} (S:Sim G w0 st a w β Lf) {t:TypeId} {ad x:Operand} {i:TyI} {hh sz n j:Nat} {v:AV} {vs ws:List C} (ho:o.op= .store t ad x) (hput:∀u,a.put o.dst u=a) (hi:E.ty t=some i)
    (had:st.ev ad=some (.c (.el hh sz n j))) (hx:st.ev x=some v) (hvs:v.cs=some vs) (hmv:st.moved vs=some (ws,st1))
    (h:(match look st1.ob hh with
          | some (.arr e sh xs)=>match xs[n]? with
            | some y=>if sz=sh.n&&i.sz=sh.n then (if j=0 then match rd sh ws with
                | some (z,[])=>K { st1 with ob:=put hh (.arr e sh (xs.set n z)) st1.ob }
                | _=>none
                else none)
              else if sz=sh.n then if ws.length=i.sz then if j+i.sz<=sh.n then match rd sh (fillAt (avs sh y) j ws) with
                | some (z,[])=>K { st1 with ob:=put hh (.arr e sh (xs.set n z)) st1.ob }
                | _=>none
                else none else none else none
            | none=>none
          | _=>none)=some r) (hX:∀st' a' w',SimE G w0 st' a' w'->K st'=some r->X a' w'):o.wp E.P a w X Q:=by
  have hT:=hE.ty _ _ hi;split at h;rotate_left;cases h
  rename_i e sh xs hob;split at h;rotate_left;cases h
  rename_i y hy;obtain ⟨hxa,hxlt⟩:=S.ev hx;have hal:=cs_VA hxa hvs;have hva:VC w (imm G st Lf) β (.el hh sz n j) (a.eval ad):=(S.ev had).1;obtain ⟨g,off,ln,cp,hb1,hb2⟩:=hva;obtain ⟨Lw,m1,m2,m3,m4,m5⟩:=moved_sound vs ws _ st st1 S hal hmv;have hob0:=m3 _ _ hob;have hnl:n<xs.length:=(List.getElem?_eq_some_iff.1 hy).1
  have hor:ownRow w e sh.n (ownT w sh) xs (β hh) (Lf hh):=S.obs _ _ hob0;rcases hor with ⟨rfl,_⟩ | ⟨g',off',cap,cur,L',hg1,hg2,hg3,hg4,hg5,hg6,hg7⟩
  · simp at hnl
  rw [hb1] at hg1
  injection hg1 with hg1 hg1b hg1c
  injection hg1 with hg1
  injection hg1 with hg1 hgo
  subst hg1 hgo;have hLw:∀b ∈ Lw,b ∉ Lf hh:=fun b hb hm=>by
    obtain ⟨h,o,e1,e2,e3⟩:=m4 b hb;exact S.disj h o hh _ e1 hob0 (fun e=>by rw [e,hob] at e2;cases e2) b e3 hm
  have hndf:=S.nodup _ _ hob0;have hcl0:cur.toList.length=off+cap*sh.n:=by rw [Array.length_toList];exact hg5
  have hcl:(cur.toList.drop off).length=cap*sh.n:=by rw [List.length_drop,hcl0];omega
  have hxl:xs.length*sh.n<=(cur.toList.drop off).length:=by rw [hcl];exact Nat.mul_le_mul_right _ hg3
  have hxl0:off+xs.length*sh.n<=cur.toList.length:=by rw [hcl0];exact Nat.add_le_add_left (Nat.mul_le_mul_right _ hg3) _
  have hnn:n*sh.n+sh.n<=xs.length*sh.n:=by rw [<-Nat.succ_mul];exact Nat.mul_le_mul_right _ hnl
  obtain ⟨A,B,D,hABD,hrA,hrB,hrD⟩:=rowO_split n y hg7 hy hxl
  -- the element, written anew
  have C1:∀(c:List Value) (z:Ty sh) (Lz:List Nat),c.length=sh.n->(∀w',KeptL Lz w w'->ownT w' sh z c Lz)->(∀b ∈ Lz,b ∈ Lw\/b ∈ B)->Lz.Nodup->
      K { st1 with ob:=put hh (.arr e sh (xs.set n z)) st1.ob }=some r->X a (w.setRow g (cur.toList.take (off+n*sh.n)++c++cur.toList.drop (off+n*sh.n+sh.n)).toArray):=by
    intro c z Lz hcn hz hLz hndz hK;have hndL':L'.Nodup:=by rw [hg6] at hndf;exact (List.nodup_cons.1 hndf).2
    have hgL':g ∉ L':=by rw [hg6] at hndf;exact (List.nodup_cons.1 hndf).1
    have hgLw:g ∉ Lw:=fun hm=>hLw _ hm (by rw [hg6];simp)
    have hgm:g ∈ Lf hh:=by rw [hg6];exact List.mem_cons_self
    have hin:∀b,b ∈ A\/b ∈ B\/b ∈ D->b ∈ L':=by
      intro b hb;rw [hABD];simp only [wZ];rcases hb with hb | hb | hb<;>simp [hb]
    have hk:∀L,(∀b ∈ L,b ∈ L'\/b ∈ Lw)->KeptL L w (w.setRow g (cur.toList.take (off+n*sh.n)++c++cur.toList.drop (off+n*sh.n+sh.n)).toArray):=by
      intro L hL b hb;refine setRow_other w g b _ ?_
      rintro rfl
      rcases hL _ hb with h1 | h1
      · exact hgL' h1
      · exact hgLw h1
    have hset:=rowO_join hnl hxl (rowO_world hrA (hk A fun b hb=> .inl (hin b (.inl hb)))) hcn (hz _ (hk Lz fun b hb=>(hLz b hb).elim .inr fun h=> .inl (hin b (.inr (.inl h))))) (rowO_world hrD (hk D fun b hb=> .inl (hin b (.inr (.inr hb)))))
    have hsub:∀b ∈ A++Lz++D,b ∈ L'\/b ∈ Lw:=by
      intro b hb;simp only [wZ] at hb;rcases hb with (hb | hb) | hb
      · exact .inl (hin b (.inl hb))
      · exact (hLz b hb).elim .inr fun h=> .inl (hin b (.inr (.inl h)))
      · exact .inl (hin b (.inr (.inr hb)))
    have hCh:Chg (Lf hh) w (w.setRow g (cur.toList.take (off+n*sh.n)++c++cur.toList.drop (off+n*sh.n+sh.n)).toArray):=
      ⟨rfl,rfl,rfl,by simp,fun k _ hk=>setRow_other w g k _ (fun e=>hk (e▸hgm))⟩
    have S':=S.mod (ob':=st1.ob) m3 (w':=w.setRow g (cur.toList.take (off+n*sh.n)++c++cur.toList.drop (off+n*sh.n+sh.n)).toArray) (h:=hh) (o:= .arr e sh (xs.set n z)) (L:=g::(A++Lz++D)) hob
      hCh ?_ ?_ ?_ trivial
      (.inr ⟨g,off,cap,_,A++Lz++D,by rw [hb1,hg1b,hg1c];simp,setRow_heap w g cur _ e _ hg2,by simpa using hg3,hg4,?_,rfl,by rw [show (cur.toList.take (off+n*sh.n)++c++cur.toList.drop (off+n*sh.n+sh.n)).toArray.toList=cur.toList.take (off+n*sh.n)++c++cur.toList.drop (off+n*sh.n+sh.n) from rfl,drop_written cur.toList c off _ _ (by omega)];exact hset⟩)
    · have e1:st1.nt=st.nt:=by rw [m2]
      have e2:st1.nx=st.nx:=by rw [m2]
      have e3:st1.sl=st.sl:=by rw [m2]
      rw [e1,e2,e3] at hK;exact hX _ _ _ ⟨_,_,S'⟩ hK
    · intro b hb;rcases zZ.1 hb with rfl | hb
      · exact .inl hgm
      · rcases hsub b hb with h1 | h1
        · exact .inl (by rw [hg6];exact fZ _ h1)
        · obtain ⟨h,o,e1,e2,e3⟩:=m4 b h1;exact .inr ⟨h,o,e1,(fun e=>by rw [e,hob] at e2;cases e2),e3⟩
    · intro h' o' ho' hne b hb hm;rcases zZ.1 hm with rfl | hm
      · exact S.disj h' o' hh _ (m3 _ _ ho') hob0 hne _ hb hgm
      · rcases hsub b hm with h1 | h1
        · exact S.disj h' o' hh _ (m3 _ _ ho') hob0 hne _ hb (by rw [hg6];exact fZ _ h1)
        · obtain ⟨h,o,e1,e2,e3⟩:=m4 b h1;exact S.disj h' o' h o (m3 _ _ ho') e1 (fun e=>by rw [<-e,ho'] at e2;cases e2) _ hb e3
    · refine List.nodup_cons.2 ⟨fun hm=> ?_,?_⟩
      · rcases hsub g hm with h1 | h1
        · exact hgL' h1
        · exact hgLw h1
      · rw [hABD] at hndL';obtain ⟨n1,n2,n3⟩:=qZ.1 hndL';obtain ⟨n4,n5,n6⟩:=qZ.1 n1;have hdis:∀b ∈ Lz,b ∉ A++D:=by
          intro b hb hm;rcases hLz b hb with h1 | h1
          · refine hLw b h1 ?_
            rw [hg6];refine fZ _ (hin b ?_)
            rcases wZ.1 hm with hm | hm<;>simp [hm]
          · rcases wZ.1 hm with hm | hm
            · exact n6 b hm b h1 rfl
            · exact n3 b (eZ _ h1) b hm rfl
        refine qZ.2 ⟨qZ.2 ⟨n4,hndz,?_⟩,n2,?_⟩
        · rintro b hb b' hb' rfl
          exact hdis b hb' (gZ _ hb)
        · rintro b hb b' hb' rfl
          rcases wZ.1 hb with hb | hb
          · exact n3 b (gZ _ hb) b hb' rfl
          · exact hdis b hb (eZ _ hb')
    · simp only [List.size_toArray,List.length_append,List.length_take,List.length_drop,hcn];rw [<-hg5,<-Array.length_toList];omega
  have hndB:B.Nodup:=by
    rw [hg6,hABD] at hndf;exact (qZ.1 (qZ.1 (List.nodup_cons.1 hndf).2).1).2.1
  split at h
  · rename_i hfull;simp only [sZ,pZ] at hfull;obtain ⟨hs1,hs2⟩:=hfull;split at h;rotate_left;cases h
    rename_i hj;subst hj;split at h;rotate_left;cases h
    rename_i z hrd;have hown:=rd_all hrd m1;have hlen:=ownT_len hown;have hr:=run_storeAt hT (off:=off+n*sh.n) (us:=cur.toList) (by simpa using hg2) (all_one hal) (by rw [hlen,hs2]) (by rw [hs2];omega)
    refine wp_skipped (by
      show (execOp a.eval o).run E.P w= .ok .skip _
      simp only [execOp,ho,hb2,hs1,Nat.add_zero,aY,hr,oZ,Sem.run_pure];rfl) ?_
    rw [hput]
    have:=C1 _ z Lw hlen (fun w' hk=>ownT_world sh z _ Lw hk hown) (fun _ h=> .inl h) m5 h
    unfold fillAt;rw [hlen];exact this
  · split at h;rotate_left;cases h
    rename_i hs1;split at h;rotate_left;cases h
    rename_i hwl;split at h;rotate_left;cases h
    rename_i hjf;split at h;rotate_left;cases h
    rename_i z hrd;have hmy:=mv_avs' sh y _ B hrB;have hml:=mvL_len m1;obtain ⟨B1,B2,hB,hm1,hm12⟩:=mvL_split j hmy;obtain ⟨B3,B4,hB',_,hm2⟩:=mvL_split ws.length hm12;have hmfill:mvL w (fillAt (avs sh y) j ws) (fillAt (((cur.toList.drop off).drop (n*sh.n)).take sh.n) j (a.eval x).cells.toList) (B1++Lw++B4):=by
      unfold fillAt;rw [hml,<-List.drop_drop,<-List.drop_drop];exact mvL_append (mvL_append hm1 m1) hm2
    have hown:=rd_all hrd hmfill;have hlen:=ownT_len hown;have hr:=run_storeAt hT (off:=off+n*sh.n+j) (us:=cur.toList) (by simpa using hg2) (all_one hal) (by rw [hml,hwl]) (by omega)
    refine wp_skipped (by
      show (execOp a.eval o).run E.P w= .ok .skip _
      simp only [execOp,ho,hb2,hs1,<-Nat.add_assoc,aY,hr,oZ,Sem.run_pure];rfl) ?_
    rw [hput];have hBL:∀b ∈ B,b ∈ Lf hh:=fun b hb=>by rw [hg6,hABD];simp [hb]
    have hB1:∀b ∈ B1,b ∈ B:=fun b hb=>by rw [hB];simp [hb]
    have hB4:∀b ∈ B4,b ∈ B:=fun b hb=>by rw [hB,hB'];simp [hb]
    have:=C1 _ z (B1++Lw++B4) hlen (fun w' hk=>ownT_world sh z _ _ hk hown) (fun b hb=>by
      simp only [wZ] at hb;rcases hb with (hb | hb) | hb
      · exact .inr (hB1 b hb)
      · exact .inl hb
      · exact .inr (hB4 b hb)) (by
      rw [hB,hB'] at hndB;obtain ⟨q1,q2,q3⟩:=qZ.1 hndB;obtain ⟨q4,q5,q6⟩:=qZ.1 q2;refine qZ.2 ⟨qZ.2 ⟨q1,m5,?_⟩,q5,?_⟩
      · rintro b hb b' hb' rfl
        exact hLw b hb' (hBL b (hB1 b hb))
      · rintro b hb b' hb' rfl
        rcases wZ.1 hb with hb | hb
        · exact q3 b hb b (eZ _ hb') rfl
        · exact hLw b hb (hBL b (hB4 b hb'))) h
    rw [fill_part (us:=[]) (by rw [hml,hwl];exact hjf) (by omega),<-List.drop_drop]
    exact this
theorem settle_sim:∀(cs ds:List C) (us:List Value) (st st1:St) (β:Nat->Value) (Lf:Nat->List Nat),Sim G w0 st a w β Lf->All2 (VC w (imm G st Lf) β) cs us->(∀c ∈ cs,C.lt st.nx c)->st.settle cs=some (ds,st1)->
    ∃β' Lf',Sim G w0 st1 a w β' Lf'/\All2 (VC w (imm G st1 Lf') β') ds us/\(∀c ∈ ds,C.lt st1.nx c)/\st1.sl=st.sl/\st1.nt=st.nt/\st.nx<=st1.nx/\(∀h,h<st.nx->β' h=β h)/\(∀k,imm G st Lf k->imm G st1 Lf' k)
  | [],ds,us,st,st1,β,Lf,S,h,hlt,hm=>by
    simp only [St.settle,nZ,Prod.mk.injEq] at hm;obtain ⟨rfl,rfl⟩:=hm;exact ⟨β,Lf,S,h,hlt,rfl,rfl,cY _,fun _ _=>rfl,fun _ h=>h⟩
  | c::cs,ds,us,st,st1,β,Lf,S,h,hlt,hm=>by
    cases us with
    | nil=>simp [All2] at h
    | cons u us=>
    obtain ⟨hc,h⟩:=h;have hltc:=hlt c (by simp)
    have hltr:∀c ∈ cs,C.lt st.nx c:=fun d hd=>hlt d (fZ _ hd)
    have keep:∀(st2:St) (ys:List C),st.settle cs=some (ys,st2)->∃β' Lf',Sim G w0 st2 a w β' Lf'/\All2 (VC w (imm G st2 Lf') β') (c::ys) (u::us)/\(∀d ∈ c::ys,C.lt st2.nx d)/\st2.sl=st.sl/\st2.nt=st.nt/\st.nx<=st2.nx/\(∀h,h<st.nx->β' h=β h)/\(∀k,imm G st Lf k->imm G st2 Lf' k):=by
      intro st2 ys h2;obtain ⟨β',Lf',g1,g2,g3,g4,g5,g6,g7,g8⟩:=settle_sim cs ys us st st2 β Lf S h hltr h2;refine ⟨β',Lf',g1,⟨hc.step (fun k hk _=>⟨g8 k hk,rfl⟩) fun n hn=>g7 n (hltc n hn),g2⟩,fun d hd=> ?_,g4,g5,g6,g7,g8⟩
      rcases zZ.1 hd with rfl | hd
      · exact fun n hn=>jZ (hltc n hn) g6
      · exact g3 d hd
    by_cases hsub:∃hh sz lo hi,c= .sub hh sz lo hi
    · obtain ⟨hh,sz,lo,hi,rfl⟩:=hsub;simp only [St.settle] at hm;split at hm;rotate_left;cases hm
      rename_i e sh xs hob;split at hm;rotate_left;cases hm
      rename_i hsz;subst hsz;split at hm;rotate_left;cases hm
      rename_i ys st2 h2;simp only [nZ,Prod.mk.injEq] at hm;obtain ⟨rfl,rfl⟩:=hm;obtain ⟨A,n',c',hb0,hlh,hhn,hnc,hu⟩:VC w (imm G st Lf) β (.sub hh sh.n lo hi) u:=hc;have hor:ownRow w e sh.n (ownT w sh) xs (β hh) (Lf hh):=S.obs _ _ hob;rw [hb0] at hor;obtain ⟨L0,g1,g2,g3⟩:=ownRow_part hor hlh hhn;rw [<-hu] at g1;have hsub:∀n o,look (del hh st.ob) n=some o->look st.ob n=some o:=fun n o ho=>(look_del ho).2
      have S1:=S.put_new (ob':=del hh st.ob) hsub (w':=w) (o:= .arr e sh ((xs.take hi).drop lo)) (u:=u) (L:=L0) (Chg.refl _ w) (fun b hb=> .inr ⟨hh,_,hob,g2 b hb⟩)
        (fun h o ho b hb hm=>S.disj h o hh _ (hsub h o ho) hob (look_del ho).1 b hb (g2 b hm)) (g3 (S.nodup _ _ hob)) trivial g1
      have himm:∀k,imm G st Lf k->imm G { st with ob:=put st.nx (.arr e sh ((xs.take hi).drop lo)) (del hh st.ob),nx:=st.nx+1 } (upd Lf st.nx L0) k:=fun k hk=>⟨hk.1,fun n o hn hm=>by
        simp only at hn
        by_cases e1:n=st.nx
        · subst e1;rw [Z2] at hm;exact hk.2 hh _ hob (g2 k hm)
        · rw [look_put_ne _ _ e1] at hn;rw [upd_ne _ _ e1] at hm;exact hk.2 n o (hsub n o hn) hm⟩
      have hr:=h.imp fun d hd v hv=>hv.step (fun k hk _=>⟨himm k hk,rfl⟩) fun n hn=>upd_lt β u (hltr d hd n hn)
      obtain ⟨β',Lf',k1,k2,k3,k4,k5,k6,k7,k8⟩:=settle_sim cs ys us _ st2 _ _ S1 hr (fun d hd n hn=>Nat.lt_succ_of_lt (hltr d hd n hn)) h2
      simp only at k4 k5 k6 k7
      refine ⟨β',Lf',k1,⟨⟨by rw [k7 _ (Nat.lt_succ_self _),Z2],_,_,_,hu⟩,k2⟩,fun d hd=> ?_,k4,k5,by omega,fun n hn=>by rw [k7 n (by omega),upd_lt _ _ hn],fun k hk=>k8 k (himm k hk)⟩
      rcases zZ.1 hd with rfl | hd
      · intro n hn;simp [C.hs] at hn;omega
      · exact k3 d hd
    · cases c<;>simp only [St.settle] at hm
      case sub hh sz lo hi=>exact absurd ⟨hh,sz,lo,hi,rfl⟩ hsub
      all_goals
        split at hm;rotate_left;cases hm
        rename_i ys st2 h2;cases hm
        exact keep _ _ h2
theorem eff_store (hE:EnvOk E) (S:Sim G w0 st a w β Lf) {t:TypeId} {ad x:Operand} (ho:o.op= .store t ad x) (h:eff E call st o K=some r) (hX:∀st' a' w',SimE G w0 st' a' w'->K st'=some r->X a' w'):o.wp E.P a w X Q:=by
 simp only [eff,ho] at h;split at h
 · cases h
 rename_i hsome;have hd:o.dst=none:=by simpa using hsome
 have hput:∀u,a.put o.dst u=a:=by intro u;rw [hd];rfl
 split at h
 · rename_i i hh off v hi had hx;have hT:=hE.ty _ _ hi;split at h;rotate_left;cases h
   rename_i vs0 hvs;split at h
   case h_2=>cases h
   rename_i vs st hset;obtain ⟨hxa,hxlt⟩:=S.ev hx;obtain ⟨β,Lf,S,hal,hvlt,hsl,_,hnx,_,_⟩:=settle_sim vs0 vs _ _ _ _ _ S (cs_VA hxa hvs) (cs_lt hxlt hvs) hset;have had:st.ev ad=some (.c (.ptr hh off)):=by rw [<-had];cases ad<;>simp [St.ev,hsl]
   split at h;rotate_left;cases h
   rename_i cs hob;split at h;rotate_left;cases h
   rename_i hlen;split at h;rotate_left;cases h
   rename_i hfit;have hva:VC w (imm G st Lf) β (.ptr hh off) (a.eval ad):=(S.ev had).1;obtain ⟨b,hb1,hb2⟩:=hva;obtain ⟨b',ty,us,hb3,hb4,hb5,hb6⟩:=S.obs _ _ hob;rw [hb1] at hb3
   injection hb3 with hb3
   injection hb3 with hb3
   cases hb3
   have hul:=hb6.len;have hvl:=hal.len;have hr:=run_storeAt hT hb5 (all_one hal) (by rw [<-hvl,hlen]) (by rw [<-hul];exact hfit)
   refine wp_skipped (w':=w.setRow b (fillAt us off (a.eval x).cells.toList).toArray) (by simp [execOp,ho,hb2,hr]) ?_
   rw [hput];have S':=S.mod (ob':=st.ob) (fun _ _ h=>h) (w':=w.setRow b (fillAt us off (a.eval x).cells.toList).toArray) (h:=hh) (o:= .var (fillAt cs off vs)) (L:=[b]) hob (by rw [hb4];exact Chg.setRow w b _)
    (fun k hk=> .inl (by rw [hb4];exact hk)) (fun h' o ho' hne k hk=>by rw [<-hb4];exact S.disj h' o hh _ ho' hob hne k hk) (by simp) ?_
    ⟨b,ty,_,hb1,rfl,setRow_heap w b _ _ ty _ hb5,?_⟩
   · exact hX _ _ _ ⟨_,_,S'⟩ h
   · intro c hc;unfold fillAt at hc;simp only [wZ] at hc;rcases hc with (hc | hc) | hc
     · exact (S.olt _ _ hob).2 c (List.mem_of_mem_take hc)
     · exact hvlt c hc
     · exact (S.olt _ _ hob).2 c (List.mem_of_mem_drop hc)
   · have hstep:∀c ∈ cs++vs,∀u,VC w (imm G st Lf) β c u->VC (w.setRow b (fillAt us off (a.eval x).cells.toList).toArray) (imm G st Lf) β c u:=by
      intro c _ u hu;refine hu.step (fun k hk hlt=>⟨hk,setRow_other w b k _ ?_⟩) fun _ _=>rfl
      rintro rfl
      exact hk.2 _ _ hob (by rw [hb4];simp)
     have h1:=hb6.imp fun c hc u hu=>hstep c (gZ _ hc) u hu
     have h2:=hal.imp fun c hc u hu=>hstep c (eZ _ hc) u hu
     unfold fillAt;rw [hvl];exact ((h1.take off).append h2).append (h1.drop _)
 · rename_i i hh sz n j v hi had hx;split at h;rotate_left;cases h
   rename_i vs hvs;split at h;rotate_left;cases h
   rename_i ws st1 hmv0;obtain ⟨st0,hcl,hmv⟩:=Option.bind_eq_some_iff.1 hmv0;obtain ⟨⟨β',Lf',S0⟩,hst0⟩:=close1_sim ⟨_,_,S⟩ hcl;have hsl:st0.sl=st.sl:=by rw [hst0]
   exact store_el hE S0 ho hput hi (by rw [<-had];cases ad<;>simp [St.ev,hsl]) (by rw [<-hx];cases x<;>simp [St.ev,hsl]) hvs hmv h hX
 · cases h
end
end Go.V
namespace Go.V
open Go.RowKit (Below)
def resO (w:World):(fs:List Sh)->TyL fs->List Value->List Nat->Prop
 | [],_,us,L=>us=[]/\L=[]
 | [f],x,us,L=>∃cs,us=[valOf f.agg cs]/\ownT w f x cs L
 | f::g::r,x,us,L=>∃cs vs L1 L2,us=valOf f.agg cs::vs/\L=L1++L2/\ownT w f x.1 cs L1/\resO w (g::r) x.2 vs L2
def resR (w:World) (ok:Nat->Prop):(fs:List Sh)->TyL fs->List Value->Prop
 | [],_,us=>us=[]
 | [f],x,us=>∃cs,us=[valOf f.agg cs]/\repT w ok f x cs
 | f::g::r,x,us=>∃cs vs,us=valOf f.agg cs::vs/\repT w ok f x.1 cs/\resR w ok (g::r) x.2 vs
def RV (us:List Value) (v:Value):Prop:=match us with
 | [u]=>v=u
 | us=>v= .tuple us.toArray
def rowsV:List (Option Sh)->List Value->List Value
 | some _::t,u::us=>u.cells.toList.filter slV++rowsV t us
 | none::t,_::us=>rowsV t us
 | _,_=>[]
def ResOk (G:Nat->Prop) (w w':World) (L0:List Nat) (V:List Value) (r:RSh) (p:RTy r) (v:Value):Prop:=
 ∃us,RV (us.take (us.length-r.io)) v/\us.drop (us.length-r.io)=V.take r.io/\if r.own then ∃L,resO w' r.shs p us L/\L.Nodup/\∀b ∈ L,(w.heap.size<=b\/b ∈ L0)/\b<w'.heap.size else resR w' (fun k=>k<w.heap.size->G k\/k ∈ L0) r.shs p us
def Enterable (P : Program) (f : Nat) : Prop := ∃ fn, P.funcs[f]? = some fn /\ fn.name ≠ "runtime.NumGoroutine" /\ fn.body.isNone = false
def ArgsT (w:World) (G:Nat->Prop):List (Option Sh)->List AV->List Value->List Nat->Prop
 | [],xs,us,L=>All2 (VA w G fun _=>undef) xs us/\(∀x ∈ xs,AV.lt 0 x)/\L=[]
 | _::_,[],_,_=>False
 | some sh::t,x::xs,us,L=>∃u vs,us=u::vs/\∃(y:Ty sh) (cs:List Value) (L1 L2:List Nat),rd sh x.cells=some (y,[])/\u=valOf sh.agg cs/\ownT w sh y cs L1/\L=L1++L2/\ArgsT w G t xs vs L2
 | none::t,x::xs,us,L=>∃u vs,us=u::vs/\VA w G (fun _=>undef) x u/\AV.lt 0 x/\ArgsT w G t xs vs L
theorem ArgsT.len {w:World} {G:Nat->Prop}:∀{t:List (Option Sh)} {xs:List AV} {us:List Value} {L:List Nat},ArgsT w G t xs us L->xs.length=us.length
  | [],xs,us,L,h=>h.1.len
  | _::_,[],us,L,h=>h.elim
  | some sh::t,x::xs,us,L,h=>by
    obtain ⟨u,vs,rfl,y,cs,L1,L2,_,_,_,_,h⟩:=h;simp [h.len]
  | none::t,x::xs,us,L,h=>by
    obtain ⟨u,vs,rfl,_,_,h⟩:=h;simp [h.len]
theorem ArgsT.append {w:World} {G:Nat->Prop} {ys:List AV} {vs:List Value} (hy:All2 (VA w G fun _=>undef) ys vs) (hl:∀x ∈ ys,AV.lt 0 x):∀{t:List (Option Sh)} {xs:List AV} {us:List Value} {L:List Nat},ArgsT w G t xs us L->ArgsT w G t (xs++ys) (us++vs) L
  | [],xs,us,L,h=>⟨h.1.append hy,fun x hx=>by rcases wZ.1 hx with hx | hx;exact h.2.1 x hx;exact hl x hx,h.2.2⟩
  | _::_,[],us,L,h=>h.elim
  | some sh::t,x::xs,us,L,h=>by
    obtain ⟨u,ws,rfl,y,cs,L1,L2,h1,h2,h3,h4,h⟩:=h;exact ⟨u,ws++vs,rfl,y,cs,L1,L2,h1,h2,h3,h4,h.append hy hl⟩
  | none::t,x::xs,us,L,h=>by
    obtain ⟨u,ws,rfl,h1,h2,h⟩:=h;exact ⟨u,ws++vs,rfl,h1,h2,h.append hy hl⟩
def TabW (E:Env) (w:World) (L0:List Nat):Prop:=∀p ∈ E.tab,(∃ty fr,w.heap[p.1]? =some (.cells p.2 ty fr))/\p.1 ∉ L0
def Sound1 (E:Env) (f:Nat) (g:List AV->Option (RTy (E.rs f))):Prop:=
 ∀xs p,g xs=some p->Enterable E.P f/\∀(G:Nat->Prop) (w:World) (us:List Value) (L0:List Nat),TabW E w L0->ArgsT w G (E.tk f) xs us L0->L0.Nodup->(∀b ∈ L0,b<w.heap.size/\¬G b)->
  Calls E.P f us.toArray w fun e w'=>∃v,e= .returned v/\Chg L0 w w'/\ResOk G w w' L0 (rowsV (E.tk f) us) (E.rs f) p v
def CallOk (E:Env) (call:CallD E):Prop:=∀f,Sound1 E f (call f)
structure CallAt (E:Env) (call:CallD E) (w0:Base):Prop where
 ok:CallOk E call
 tab:TabW E w0.w w0.T
theorem TabW.at {E:Env} {G:Nat->Prop} {w0:Base} {st:St} {a:Act} {w:World} {β:Nat->Value} {Lf:Nat->List Nat} (h:TabW E w0.w w0.T) (S:Sim G w0 st a w β Lf) {L:List Nat} (hL:∀b ∈ L,w0.w.heap.size<=b\/b ∈ w0.T):TabW E w L:=by
 intro p hp;obtain ⟨⟨ty,fr,h1⟩,h2⟩:=h p hp;have h3:p.1<w0.w.heap.size:=(bZ.1 h1).1
 refine ⟨⟨ty,fr,(S.below.block p.1 h3 h2).trans h1⟩,fun hm=> ?_⟩
 rcases hL _ hm with h4 | h4
 · omega
 · exact h2 h4
def VS (β:Nat->Value):C->Value->Prop
 | .ref h,u=>u=β h/\∃A n c,u= .slice A n c
 | .v x,u=>u=x/\x.oneCell'=true
 | _,_=>False
theorem VS.vc {w:World} {ok:Nat->Prop} {β:Nat->Value} {c:C} {u:Value} (h:VS β c u):VC w ok β c u:=by
 cases c<;>simp only [VS] at h
 case v x=>show rep w ok (.v x) u;simpa only [rep] using h
 case ref=>exact h
theorem VS.up {β β':Nat->Value} {c:C} {u:Value} {n:Nat} (h:VS β c u) (hn:c.lt n) (hβ:∀h,h<n->β' h=β h):VS β' c u:=by
 cases c<;>simp only [VS] at h ⊢
 case v x=>exact h
 case ref m=>rw [hβ m (hn m (by simp [C.hs]))];exact h
theorem ownRow_slice {α:Type} {w:World} {e n:Nat} {R:α->List Value->List Nat->Prop} {xs:List α} {u:Value} {L:List Nat} (h:ownRow w e n R xs u L):∃A n c,u= .slice A n c:=by
 rcases h with ⟨_,_,A,rfl⟩ | ⟨g,off,cap,cur,L',rfl,_⟩
 · exact ⟨A,0,0,rfl⟩
 · exact ⟨_,_,_,rfl⟩
theorem putAll_append {α:Type}:∀(xs ys l:List (Nat×α)),putAll (xs++ys) l=putAll ys (putAll xs l)
 | [],_,_=>rfl
 | (k,v)::r,ys,l=>putAll_append r ys (put k v l)
section
variable {E:Env} {G:Nat->Prop} {w0:Base} {st:St} {a:Act} {w:World} {β:Nat->Value} {Lf:Nat->List Nat} {R:Type} {r:R} {o:Oper} {call:CallD E} {K:St->Option R} {X:Act->World->Prop} {Q:Exit->Act->World->Prop}
structure Free (G:Nat->Prop) (st:St) (a:Act) (w:World) (β:Nat->Value) (Lf:Nat->List Nat) (L:List Nat):Prop where
 sl:∀t v,look st.sl t=some v->VA w (fun k=>imm G st Lf k/\k ∉ L) β v (a.tmps.getD t undef)
 ob:∀h o,look st.ob h=some o->OB w (fun k=>imm G st Lf k/\k ∉ L) β o (β h) (Lf h)
 dj:∀h o,look st.ob h=some o->∀b ∈ Lf h,b ∉ L
theorem Sim.add_free (S:Sim G w0 st a w β Lf) {L1 L2:List Nat} (F:Free G st a w β Lf (L1++L2)) {e:Nat} {sh:Sh} {xs:List (Ty sh)} {u:Value} (hn:∀b ∈ L1,(w0.w.heap.size<=b\/b ∈ w0.T)/\b<w.heap.size) (hnd:(L1++L2).Nodup)
 (hO:ownRow w e sh.n (ownT w sh) xs u L1):
 Sim G w0 { st with ob:=put st.nx (.arr e sh xs) st.ob,nx:=st.nx+1 } a w (upd β st.nx u) (upd Lf st.nx L1)/\Free G { st with ob:=put st.nx (.arr e sh xs) st.ob,nx:=st.nx+1 } a w (upd β st.nx u) (upd Lf st.nx L1) L2:=by
 have hnd':=qZ.1 hnd;have himm1:∀k,(imm G st Lf k/\k ∉ L1++L2)->k<w.heap.size->(imm G st Lf k/\k ∉ L1)/\w.heap[k]? =w.heap[k]? :=fun k hk _=>⟨⟨hk.1,fun hm=>hk.2 (gZ _ hm)⟩,rfl⟩
 have key:∀h o',look (put st.nx (.arr e sh xs) st.ob) h=some o'->(h=st.nx/\o'= .arr e sh xs)\/(h<st.nx/\look st.ob h=some o'):=by
  intro h o' ho;by_cases e1:h=st.nx
  · subst e1;rw [E1] at ho;exact .inl ⟨rfl,(xZ ho).symm⟩
  · rw [look_put_ne _ _ e1] at ho;exact .inr ⟨(S.olt h o' ho).1,ho⟩
 have himm2:∀k,(imm G st Lf k/\k ∉ L1++L2)->k<w.heap.size->(imm G { st with ob:=put st.nx (.arr e sh xs) st.ob,nx:=st.nx+1 } (upd Lf st.nx L1) k/\k ∉ L2)/\w.heap[k]? =w.heap[k]? :=by
  intro k hk _;refine ⟨⟨⟨hk.1.1,fun h o' ho=> ?_⟩,fun hm=>hk.2 (eZ _ hm)⟩,rfl⟩
  rcases key h o' ho with ⟨rfl,rfl⟩ | ⟨hl,ho⟩
  · rw [Z2];exact fun hm=>hk.2 (gZ _ hm)
  · rw [upd_lt _ _ hl];exact hk.1.2 h o' ho
 have hβ:∀h,h<st.nx->upd β st.nx u h=β h:=fun h hh=>upd_lt _ _ hh
 refine ⟨S.add hn (fun h o ho b hb hm=>F.dj h o ho b hb (gZ _ hm)) hnd'.1 trivial (fun t v ht=>(F.sl t v ht).step (S.slt t v ht) himm1 fun _ _=>rfl)
  (fun h o ho=>(F.ob h o ho).step (S.olt h o ho).2 himm1 (fun _ _=>rfl) fun _ _=>rfl) hO,?_,?_,?_⟩
 · exact fun t v ht=>(F.sl t v ht).step (S.slt t v ht) himm2 hβ
 · intro h o' ho;rcases key h o' ho with ⟨rfl,rfl⟩ | ⟨hl,ho⟩
   · rw [Z2,Z2];exact hO
   · rw [upd_lt _ _ hl,upd_lt _ _ hl];exact (F.ob h o' ho).step (S.olt h o' ho).2 himm2 (fun _ _=>rfl) hβ
 · intro h o' ho b hb;rcases key h o' ho with ⟨rfl,rfl⟩ | ⟨hl,ho⟩
   · rw [Z2] at hb;exact fun hm=>hnd'.2.2 b hb b hm rfl
   · rw [upd_lt _ _ hl] at hb;exact fun hm=>F.dj h o' ho b hb (eZ _ hm)
def Added (G:Nat->Prop) (w0:Base) (st:St) (a:Act) (w:World) (β:Nat->Value) (cs:List C) (os:List (Nat×Ob)) (n:Nat) (us:List Value) (L2:List Nat):Prop:=
 ∃β' Lf',Sim G w0 { st with ob:=putAll os st.ob,nx:=n } a w β' Lf'/\Free G { st with ob:=putAll os st.ob,nx:=n } a w β' Lf' L2/\All2 (VS β') cs us/\(∀c ∈ cs,C.lt n c)/\(∀h,h<st.nx->β' h=β h)/\st.nx<=n
theorem added_none {L2:List Nat} (S:Sim G w0 st a w β Lf) (F:Free G st a w β Lf L2) {cs:List C} {us:List Value} (h:All2 (VS β) cs us) (hl:∀c ∈ cs,C.lt st.nx c):Added G w0 st a w β cs [] st.nx us L2:=
 ⟨β,Lf,S,F,h,hl,fun _ _=>rfl,cY _⟩
theorem lt_v' (n:Nat) (x:Value):C.lt n (.v x):=by intro h hh;simp [C.hs] at hh
theorem C.lt_up {c:C} {n m:Nat} (h:c.lt n) (hm:n<=m):c.lt m:=fun x hx=>jZ (h x hx) hm
mutual
theorem oavs_sound:(sh:Sh)->(x:Ty sh)->(us:List Value)->(L1 L2:List Nat)->(st:St)->(β:Nat->Value)->(Lf:Nat->List Nat)->Sim G w0 st a w β Lf->Free G st a w β Lf (L1++L2)->(L1++L2).Nodup->(∀b ∈ L1,(w0.w.heap.size<=b\/b ∈ w0.T)/\b<w.heap.size)->
    ownT w sh x us L1->Added G w0 st a w β (oavs sh x st.nx).1 (oavs sh x st.nx).2.1 (oavs sh x st.nx).2.2 us L2
  | .b,x,us,L1,L2,st,β,Lf,S,F,hnd,hn,h=>by
    simp only [ownT] at h;obtain ⟨rfl,rfl⟩:=h;exact added_none S F ⟨⟨rfl,rfl⟩,trivial⟩ (by simp [oavs,lt_v'])
  | .i k,x,us,L1,L2,st,β,Lf,S,F,hnd,hn,h=>by
    simp only [ownT] at h;obtain ⟨rfl,rfl⟩:=h;exact added_none S F ⟨⟨rfl,rfl⟩,trivial⟩ (by simp [oavs,lt_v'])
  | .s,x,us,L1,L2,st,β,Lf,S,F,hnd,hn,h=>by
    simp only [ownT] at h;obtain ⟨rfl,rfl⟩:=h;exact added_none S F ⟨⟨rfl,rfl⟩,trivial⟩ (by simp [oavs,lt_v'])
  | .l e sh,x,us,L1,L2,st,β,Lf,S,F,hnd,hn,h=>by
    simp only [ownT] at h;obtain ⟨u,rfl,h⟩:=h;obtain ⟨S',F'⟩:=S.add_free F hn hnd h;refine ⟨_,_,S',F',⟨⟨(Z2 _ _ _).symm,ownRow_slice h⟩,trivial⟩,?_,fun h hh=>upd_lt _ _ hh,Nat.le_succ _⟩
    intro c hc;simp only [oavs,kZ] at hc;subst hc;intro h hh;simp [C.hs] at hh;subst hh;exact Nat.lt_succ_self _
  | .a fs,x,us,L1,L2,st,β,Lf,S,F,hnd,hn,h=>by
    simp only [ownT] at h;simp only [oavs];exact oavsL_sound fs x us L1 L2 st β Lf S F hnd hn h
theorem oavsL_sound:(fs:List Sh)->(x:TyL fs)->(us:List Value)->(L1 L2:List Nat)->(st:St)->(β:Nat->Value)->(Lf:Nat->List Nat)->Sim G w0 st a w β Lf->Free G st a w β Lf (L1++L2)->(L1++L2).Nodup->(∀b ∈ L1,(w0.w.heap.size<=b\/b ∈ w0.T)/\b<w.heap.size)->
    ownTL w fs x us L1->Added G w0 st a w β (oavsL fs x st.nx).1 (oavsL fs x st.nx).2.1 (oavsL fs x st.nx).2.2 us L2
  | [],x,us,L1,L2,st,β,Lf,S,F,hnd,hn,h=>by
    simp only [ownTL] at h;obtain ⟨rfl,rfl⟩:=h;exact added_none S F trivial (by simp [oavsL])
  | [f],x,us,L1,L2,st,β,Lf,S,F,hnd,hn,h=>by
    simp only [ownTL] at h;simp only [oavsL];exact oavs_sound f x us L1 L2 st β Lf S F hnd hn h
  | f::g::r,x,us,L1,L2,st,β,Lf,S,F,hnd,hn,h=>by
    simp only [ownTL] at h;obtain ⟨vs,ws,La,Lb,rfl,rfl,h1,h2⟩:=h;rw [List.append_assoc] at F hnd;obtain ⟨β1,Lf1,S1,F1,g1,g2,g3,g4⟩:=oavs_sound f x.1 vs La (Lb++L2) st β Lf S F hnd (fun b hb=>hn b (gZ _ hb)) h1
    obtain ⟨β2,Lf2,S2,F2,k1,k2,k3,k4⟩:=oavsL_sound (g::r) x.2 ws Lb L2 _ β1 Lf1 S1 F1 (qZ.1 hnd).2.1 (fun b hb=>hn b (eZ _ hb)) h2
    simp only [oavsL];simp only at S2 F2 k1 k2 k3 k4
    refine ⟨β2,Lf2,?_,?_,(g1.imp fun c hc u hu=>hu.up (g2 c hc) k3).append k1,?_,fun h hh=>(k3 h (jZ hh g4)).trans (g3 h hh),bY g4 k4⟩
    · rw [putAll_append];exact S2
    · rw [putAll_append];exact F2
    · intro c hc;rcases wZ.1 hc with hc | hc
      · exact C.lt_up (g2 c hc) k4
      · exact k2 c hc
end
end
end Go.V
namespace Go.V
open Go.RowKit (Below)
theorem agg_n {f:Sh} (h:f.agg=false):f.n=1:=by cases f<;>simp_all [Sh.agg,Sh.n]
theorem rep_hs {w:World} {ok:Nat->Prop} {c:C} {u:Value} (h:rep w ok c u):c.hs=[]:=by
 cases c<;>first | rfl | simp only [rep] at h
theorem rep_lt {w:World} {ok:Nat->Prop} {c:C} {u:Value} (n:Nat) (h:rep w ok c u):C.lt n c:=by
 intro x hx;rw [rep_hs h] at hx;simp at hx
theorem still_hs {c:C} (h:c.still=true):c.hs=[]:=by cases c<;>first | rfl | simp [C.still] at h
theorem resAV_sound {w:World} {ok:Nat->Prop} {β:Nat->Value} {vs:List (Bool×List C)} {us:List Value} {v:AV} {u:Value} (h:resAV vs=some v) (hv:All2 (fun p u=>VP w ok β p.1 p.2 u) vs us) (hr:RV us u):VA w ok β v u:=by
  have hl:=hv.len;unfold resAV at h;split at h
  · rename_i b cs
    match us,hl with
    | [u'],_=>
      have hr':u=u':=hr;rw [hr'];exact pack_VA h hv.1
  · rename_i xs hne;cases h
    match us,hl with
    | [],hl=>exact ⟨[],hr,hv⟩
    | [u'],hl=>
      match vs,hl with
      | [p],_=>exact absurd rfl (hne p.1 p.2)
    | u1::u2::r,hl=>exact ⟨_,hr,hv⟩
theorem resAV_lt {vs:List (Bool×List C)} {v:AV} {n:Nat} (h:resAV vs=some v) (hl:∀p ∈ vs,∀c ∈ p.2,C.lt n c):v.lt n:=by
 unfold resAV at h;split at h
 · rename_i b cs;exact pack_lt h (hl (b,cs) (by simp))
 · cases h
   exact hl
theorem resBor_sound {w:World} {ok:Nat->Prop} {β:Nat->Value}:(fs:List Sh)->(x:TyL fs)->(us:List Value)->resR w ok fs x us->All2 (fun p u=>VP w ok β p.1 p.2 u) (resBor fs x) us
  | [],_,us,h=>by simp only [resR] at h;subst h;trivial
  | [f],x,us,h=>by
    simp only [resR] at h;obtain ⟨cs,rfl,h⟩:=h;have hr:=rep_avs f x cs h;exact ⟨VP_valOf (All2.of_repL hr) (fun hb=>by rw [<-repL_len hr,repT_len f x cs h];exact agg_n hb),trivial⟩
  | f::g::r,x,us,h=>by
    simp only [resR] at h;obtain ⟨cs,vs,rfl,h,h2⟩:=h;have hr:=rep_avs f x.1 cs h;exact ⟨VP_valOf (All2.of_repL hr) (fun hb=>by rw [<-repL_len hr,repT_len f x.1 cs h];exact agg_n hb),resBor_sound (g::r) x.2 vs h2⟩
theorem resBor_lt (n:Nat):(fs:List Sh)->(x:TyL fs)->∀p ∈ resBor fs x,∀c ∈ p.2,C.lt n c
  | [],_=>by simp [resBor]
  | [f],x=>by
    intro p hp;simp only [resBor,kZ] at hp;subst hp;exact avs_lt n f x
  | f::g::r,x=>by
    intro p hp;simp only [resBor,zZ] at hp;rcases hp with rfl | hp
    · exact avs_lt n f x.1
    · exact resBor_lt n (g::r) x.2 p (by simpa [resBor] using hp)
theorem resO_reads {w:World} {ok:Nat->Prop}:(fs:List Sh)->(x:TyL fs)->(us:List Value)->(L:List Nat)->(∀b ∈ L,ok b)->resO w fs x us L->resR w ok fs x us
  | [],_,us,L,hL,h=>by simp only [resO] at h;exact h.1
  | [f],x,us,L,hL,h=>by
    simp only [resO] at h;obtain ⟨cs,rfl,h⟩:=h;exact ⟨cs,rfl,ownT_reads f x cs L hL h⟩
  | f::g::r,x,us,L,hL,h=>by
    simp only [resO] at h;obtain ⟨cs,vs,L1,L2,rfl,rfl,h,h2⟩:=h;exact ⟨cs,vs,rfl,ownT_reads f x.1 cs L1 (fun b hb=>hL b (gZ _ hb)) h,resO_reads (g::r) x.2 vs L2 (fun b hb=>hL b (eZ _ hb)) h2⟩
theorem resR_imp {w:World} {ok ok':Nat->Prop} (hok:∀k,ok k->k<w.heap.size->ok' k):(fs:List Sh)->(x:TyL fs)->(us:List Value)->resR w ok fs x us->resR w ok' fs x us
  | [],_,us,h=>h
  | [f],x,us,h=>by
    obtain ⟨cs,rfl,h⟩:=h;exact ⟨cs,rfl,repT_step (fun k hk hlt=>⟨hok k hk hlt,rfl⟩) f x cs h⟩
  | f::g::r,x,us,h=>by
    obtain ⟨cs,vs,rfl,h,h2⟩:=h;exact ⟨cs,vs,rfl,repT_step (fun k hk hlt=>⟨hok k hk hlt,rfl⟩) f x.1 cs h,resR_imp hok (g::r) x.2 vs h2⟩
theorem resR_flat {w:World} {ok ok':Nat->Prop}:(fs:List Sh)->(x:TyL fs)->(us:List Value)->Sh.flatL fs=true->resR w ok fs x us->resR w ok' fs x us
  | [],_,us,_,h=>h
  | [f],x,us,hf,h=>by
    obtain ⟨cs,rfl,h⟩:=h;exact ⟨cs,rfl,repT_flat f x cs (by simpa [Sh.flatL] using hf) h⟩
  | f::g::r,x,us,hf,h=>by
    rw [Sh.flatL,sZ] at hf;obtain ⟨cs,vs,rfl,h,h2⟩:=h;exact ⟨cs,vs,rfl,repT_flat f x.1 cs hf.1 h,resR_flat (g::r) x.2 vs hf.2 h2⟩
section
variable {E:Env} {G:Nat->Prop} {w0:Base} {st:St} {a:Act} {w:World} {β:Nat->Value} {Lf:Nat->List Nat} {R:Type} {r:R} {o:Oper} {call:CallD E} {K:St->Option R} {X:Act->World->Prop} {Q:Exit->Act->World->Prop}
theorem resOwn_sound:(fs:List Sh)->(x:TyL fs)->(us:List Value)->(L1 L2:List Nat)->(st:St)->(β:Nat->Value)->(Lf:Nat->List Nat)->Sim G w0 st a w β Lf->Free G st a w β Lf (L1++L2)->(L1++L2).Nodup->(∀b ∈ L1,(w0.w.heap.size<=b\/b ∈ w0.T)/\b<w.heap.size)->
    resO w fs x us L1->∃β' Lf',Sim G w0 { st with ob:=putAll (resOwn fs x st.nx).2.1 st.ob,nx:=(resOwn fs x st.nx).2.2 } a w β' Lf'/\
      All2 (fun p u=>∃cs,u=valOf p.1 cs/\All2 (VS β') p.2 cs/\(p.1=false->p.2.length=1)) (resOwn fs x st.nx).1 us/\(∀p ∈ (resOwn fs x st.nx).1,∀c ∈ p.2,C.lt (resOwn fs x st.nx).2.2 c)/\(∀h,h<st.nx->β' h=β h)/\st.nx<=(resOwn fs x st.nx).2.2
  | [],x,us,L1,L2,st,β,Lf,S,F,hnd,hn,h=>by
    simp only [resO] at h;obtain ⟨rfl,rfl⟩:=h;exact ⟨β,Lf,S,trivial,by simp [resOwn],fun _ _=>rfl,cY _⟩
  | [f],x,us,L1,L2,st,β,Lf,S,F,hnd,hn,h=>by
    simp only [resO] at h;obtain ⟨cs,rfl,h⟩:=h;obtain ⟨β1,Lf1,S1,F1,g1,g2,g3,g4⟩:=oavs_sound f x cs L1 L2 st β Lf S F hnd hn h;refine ⟨β1,Lf1,S1,⟨⟨cs,rfl,g1,fun hb=> ?_⟩,trivial⟩,?_,g3,g4⟩
    · rw [g1.len,ownT_len h];exact agg_n hb
    · intro p hp;simp only [resOwn,kZ] at hp;subst hp;exact g2
  | f::g::r,x,us,L1,L2,st,β,Lf,S,F,hnd,hn,h=>by
    simp only [resO] at h;obtain ⟨cs,ws,La,Lb,rfl,rfl,h1,h2⟩:=h;rw [List.append_assoc] at F hnd;obtain ⟨β1,Lf1,S1,F1,g1,g2,g3,g4⟩:=oavs_sound f x.1 cs La (Lb++L2) st β Lf S F hnd (fun b hb=>hn b (gZ _ hb)) h1
    obtain ⟨β2,Lf2,S2,k1,k2,k3,k4⟩:=resOwn_sound (g::r) x.2 ws Lb L2 _ β1 Lf1 S1 F1 (qZ.1 hnd).2.1 (fun b hb=>hn b (eZ _ hb)) h2
    simp only [resOwn];refine ⟨β2,Lf2,?_,⟨⟨cs,rfl,g1.imp fun c hc u hu=>hu.up (g2 c hc) k3,fun hb=> ?_⟩,k1⟩,?_,fun h hh=>(k3 h (jZ hh g4)).trans (g3 h hh),bY g4 k4⟩
    · rw [putAll_append];exact S2
    · rw [g1.len,ownT_len h1];exact agg_n hb
    · intro p hp;rcases zZ.1 hp with rfl | hp
      · exact fun c hc=>C.lt_up (g2 c hc) k4
      · exact k2 p hp
theorem isAggOf_cells {f:Sh} {v:AV} {u:Value} {w:World} {ok:Nat->Prop} {β:Nat->Value} (h:v.isAggOf f=true) (hv:VA w ok β v u):∃us,u=valOf f.agg us/\All2 (VC w ok β) v.cells us:=by
  cases v with
  | c x=>
    simp only [AV.isAggOf,Bool.not_eq_true'] at h;exact ⟨[u],by rw [h];rfl,hv,trivial⟩
  | agg cs=>
    simp only [AV.isAggOf] at h;obtain ⟨us,rfl,hv⟩:=hv;exact ⟨us,by rw [h];rfl,hv⟩
  | tup xs=>simp [AV.isAggOf] at h
theorem VA.fewer {w:World} {ok ok':Nat->Prop} {β:Nat->Value} {v:AV} {u:Value} (h:VA w ok β v u) (hw:∀k,ok k->k<w.heap.size->ok' k/\w.heap[k]? =w.heap[k]?):VA w ok' β v u:=by
 cases v with
 | c x=>exact VC.step h hw fun _ _=>rfl
 | agg cs=>obtain ⟨us,rfl,h⟩:=h;exact ⟨us,rfl,h.imp fun c _ u hu=>hu.step hw fun _ _=>rfl⟩
 | tup xs=>obtain ⟨us,rfl,h⟩:=h;exact ⟨us,rfl,h.imp fun p _ u hu=>hu.step hw fun _ _ _ _=>rfl⟩
theorem fin1_own (S:Sim G w0 st a w β Lf) {f:Sh} {v:AV} {u:Value} {x:Ty f} {st1:St} (hv:VA w (imm G st Lf) β v u) (h:fin1 true f v st=some (x,st1)):
 ∃cs L,u=valOf f.agg cs/\ownT w f x cs L/\st1={ st with ob:=st1.ob }/\(∀n o,look st1.ob n=some o->look st.ob n=some o)/\(∀b ∈ L,∃h o,look st.ob h=some o/\look st1.ob h=none/\b ∈ Lf h)/\L.Nodup:=by
 unfold fin1 at h;split at h;rotate_left;cases h
 rename_i hag;simp only [if_true] at h;split at h;rotate_left;cases h
 rename_i cs st2 hmv;split at h;rotate_left;cases h
 rename_i y hrd;simp only [nZ,Prod.mk.injEq] at h;obtain ⟨rfl,rfl⟩:=h;obtain ⟨us,hu,hall⟩:=isAggOf_cells hag hv;obtain ⟨L,h1,h2,h3,h4,h5⟩:=moved_sound v.cells cs us st st2 S hall hmv;exact ⟨us,L,hu,rd_all hrd h1,h2,h3,h4,h5⟩
theorem data_sound {ok0 ok':Nat->Prop} (hok1:∀k,ok0 k->ok' k) (hok2:∀h o,look st.ob h=some o->∀b ∈ Lf h,ok' b) (S:Sim G w0 st a w β Lf) {c d:C} {u:Value} (h:st.data c=some d) (hc:VC w ok0 β c u):VC w ok' (fun _=>undef) d u/\C.lt 0 d:=by
 have easy:∀c,rep w ok0 c u->VC w ok' (fun _=>undef) c u/\C.lt 0 c:=fun c hr=>⟨VC.of_rep (rep_step (fun k hk _=>⟨hok1 k hk,rfl⟩) c u hr),rep_lt 0 hr⟩
 cases c<;>simp only [St.data,nZ,reduceCtorEq] at h
 case ref hh=>
  split at h;rotate_left;cases h
  rename_i e sh xs hob;cases h
  obtain ⟨hu,_⟩:u=β hh/\∃A n c,u= .slice A n c:=hc;have hor:ownRow w e sh.n (ownT w sh) xs (β hh) (Lf hh):=S.obs _ _ hob;have hrow:rowT w ok' sh.n (repT w ok' sh) xs (β hh):=ownRow_reads (fun x vs L1 h2 h1=>ownT_reads sh x vs L1 (fun b hb=>hok2 _ _ hob b (h2 b hb)) h1) (hok2 _ _ hob) hor
  rw [hu];exact ⟨hrow,by intro x hx;simp [C.hs] at hx⟩
 case sub hh sz lo hi=>
  unfold St.part at h;split at h;rotate_left;cases h
  rename_i e sh xs hob;split at h;rotate_left;cases h
  rename_i hsz;subst hsz;cases h
  obtain ⟨A,n',c',hb0,hlh,hhn,hnc,hu⟩:VC w ok0 β (.sub hh sh.n lo hi) u:=hc;have hor:ownRow w e sh.n (ownT w sh) xs (β hh) (Lf hh):=S.obs _ _ hob;rw [hb0] at hor;obtain ⟨L0,g1,g2,g3⟩:=ownRow_part hor hlh hhn;have hrow:rowT w ok' sh.n (repT w ok' sh) ((xs.take hi).drop lo) u:=by
   rw [hu];exact ownRow_reads (fun x vs L1 h2 h1=>ownT_reads sh x vs L1 (fun b hb=>hok2 _ _ hob b (g2 b (h2 b hb))) h1) (fun b hb=>hok2 _ _ hob b (g2 b hb)) g1
  exact ⟨hrow,by intro x hx;simp [C.hs] at hx⟩
 all_goals
  subst h;exact easy _ hc
theorem datas_sound {ok0 ok':Nat->Prop} (hok1:∀k,ok0 k->ok' k) (hok2:∀h o,look st.ob h=some o->∀b ∈ Lf h,ok' b) (S:Sim G w0 st a w β Lf):∀{cs ds:List C} {us:List Value},st.datas cs=some ds->All2 (VC w ok0 β) cs us->All2 (VC w ok' (fun _=>undef)) ds us/\∀c ∈ ds,C.lt 0 c
  | [],ds,us,h,hc=>by
    simp only [St.datas,nZ] at h;subst h;cases us with
    | nil=>exact ⟨trivial,by simp⟩
    | cons u us=>simp [All2] at hc
  | c::cs,ds,us,h,hc=>by
    cases us with
    | nil=>simp [All2] at hc
    | cons u us=>
    simp only [St.datas] at h;split at h;cases h
    rename_i d hd;split at h;cases h
    rename_i ds' hds;cases h
    obtain ⟨h1,h2⟩:=data_sound hok1 hok2 S hd hc.1;obtain ⟨h3,h4⟩:=datas_sound hok1 hok2 S hds hc.2;refine ⟨⟨h1,h3⟩,?_⟩
    intro c hc;rcases zZ.1 hc with rfl | hc
    · exact h2
    · exact h4 c hc
theorem dataA_sound {ok0 ok':Nat->Prop} (hok1:∀k,ok0 k->ok' k) (hok2:∀h o,look st.ob h=some o->∀b ∈ Lf h,ok' b) (S:Sim G w0 st a w β Lf) {v x:AV} {u:Value} (h:st.dataA v=some x) (hv:VA w ok0 β v u):VA w ok' (fun _=>undef) x u/\x.lt 0:=by
 cases v<;>simp only [St.dataA,reduceCtorEq] at h
 case c c=>
  split at h;rotate_left;cases h
  rename_i d hd;cases h
  exact data_sound hok1 hok2 S hd hv
 case agg cs=>
  split at h;rotate_left;cases h
  rename_i ds hds;cases h
  obtain ⟨us,rfl,hv⟩:=hv;obtain ⟨h1,h2⟩:=datas_sound hok1 hok2 S hds hv;exact ⟨⟨us,rfl,h1⟩,h2⟩
theorem data_still {c d:C} (h:st.data c=some d) (hs:c.still=true):d=c:=by
 cases c<;>simp [St.data,C.still] at h hs<;>exact h.symm
theorem datas_still:∀{cs ds:List C},st.datas cs=some ds->cs.all C.still=true->ds=cs
  | [],ds,h,_=>by simp only [St.datas,nZ] at h;exact h.symm
  | c::cs,ds,h,hs=>by
    simp only [St.datas] at h;simp only [List.all_cons,sZ] at hs;split at h;cases h
    rename_i d hd;split at h;cases h
    rename_i ds' hds;simp only [nZ] at h;rw [<-h,data_still hd hs.1,datas_still hds hs.2]
theorem dataA_still {v x:AV} (h:st.dataA v=some x) (hs:v.cells.all C.still=true):x=v/\v.lt 0:=by
 cases v<;>simp only [St.dataA,reduceCtorEq] at h
 case c c=>
  split at h;rotate_left;cases h
  rename_i d hd;simp only [nZ] at h;simp only [AV.cells,List.all_cons,List.all_nil,Bool.and_true] at hs;refine ⟨by rw [<-h,data_still hd hs],?_⟩
  intro y hy;rw [still_hs hs] at hy;simp at hy
 case agg cs=>
  split at h;rotate_left;cases h
  rename_i ds hds;simp only [nZ] at h;simp only [AV.cells] at hs;refine ⟨by rw [<-h,datas_still hds hs],?_⟩
  intro c hc y hy;rw [still_hs (uZ.1 hs c hc)] at hy;simp at hy
theorem dataAs_still:∀{vs xs:List AV},st.dataAs vs=some xs->(vs.all fun v=>v.cells.all C.still)=true->xs=vs/\∀v ∈ vs,AV.lt 0 v
  | [],xs,h,_=>by simp only [St.dataAs,nZ] at h;exact ⟨h.symm,by simp⟩
  | v::vs,xs,h,hs=>by
    simp only [St.dataAs] at h;simp only [List.all_cons,sZ] at hs;split at h;cases h
    rename_i d hd;split at h;cases h
    rename_i ds' hds;simp only [nZ] at h;obtain ⟨h1,h2⟩:=dataA_still hd hs.1;obtain ⟨h3,h4⟩:=dataAs_still hds hs.2;refine ⟨by rw [<-h,h1,h3],?_⟩
    intro x hx;rcases zZ.1 hx with rfl | hx
    · exact h2
    · exact h4 x hx
theorem evAll_sound (S:Sim G w0 st a w β Lf):∀{xs:List Operand} {vs:List AV},evAll st xs=some vs->All2 (VA w (imm G st Lf) β) vs (xs.map a.eval)/\∀v ∈ vs,v.lt st.nx
  | [],vs,h=>by simp only [evAll,nZ] at h;subst h;exact ⟨trivial,by simp⟩
  | x::xs,vs,h=>by
    simp only [evAll] at h;split at h;rotate_left;cases h
    rename_i v hv;split at h;rotate_left;cases h
    rename_i ws hws;cases h
    obtain ⟨h1,h2⟩:=S.ev hv;obtain ⟨h3,h4⟩:=evAll_sound S hws;refine ⟨⟨h1,h3⟩,?_⟩
    intro c hc;rcases zZ.1 hc with rfl | hc
    · exact h2
    · exact h4 c hc
theorem callee_sound (S:Sim G w0 st a w β Lf) {f:Operand} {g:Nat} {caps:List C} (h:st.callee f=some (g,caps)):∃us,a.eval f= .func (.func g) #[] us.toArray/\repL w (imm G st Lf) caps us:=by
 unfold St.callee at h;split at h
 · rename_i g' fs cs hv;split at h;rotate_left;cases h
   rename_i he;simp only [nZ,Prod.mk.injEq] at h;obtain ⟨rfl,rfl⟩:=h;simp only [sZ,Array.isEmpty_iff] at he;obtain ⟨rfl,rfl⟩:=he;have hr:rep w (imm G st Lf) (.v (.func (.func g') #[] #[])) (a.eval f):=(S.ev hv).1;simp only [rep] at hr;exact ⟨[],hr.1,by simp only [repL]⟩
 · rename_i g' caps' hv;simp only [nZ,Prod.mk.injEq] at h;obtain ⟨rfl,rfl⟩:=h;have hr:rep w (imm G st Lf) (.clo g' caps') (a.eval f):=(S.ev hv).1;simp only [rep] at hr;exact hr
 · cases h
theorem caps_VA {w:World} {ok ok':Nat->Prop} {caps:List C} {us:List Value} (h:repL w ok caps us) (hok:∀k,ok k->ok' k):All2 (VA w ok' (fun _=>undef)) (caps.map .c) us/\∀x ∈ caps.map AV.c,AV.lt 0 x:=by
  induction caps generalizing us with
  | nil=>simp only [repL] at h;subst h;exact ⟨trivial,by simp⟩
  | cons c cs ih=>
    simp only [repL] at h;obtain ⟨u,vs,rfl,h1,h2⟩:=h;obtain ⟨h3,h4⟩:=ih h2;refine ⟨⟨VC.of_rep (rep_step (fun k hk _=>⟨hok k hk,rfl⟩) c u h1),h3⟩,?_⟩
    intro x hx;simp only [List.map_cons,zZ] at hx;rcases hx with rfl | hx
    · exact rep_lt 0 h1
    · exact h4 x hx
mutual
theorem rd_avs:(sh:Sh)->(x:Ty sh)->(r:List C)->rd sh (avs sh x++r)=some (x,r)
  | .b,x,r=>rfl
  | .i k,x,r=>by simp [rd,avs,headC,C.isInt]
  | .s,x,r=>rfl
  | .l e sh,xs,r=>by
    have hd:Sh.dec sh sh=isTrue rfl:=by
      cases h:Sh.dec sh sh with
      | isTrue g=>rfl
      | isFalse g=>exact absurd rfl g
    simp [rd,avs,headC,C.isSl,castSh,hd]
  | .a fs,x,r=>by simp only [rd,avs];exact rdL_avs fs x r
theorem rdL_avs:(fs:List Sh)->(x:TyL fs)->(r:List C)->rdL fs (avsL fs x++r)=some (x,r)
  | [],x,r=>rfl
  | [f],x,r=>by simp only [rdL,avsL];exact rd_avs f x r
  | f::g::q,x,r=>by
    simp only [rdL,avsL,List.append_assoc];rw [rd_avs f x.1];have h:=rdL_avs (g::q) x.2 r;show (match rdL (g::q) (avsL (g::q) x.2++r) with
      | some (y,r)=>some ((x.1,y),r)
      | none=>none)=_
    rw [h];rfl
end
mutual
theorem avs_n:(sh:Sh)->(x:Ty sh)->(avs sh x).length=sh.n
 | .b,x=>rfl
 | .i k,x=>rfl
 | .s,x=>rfl
 | .l e sh,x=>rfl
 | .a fs,x=>by simp only [avs,Sh.n];exact avsL_n fs x
theorem avsL_n:(fs:List Sh)->(x:TyL fs)->(avsL fs x).length=Sh.nL fs
 | [],x=>rfl
 | [f],x=>by simp only [avsL,Sh.nL,Nat.add_zero];exact avs_n f x
 | f::g::r,x=>by rw [avsL,List.length_append,avs_n f x.1,avsL_n (g::r) x.2];simp [Sh.nL]
end
theorem argAV_cells (sh:Sh) (x:Ty sh):(argAV sh x).cells=avs sh x:=by
 unfold argAV;split
 · rfl
 · rename_i h
   have:=avs_n sh x
   rw [Sh.n_one (by simpa using h)] at this
   match avs sh x,this with
   | [c],_=>rfl
mutual
theorem avs_still:(sh:Sh)->(x:Ty sh)->∀c ∈ avs sh x,C.still c=true
 | .b,x=>by simp [avs,C.still]
 | .i k,x=>by simp [avs,C.still]
 | .s,x=>by simp [avs,C.still]
 | .l e sh,x=>by simp [avs,C.still]
 | .a fs,x=>by simp only [avs];exact avsL_still fs x
theorem avsL_still:(fs:List Sh)->(x:TyL fs)->∀c ∈ avsL fs x,C.still c=true
  | [],x=>by simp [avsL]
  | [f],x=>by simp only [avsL];exact avs_still f x
  | f::g::r,x=>by
    simp only [avsL,wZ]
    rintro c (h | h)
    · exact avs_still f x.1 c h
    · exact avsL_still (g::r) x.2 c h
end
theorem resO_len {w:World}:∀(fs:List Sh) (x:TyL fs) (us:List Value) (L:List Nat),resO w fs x us L->us.length=fs.length
  | [],x,us,L,h=>by obtain ⟨rfl,_⟩:=h;rfl
  | [f],x,us,L,h=>by obtain ⟨cs,rfl,_⟩:=h;rfl
  | f::g::r,x,us,L,h=>by
    obtain ⟨cs,vs,L1,L2,rfl,_,_,h⟩:=h;simp [resO_len (g::r) x.2 vs L2 h]
theorem resOwn_len:∀(fs:List Sh) (x:TyL fs) (n:Nat),(resOwn fs x n).1.length=fs.length
  | [],x,n=>rfl
  | [f],x,n=>rfl
  | f::g::r,x,n=>by
    simp only [resOwn,List.length_cons];rw [resOwn_len (g::r) x.2 _];rfl
theorem Sim.move (S:Sim G w0 st a w β Lf) {n h:Nat} {o:Ob} (ho:look st.ob n=some o) (hn:look st.ob h=none) (hβ:β n=β h) (hh:h<st.nx):Sim G w0 { st with ob:=put h o (del n st.ob) } a w β (upd Lf h (Lf n)):=by
 have key:∀x o',look (put h o (del n st.ob)) x=some o'->(x=h/\o'=o)\/(x≠h/\x≠n/\look st.ob x=some o'):=by
  intro x o' hx;by_cases e:x=h
  · subst e;rw [E1] at hx;exact .inl ⟨rfl,(xZ hx).symm⟩
  · rw [look_put_ne _ _ e] at hx;obtain ⟨h1,h2⟩:=look_del hx;exact .inr ⟨e,h1,h2⟩
 have himm:∀k,imm G st Lf k->k<w.heap.size->imm G { st with ob:=put h o (del n st.ob) } (upd Lf h (Lf n)) k/\w.heap[k]? =w.heap[k]? :=by
  intro k hk _;refine ⟨⟨hk.1,fun x o' hx=> ?_⟩,rfl⟩
  rcases key x o' hx with ⟨rfl,rfl⟩ | ⟨h1,h2,h3⟩
  · rw [Z2];exact hk.2 n _ ho
  · rw [upd_ne _ _ h1];exact hk.2 x o' h3
 refine { fresh:=S.fresh,below:=S.below,defers:=S.defers,size:=S.size,slots:=fun t v ht=>(S.slots t v ht).step (S.slt t v ht) himm fun _ _=>rfl,slt:=S.slt,obs:= ?_,olt:= ?_,new:= ?_,nodup:= ?_,disj:= ?_,pin:=S.pin,pinx:=S.pinx }
 · intro x o' hx;rcases key x o' hx with ⟨rfl,rfl⟩ | ⟨h1,h2,h3⟩
   · rw [Z2,<-hβ];exact (S.obs n _ ho).step (S.olt n _ ho).2 himm (fun _ _=>rfl) fun _ _=>rfl
   · rw [upd_ne _ _ h1];exact (S.obs x o' h3).step (S.olt x o' h3).2 himm (fun _ _=>rfl) fun _ _=>rfl
 · intro x o' hx;rcases key x o' hx with ⟨rfl,rfl⟩ | ⟨h1,h2,h3⟩
   · exact ⟨hh,(S.olt n _ ho).2⟩
   · exact S.olt x o' h3
 · intro x o' hx b hb;rcases key x o' hx with ⟨rfl,rfl⟩ | ⟨h1,h2,h3⟩
   · rw [Z2] at hb;exact S.new n _ ho b hb
   · rw [upd_ne _ _ h1] at hb;exact S.new x o' h3 b hb
 · intro x o' hx;rcases key x o' hx with ⟨rfl,rfl⟩ | ⟨h1,h2,h3⟩
   · rw [Z2];exact S.nodup n _ ho
   · rw [upd_ne _ _ h1];exact S.nodup x o' h3
 · intro x o1 y o2 hx hy hne b hb;rcases key x o1 hx with ⟨e1,e2⟩ | ⟨h1,h2,h3⟩
   · rw [e1,Z2] at hb;rcases key y o2 hy with ⟨e3,e4⟩ | ⟨h4,h5,h6⟩
     · exact absurd (e1.trans e3.symm) hne
     · rw [upd_ne _ _ h4];exact S.disj n _ y o2 ho h6 (Ne.symm h5) b hb
   · rw [upd_ne _ _ h1] at hb;rcases key y o2 hy with ⟨e3,e4⟩ | ⟨h4,h5,h6⟩
     · rw [e3,Z2];exact S.disj x o1 n _ h3 ho h2 b hb
     · rw [upd_ne _ _ h4];exact S.disj x o1 y o2 h3 h6 hne b hb
theorem giveBack_sound:∀(vs:List (Bool×List C)) (hs:List Nat) (us:List Value) (ob ob':List (Nat×Ob)) (st:St) (Lf:Nat->List Nat),Sim G w0 { st with ob:=ob } a w β Lf->giveBack vs hs ob=some ob'->
    All2 (fun p u=>∃cs,u=valOf p.1 cs/\All2 (VS β) p.2 cs/\(p.1=false->p.2.length=1)) vs us->us=hs.map β->(∀h ∈ hs,h<st.nx)->∃Lf',Sim G w0 { st with ob:=ob' } a w β Lf'
  | [],[],us,ob,ob',st,Lf,S,h,_,_,_=>by
    simp only [giveBack,nZ] at h;subst h;exact ⟨Lf,S⟩
  | (b,cs)::r,[],us,ob,ob',st,Lf,S,h,_,_,_=>by
    match b,cs,h with
    | false,[.ref n],h=>simp [giveBack] at h
    | true,_,h=>simp [giveBack] at h
    | false,[],h=>simp [giveBack] at h
    | false,.v _::_,h=>simp [giveBack] at h
    | false,.l _ _ _::_,h=>simp [giveBack] at h
    | false,.emp::_,h=>simp [giveBack] at h
    | false,.ptr _ _::_,h=>simp [giveBack] at h
    | false,.el _ _ _ _::_,h=>simp [giveBack] at h
    | false,.at_ _::_,h=>simp [giveBack] at h
    | false,.clo _ _::_,h=>simp [giveBack] at h
    | false,.ref _::_::_,h=>simp [giveBack] at h
  | [],_::_,us,ob,ob',st,Lf,S,h,_,_,_=>by simp [giveBack] at h
  | (b,cs)::r,x::hs,us,ob,ob',st,Lf,S,h,hv,hu,hl=>by
    match b,cs,h,hv with
    | true,_,h,_=>simp [giveBack] at h
    | false,[],h,_=>simp [giveBack] at h
    | false,.v _::_,h,_=>simp [giveBack] at h
    | false,.l _ _ _::_,h,_=>simp [giveBack] at h
    | false,.emp::_,h,_=>simp [giveBack] at h
    | false,.ptr _ _::_,h,_=>simp [giveBack] at h
    | false,.el _ _ _ _::_,h,_=>simp [giveBack] at h
    | false,.at_ _::_,h,_=>simp [giveBack] at h
    | false,.clo _ _::_,h,_=>simp [giveBack] at h
    | false,.ref _::_::_,h,_=>simp [giveBack] at h
    | false,[.ref n],h,hv=>
      simp only [giveBack] at h
      match us,hv with
      | u::us,hv=>
      simp only [List.map_cons,List.cons.injEq] at hu;obtain ⟨hu1,hu2⟩:=hu;split at h;rotate_left;cases h
      rename_i o ho hn;obtain ⟨cs',e1,e2,_⟩:=hv.1
      match cs',e2 with
      | [c'],e2=>
      have e3:c'=β n:=e2.1.1;have hβ:β n=β x:=by
        rw [<-hu1,e1,<-e3];rfl
      have S1:=Sim.move S ho hn hβ (hl x (by simp))
      exact giveBack_sound r hs us _ ob' st _ S1 h hv.2 hu2 (fun y hy=>hl y (by simp [hy]))
theorem rowsV_append:∀{t:List (Option Sh)} {us vs:List Value},t.length<=us.length->rowsV t (us++vs)=rowsV t us
 | [],us,vs,h=>by simp [rowsV]
 | some _::t,[],vs,h=>by simp at h
 | none::t,[],vs,h=>by simp at h
 | some _::t,u::us,vs,h=>by simp only [List.cons_append,rowsV];rw [rowsV_append (by simpa using h)]
 | none::t,u::us,vs,h=>by simp only [List.cons_append,rowsV];rw [rowsV_append (by simpa using h)]
theorem rowsV_refs {ok:Nat->Prop}:∀{t:List (Option Sh)} {vs:List AV} {us:List Value},All2 (VA w ok β) vs us->t.length<=vs.length->ioOk t vs=true->rowsV t us=(ioRefs t vs).map β
  | [],vs,us,_,_,_=>by simp [rowsV,ioRefs]
  | some _::t,[],us,_,h,_=>by simp at h
  | none::t,[],us,_,h,_=>by simp at h
  | some _::t,v::vs,[],hv,_,_=>by simp [All2] at hv
  | none::t,v::vs,[],hv,_,_=>by simp [All2] at hv
  | none::t,v::vs,u::us,hv,hl,h=>by
    simp only [ioOk] at h;simp only [rowsV,ioRefs];exact rowsV_refs hv.2 (by simpa using hl) h
  | some _::t,v::vs,u::us,hv,hl,h=>by
    simp only [ioOk,sZ] at h;simp only [rowsV,ioRefs,List.map_append];rw [rowsV_refs hv.2 (by simpa using hl) h.2]
    congr 1
    have go:∀(cs:List C) (xs:List Value),All2 (VC w ok β) cs xs->cs.all (fun | .v x=> !slV x | .ref _=>true | _=>false)=true->xs.filter slV=(cs.filterMap (fun | .ref h=>some h | _=>none)).map β:=by
      intro cs;induction cs with
      | nil=>intro xs hx _;cases xs with | nil=>rfl | cons _ _=>exact hx.elim
      | cons c cs ih=>
        intro xs hx hc
        match xs,hx with
        | x::xs,hx=>
        simp only [List.all_cons,sZ] at hc
        have:=ih xs hx.2 hc.2
        cases c with
        | v y=>
          have h1:=hx.1;simp only [VC,rep] at h1;have h2:slV x=false:=by rw [h1.1];simpa using hc.1
          simp [h2,this]
        | ref n=>
          obtain ⟨h1,A,m,q,h2⟩:x=β n/\∃A n c,x= .slice A n c:=hx.1;have h3:slV x=true:=by rw [h2];rfl
          subst h1;simp only [List.filter_cons,h3,if_true,List.filterMap_cons,List.map_cons,this]
        | _=>simp at hc
    cases v with
    | c x=>
      have h1:VC w ok β x u:=hv.1;rw [cells_of_one h1.one];exact go [x] [u] ⟨h1,trivial⟩ h.1.2
    | agg cs=>
      obtain ⟨us',rfl,h1⟩:=hv.1;exact go cs us' h1 h.1.2
    | tup xs=>simp [AV.isTup] at h
def Took (w:World):List (Option Sh)->List AV->List AV->List Value->List Nat->Prop
 | [],xs,vs,_,L=>xs=vs/\L=[]
 | some sh::t,xs,vs,us,L=>∃x xr v vr u ur,xs=x::xr/\vs=v::vr/\us=u::ur/\∃(y:Ty sh) (cs:List Value) (L1 L2:List Nat),x=argAV sh y/\u=valOf sh.agg cs/\ownT w sh y cs L1/\L=L1++L2/\Took w t xr vr ur L2
 | none::t,xs,vs,us,L=>∃x xr vr u ur,xs=x::xr/\vs=x::vr/\us=u::ur/\Took w t xr vr ur L
theorem Took.len {w:World}:∀{t:List (Option Sh)} {xs vs:List AV} {us:List Value} {L:List Nat},Took w t xs vs us L->t.length<=vs.length/\t.length<=us.length
  | [],_,_,_,_,_=>⟨Nat.zero_le _,Nat.zero_le _⟩
  | some sh::t,xs,vs,us,L,h=>by
    obtain ⟨x,xr,v,vr,u,ur,rfl,rfl,rfl,y,cs,L1,L2,_,_,_,_,h⟩:=h
    have:=h.len
    simpa using this
  | none::t,xs,vs,us,L,h=>by
    obtain ⟨x,xr,vr,u,ur,rfl,rfl,rfl,h⟩:=h
    have:=h.len
    simpa using this
theorem takeArgs_sound:∀(t:List (Option Sh)) (vs xs:List AV) (us:List Value) (st st1:St),Sim G w0 st a w β Lf->All2 (VA w (imm G st Lf) β) vs us->takeArgs t vs st=some (xs,st1)->
    ∃L,Took w t xs vs us L/\st1={ st with ob:=st1.ob }/\(∀n o,look st1.ob n=some o->look st.ob n=some o)/\(∀b ∈ L,∃h o,look st.ob h=some o/\look st1.ob h=none/\b ∈ Lf h)/\L.Nodup
  | [],vs,xs,us,st,st1,S,hv,h=>by
    simp only [takeArgs,nZ,Prod.mk.injEq] at h;obtain ⟨rfl,rfl⟩:=h;exact ⟨[],⟨rfl,rfl⟩,rfl,fun _ _ h=>h,by simp,List.nodup_nil⟩
  | _::_,[],xs,us,st,st1,S,hv,h=>by simp [takeArgs] at h
  | some sh::t,v::vr,xs,us,st,st1,S,hv,h=>by
    match us,hv with
    | u::ur,hv=>
    simp only [takeArgs] at h;split at h;rotate_left;cases h
    rename_i y st2 hf;split at h;rotate_left;cases h
    rename_i xr st3 hr;simp only [nZ,Prod.mk.injEq] at h;obtain ⟨rfl,rfl⟩:=h;obtain ⟨cs,L1,e1,e2,e3,e4,e5,e6⟩:=fin1_own S hv.1 hf;have S2:Sim G w0 { st with ob:=st2.ob } a w β Lf:=S.fewer e4
    rw [e3] at hr;have himm:∀k,imm G st Lf k->k<w.heap.size->imm G { st with ob:=st2.ob } Lf k/\w.heap[k]? =w.heap[k]? :=fun k hk _=>⟨⟨hk.1,fun n o ho=>hk.2 n o (e4 n o ho)⟩,rfl⟩
    obtain ⟨L2,g1,g2,g3,g4,g5⟩:=takeArgs_sound t vr xr ur _ st3 S2 (hv.2.imp fun v _ u hu=>hu.fewer himm) hr
    refine ⟨L1++L2,⟨_,xr,v,vr,u,ur,rfl,rfl,rfl,y,cs,L1,L2,rfl,e1,e2,rfl,g1⟩,by rw [g2],fun n o ho=>e4 n o (g3 n o ho),?_,qZ.2 ⟨e6,g5,?_⟩⟩
    · intro b hb;rcases wZ.1 hb with hb | hb
      · obtain ⟨h,o,f1,f2,f3⟩:=e5 b hb;refine ⟨h,o,f1,?_,f3⟩
        cases hq:look st3.ob h with
        | none=>rfl
        | some q=>
          have:=g3 h q hq
          simp only at this
          rw [f2] at this;cases this
      · obtain ⟨h,o,f1,f2,f3⟩:=g4 b hb;exact ⟨h,o,e4 h o f1,f2,f3⟩
    · rintro b hb b' hb' rfl
      obtain ⟨h,o,f1,f2,f3⟩:=e5 b hb;obtain ⟨h',o',k1,k2,k3⟩:=g4 b hb';simp only at k1
      exact S.disj h o h' o' f1 (e4 h' o' k1) (fun e=>by rw [<-e,f2] at k1;cases k1) b f3 k3
  | none::t,v::vr,xs,us,st,st1,S,hv,h=>by
    match us,hv with
    | u::ur,hv=>
    simp only [takeArgs] at h;split at h;rotate_left;cases h
    rename_i xr st3 hr;simp only [nZ,Prod.mk.injEq] at h;obtain ⟨rfl,rfl⟩:=h;obtain ⟨L2,g1,g2,g3,g4,g5⟩:=takeArgs_sound t vr xr ur st st3 S hv.2 hr;exact ⟨L2,⟨v,xr,vr,u,ur,rfl,rfl,rfl,g1⟩,g2,g3,g4,g5⟩
theorem took_args {ok0 ok':Nat->Prop} (hok1:∀k,ok0 k->ok' k) (hok2:∀h o,look st.ob h=some o->∀b ∈ Lf h,ok' b) (S:Sim G w0 st a w β Lf):∀(t:List (Option Sh)) (vs xs ds:List AV) (us:List Value) (L:List Nat),All2 (VA w ok0 β) vs us->Took w t xs vs us L->st.dataAs xs=some ds->ArgsT w ok' t ds us L
  | [],vs,xs,ds,us,L,hv,ht,h=>by
    obtain ⟨rfl,rfl⟩:=ht;have go:∀(xs ds:List AV) (us:List Value),All2 (VA w ok0 β) xs us->st.dataAs xs=some ds->All2 (VA w ok' fun _=>undef) ds us/\∀x ∈ ds,AV.lt 0 x:=by
      intro xs;induction xs with
      | nil=>
        intro ds us hv h;simp only [St.dataAs,nZ] at h;subst h;cases us with
        | nil=>exact ⟨trivial,by simp⟩
        | cons u us=>simp [All2] at hv
      | cons v vs ih=>
        intro ds us hv h;cases us with
        | nil=>simp [All2] at hv
        | cons u us=>
        simp only [St.dataAs] at h;split at h;cases h
        rename_i x hx;split at h;cases h
        rename_i xs' hxs;cases h
        obtain ⟨h1,h2⟩:=dataA_sound hok1 hok2 S hx hv.1;obtain ⟨h3,h4⟩:=ih _ _ hv.2 hxs;refine ⟨⟨h1,h3⟩,?_⟩
        intro c hc;rcases zZ.1 hc with rfl | hc
        · exact h2
        · exact h4 c hc
    obtain ⟨h1,h2⟩:=go xs ds us hv h;exact ⟨h1,h2,rfl⟩
  | some sh::t,vs,xs,ds,us,L,hv,ht,h=>by
    obtain ⟨x,xr,v,vr,u,ur,rfl,rfl,rfl,y,cs,L1,L2,rfl,h1,h2,rfl,h3⟩:=ht;simp only [St.dataAs] at h;split at h;cases h
    rename_i d hd;split at h;cases h
    rename_i dr hdr;cases h
    have hs:(argAV sh y).cells.all C.still=true:=by
      rw [argAV_cells];exact uZ.2 (avs_still sh y)
    obtain ⟨rfl,_⟩:=dataA_still hd hs;refine ⟨u,ur,rfl,y,cs,L1,L2,?_,h1,h2,rfl,took_args hok1 hok2 S t vr xr dr ur L2 hv.2 h3 hdr⟩
    rw [argAV_cells]
    have:=rd_avs sh y []
    rwa [List.append_nil] at this
  | none::t,vs,xs,ds,us,L,hv,ht,h=>by
    obtain ⟨x,xr,vr,u,ur,rfl,rfl,rfl,h3⟩:=ht;simp only [St.dataAs] at h;split at h;cases h
    rename_i d hd;split at h;cases h
    rename_i dr hdr;cases h
    obtain ⟨h1,h2⟩:=dataA_sound hok1 hok2 S hd hv.1;exact ⟨u,ur,rfl,h1,h2,took_args hok1 hok2 S t vr xr dr ur L hv.2 h3 hdr⟩
theorem call_sound (hC:CallAt E call w0) (S:Sim G w0 st a w β Lf) {f:Operand} {args:Array Operand} {tys:Array TypeId} (ho:o.op= .call { callee:= .value f,args,argTypes:=tys }) {g:Nat} {caps:List C} {vs xs ds:List AV} {p:RTy (E.rs g)} {st1:St}
 (hcl:st.callee f=some (g,caps)) (hev:evAll st args.toList=some vs) (htk:takeArgs (E.tk g) vs st=some (xs,st1)) (hda:st1.dataAs xs=some ds) (hcan:callable (E.rs g) xs=true) (hcan2:((E.tk g).isEmpty || ((E.rs g).own || Sh.flatL (E.rs g).shs))=true) (hcall:call g (ds++caps.map .c)=some p)
 (hX:∀u w' L0,Chg L0 w w'->st1={ st with ob:=st1.ob }->(∀n o,look st1.ob n=some o->look st.ob n=some o)->(∀b ∈ L0,∃h o,look st.ob h=some o/\look st1.ob h=none/\b ∈ Lf h)->((E.tk g).isEmpty=true->L0=[])->(∃us,RV (us.take (us.length-(E.rs g).io)) u/\resR w' (fun k=>imm G st Lf k\/k ∈ L0) (E.rs g).shs p us)->
  ((E.rs g).own=true->∃us L,RV (us.take (us.length-(E.rs g).io)) u/\us.drop (us.length-(E.rs g).io)=(rowsV (E.tk g) (args.toList.map a.eval)).take (E.rs g).io/\resO w' (E.rs g).shs p us L/\L.Nodup/\∀b ∈ L,(w.heap.size<=b\/b ∈ L0)/\b<w'.heap.size)->X (a.put o.dst u) w'):o.wp E.P a w X Q:=by
 obtain ⟨cus,hf,hcaps⟩:=callee_sound S hcl;obtain ⟨hva,hvl⟩:=evAll_sound S hev;obtain ⟨⟨fn,hfn,hname,hbody⟩,hS⟩:=hC.ok g _ _ hcall;obtain ⟨L0,ht1,ht2,ht3,ht4,ht5⟩:=takeArgs_sound _ _ _ _ _ _ S hva htk;have hL0:(E.tk g).isEmpty=true->L0=[]:=by
  intro he
  have:E.tk g=[]:=by simpa using he
  rw [this] at ht1;exact ht1.2
 have hL0':∀b ∈ L0,b<w.heap.size/\¬imm G st Lf b:=fun b hb=>by
  obtain ⟨h,o,h1,_,h3⟩:=ht4 b hb;exact ⟨(S.new h o h1 b h3).2,fun hi=>hi.2 h o h1 h3⟩
 have S1:Sim G w0 { st with ob:=st1.ob } a w β Lf:=S.fewer ht3
 have hexec:(execOp a.eval o).run E.P w= .ok (.enter g ((args.toList.map a.eval)++cus).toArray) w:=by
  have e1:(args.map a.eval++cus.toArray)=((args.toList.map a.eval)++cus).toArray:=by
   apply Array.toList_inj.1
   simp
  rw [<-e1];have hbody':¬fn.body=none:=by intro e;rw [e] at hbody;cases hbody
  simp [execOp,ho,resolve,Deferred.ofValue,hf,invoke,callFunc,hfn,hname,hbody']
 unfold Oper.wp;rw [hexec,Oper.upon_enter];have fresh:∀(w':World) k,w.heap.size<=k->imm G st Lf k:=fun w' k hk=>
  ⟨S.fresh k (.inl (bY S.below.size hk)),fun h o ho hm=>by have:=(S.new h o ho k hm).2;omega⟩
 have any:∀G',ArgsT w G' (E.tk g) ds (args.toList.map a.eval) L0->(∀k,imm G st Lf k->G' k)->(∀b ∈ L0,¬G' b)->
  (∀w' us,(if (E.rs g).own=true then ∃L,resO w' (E.rs g).shs p us L/\L.Nodup/\∀b ∈ L,(w.heap.size<=b\/b ∈ L0)/\b<w'.heap.size else resR w' (fun k=>k<w.heap.size->G' k\/k ∈ L0) (E.rs g).shs p us)->resR w' (fun k=>imm G st Lf k\/k ∈ L0) (E.rs g).shs p us)->
  Calls E.P g ((args.toList.map a.eval)++cus).toArray w fun
   | .returned v,w''=>X (a.put o.dst v) w''
   | .panicked chain,w''=>Q (.panic chain) a w''
   | .outgrown,_=>LetsOut Q:=by
  intro G' h1 h3 hn h4;obtain ⟨h5,h6⟩:=caps_VA hcaps h3;refine (hS G' w _ L0 (hC.tab.at S fun b hb=>by obtain ⟨h,o,e1,_,e3⟩:=ht4 b hb;exact (S.new h o e1 b e3).1) (h1.append h5 h6) ht5 (fun b hb=>⟨(hL0' b hb).1,hn b hb⟩)).mono ?_
  rintro e w' ⟨v,rfl,hB,us,hrv,hio,hres⟩
  refine hX v w' L0 hB ht2 ht3 ht4 hL0 ⟨us,hrv,h4 w' us hres⟩ fun hown=> ?_
  rw [dY hown] at hres;obtain ⟨L,h7,h8,h9⟩:=hres;rw [rowsV_append ht1.len.2] at hio;exact ⟨us,L,hrv,hio,h7,h8,h9⟩
 have S1':Sim G w0 st1 a w β Lf:=by rw [ht2];exact S1
 have wide:ArgsT w (fun k=>k ∉ L0) (E.tk g) ds (args.toList.map a.eval) L0:=by
  refine took_args (ok0:=imm G st Lf) (fun k hk hm=>(hL0' k hm).2 hk) (fun h o ho b hb hm=> ?_) S1' (E.tk g) vs xs ds _ L0 hva ht1 hda
  obtain ⟨h',o',k1,k2,k3⟩:=ht4 b hm;exact S.disj h o h' o' (ht3 h o ho) k1 (fun e=>by rw [e,k2] at ho;cases ho) b hb k3
 unfold callable at hcan;simp only [Bool.or_eq_true] at hcan hcan2;by_cases hown:(E.rs g).own=true
 · refine any _ wide (fun k hk hm=>(hL0' k hm).2 hk) (fun b hb hn=>hn hb) fun w' us h=> ?_
   rw [dY hown] at h;obtain ⟨L,h3,_,h4⟩:=h;refine resO_reads _ p us L (fun b hb=> ?_) h3
   rcases (h4 b hb).1 with h5 | h5
   · exact .inl (fresh w' b h5)
   · exact .inr h5
 · by_cases hfl:Sh.flatL (E.rs g).shs=true
   · refine any _ wide (fun k hk hm=>(hL0' k hm).2 hk) (fun b hb hn=>hn hb) fun w' us h=> ?_
     rw [eY hown] at h;exact resR_flat _ p us hfl h
   · have hem:(E.tk g).isEmpty=true:=by
      rcases hcan2 with h | h | h
      · exact h
      · exact absurd h hown
      · exact absurd h hfl
     have hst:(xs.all fun v=>v.cells.all C.still)=true:=by
      rcases hcan with (h | h) | h
      · exact absurd h hown
      · exact absurd h hfl
      · exact h
     have hnil:E.tk g=[]:=by simpa using hem
     have hL:=hL0 hem;subst hL;rw [hnil] at htk ht1;obtain ⟨rfl,_⟩:=ht1;obtain ⟨rfl,h2⟩:=dataAs_still hda hst;refine any (imm G st Lf) ?_ (fun _ h=>h) (by simp) fun w' us h=> ?_
     · rw [hnil];exact ⟨hva.imp fun v hv u hu=>hu.step (h2 v hv) (fun k hk _=>⟨hk,rfl⟩) fun h hh=>absurd hh (Nat.not_lt_zero _),h2,rfl⟩
     · rw [eY hown] at h;refine resR_imp (fun k hk hlt=> ?_) _ p us h
       rcases Nat.lt_or_ge k w.heap.size with h3 | h3
       · exact hk h3
       · exact .inl (fresh w' k h3)
theorem call_reads (hC:CallAt E call w0) (S:Sim G w0 st a w β Lf) {f:Operand} {args:Array Operand} {tys:Array TypeId} (ho:o.op= .call { callee:= .value f,args,argTypes:=tys }) {g:Nat} {caps:List C} {vs xs:List AV} {p:RTy (E.rs g)} {v:AV}
 (hcl:st.callee f=some (g,caps)) (hev:evAll st args.toList=some vs) (hda:st.dataAs vs=some xs) (hcan:callable (E.rs g) vs=true) (htk:((E.tk g).isEmpty&&decide ((E.rs g).io=0))=true) (hcall:call g (xs++caps.map .c)=some p) (hv:resAV (resBor (E.rs g).shs p)=some v)
 (hX:∀u w',Below w.heap.size w w'->VA w' (imm G st Lf) β v u->v.lt st.nx->X (a.put o.dst u) w'):o.wp E.P a w X Q:=by
 simp only [sZ,pZ] at htk;obtain ⟨htk,hio⟩:=htk;have hnil:E.tk g=[]:=by simpa using htk
 refine call_sound hC S ho hcl hev (xs:=vs) (st1:=st) (by rw [hnil];rfl) hda hcan (by rw [htk];rfl) hcall fun u w' L0 hB _ _ _ hL ⟨us,h1,h2⟩ _=> ?_
 rw [hio,Nat.sub_zero,List.take_length] at h1;have hL:=hL htk;subst hL;refine hX u w' ⟨hB.os,hB.tape,hB.output,hB.size,fun k hk=>hB.block k hk (by simp)⟩ (resAV_sound hv (resBor_sound _ p us (resR_imp (fun k hk _=> ?_) _ p us h2)) h1) (resAV_lt hv (resBor_lt _ _ p))
 exact hk.elim id (by simp)
theorem ioRefs_lt {n:Nat}:∀{t:List (Option Sh)} {vs:List AV},(∀v ∈ vs,AV.lt n v)->∀h ∈ ioRefs t vs,h<n
  | [],vs,_,h,hh=>by simp [ioRefs] at hh
  | some _::t,[],_,h,hh=>by simp [ioRefs] at hh
  | none::t,[],_,h,hh=>by simp [ioRefs] at hh
  | none::t,v::vs,hv,h,hh=>ioRefs_lt (t:=t) (vs:=vs) (fun x hx=>hv x (fZ _ hx)) h (by simpa only [ioRefs] using hh)
  | some _::t,v::vs,hv,h,hh=>by
    simp only [ioRefs,wZ,List.mem_filterMap] at hh;rcases hh with ⟨c,hc,he⟩ | hh
    · have h1:=hv v (by simp)
      cases c<;>simp at he
      subst he;cases v with
      | c x=>
        simp only [AV.cells,kZ] at hc;subst hc;exact h1 _ (by simp [C.hs])
      | agg cs=>exact h1 _ hc _ (by simp [C.hs])
      | tup xs=>simp [AV.cells] at hc
    · exact ioRefs_lt (t:=t) (vs:=vs) (fun x hx=>hv x (fZ _ hx)) h hh
theorem giveBack_len:∀{vs:List (Bool×List C)} {hs:List Nat} {ob ob':List (Nat×Ob)},giveBack vs hs ob=some ob'->vs.length=hs.length:=by
  intro vs hs ob ob' h;induction vs generalizing hs ob with
  | nil=>cases hs with
    | nil=>rfl
    | cons _ _=>simp [giveBack] at h
  | cons p r ih=>
    unfold giveBack at h;split at h
    · cases ‹p::r=[]›
    · rename_i heq;cases heq
      split at h;rotate_left;cases h
      simp [ih h]
    · cases h
theorem eff_call (hC:CallAt E call w0) (S:Sim G w0 st a w β Lf) {f:Operand} {args:Array Operand} {tys:Array TypeId} (ho:o.op= .call { callee:= .value f,args,argTypes:=tys }) (h:eff E call st o K=some r) (hX:∀st' a' w',SimE G w0 st' a' w'->K st'=some r->X a' w'):o.wp E.P a w X Q:=by
 simp only [eff,ho] at h;split at h;rotate_left;cases h
 rename_i g caps vs hcl hev;split at h;rotate_left;cases h
 rename_i xs st1 htk;split at h;rotate_left;cases h
 rename_i ds hda;split at h;rotate_left;cases h
 rename_i hcan;rw [sZ,sZ] at hcan;obtain ⟨hcan,hcan2,hio⟩:=hcan;have hva0:=(evAll_sound S hev).1;have htl:(E.tk g).length<=vs.length:=by
  obtain ⟨_,ht,_⟩:=takeArgs_sound _ _ _ _ _ _ S hva0 htk;exact ht.len.1
 unfold callK at h;cases hcall:call g (ds++caps.map .c) with
 | none=>rw [hcall] at h;cases h
 | some p=>
 rw [hcall] at h;simp only [rZ] at h;refine call_sound hC S ho hcl hev htk hda hcan hcan2 hcall fun u w' L0 hB e1 hsub hL1 hL0 hR hO=> ?_
 have hdj:∀h o,look st1.ob h=some o->∀b ∈ Lf h,b ∉ L0:=by
  intro h o ho b hb hm;obtain ⟨h',o',k1,k2,k3⟩:=hL1 b hm;exact S.disj h o h' o' (hsub h o ho) k1 (fun e=>by rw [e,k2] at ho;cases ho) b hb k3
 have S1:Sim G w0 st1 a w' β Lf:=by
  rw [e1];exact S.gone hsub hB (fun b hb=>by obtain ⟨h',o',k1,_,k3⟩:=hL1 b hb;exact ⟨h',o',k1,k3⟩) hdj
 have hnx:st1.nx=st.nx:=by rw [e1]
 have hsl:st1.sl=st.sl:=by rw [e1]
 by_cases hown:(E.rs g).own=true
 · rw [dY hown] at h;split at h;rotate_left;cases h
   rename_i v ob hv hgb;obtain ⟨us,L,h1,hrows,h2,h3,h4⟩:=hO hown;have hw:∀k,imm G st Lf k->k<w.heap.size->(imm G st1 Lf k/\k ∉ L)/\w'.heap[k]? =w.heap[k]? :=by
    intro k hk hlt;have hn:k ∉ L0:=fun hm=>by
     obtain ⟨h',o',k1,_,k3⟩:=hL1 k hm;exact hk.2 h' o' k1 k3
    refine ⟨⟨⟨hk.1,fun n o ho=>hk.2 n o (hsub n o ho)⟩,fun hm=> ?_⟩,hB.block k hlt hn⟩
    rcases (h4 k hm).1 with h5 | h5
    · omega
    · exact hn h5
   have F1:Free G st1 a w' β Lf (L++[]):=by
    rw [List.append_nil];refine ⟨fun t v ht=> ?_,fun h o ho=> ?_,fun h o ho b hb hm=> ?_⟩
    · rw [hsl] at ht;exact (S.slots t v ht).step (S.slt t v ht) hw fun _ _=>rfl
    · exact (S.obs h o (hsub h o ho)).step (S.olt h o (hsub h o ho)).2 hw (fun b hb=>hB.block b (S.new h o (hsub h o ho) b hb).2 (hdj h o ho b hb)) fun _ _=>rfl
    · rcases (h4 b hm).1 with h5 | h5
      · have:=(S.new h o (hsub h o ho) b hb).2;omega
      · exact hdj h o ho b hb h5
   obtain ⟨β',Lf',S2,k1,k2,k3,k4⟩:=resOwn_sound _ p us L [] st1 β Lf S1 F1 (by simpa using h3) (fun b hb=>⟨by
    rcases (h4 b hb).1 with h5 | h5
    · exact .inl (bY S.below.size h5)
    · obtain ⟨h',o',k1,_,k3⟩:=hL1 b h5;exact (S.new h' o' k1 b k3).1,(h4 b hb).2⟩) h2
   have hlen:us.length=(resOwn (E.rs g).shs p st1.nx).1.length:=(resO_len _ p us L h2).trans (resOwn_len (E.rs g).shs p st1.nx).symm;have hhs:us.drop (us.length-(E.rs g).io)=(if (E.rs g).io=0 then [] else ioRefs (E.tk g) vs).map β'/\∀h ∈ (if (E.rs g).io=0 then [] else ioRefs (E.tk g) vs),h<(resOwn (E.rs g).shs p st1.nx).2.2:=by
    by_cases h0:(E.rs g).io=0
    · rw [dY h0,h0];exact ⟨by simp,by simp⟩
    · rw [eY h0];have hio':ioOk (E.tk g) vs=true:=by simpa [h0] using hio
      have hrv:=rowsV_refs hva0 htl hio';have hlt:∀h ∈ ioRefs (E.tk g) vs,h<st1.nx:=by
       rw [hnx];exact ioRefs_lt (evAll_sound S hev).2
      have hdl:(us.drop (us.length-(E.rs g).io)).length=(resOwn (E.rs g).shs p st1.nx).1.length-((resOwn (E.rs g).shs p st1.nx).1.length-(E.rs g).io):=by rw [List.length_drop,hlen]
      have hgl:=giveBack_len hgb;rw [List.length_drop,eY h0] at hgl;have htake:(rowsV (E.tk g) (args.toList.map a.eval)).take (E.rs g).io=rowsV (E.tk g) (args.toList.map a.eval):=by
       refine List.take_of_length_le ?_
       rw [hrv,List.length_map,<-hgl];omega
      refine ⟨?_,fun h hh=>jZ (hlt h hh) k4⟩
      rw [hrows,htake,hrv];exact List.map_congr_left fun h hh=>(k3 h (hlt h hh)).symm
   have k1d:All2 (fun p u=>∃cs,u=valOf p.1 cs/\All2 (VS β') p.2 cs/\(p.1=false->p.2.length=1)) ((resOwn (E.rs g).shs p st1.nx).1.drop ((resOwn (E.rs g).shs p st1.nx).1.length-(E.rs g).io)) (us.drop (us.length-(E.rs g).io)):=by
    rw [hlen];exact k1.drop _
   have k1t:=k1.take ((resOwn (E.rs g).shs p st1.nx).1.length-(E.rs g).io);rw [<-hlen] at k1t;obtain ⟨Lf2,S3⟩:=giveBack_sound _ _ _ _ ob { st1 with nx:=(resOwn (E.rs g).shs p st1.nx).2.2 } Lf' S2 hgb k1d hhs.1 hhs.2
   have hva:VA w' (imm G { st1 with ob:=ob,nx:=(resOwn (E.rs g).shs p st1.nx).2.2 } Lf2) β' v u:=by
    refine resAV_sound hv ?_ h1
    rw [<-hlen];refine k1t.imp ?_
    rintro q _ y ⟨cs,rfl,hcs,hlen⟩
    exact VP_valOf (hcs.imp fun c _ u hu=>hu.vc) hlen
   have hvl:v.lt (resOwn (E.rs g).shs p st1.nx).2.2:=resAV_lt hv fun q hq=>k2 q (List.mem_of_mem_take hq)
   have S4:=S3.set o.dst hva hvl;refine hX _ _ _ ⟨_,_,S4⟩ ?_
   have e:(({ st1 with ob:=ob,nx:=(resOwn (E.rs g).shs p st1.nx).2.2 }:St).set o.dst v)={ st1.set o.dst v with ob:=ob,nx:=(resOwn (E.rs g).shs p st1.nx).2.2 }:=by
    cases o.dst with
    | none=>rfl
    | some d=>simp only [St.set];split<;>rfl
   rw [e];exact h
 · rw [eY hown] at h;split at h
   rotate_left
   · cases h
   rename_i hz;split at h;rotate_left;cases h
   rename_i v hv;obtain ⟨us,h1,h2⟩:=hR;rw [hz,Nat.sub_zero,List.take_length] at h1;have hflat:L0=[]\/Sh.flatL (E.rs g).shs=true:=by
    simp only [Bool.or_eq_true] at hcan2;rcases hcan2 with h5 | h5 | h5
    · exact .inl (hL0 h5)
    · exact absurd h5 hown
    · exact .inr h5
   have h2':resR w' (imm G st1 Lf) (E.rs g).shs p us:=by
    rcases hflat with h5 | h5
    · subst h5;exact resR_imp (fun k hk _=>hk.elim (fun hk=>⟨hk.1,fun n o ho=>hk.2 n o (hsub n o ho)⟩) (by simp)) _ p us h2
    · exact resR_flat _ p us h5 h2
   refine hX _ _ _ ⟨_,_,S1.set o.dst (resAV_sound hv (resBor_sound _ p us h2') h1) (resAV_lt hv (resBor_lt _ _ p))⟩ h
end
end Go.V
namespace Go.V
open Go.RowKit (Below)
section
variable {E:Env} {G:Nat->Prop} {w0:Base} {st:St} {a:Act} {w:World} {β:Nat->Value} {Lf:Nat->List Nat} {R:Type} {r:R} {o:Oper} {call:CallD E} {K:St->Option R} {X:Act->World->Prop} {Q:Exit->Act->World->Prop}
theorem imm_gone (S:Sim G w0 st a w β Lf) {h:Nat} {o:Ob} (ho:look st.ob h=some o) {ob':List (Nat×Ob)} (hsub:∀n o,look ob' n=some o->look st.ob n=some o) (hn:look ob' h=none):∀b ∈ Lf h,imm G { st with ob:=ob' } Lf b:=by
 intro b hb;refine ⟨S.fresh b (S.new h o ho b hb).1,fun n o' ho' hm=> ?_⟩
 exact S.disj n o' h o (hsub n o' ho') ho (fun e=>by rw [e,hn] at ho';cases ho') b hm hb
theorem imm_fewer {ob' ob'':List (Nat×Ob)} (hsub:∀n o,look ob'' n=some o->look ob' n=some o) {k:Nat} (h:imm G { st with ob:=ob' } Lf k):imm G { st with ob:=ob'' } Lf k:=⟨h.1,fun n o ho=>h.2 n o (hsub n o ho)⟩
theorem freezeCells_sound:∀(cs ys:List C) (us:List Value) (st st1:St),Sim G w0 st a w β Lf->All2 (VC w (imm G st Lf) β) cs us->freezeCells st cs=some (ys,st1)->
    st1={ st with ob:=st1.ob }/\(∀n o,look st1.ob n=some o->look st.ob n=some o)/\repL w (imm G st1 Lf) ys us
  | [],ys,us,st,st1,S,h,hf=>by
    simp only [freezeCells,nZ,Prod.mk.injEq] at hf;obtain ⟨rfl,rfl⟩:=hf;cases us with
    | nil=>exact ⟨rfl,fun _ _ h=>h,by simp only [repL]⟩
    | cons u us=>simp [All2] at h
  | c::cs,ys,us,st,st1,S,h,hf=>by
    cases us with
    | nil=>simp [All2] at h
    | cons u us=>
    obtain ⟨hc,h⟩:=h;have plain:∀ys' st2,freezeCells st cs=some (ys',st2)->rep w (imm G st Lf) c u->st2={ st with ob:=st2.ob }/\(∀n o,look st2.ob n=some o->look st.ob n=some o)/\repL w (imm G st2 Lf) (c::ys') (u::us):=by
      intro ys' st2 h2 hr;obtain ⟨h3,h4,h5⟩:=freezeCells_sound cs ys' us st st2 S h h2;refine ⟨h3,h4,?_⟩
      simp only [repL];refine ⟨u,us,rfl,rep_step (fun k hk _=>⟨?_,rfl⟩) c u hr,h5⟩
      rw [h3];exact imm_fewer (ob':=st.ob) h4 hk
    cases c<;>simp only [freezeCells,reduceCtorEq] at hf
    case ref hh=>
      split at hf;rotate_left;cases hf
      rename_i e sh xs hob;split at hf;rotate_left;cases hf
      rename_i ys' st2 h2;simp only [nZ,Prod.mk.injEq] at hf;obtain ⟨rfl,rfl⟩:=hf;have hsub:∀n o,look (del hh st.ob) n=some o->look st.ob n=some o:=fun n o ho=>(look_del ho).2
      have S':=S.fewer hsub;have himm:∀k,imm G st Lf k->k<w.heap.size->imm G { st with ob:=del hh st.ob } Lf k/\w.heap[k]? =w.heap[k]? :=fun k hk _=>⟨⟨hk.1,fun n o ho=>hk.2 n o (hsub n o ho)⟩,rfl⟩
      obtain ⟨h3,h4,h5⟩:=freezeCells_sound cs ys' us _ st2 S' (h.imp fun c _ u hu=>hu.step himm fun _ _=>rfl) h2
      obtain ⟨hu,_⟩:u=β hh/\∃A n c,u= .slice A n c:=hc;have hor:ownRow w e sh.n (ownT w sh) xs (β hh) (Lf hh):=S.obs _ _ hob;refine ⟨h3,fun n o ho=>hsub n o (h4 n o ho),?_⟩
      have hgone:∀b ∈ Lf hh,imm G st2 Lf b:=by
        have:=imm_gone S hob (ob':=st2.ob) (fun n o ho=>hsub n o (h4 n o ho)) (by
          cases hl:look st2.ob hh with
          | none=>rfl
          | some o=>have:=h4 hh o hl;rw [i2] at this;cases this)
        intro b hb;have h6:=this b hb;rw [h3];exact h6
      simp only [repL,rep];refine ⟨u,us,rfl,?_,h5⟩
      rw [hu];exact ownRow_reads (fun x vs L1 h7 h1=>ownT_reads sh x vs L1 (fun b hb=>hgone b (h7 b hb)) h1) hgone hor
    all_goals
      split at hf;rotate_left;cases hf
      rename_i ys' st2 h2;cases hf
      exact plain _ _ h2 hc
def CapOk (w:World) (ok:Nat->Prop) (β:Nat->Value) (v:AV) (c:C):Prop:=∃cs,c= .at_ cs/\∀h o,v= .c (.ptr h o)->∀u,VC w ok β (.ptr h 0) u->rep w ok (.at_ cs) u
theorem freezeVars_sound:∀(vs:List AV) (ys:List C) (us:List Value) (st st1:St),Sim G w0 st a w β Lf->All2 (VA w (imm G st Lf) β) vs us->freezeVars st vs=some (ys,st1)->
    st1={ st with ob:=st1.ob }/\(∀n o,look st1.ob n=some o->look st.ob n=some o)/\repL w (imm G st1 Lf) ys us/\All2 (CapOk w (imm G st1 Lf) β) vs ys
  | [],ys,us,st,st1,S,h,hf=>by
    simp only [freezeVars,nZ,Prod.mk.injEq] at hf;obtain ⟨rfl,rfl⟩:=hf;cases us with
    | nil=>exact ⟨rfl,fun _ _ h=>h,by simp only [repL],trivial⟩
    | cons u us=>simp [All2] at h
  | v::vs,ys,us,st,st1,S,h,hf=>by
    cases us with
    | nil=>simp [All2] at h
    | cons u us=>
    obtain ⟨hc,h⟩:=h;unfold freezeVars at hf;split at hf
    · rename_i heq;cases heq
    · rename_i hh r heq
      injection heq with e1 e2
      subst e1 e2;split at hf;rotate_left;cases hf
      rename_i cs hob;split at hf;rotate_left;cases hf
      rename_i cs' st2 h2;split at hf;rotate_left;cases hf
      rename_i xs st3 h3;simp only [nZ,Prod.mk.injEq] at hf;obtain ⟨rfl,rfl⟩:=hf;have hsub:∀n o,look (del hh st.ob) n=some o->look st.ob n=some o:=fun n o ho=>(look_del ho).2
      have S':=S.fewer hsub;have himm:∀k,imm G st Lf k->k<w.heap.size->imm G { st with ob:=del hh st.ob } Lf k/\w.heap[k]? =w.heap[k]? :=fun k hk _=>⟨⟨hk.1,fun n o ho=>hk.2 n o (hsub n o ho)⟩,rfl⟩
      obtain ⟨b,hb1,hb2⟩:∃b,β hh= .pointer (some ⟨b,0,none⟩)/\u= .pointer (some ⟨b,0,none⟩):=hc;obtain ⟨b',ty,cus,hb3,hb4,hb5,hb6⟩:=S.obs _ _ hob;rw [hb1] at hb3
      injection hb3 with hb3
      injection hb3 with hb3
      injection hb3 with hb3
      subst hb3;obtain ⟨g1,g2,g3⟩:=freezeCells_sound cs cs' cus _ st2 S' (hb6.imp fun c _ u hu=>hu.step himm fun _ _=>rfl) h2
      have S2:Sim G w0 { st with ob:=st2.ob } a w β Lf:=S.fewer fun n o ho=>hsub n o (g2 n o ho)
      have e2:st2={ st with ob:=st2.ob }:=g1
      have himm2:∀k,imm G st Lf k->k<w.heap.size->imm G { st with ob:=st2.ob } Lf k/\w.heap[k]? =w.heap[k]? :=fun k hk _=>⟨⟨hk.1,fun n o ho=>hk.2 n o (hsub n o (g2 n o ho))⟩,rfl⟩
      rw [e2] at h3;have hvs:All2 (VA w (imm G { st with ob:=st2.ob } Lf) β) vs us:=by
        refine h.imp ?_
        intro v _ u hu;cases v with
        | c x=>exact VC.step hu himm2 fun _ _=>rfl
        | agg cs=>obtain ⟨us,rfl,hu⟩:=hu;exact ⟨us,rfl,hu.imp fun c _ u hu=>hu.step himm2 fun _ _=>rfl⟩
        | tup xs=>obtain ⟨us,rfl,hu⟩:=hu;exact ⟨us,rfl,hu.imp fun p _ u hu=>hu.step himm2 fun _ _ _ _=>rfl⟩
      obtain ⟨k1,k2,k3,k4⟩:=freezeVars_sound vs xs us _ st3 S2 hvs h3;have hsub3:∀n o,look st3.ob n=some o->look st.ob n=some o:=fun n o ho=>hsub n o (g2 n o (k2 n o ho))
      have hgone:imm G st3 Lf b:=by
        have:=imm_gone S hob hsub3 (by
          cases hl:look st3.ob hh with
          | none=>rfl
          | some o=>have:=g2 hh o (k2 hh o hl);rw [i2] at this;cases this) b (by rw [hb4];simp)
        rw [k1];exact this
      have hat:rep w (imm G st3 Lf) (.at_ cs') (.pointer (some ⟨b,0,none⟩)):=by
        simp only [rep];refine ⟨⟨b,0,none⟩,cus,rfl,?_,fun _=>⟨hgone,(bZ.1 hb5).1⟩,fun i x hx=> ?_⟩
        · refine repL_step (fun k hk _=>⟨?_,rfl⟩) cs' cus g3
          rw [k1];rw [e2] at hk;exact imm_fewer (ob':=st2.ob) k2 hk
        · rw [addr_add,cell_of_row w b _ _ ty (0,0) hb5];simpa using hx
      refine ⟨k1,hsub3,?_,⟨⟨cs',rfl,?_⟩,k4⟩⟩
      · simp only [repL];exact ⟨u,us,rfl,by rw [hb2];exact hat,k3⟩
      · rintro h o hho u' ⟨b',hb7,rfl⟩
        injection hho with hho
        injection hho with hho _
        subst hho;rw [hb1] at hb7
        injection hb7 with hb7
        injection hb7 with hb7
        cases hb7
        exact hat
    · rename_i cs r heq
      injection heq with e1 e2
      subst e1 e2;split at hf;rotate_left;cases hf
      rename_i xs st2 h2;simp only [nZ,Prod.mk.injEq] at hf;obtain ⟨rfl,rfl⟩:=hf;obtain ⟨k1,k2,k3,k4⟩:=freezeVars_sound vs xs us st st2 S h h2;refine ⟨k1,k2,?_,⟨cs,rfl,fun h o hh=>by cases hh⟩,k4⟩
      simp only [repL];refine ⟨u,us,rfl,rep_step (fun k hk _=>⟨?_,rfl⟩) (.at_ cs) u hc,k3⟩
      rw [k1];exact imm_fewer (ob':=st.ob) k2 hk
    · cases hf
theorem look_map {α:Type} (g:Nat×α->Nat×α) (hg:∀p,(g p).1=p.1):∀(l:List (Nat×α)) (t:Nat) (v:α),look (l.map g) t=some v->∃u,look l t=some u/\g (t,u)=(t,v)
  | [],t,v,h=>by cases h
  | (k,u)::r,t,v,h=>by
    have h1:=hg (k,u);simp only [List.map_cons] at h;generalize hp:g (k,u)=p at h h1;obtain ⟨k',u'⟩:=p;simp only at h1
    subst h1;simp only [look] at h ⊢;by_cases hk:k'=t
    · subst hk;rw [dY rfl] at h ⊢;cases h
      exact ⟨u,rfl,hp⟩
    · simp only [eY hk] at h ⊢;exact look_map g hg r t v h
theorem thaw_sound {w:World} {ok:Nat->Prop} {β:Nat->Value} {f:Nat->Value} {n:Nat}:∀(vs:List AV) (ys:List C) (sl:List (Nat×AV)),All2 (CapOk w ok β) vs ys->(∀t v,look sl t=some v->VA w ok β v (f t)/\v.lt n)->
    ∀t v,look (thaw vs ys sl) t=some v->VA w ok β v (f t)/\v.lt n
  | [],ys,sl,h,hs,t,v,hl=>hs t v (by unfold thaw at hl;exact hl)
  | x::vs,[],sl,h,hs,t,v,hl=>by simp [All2] at h
  | x::vs,y::ys,sl,h,hs,t,v,hl=>by
    obtain ⟨⟨cs,rfl,hc⟩,h⟩:=h;unfold thaw at hl;split at hl
    · rename_i hh off r cs' q sl' heq1 heq2
      injection heq1 with e1 e2
      injection heq2 with e3 e4
      subst e1 e2 e4;cases e3
      refine thaw_sound vs ys _ h ?_ t v hl
      intro t v hl;obtain ⟨u,hu,hg⟩:=look_map _ (by intro p;unfold thaw1;split<;>(try split)<;>rfl) _ t v hl
      obtain ⟨h1,h2⟩:=hs t u hu;unfold thaw1 at hg;simp only at hg
      split at hg
      · rename_i h';split at hg
        · rename_i heq;subst heq
          injection hg with _ hg
          subst hg;exact ⟨VC.of_rep (β:=β) (hc _ _ rfl _ h1),by intro x hx;simp [C.hs] at hx⟩
        · injection hg with _ hg
          subst hg;exact ⟨h1,h2⟩
      · injection hg with _ hg
        subst hg;exact ⟨h1,h2⟩
    · rename_i heq1 heq2
      injection heq1 with e1 e2
      injection heq2 with e3 e4
      subst e2 e4;exact thaw_sound vs ys _ h hs t v hl
    · rename_i hne1 hne2;exact absurd rfl (hne2 x vs (.at_ cs) ys rfl)
theorem eff_makeFunc (S:Sim G w0 st a w β Lf) {g:Nat} {f captured:Array Operand} (ho:o.op= .makeFunc (.func g) f captured) (h:eff E call st o K=some r) (hX:∀st' a' w',SimE G w0 st' a' w'->K st'=some r->X a' w'):o.wp E.P a w X Q:=by
 simp only [eff,ho] at h;split at h;rotate_left;cases h
 rename_i vs hev;split at h;rotate_left;cases h
 rename_i hf;simp only [Array.isEmpty_iff] at hf;subst hf;split at h;rotate_left;cases h
 rename_i caps st1 hfr;obtain ⟨hva,hvl⟩:=evAll_sound S hev;obtain ⟨k1,k2,k3,k4⟩:=freezeVars_sound vs caps _ st st1 S hva hfr;have S1:Sim G w0 { st with ob:=st1.ob } a w β Lf:=S.fewer k2
 rw [<-k1] at S1;have hsl:=thaw_sound (n:=st1.nx) vs caps st1.sl k4 fun t v ht=>⟨S1.slots t v ht,S1.slt t v ht⟩
 have S2:Sim G w0 { st1 with sl:=thaw vs caps st1.sl } a w β Lf:=
  { fresh:=S1.fresh,below:=S1.below,defers:=S1.defers,size:=S1.size,slots:=fun t v ht=>(hsl t v ht).1,slt:=fun t v ht=>(hsl t v ht).2,obs:=S1.obs,olt:=S1.olt,new:=S1.new,nodup:=S1.nodup,disj:=S1.disj,pin:=S1.pin,pinx:=S1.pinx }
 have hclo:VA w (imm G { st1 with sl:=thaw vs caps st1.sl } Lf) β (.c (.clo g caps)) (.func (.func g) #[] (captured.toList.map a.eval).toArray):=by
  show rep w (imm G st1 Lf) (.clo g caps) _
  simp only [rep];exact ⟨_,rfl,k3⟩
 refine wp_value (u:= .func (.func g) #[] (captured.toList.map a.eval).toArray) (w':=w) ?_ (hX _ _ _ ⟨_,_,S2.set o.dst hclo (by intro x hx;simp [C.hs] at hx)⟩ h)
 have e1:(captured.toList.map a.eval).toArray=captured.map a.eval:=by apply Array.toList_inj.1;simp
 rw [e1];simp [execOp,ho,Instr.makeFunc]
end
end Go.V
namespace Go.V
open Go.RowKit (Below)
theorem mvL_isV {w:World} {ok:Nat->Prop} {β:Nat->Value}:∀{cs:List C} {us:List Value} {L:List Nat},mvL w cs us L->All2 (fun c u=>c.isV=true->VC w ok β c u) cs us
  | [],us,L,h=>by obtain ⟨rfl,_⟩:=h;trivial
  | c::cs,us,L,h=>by
    obtain ⟨u,vs,L1,L2,rfl,rfl,h1,h2⟩:=h;refine ⟨fun hc=> ?_,mvL_isV h2⟩
    cases c<;>simp only [C.isV] at hc<;>(try contradiction)
    show rep w ok (.v _) u
    simp only [rep];obtain ⟨h3,h4,_⟩:=h1;exact ⟨h3,h4⟩
section
variable {E:Env} {G:Nat->Prop} {w0:Base} {st:St} {a:Act} {w:World} {β:Nat->Value} {Lf:Nat->List Nat} {R:Type} {r:R} {o:Oper} {call:CallD E} {K:St->Option R} {X:Act->World->Prop} {Q:Exit->Act->World->Prop}
theorem Sim.put_at (S:Sim G w0 st a w β Lf) {L:List Nat} (F:Free G st a w β Lf L) {h:Nat} {o:Ob} (hh:h<st.nx) (hn:∀b ∈ L,(w0.w.heap.size<=b\/b ∈ w0.T)/\b<w.heap.size) (hnd:L.Nodup) (hlt:o.lt st.nx)
 (hO:OB w (fun k=>imm G st Lf k/\k ∉ L) β o (β h) L):Sim G w0 { st with ob:=put h o st.ob } a w β (upd Lf h L):=by
 have key:∀n o',look (put h o st.ob) n=some o'->(n=h/\o'=o)\/(n≠h/\look st.ob n=some o'):=by
  intro n o' ho;by_cases e:n=h
  · subst e;rw [E1] at ho;exact .inl ⟨rfl,(xZ ho).symm⟩
  · rw [look_put_ne _ _ e] at ho;exact .inr ⟨e,ho⟩
 have himm:∀k,(imm G st Lf k/\k ∉ L)->k<w.heap.size->imm G { st with ob:=put h o st.ob } (upd Lf h L) k/\w.heap[k]? =w.heap[k]? :=by
  intro k hk _;refine ⟨⟨hk.1.1,fun n o' ho=> ?_⟩,rfl⟩
  rcases key n o' ho with ⟨rfl,rfl⟩ | ⟨hne,ho⟩
  · rw [Z2];exact hk.2
  · rw [upd_ne _ _ hne];exact hk.1.2 n o' ho
 refine { fresh:=S.fresh,below:=S.below,defers:=S.defers,size:=S.size,slots:=fun t v ht=>(F.sl t v ht).step (S.slt t v ht) himm fun _ _=>rfl,slt:=S.slt,obs:= ?_,olt:= ?_,new:= ?_,nodup:= ?_,disj:= ?_,pin:=S.pin,pinx:=S.pinx }
 · intro n o' ho;rcases key n o' ho with ⟨rfl,rfl⟩ | ⟨hne,ho⟩
   · rw [Z2];exact hO.step hlt himm (fun _ _=>rfl) fun _ _=>rfl
   · rw [upd_ne _ _ hne];exact (F.ob n o' ho).step (S.olt n o' ho).2 himm (fun _ _=>rfl) fun _ _=>rfl
 · intro n o' ho;rcases key n o' ho with ⟨rfl,rfl⟩ | ⟨hne,ho⟩
   · exact ⟨hh,hlt⟩
   · exact S.olt n o' ho
 · intro n o' ho b hb;rcases key n o' ho with ⟨rfl,rfl⟩ | ⟨hne,ho⟩
   · rw [Z2] at hb;exact hn b hb
   · rw [upd_ne _ _ hne] at hb;exact S.new n o' ho b hb
 · intro n o' ho;rcases key n o' ho with ⟨rfl,rfl⟩ | ⟨hne,ho⟩
   · rw [Z2];exact hnd
   · rw [upd_ne _ _ hne];exact S.nodup n o' ho
 · intro n o1 m o2 hn' hm hne b hb;rcases key n o1 hn' with ⟨e1,e2⟩ | ⟨h1,hq⟩
   · rw [e1,Z2] at hb;rcases key m o2 hm with ⟨e3,e4⟩ | ⟨h2,hq'⟩
     · exact absurd (e1.trans e3.symm) hne
     · rw [upd_ne _ _ h2];exact fun hb'=>F.dj m o2 hq' b hb' hb
   · rw [upd_ne _ _ h1] at hb;rcases key m o2 hm with ⟨e3,e4⟩ | ⟨h2,hq'⟩
     · rw [e3,Z2];exact F.dj n o1 hq b hb
     · rw [upd_ne _ _ h2];exact S.disj n o1 m o2 hq hq' hne b hb
theorem Sim.takeOut (S:Sim G w0 st a w β Lf) {h:Nat} {o:Ob} (ho:look st.ob h=some o) {L:List Nat} (hL:∀b ∈ L,b ∈ Lf h):
 Sim G w0 { st with ob:=del h st.ob } a w β Lf/\Free G { st with ob:=del h st.ob } a w β Lf L:=by
 have hsub:∀n o,look (del h st.ob) n=some o->look st.ob n=some o:=fun n o ho=>(look_del ho).2
 have himm:∀k,imm G st Lf k->k<w.heap.size->(imm G { st with ob:=del h st.ob } Lf k/\k ∉ L)/\w.heap[k]? =w.heap[k]? :=fun k hk _=>⟨⟨⟨hk.1,fun n o ho=>hk.2 n o (hsub n o ho)⟩,fun hm=>hk.2 h o ho (hL k hm)⟩,rfl⟩
 refine ⟨S.fewer hsub,⟨fun t v ht=>(S.slots t v ht).step (S.slt t v ht) himm fun _ _=>rfl,fun n o ho=>(S.obs n o (hsub n o ho)).step (S.olt n o (hsub n o ho)).2 himm (fun _ _=>rfl) fun _ _=>rfl,?_⟩⟩
 intro n o' ho' b hb hm;obtain ⟨hne,ho'⟩:=look_del ho';exact S.disj n o' h o ho' ho hne b hb (hL b hm)
theorem load_run (hE:EnvOk E) {t:TypeId} {x:Operand} {i:TyI} (ho:o.op= .load t x) (hi:E.ty t=some i) {g off p j n e:Nat} {cur:Array Value} (hg:w.heap[g]? =some (.cells cur e (0,0))) (hu:a.eval x= .pointer (some ⟨g,off+(p+j),none⟩))
 (hj:j+i.sz<=n) (hl:(((((cur.toList.drop off).drop p).take n).drop j).take i.sz).length=i.sz):(execOp a.eval o).run E.P w= .ok (.value (valOf i.isAgg (((((cur.toList.drop off).drop p).take n).drop j).take i.sz))) w:=by
 have hr:=run_loadAt (hE.ty _ _ hi) (w:=w) (ad:=⟨g,off+(p+j),none⟩) hl (fun q u hq=>by
  rw [addr_add,cell_of_row w g _ cur e (0,0) hg];rw [lZ] at hq
  split at hq
  · rw [mZ,lZ] at hq
    split at hq;rotate_left;cases hq
    rw [mZ,mZ] at hq
    rw [Nat.add_assoc,Nat.add_assoc];simpa using hq
  · cases hq)
 simp only [execOp,ho,hu,aY,hr,oZ,Sem.run_pure]
theorem eff_load (hE:EnvOk E) (S:Sim G w0 st a w β Lf) {t:TypeId} {x:Operand} (ho:o.op= .load t x) (h:eff E call st o K=some r) (hX:∀st' a' w',SimE G w0 st' a' w'->K st'=some r->X a' w'):o.wp E.P a w X Q:=by
 simp only [eff,ho] at h;split at h;rotate_left;cases h
 rename_i i hh sz n j hi hx;split at h;rotate_left;cases h
 rename_i st0 hcl;obtain ⟨⟨β,Lf,S⟩,hst0⟩:=close1_sim ⟨_,_,S⟩ hcl;have hsl:st0.sl=st.sl:=by rw [hst0]
 have hx0:st0.ev x=some (.c (.el hh sz n j)):=by rw [<-hx];cases x<;>simp [St.ev,hsl]
 split at h;rotate_left;cases h
 rename_i e sh xs hob;split at h;rotate_left;cases h
 rename_i y hy;split at h;rotate_left;cases h
 rename_i hc;simp only [sZ,pZ] at hc;obtain ⟨rfl,hjn⟩:=hc;obtain ⟨g,off,ln,cp,hb1,hb2⟩:VC w (imm G st0 Lf) β (.el hh sh.n n j) (a.eval x):=(S.ev hx0).1;have hnl:n<xs.length:=(List.getElem?_eq_some_iff.1 hy).1
 have hor:ownRow w e sh.n (ownT w sh) xs (β hh) (Lf hh):=S.obs _ _ hob;rcases hor with ⟨rfl,_⟩ | ⟨g',off',cap,cur,L',hg1,hg2,hg3,hg4,hg5,hg6,hg7⟩
 · simp at hnl
 have hg1':=hg1;rw [hb1] at hg1
 injection hg1 with hg1 hg1b hg1c
 injection hg1 with hg1
 injection hg1 with hg1 hgo
 subst hg1 hgo;have hcl:(cur.toList.drop off).length=cap*sh.n:=by rw [List.length_drop,Array.length_toList,hg5];omega
 have hxl:xs.length*sh.n<=(cur.toList.drop off).length:=by rw [hcl];exact Nat.mul_le_mul_right _ hg3
 obtain ⟨A,B,D,hABD,hrA,hrB,hrD⟩:=rowO_split n y hg7 hy hxl;have hlen:=ownT_len hrB;split at h
 · rename_i hall;split at h;rotate_left;cases h
   rename_i v hpk;have h1:=mvL_isV (ok:=imm G st0 Lf) (β:=β) (mv_avs' sh y _ B hrB);have h2:=(h1.drop j).take i.sz;have h3:All2 (VC w (imm G st0 Lf) β) (((avs sh y).drop j).take i.sz) (((((cur.toList.drop off).drop (n*sh.n)).take sh.n).drop j).take i.sz):=
    h2.imp fun c hc u hu=>hu (uZ.1 hall c hc)
   have hl:(((((cur.toList.drop off).drop (n*sh.n)).take sh.n).drop j).take i.sz).length=i.sz:=by rw [List.length_take,List.length_drop,hlen];omega
   refine wp_value (load_run hE ho hi hg2 hb2 hjn hl) (hX _ _ _ ⟨_,_,S.set o.dst (pack_VA hpk (VP_valOf h3 ?_)) (pack_lt hpk (lt_drop_take (avs_lt _ sh y)))⟩ h)
   intro hb';rw [hb'] at hpk;exact pack_len hpk
 · split at h;rotate_left;cases h
   rename_i v hpk;have hndf:=S.nodup _ _ hob;have hperm:(B++(g::(A++D))).Perm (Lf hh):=by
    rw [hg6,hABD];refine (List.perm_middle).trans (List.Perm.cons g ?_)
    rw [<-List.append_assoc];exact List.Perm.append_right D List.perm_append_comm
   obtain ⟨S1,F1⟩:=S.takeOut hob (L:=B++(g::(A++D))) fun b hb=>hperm.subset hb
   have hnd1:=hperm.nodup_iff.2 hndf;obtain ⟨β2,Lf2,S2,F2,g1,g2,g3,g4⟩:=oavs_sound sh y _ B (g::(A++D)) _ β Lf S1 F1 hnd1 (fun b hb=>S.new _ _ hob b (hperm.subset (gZ _ hb))) hrB
   simp only at S2 F2 g1 g2 g3 g4
   have hhx:hh<st0.nx:=(S.olt _ _ hob).1;have S3:=S2.put_at F2 (h:=hh) (o:= .opn e sh xs n (oavs sh y st0.nx).1) (jZ hhx g4) (fun b hb=>S.new _ _ hob b (hperm.subset (eZ _ hb))) (qZ.1 hnd1).2.1 g2
    ⟨g,off,cap,cur,A,D,by rw [g3 _ hhx];exact hg1',hg2,hg3,hg4,hg5,rfl,hnl,hrA,g1.imp fun c _ u hu=>hu.vc,hrD⟩
   have h3:All2 (VS β2) (((oavs sh y st0.nx).1.drop j).take i.sz) (((((cur.toList.drop off).drop (n*sh.n)).take sh.n).drop j).take i.sz):=(g1.drop j).take i.sz;have hl:(((((cur.toList.drop off).drop (n*sh.n)).take sh.n).drop j).take i.sz).length=i.sz:=by rw [List.length_take,List.length_drop,hlen];omega
   refine wp_value (load_run hE ho hi hg2 hb2 hjn hl) (hX _ _ _ ⟨_,_,S3.set o.dst (pack_VA hpk (VP_valOf (h3.imp fun c _ u hu=>hu.vc) ?_)) (pack_lt hpk (lt_drop_take g2))⟩ h)
   intro hb';rw [hb'] at hpk;exact pack_len hpk
end
end Go.V
namespace Go.V
open Go.RowKit (Below)
section
variable {E:Env} {G:Nat->Prop} {w0:Base} {st:St} {a:Act} {w:World} {β:Nat->Value} {Lf:Nat->List Nat} {R:Type} {r:R} {o:Oper} {call:CallD E} {K:St->Option R} {X:Act->World->Prop} {Q:Exit->Act->World->Prop}
theorem eff_sound (hE:EnvOk E) (hC:CallAt E call w0) (S:Sim G w0 st a w β Lf) (h:eff E call st o K=some r) (hX:∀st' a' w',SimE G w0 st' a' w'->K st'=some r->X a' w'):o.wp E.P a w X Q:=by
 cases ho:o.op
 case alloc t=>exact eff_alloc hE S ho h hX
 case box t x=>exact eff_box S ho h hX
 case build t ps=>exact eff_build hE S ho h hX
 case buildSlice t n ps=>exact eff_buildSlice hE S ho h hX
 case binOp op t x y u=>exact eff_nilQ hE S ho h hX
 case makeSlice t l c=>exact eff_makeSlice hE S ho h hX
 case store t a x=>exact eff_store hE S ho h hX
 case load t x=>exact eff_load hE S ho h hX
 case makeFunc fn f c=>
  cases fn
  case func g=>exact eff_makeFunc S ho h hX
  all_goals (simp only [eff,ho] at h;cases h)
 case call c=>
  obtain ⟨callee,args,tys⟩:=c;cases callee
  case value f=>exact eff_call hC S ho h hX
  case builtin b=>
   cases b
   case append=>exact eff_append hE S ho h hX
   all_goals (simp only [eff,ho] at h;cases h)
  all_goals (simp only [eff,ho] at h;cases h)
 all_goals (simp only [eff,ho] at h;cases h)
theorem vstep_sound (hE:EnvOk E) (hC:CallAt E call w0) (S:Sim G w0 st a w β Lf) (h:vstep E call st o K=some r) (hX:∀st' a' w',SimE G w0 st' a' w'->K st'=some r->X a' w'):o.wp E.P a w X Q:=by
 rcases opv_sound hE S h with ⟨av,u,hr,hv,hl,hK⟩ | h
 · exact wp_value hr (hX _ _ _ ⟨_,_,S.set o.dst hv hl⟩ hK)
 · split at h;rotate_left;cases h
   rename_i st' hcl;obtain ⟨β',Lf',S'⟩:=closeFor_sim ⟨_,_,S⟩ hcl;exact eff_sound hE hC S' h hX
theorem guard_sound (S:Sim G w0 st a w β Lf) {ops:Array Oper} {b:Bool} (h:guard? st ops o=some b):Region.wanted o (yielded ops a.tmps)=b:=by
 unfold guard? at h;unfold Region.wanted;split at h
 · rename_i hg;simp only [nZ] at h;rw [hg];exact h
 · rename_i j want hg;rw [hg];simp only
   split at h;rotate_left;cases h
   rename_i p hp;split at h;rotate_left;cases h
   rename_i t ht;split at h
   · rename_i x hx;simp only [nZ] at h;have hv':a.tmps.getD t undef= .bool x:=by
      have h1:rep w (imm G st Lf) (.v (.bool x)) (a.tmps.getD t undef):=S.slots t _ hx;simp only [rep] at h1;exact h1.1
     have hy:yielded ops a.tmps j=some x:=by
      unfold yielded;rw [hp];simp only [rZ,ht];rw [aZ] at hv';cases hq:a.tmps[t]? with
      | none=>rw [hq] at hv';simp [undef] at hv'
      | some u=>rw [hq] at hv';simp at hv';rw [hv']
     rw [hy,<-h];cases x<;>cases want<;>rfl
   · rename_i hx;simp only [nZ] at h;have hv':a.tmps.getD t undef= .tuple #[]:=by
      obtain ⟨us,h1,h2⟩:=S.slots t _ hx;cases us with
      | nil=>exact h1
      | cons u us=>simp [All2] at h2
     have hy:yielded ops a.tmps j=none:=by
      unfold yielded;rw [hp];simp only [rZ,ht];rw [aZ] at hv';cases hq:a.tmps[t]? with
      | none=>rfl
      | some u=>rw [hq] at hv';simp at hv';rw [hv']
     rw [hy,<-h];rfl
   · cases h
theorem Sim.congr {st':St} (S:Sim G w0 st a w β Lf) (hob:st'.ob=st.ob) (hnx:st'.nx=st.nx) (hnt:st'.nt=st.nt) (hsl:∀t,look st'.sl t=look st.sl t):Sim G w0 st' a w β Lf:=by
  have himm:imm G st' Lf=imm G st Lf:=by unfold imm;rw [hob]
  exact { fresh:=S.fresh,below:=S.below,defers:=S.defers,size:=by rw [hnt];exact S.size,slots:=fun t v ht=>by rw [himm];exact S.slots t v (by rw [<-hsl];exact ht),
          slt:=fun t v ht=>by rw [hnx];exact S.slt t v (by rw [<-hsl];exact ht),obs:=fun h o ho=>by rw [himm];rw [hob] at ho;exact S.obs h o ho,olt:=fun h o ho=>by rw [hnx];rw [hob] at ho;exact S.olt h o ho,
          new:=fun h o ho=>by rw [hob] at ho;exact S.new h o ho,nodup:=fun h o ho=>by rw [hob] at ho;exact S.nodup h o ho,disj:=fun h o h' o' ho ho'=>by rw [hob] at ho ho';exact S.disj h o h' o' ho ho',pin:=S.pin,pinx:=by rw [hnx];exact S.pinx }
structure Alike (st st':St):Prop where
 ob:st'.ob=st.ob
 nx:st'.nx=st.nx
 nt:st'.nt=st.nt
 sl:∀t,look st'.sl t=look st.sl t
theorem Alike.refl (st:St):Alike st st:=⟨rfl,rfl,rfl,fun _=>rfl⟩
theorem Alike.sim {st':St} (h:Alike st st') (S:Sim G w0 st a w β Lf):Sim G w0 st' a w β Lf:=S.congr h.ob h.nx h.nt h.sl
theorem know_alike {ops:Array Oper} {b:Bool} (h:guard? st ops o=some b):Alike st (st.know ops o b):=by
  unfold guard? at h;unfold St.know;cases hg:o.guard with
  | none=>exact Alike.refl st
  | some q=>
    obtain ⟨j,want⟩:=q;rw [hg] at h;simp only at h ⊢
    cases hp:ops[j]? with
    | none=>rw [hp] at h;cases h
    | some p=>
      rw [hp] at h;simp only at h ⊢
      cases ht:p.dst with
      | none=>rw [ht] at h;cases h
      | some t=>
        rw [ht] at h;simp only at h ⊢
        split
        · rename_i x hx;rw [hx] at h;simp only [nZ] at h;refine ⟨rfl,rfl,rfl,fun t'=> ?_⟩
          by_cases e:t'=t
          · subst e;rw [E1,hx,<-h];cases x<;>cases want<;>rfl
          · exact look_put_ne _ _ e
        · exact Alike.refl st
theorem wpOp_sound (hE:EnvOk E) (hC:CallAt E call w0) (S:Sim G w0 st a w β Lf) {ops:Array Oper} {i:Nat} {b:Bool} (hi:ops[i]? =some o) (hg:guard? st ops o=some b)
    (h:(if b=true then vstep E call (st.know ops o true) o K else K ((st.know ops o false).unset o.dst))=some r) (hX:∀st' a' w',SimE G w0 st' a' w'->K st'=some r->X a' w'):wpOp E.P ops Q i X a w:=by
  unfold wpOp;simp only [hi,guard_sound S hg];cases b with
  | true=>
    simp only [if_true] at h ⊢;exact .inl (vstep_sound hE hC ((know_alike hg).sim S) h hX)
  | false=>
    simp only [Bool.false_eq_true,if_false] at h ⊢;exact hX _ _ _ ⟨_,_,((know_alike hg).sim S).unset o.dst⟩ h
theorem vregion_cons {ops:Array Oper} {n:Nat} {l:List Oper} (h:vregion E call ops (o::l) n st K=some r):
 ∃b,guard? st ops o=some b/\(if b=true then vstep E call (st.know ops o true) o (fun st=>vregion E call ops l (n+1) st K) else vregion E call ops l (n+1) ((st.know ops o false).unset o.dst) K)=some r:=by
 simp only [vregion] at h;split at h;rotate_left;cases h
 rename_i b hb;exact ⟨b,hb,h⟩
theorem vregion_text (hE:EnvOk E) (hC:CallAt E call w0) {ops:Array Oper}:∀(l:List Oper) (n:Nat) (st:St) (a:Act) (w:World),ops.toList.drop n=l->SimE G w0 st a w->vregion E call ops l n st K=some r->
    (∀st' a' w',SimE G w0 st' a' w'->K st'=some r->Q .normal a' w')->wpOps E.P ops Q (List.range' n l.length) a w
  | [],n,st,a,w,_,S,h,hQ=>hQ _ _ _ S h
  | o::l,n,st,a,w,hd,⟨β,Lf,S⟩,h,hQ=>by
    obtain ⟨b,hg,h⟩:=vregion_cons h;have hi:ops[n]? =some o:=by
      have:=congrArg (·[0]?) hd
      simpa using this
    have hd':ops.toList.drop (n+1)=l:=by
      have:=congrArg (List.drop 1) hd
      rw [List.drop_drop] at this;simpa using this
    rw [List.length_cons,List.range'_succ,wpOps_cons];exact wpOp_sound hE hC S hi hg h fun st' a' w' S' h'=>vregion_text hE hC l (n+1) st' a' w' hd' S' h' hQ
theorem region_text (hE:EnvOk E) (hC:CallAt E call w0) {id:Nat} {ops:Array Oper} (S:SimE G w0 st a w) (h:vregion E call ops ops.toList 0 st K=some r)
 (hQ:∀st' a' w',SimE G w0 st' a' w'->K st'=some r->Q .normal a' w'):(Code.region id ops false).wp E.P Q a w:=by
 refine wp_region ?_
 have:=vregion_text (Q:=Q) hE hC ops.toList 0 st a w (by simp) S h hQ
 rwa [List.range_eq_range',<-Array.length_toList]
end
end Go.V
namespace Go.V
open Go.RowKit (Below)
section
variable {E:Env} {G:Nat->Prop} {w0:Base} {st:St} {a:Act} {w:World} {β:Nat->Value} {Lf:Nat->List Nat} {R:Type} {r:R} {o:Oper} {call:CallD E} {K:St->Option R} {X:Act->World->Prop} {Q:Exit->Act->World->Prop}
theorem bin_map {R:Type} (op:BinOp) (x y:Value) (K:Value->Option R):bin op x y K=(bin op x y fun v=>some v).bind K:=by
 unfold bin;split
 · split<;>first | rfl | (split<;>first | rfl | (split<;>rfl))
 · split<;>first | rfl | (split<;>rfl)
 · rfl
theorem binB_map {R:Type} (op:BinOp) (x y:Value) (K:Value->Option R):binB op x y K=(binB op x y fun v=>some v).bind K:=by
 unfold binB;split
 · split<;>rfl
 · rfl
def opvT (E:Env) (st:St) (o:Oper):Option (Option AV):=opv E st o (fun v=>some (some v)) (some none)
theorem opv_map (E:Env) (st:St) (o:Oper) (K:AV->Option R) (N:Option R):opv E st o K N=(opvT E st o).bind fun | some v=>K v | none=>N:=by
 unfold opvT;cases ho:o.op<;>simp only [opv,ho]
 case call c=>
  obtain ⟨callee,args,tys⟩:=c;cases callee
  case builtin b=>cases b<;>(try rfl)<;>simp only []<;>(repeat' split)<;>rfl
  all_goals rfl
 case slice=>unfold slcK;(repeat' split)<;>rfl
 case binOp=>
  split
  · split
    · rw [binB_map,binB_map (K:=fun v=>some (some (AV.c (C.v v))))]
      cases binB _ _ _ fun v=>some v<;>rfl
    · rw [bin_map,bin_map (K:=fun v=>some (some (AV.c (C.v v))))]
      cases bin _ _ _ fun v=>some v<;>rfl
  · unfold structEq
    (repeat' split)<;>rfl
 all_goals first
  | rfl
  | ((repeat' split)<;>rfl)
structure Agree (o:Oper) (st st':St):Prop where
 ob:∀h o,look st.ob h=some o->look st'.ob h=some o
 ev:∀x ∈ o.op.operands,st'.ev x=st.ev x
theorem sc_eq {st st':St} {x:Operand} (h:st'.ev x=st.ev x):st'.sc x=st.sc x:=by simp only [St.sc,h]
theorem int_eq {st st':St} {x:Operand} (h:st'.ev x=st.ev x):st'.int x=st.int x:=by simp only [St.int,sc_eq h]
theorem bool_eq {st st':St} {x:Operand} (h:st'.ev x=st.ev x):st'.bool x=st.bool x:=by simp only [St.bool,sc_eq h]
theorem len_v (s:St) (x:Value):s.len (.v x)=match x with | .slice none 0 0=>some 0 | _=>none:=by
 unfold St.len;split<;>simp_all
theorem len_mono {st st':St} (h:∀h o,look st.ob h=some o->look st'.ob h=some o) {c:C} {n:Nat} (hl:st.len c=some n):st'.len c=some n:=by
 cases c
 case ref k=>
  simp only [St.len] at hl ⊢;cases hk:look st.ob k with
  | none=>rw [hk] at hl;cases hl
  | some o=>rw [h _ _ hk];rw [hk] at hl;exact hl
 case v x=>
  rw [len_v] at hl ⊢;exact hl
 all_goals exact hl
theorem opvT_mono {st':St} {x:Option AV} (h:Agree o st st') (hh:opvT E st o=some x):opvT E st' o=some x:=by
  obtain ⟨hob,hev⟩:=h;unfold opvT at hh ⊢;cases ho:o.op<;>simp only [ho,Op.operands] at hev<;>simp only [opv,ho] at hh ⊢<;>try exact hh
  case call c=>
    obtain ⟨callee,args,tys⟩:=c;cases callee
    case builtin b=>
      have hev':∀x ∈ args.toList,st'.ev x=st.ev x:=fun x hx=>hev x (by simpa [Call.operands] using hx)
      cases b<;>(try exact hh)
      case len=>
        simp only [] at hh ⊢;generalize args.toList=as at hev' hh ⊢;split at hh
        · rename_i x t _;rw [hev' x (by simp)]
          cases hv:st.ev x with
          | none=>rw [hv] at hh;exact hh
          | some v=>
            rw [hv] at hh;cases v<;>try exact hh
            rename_i c;simp only at hh ⊢
            cases hp:elemTy E t with
            | none=>rw [hp] at hh;exact hh
            | some p=>
              rw [hp] at hh;simp only at hh ⊢
              cases hn:st.len c with
              | none=>rw [hn] at hh;cases hh
              | some n=>rw [len_mono hob hn];rw [hn] at hh;exact hh
        · exact hh
      case min=>
        simp only [] at hh ⊢;generalize args.toList=as at hev' hh ⊢;split at hh;rotate_left;cases hh
        rename_i x y;rw [int_eq (hev' x (by simp)),int_eq (hev' y (by simp))]
        exact hh
      case max=>
        simp only [] at hh ⊢;generalize args.toList=as at hev' hh ⊢;split at hh;rotate_left;cases hh
        rename_i x y;rw [int_eq (hev' x (by simp)),int_eq (hev' y (by simp))]
        exact hh
    all_goals exact hh
  case move x=>rw [hev x (by simp)];exact hh
  case assign x=>rw [hev x (by simp)];exact hh
  case pick x y z=>rw [bool_eq (hev x (by simp)),bool_eq (hev y (by simp)),bool_eq (hev z (by simp))];exact hh
  case binOp op t x y u=>rw [sc_eq (hev x (by simp)),sc_eq (hev y (by simp)),hev x (by simp),hev y (by simp)];exact hh
  case slice t x lo hi mx=>
    have e1:st'.ev x=st.ev x:=hev x (by simp)
    have e2:∀y ∈ lo,st'.ev y=st.ev y:=fun y hy=>hev y (by cases hy;simp)
    have e3:∀y ∈ hi,st'.ev y=st.ev y:=fun y hy=>hev y (by cases hy;simp)
    have e4:∀y ∈ mx,st'.ev y=st.ev y:=fun y hy=>hev y (by cases hy;simp)
    have b1:∀d,st'.bnd d lo=st.bnd d lo:=fun d=>by cases lo with | none=>rfl | some y=>exact int_eq (e2 y rfl)
    have b2:∀d,st'.bnd d hi=st.bnd d hi:=fun d=>by cases hi with | none=>rfl | some y=>exact int_eq (e3 y rfl)
    rw [e1];unfold slcK at hh ⊢;simp only [b1,b2] at hh ⊢;cases mx with
    | none=>
      by_cases hs:isStr E t=true
      · rw [dY hs] at hh ⊢;exact hh
      · rw [eY hs] at hh ⊢;cases h1:elemTy E t with
        | none=>rw [h1] at hh;exact hh
        | some ej=>
          cases h2:st.ev x with
          | none=>rw [h1,h2] at hh;exact hh
          | some v=>
            rw [h1,h2] at hh;cases v<;>try exact hh
            rename_i c;cases c<;>try exact hh
            rename_i k;simp only at hh ⊢
            cases hl:look st.ob k with
            | none=>rw [hl] at hh;cases hh
            | some q=>rw [hob _ _ hl];rw [hl] at hh;exact hh
    | some m=>
      have q4:st'.int m=st.int m:=int_eq (e4 m rfl);cases lo with
      | none=>
        cases hi with
        | none=>exact hh
        | some y=>
          have q3:st'.int y=st.int y:=int_eq (e3 y rfl);by_cases hs:isStr E t=true
          · rw [dY hs] at hh ⊢;exact hh
          · rw [eY hs] at hh ⊢;cases h1:elemTy E t with
            | none=>rw [h1] at hh;exact hh
            | some ej=>
              cases h2:st.ev x with
              | none=>rw [h1,h2] at hh;exact hh
              | some v=>
                rw [h1,h2] at hh;cases v<;>try exact hh
                rename_i c;simp only [q3,q4] at hh ⊢;cases ha:st.int y with
                | none=>rw [ha] at hh;exact hh
                | some a=>
                  cases hb:st.int m with
                  | none=>rw [ha,hb] at hh;exact hh
                  | some b=>
                    rw [ha,hb] at hh;cases hn:st.len c with
                    | none=>rw [hn] at hh;cases hh
                    | some n=>rw [len_mono hob hn];rw [hn] at hh;exact hh
      | some z=>cases hi<;>exact hh
  case unOp op t x=>rw [sc_eq (hev x (by simp))];exact hh
  case convert t u x=>
    rw [sc_eq (hev x (by simp)),hev x (by simp)]
    have hby:∀(sh:Sh) (c:C) (b:ByteArray),st.bytes sh c=some b->st'.bytes sh c=some b:=by
      intro sh c b hb;cases c<;>first | (cases hb;done) | skip
      rename_i k;unfold St.bytes at hb ⊢;simp only at hb ⊢
      split at hb;rotate_left;cases hb
      split at hb;rotate_left;cases hb
      rename_i ho1;rw [hob _ _ ho1];exact hb
    split at hh
    · exact hh
    · split at hh;rotate_left;cases hh
      split at hh;rotate_left;cases hh
      rename_i e j c h1 h2;split at hh;rotate_left;cases hh
      rename_i b hb;rw [dY ‹isStr E u=true›,hby _ _ _ hb];exact hh
  case index t x n=>rw [sc_eq (hev x (by simp)),int_eq (hev n (by simp))];exact hh
  case field t x n=>rw [hev x (by simp)];exact hh
  case fieldAddr t x n=>rw [hev x (by simp)];exact hh
  case extract x n=>rw [hev x (by simp)];exact hh
  case load t x=>
    rw [hev x (by simp)]
    cases hi:E.ty t with
    | none=>rw [hi] at hh;exact hh
    | some i=>
      cases hx:st.ev x with
      | none=>rw [hi,hx] at hh;exact hh
      | some v=>
        rw [hi,hx] at hh;cases v<;>try exact hh
        rename_i c;cases c<;>try exact hh
        case ptr k n=>
          simp only at hh ⊢
          cases hl:look st.ob k with
          | none=>rw [hl] at hh;cases hh
          | some q=>rw [hob _ _ hl];rw [hl] at hh;exact hh
        case el k z n j=>
          simp only at hh ⊢
          cases hl:look st.ob k with
          | none=>rw [hl] at hh;cases hh
          | some q=>rw [hob _ _ hl];rw [hl] at hh;exact hh
  case indexAddr t x n=>
    rw [hev x (by simp),int_eq (hev n (by simp))]
    cases hi:elemTy E t with
    | none=>rw [hi] at hh;exact hh
    | some i=>
      obtain ⟨e,j⟩:=i;cases hx:st.ev x with
      | none=>rw [hi,hx] at hh;exact hh
      | some v=>
        rw [hi,hx] at hh;cases v<;>try exact hh
        rename_i c;cases c<;>try exact hh
        case ref k=>
          simp only at hh ⊢
          cases hn:st.int n with
          | none=>rw [hn] at hh;exact hh
          | some z=>
            rw [hn] at hh;simp only at hh ⊢
            cases hl:look st.ob k with
            | none=>rw [hl] at hh;cases hh
            | some q=>rw [hob _ _ hl];rw [hl] at hh;exact hh
        case l=>cases hn:st.int n<;>(rw [hn] at hh;exact hh)
        case sub k sz lo hi=>
          simp only at hh ⊢
          cases hn:st.int n with
          | none=>rw [hn] at hh;exact hh
          | some z=>
            rw [hn] at hh;simp only at hh ⊢
            cases hl:look st.ob k with
            | none=>rw [hl] at hh;cases hh
            | some q=>rw [hob _ _ hl];rw [hl] at hh;exact hh
theorem evAll_congr {st':St}:∀(xs:List Operand),(∀x ∈ xs,st'.ev x=st.ev x)->evAll st' xs=evAll st xs
 | [],_=>rfl
 | x::xs,h=>by simp only [evAll];rw [h x (by simp),evAll_congr xs fun y hy=>h y (by simp [hy])]
theorem data_mono {st':St} (h:∀h o,look st.ob h=some o->look st'.ob h=some o) {c d:C} (hd:st.data c=some d):st'.data c=some d:=by
 cases c
 case ref k=>
  simp only [St.data] at hd ⊢;cases hk:look st.ob k with
  | none=>rw [hk] at hd;cases hd
  | some o=>rw [h _ _ hk];rw [hk] at hd;exact hd
 case sub k sz lo hi=>
  simp only [St.data,St.part] at hd ⊢;cases hk:look st.ob k with
  | none=>rw [hk] at hd;cases hd
  | some o=>rw [h _ _ hk];rw [hk] at hd;exact hd
 all_goals exact hd
theorem datas_mono {st':St} (h:∀h o,look st.ob h=some o->look st'.ob h=some o):∀{cs ds:List C},st.datas cs=some ds->st'.datas cs=some ds
  | [],_,hd=>hd
  | c::cs,ds,hd=>by
    simp only [St.datas] at hd ⊢;cases h1:st.data c with
    | none=>rw [h1] at hd;cases hd
    | some x=>
      rw [h1] at hd;rw [data_mono h h1];simp only at hd ⊢
      cases h2:st.datas cs with
      | none=>rw [h2] at hd;cases hd
      | some xs=>rw [datas_mono h h2];rw [h2] at hd;exact hd
theorem dataA_mono {st':St} (h:∀h o,look st.ob h=some o->look st'.ob h=some o) {v v':AV} (hd:st.dataA v=some v'):st'.dataA v=some v':=by
  cases v with
  | c x=>
    simp only [St.dataA] at hd ⊢;cases h1:st.data x with
    | none=>rw [h1] at hd;cases hd
    | some y=>rw [data_mono h h1];rw [h1] at hd;exact hd
  | agg cs=>
    simp only [St.dataA] at hd ⊢;cases h1:st.datas cs with
    | none=>rw [h1] at hd;cases hd
    | some y=>rw [datas_mono h h1];rw [h1] at hd;exact hd
  | tup xs=>exact hd
theorem dataAs_mono {st':St} (h:∀h o,look st.ob h=some o->look st'.ob h=some o):∀{vs xs:List AV},st.dataAs vs=some xs->st'.dataAs vs=some xs
  | [],_,hd=>hd
  | v::vs,xs,hd=>by
    simp only [St.dataAs] at hd ⊢;cases h1:st.dataA v with
    | none=>rw [h1] at hd;cases hd
    | some x=>
      rw [h1] at hd;rw [dataA_mono h h1];simp only at hd ⊢
      cases h2:st.dataAs vs with
      | none=>rw [h2] at hd;cases hd
      | some ys=>rw [dataAs_mono h h2];rw [h2] at hd;exact hd
def HeadVal (E:Env) (call:CallD E) (st:St) (o:Oper) (av:AV):Prop:=
 opvT E st o=some (some av)\/(∃f args tys g caps vs xs,∃p:RTy (E.rs g),o.op= .call { callee:= .value f,args,argTypes:=tys }/\st.callee f=some (g,caps)/\evAll st args.toList=some vs/\st.dataAs vs=some xs/\
  callable (E.rs g) vs=true/\((E.tk g).isEmpty&&decide ((E.rs g).io=0))=true/\call g (xs++caps.map .c)=some p/\resAV (resBor (E.rs g).shs p)=some av)
 \/∃t parts i ps fs pl cs,o.op= .build t parts/\E.ty t=some i/\evParts st parts.toList=some ps/\i.k= .agg fs/\placesOf E fs=some pl/\fillP pl (i.zero.map .v) ps=some cs/\av= .agg cs
theorem evParts_congr {st':St}:∀(ps:List (Nat×Operand)),(∀p ∈ ps,st'.ev p.2=st.ev p.2)->evParts st' ps=evParts st ps
  | [],_=>rfl
  | (n,x)::r,h=>by
    simp only [evParts];rw [h (n,x) (by simp),evParts_congr r fun p hp=>h p (by simp [hp])]
theorem HeadVal.congr {st':St} {av:AV} (h:Agree o st st') (hv:HeadVal E call st o av):HeadVal E call st' o av:=by
 rcases hv with hv | ⟨f,args,tys,g,caps,vs,xs,p,h1,h2,h3,h4,h5,h6,h7,h8⟩ | ⟨t,parts,i,ps,fs,pl,cs,h1,h2,h3,h4,h5,h6,rfl⟩
 · exact .inl (opvT_mono h hv)
 · have hev:=h.ev;rw [h1] at hev;simp only [Op.operands,Call.operands] at hev;refine .inr (.inl ⟨f,args,tys,g,caps,vs,xs,p,h1,?_,?_,?_,h5,h6,h7,h8⟩)
   · unfold St.callee at h2 ⊢;rw [hev f (by simp)]
     exact h2
   · rw [evAll_congr _ fun x hx=>hev x (by simp;exact .inr (by simpa using hx))]
     exact h3
   · exact dataAs_mono h.ob h4
 · have hev:=h.ev;rw [h1] at hev;simp only [Op.operands] at hev;refine .inr (.inr ⟨t,parts,i,ps,fs,pl,cs,h1,h2,?_,h4,h5,h6,rfl⟩)
   rw [evParts_congr _ fun p hp=>hev p.2 (by simp;exact ⟨p.1,by simpa using hp⟩)]
   exact h3
theorem HeadVal.sound {av:AV} (hE:EnvOk E) (hC:CallAt E call w0) (S:Sim G w0 st a w β Lf) (hv:HeadVal E call st o av) (hX:∀u w',Below w.heap.size w w'->VA w' (imm G st Lf) β av u->av.lt st.nx->X (a.put o.dst u) w'):o.wp E.P a w X Q:=by
 rcases hv with hv | ⟨f,args,tys,g,caps,vs,xs,p,h1,h2,h3,h4,h5,h6,h7,h8⟩ | ⟨t,parts,i,ps,fs,pl,cs,h1,h2,h3,h4,h5,h6,rfl⟩
 · unfold opvT at hv;rcases opv_sound hE S hv with ⟨av',u,hr,hva,hl,hK⟩ | hv
   · cases hK
     exact wp_value hr (hX u w (Below.refl _ w) hva hl)
   · simp at hv
 · exact call_reads hC S h1 h2 h3 h4 h5 h6 h7 h8 hX
 · obtain ⟨u,g1,g2,g3⟩:=build_val hE S h1 h2 h3 h4 h5 h6;exact wp_value g1 (hX u w (Below.refl _ w) g2 g3)
theorem vstepA_split (h:vstepA E call st o K=some r):∃av,HeadVal E call st o av/\K (st.set o.dst av)=some r:=by
  unfold vstepA at h;rw [opv_map] at h;cases hT:opvT E st o with
  | none=>rw [hT] at h;cases h
  | some x=>
    rw [hT] at h;simp only [rZ] at h;cases x with
    | some av=>exact ⟨av,.inl hT,h⟩
    | none=>
      simp only at h
      split at h
      · rename_i f args tys ho;split at h;rotate_left;cases h
        rename_i g caps vs hcl hev;split at h;rotate_left;cases h
        rename_i xs hda;split at h;rotate_left;cases h
        rename_i hcan;rw [sZ] at hcan;cases hc:call g (xs++caps.map .c) with
        | none=>rw [hc] at h;cases h
        | some p=>
          rw [hc] at h;simp only [rZ] at h;split at h;rotate_left;cases h
          rename_i v hv;exact ⟨v,.inr (.inl ⟨f,args,tys,g,caps,vs,xs,p,ho,hcl,hev,hda,hcan.1,hcan.2,hc,hv⟩),h⟩
      · rename_i t parts ho;split at h;rotate_left;cases h
        rename_i i ps hi hps;split at h;rotate_left;cases h
        rename_i fs hk;split at h;rotate_left;cases h
        rename_i pl hpl;split at h;rotate_left;cases h
        rename_i cs hcs;exact ⟨_,.inr (.inr ⟨t,parts,i,ps,fs,pl,cs,ho,hi,hps,hk,hpl,hcs,rfl⟩),h⟩
      · cases h
end
end Go.V
namespace Go.V
open Go.RowKit (Below)
section
variable {E:Env} {G:Nat->Prop} {w0:Base} {st:St} {a:Act} {w:World} {β:Nat->Value} {Lf:Nat->List Nat} {R:Type} {r:R} {o:Oper} {call:CallD E} {K:PV->List Nat->Option R}
theorem mkC_map (pk:Pk):mkC E call st pk o K=(mkC E call st pk o fun p us=>some (p,us)).bind fun q=>K q.1 q.2:=by
  unfold mkC;cases ho:o.op<;>simp only []
  case call c=>
    obtain ⟨callee,args,tys⟩:=c;cases callee
    case builtin b=>cases b<;>(try rfl)<;>simp only []<;>(repeat' split)<;>rfl
    case value f=>
      simp only [];split
      · split
        · split
          · rename_i g caps vs _ _ _ xs _ _;cases call g (xs++caps.map .c) with
            | none=>rfl
            | some p=>
              simp only [rZ]
              (repeat' split)<;>rfl
          · rfl
        · rfl
      · rfl
    all_goals rfl
  all_goals first
    | rfl
    | ((repeat' split)<;>rfl)
theorem look_delAll {α:Type}:∀(us:List Nat) (l:List (Nat×α)) (t:Nat),look (delAll us l) t=if t ∈ us then none else look l t
  | [],l,t=>by simp [delAll]
  | u::us,l,t=>by
    unfold delAll;rw [look_delAll us];by_cases h:t ∈ us
    · simp [h]
    · rw [eY h];by_cases e:t=u
      · subst e;simp [i2]
      · rw [look_del_ne _ e,eY (by simp [e,h])]
structure Placed (T:Nat->Prop) (stL:St) (pk:Pk) (B:Nat->Nat):Prop where
 sl:∀t p,T t->look pk t=some p->look stL.sl t=some (p.v.place (B t))
 ob:∀t p,T t->look pk t=some p->∀i o,look p.os i=some o->look stL.ob (B t+i)=some o
 disj:∀t p t' p',T t->T t'->look pk t=some p->look pk t'=some p'->t≠t'->∀i o i' o',look p.os i=some o->look p'.os i'=some o'->B t+i≠B t'+i'
def Nums (pk:Pk) (B:Nat->Nat) (us:List Nat) (h:Nat):Prop:=∃t ∈ us,∃p i o,look pk t=some p/\look p.os i=some o/\h=B t+i
theorem headRow_sound {stL:St} {pk:Pk} {B:Nat->Nat} {sh:Sh} {e:Nat} {x:Operand} {us:List Nat} {xs:List (Ty sh)} {T:Nat->Prop} (hT:∀t,x= .tmp t->T t) (hP:Placed T stL pk B) (hev:∀v,st.ev x=some v->stL.ev x=some v) (h:headRow st pk sh e x=some (us,xs)):
    (us=[]/\xs=[]/\(stL.ev x=some (.c (.v (.slice none 0 0)))\/stL.ev x=some (.c .emp)))\/∃t sh' ys p,us=[t]/\T t/\look pk t=some p/\p.os=[(0,.arr e sh' ys)]/\castSh (sh':=sh) ys=some xs/\stL.ev x=some (.c (.ref (B t)))/\look stL.ob (B t)=some (.arr e sh' ys):=by
  unfold headRow at h;cases hr:pkRow pk sh e x with
  | none=>
    rw [hr] at h;simp only at h
    split at h
    · rename_i hx;cases h
      exact .inl ⟨rfl,rfl,.inl (hev _ hx)⟩
    · rename_i hx;cases h
      exact .inl ⟨rfl,rfl,.inr (hev _ hx)⟩
    · cases h
  | some q=>
    obtain ⟨t,ys⟩:=q;rw [hr] at h;simp only at h
    cases h
    refine .inr ?_
    unfold pkRow at hr;split at hr;rotate_left;cases hr
    rename_i t';split at hr;rotate_left;cases hr
    rename_i e' sh' zs hp;split at hr;rotate_left;cases hr
    rename_i he;subst he;split at hr;rotate_left;cases hr
    rename_i zs' hc;obtain ⟨rfl,rfl⟩:=Prod.mk.inj (xZ hr);refine ⟨t',sh',zs,_,rfl,hT _ rfl,hp,rfl,hc,?_,?_⟩
    · have:=hP.sl _ _ (hT _ rfl) hp
      simpa [St.ev,AV.place,C.place] using this
    · have:=hP.ob _ _ (hT _ rfl) hp 0 (.arr e' sh' zs) (by simp [look])
      simpa using this
theorem St.new_some {d:Nat} (hd:d<st.nt) (v:AV) (ob:Ob):st.new (some d) v ob={ st with sl:=put d v st.sl,ob:=put st.nx ob st.ob,nx:=st.nx+1 }:=by
 unfold St.new St.set;simp only [dY hd]
structure Made (stL stL':St) (d:Nat) (p:PV) (pk:Pk) (B:Nat->Nat) (us:List Nat):Prop where
 nt:stL'.nt=stL.nt
 nx:stL'.nx=stL.nx+p.n
 sl:stL'.sl=put d (p.v.place stL.nx) stL.sl
 new:∀i o,look p.os i=some o->i<p.n/\look stL'.ob (stL.nx+i)=some o
 old:∀h o,look stL.ob h=some o->h<stL.nx->¬Nums pk B us h->look stL'.ob h=some o
theorem Made.one {stL:St} {d:Nat} {v:AV} {ob:Ob} {pk:Pk} {B:Nat->Nat} {us:List Nat} {ob1:List (Nat×Ob)} (hd:d<stL.nt) (hold:∀h o,look stL.ob h=some o->¬Nums pk B us h->look ob1 h=some o):
 Made stL (({ stL with ob:=ob1 }:St).new (some d) (v.place stL.nx) ob) d (pv1 v ob) pk B us:=by
 rw [St.new_some (by exact hd)]
 refine ⟨rfl,rfl,rfl,fun i o hi=> ?_,fun h o ho hlt hn=> ?_⟩
 · simp only [pv1,look] at hi;split at hi;rotate_left;cases hi
   rename_i e;subst e;rw [xZ hi];exact ⟨Nat.one_pos,E1 _ _ _⟩
 · show look (put stL.nx ob ob1) h=some o
   rw [look_put_ne _ _ (by omega)]
   exact hold h o ho hn
theorem makes_alloc {stL:St} {pk:Pk} {B:Nat->Nat} {d:Nat} {p:PV} {us:List Nat} {t:TypeId} (ho:o.op= .alloc t) (hd:o.dst=some d) (hdn:d<stL.nt)
 (h:mkC E call st pk o (fun p us=>some (p,us))=some (p,us)):∃stL',eff E call stL o some=some stL'/\Made stL stL' d p pk B us:=by
 unfold mkC at h;rw [ho] at h;simp only at h
 unfold eff;rw [ho];simp only
 split at h;rotate_left;cases h
 rename_i i hi;cases h
 rw [hd];exact ⟨_,rfl,Made.one (v:= .c (.ptr 0 0)) hdn fun _ _ h _=>h⟩
theorem int_of {stL:St} {x:Operand} (hev:∀v,st.ev x=some v->stL.ev x=some v) {n:Int} (h:st.int x=some n):stL.int x=some n:=by
  cases hx:st.ev x with
  | none=>simp [St.int,St.sc,hx] at h
  | some v=>
    have:=hev v hx
    simpa only [St.int,St.sc,hx,this] using h
theorem makes_makeSlice {stL:St} {pk:Pk} {B:Nat->Nat} {d:Nat} {p:PV} {us:List Nat} {t:TypeId} {l c:Operand} (ho:o.op= .makeSlice t l c) (hd:o.dst=some d) (hdn:d<stL.nt)
 (hev:∀x ∈ o.op.operands,∀v,st.ev x=some v->stL.ev x=some v) (h:mkC E call st pk o (fun p us=>some (p,us))=some (p,us)):∃stL',eff E call stL o some=some stL'/\Made stL stL' d p pk B us:=by
 rw [ho] at hev;simp only [Op.operands] at hev;unfold mkC at h;rw [ho] at h;simp only at h
 unfold eff;rw [ho];simp only
 split at h;rotate_left;cases h
 rename_i e i n m he hl hm;rw [he,int_of (hev l (by simp)) hl,int_of (hev c (by simp)) hm]
 simp only
 split at h;rotate_left;cases h
 rename_i h1;rw [dY h1];split at h;rotate_left;cases h
 rename_i h2;rw [dY h2];split at h;rotate_left;cases h
 rename_i h3;rw [dY h3];split at h;rotate_left;cases h
 rename_i z hz;cases h
 rw [hd];exact ⟨_,rfl,Made.one (v:= .c (.ref 0)) hdn fun _ _ h _=>h⟩
theorem moved_all:∀(cs:List C) (X:St),cs.all C.isV=true->X.moved cs=some (cs,X)
  | [],X,_=>rfl
  | c::cs,X,h=>by
    simp only [List.all_cons,sZ] at h;cases c
    case v x=>simp only [St.moved,moved_all cs X h.2]
    all_goals (exact absurd h.1 (by simp [C.isV]))
theorem moved_placed (b:Nat):∀(cs ds:List C) (os:List (Nat×Ob)) (X:St),pkDatas os cs=some ds->(∀i o,look os i=some o->look X.ob (b+i)=some o)->
    ∃ob1,X.moved (cs.map (C.place b))=some (ds,{ X with ob:=ob1 })/\∀h o,look X.ob h=some o->(∀i o',look os i=some o'->h≠b+i)->look ob1 h=some o
  | [],ds,os,X,h,_=>by
    simp only [pkDatas,nZ] at h;subst h;exact ⟨X.ob,rfl,fun _ _ h _=>h⟩
  | c::cs,ds,os,X,h,hX=>by
    cases c<;>try (simp only [pkDatas] at h;cases h)
    case v x=>
      simp only [pkDatas] at h;cases h1:pkDatas os cs with
      | none=>rw [h1] at h;cases h
      | some xs=>
        rw [h1] at h;cases h
        obtain ⟨ob1,g1,g2⟩:=moved_placed b cs xs os X h1 hX;refine ⟨ob1,?_,g2⟩
        simp only [List.map_cons,C.place,St.moved,g1]
    case ref k=>
      simp only [pkDatas] at h;split at h;rotate_left;cases h
      rename_i e sh xs hk;cases h1:pkDatas (del k os) cs with
      | none=>rw [h1] at h;cases h
      | some ys=>
        rw [h1] at h;cases h
        obtain ⟨ob1,g1,g2⟩:=moved_placed b cs ys (del k os) { X with ob:=del (b+k) X.ob } h1 fun i o hi=>by
          obtain ⟨h2,h3⟩:=look_del hi;show look (del (b+k) X.ob) (b+i)=some o
          rw [look_del_ne _ (by omega)]
          exact hX i o h3
        refine ⟨ob1,?_,fun h o hh hn=> ?_⟩
        · simp only [List.map_cons,C.place,St.moved,hX k _ hk,g1]
        · refine g2 h o ?_ fun i o' hi=>hn i o' (look_del hi).2
          show look (del (b+k) X.ob) h=some o
          rw [look_del_ne _ (hn k _ hk)];exact hh
theorem place_cs {v:AV} {cs:List C} (b:Nat) (h:v.cs=some cs):(v.place b).cs=some (cs.map (C.place b)):=by
 cases v<;>simp only [AV.cs,nZ] at h<;>first | (subst h;rfl) | cases h
theorem headPart_sound {stL:St} {pk0 pk:Pk} {B:Nat->Nat} {x:Operand} {us:List Nat} {ds:List C} {T:Nat->Prop} (hT:∀t,x= .tmp t->T t) (hP:Placed T stL pk0 B) (hsub:∀t p,look pk t=some p->look pk0 t=some p) {X:St}
    (hX:∀t p,T t->look pk t=some p->∀i o,look p.os i=some o->look X.ob (B t+i)=some o) (hev:∀v,st.ev x=some v->stL.ev x=some v) (h:headPart st pk x=some (ds,us)):
    ∃v cs ob1,stL.ev x=some v/\v.cs=some cs/\X.moved cs=some (ds,{ X with ob:=ob1 })/\(∀h o,look X.ob h=some o->¬Nums pk0 B us h->look ob1 h=some o)/\∀t ∈ us,T t:=by
  unfold headPart at h;have base:∀(hh:(match st.ev x with | some v=>(match v.cs with | some cs=>if cs.all C.isV then some (cs,[]) else none | none=>none) | none=>none)=some (ds,us)),∃v cs ob1,stL.ev x=some v/\v.cs=some cs/\X.moved cs=some (ds,{ X with ob:=ob1 })/\(∀h o,look X.ob h=some o->¬Nums pk0 B us h->look ob1 h=some o)/\∀t ∈ us,T t:=by
    intro hh;split at hh;rotate_left;cases hh
    rename_i v hv;split at hh;rotate_left;cases hh
    rename_i cs hcs;split at hh;rotate_left;cases hh
    rename_i hall;obtain ⟨rfl,rfl⟩:=Prod.mk.inj (xZ hh);exact ⟨v,cs,X.ob,hev _ hv,hcs,moved_all _ _ hall,fun _ _ h _=>h,by simp⟩
  cases x
  case tmp t=>
    simp only at h
    cases hp:look pk t with
    | none=>rw [hp] at h;exact base h
    | some p=>
      rw [hp] at h;simp only [Option.map_some] at h;split at h;rotate_left;cases h
      rename_i cs hcs;split at h;rotate_left;cases h
      rename_i ds' hds;cases h
      obtain ⟨ob1,g1,g2⟩:=moved_placed (B t) cs _ p.os X hds (hX t p (hT _ rfl) hp);refine ⟨_,_,ob1,hP.sl t p (hT _ rfl) (hsub _ _ hp),place_cs _ hcs,g1,fun h o hh hn=>g2 h o hh fun i o' hi e=>hn ⟨t,by simp,p,i,o',hsub _ _ hp,hi,e⟩,?_⟩
      intro t' ht';rw [kZ.1 ht'];exact hT _ rfl
  all_goals exact base h
theorem headParts_sound {sh:Sh} {stL:St} {pk0:Pk} {B:Nat->Nat} {T:Nat->Prop} (hP:Placed T stL pk0 B):∀(ps:List (Nat×Operand)) (k:Nat) (pk:Pk) (X:St) (xs:List (Ty sh)) (us:List Nat),(∀q ∈ ps,∀t,q.2= .tmp t->T t)->(∀q ∈ ps,∀v,st.ev q.2=some v->stL.ev q.2=some v)->
    (∀t p,look pk t=some p->look pk0 t=some p)->(∀t p,T t->look pk t=some p->∀i o,look p.os i=some o->look X.ob (B t+i)=some o)->headParts sh st pk ps k=some (xs,us)->
    ∃vs ob1,evParts stL ps=some vs/\movedParts sh X vs k=some (xs,{ X with ob:=ob1 })/\∀h o,look X.ob h=some o->¬Nums pk0 B us h->look ob1 h=some o
  | [],k,pk,X,xs,us,_,_,_,_,h=>by
    simp only [headParts,nZ,Prod.mk.injEq] at h;obtain ⟨rfl,rfl⟩:=h;exact ⟨[],X.ob,rfl,rfl,fun _ _ h _=>h⟩
  | (n,x)::r,k,pk,X,xs,us,hT,hev,hsub,hX,h=>by
    simp only [headParts] at h;split at h;rotate_left;cases h
    rename_i hnk;split at h;rotate_left;cases h
    rename_i cs us1 hp;split at h;rotate_left;cases h
    rename_i y hy;split at h;rotate_left;cases h
    rename_i ys us2 hr;cases h
    obtain ⟨v,cs',ob1,g1,g2,g3,g4,g5⟩:=headPart_sound (hT (n,x) (by simp)) hP hsub hX (hev (n,x) (by simp)) hp
    obtain ⟨vs,ob2,k1,k2,k3⟩:=headParts_sound hP r (k+1) (delAll us1 pk) { X with ob:=ob1 } ys us2 (fun q hq=>hT q (by simp [hq])) (fun q hq=>hev q (by simp [hq]))
      (fun t p hh=>by
        rw [look_delAll] at hh;split at hh;cases hh
        exact hsub t p hh)
      (fun t p ht hh i o hi=>by
        rw [look_delAll] at hh;split at hh;cases hh
        rename_i hn;refine g4 _ _ (hX t p ht hh i o hi) ?_
        rintro ⟨t',ht',p',i',o',h1,h2,h3⟩
        exact hP.disj t p t' p' ht (g5 t' ht') (hsub _ _ hh) h1 (fun e=>hn (by rw [e];exact ht')) i o i' o' hi h2 h3) hr
    refine ⟨(n,cs')::vs,ob2,?_,?_,fun h o hh hn=>k3 h o (g4 h o hh ?_) ?_⟩
    · simp only [evParts,g1,g2,k1]
    · simp only [movedParts,dY hnk,g3,hy,k2]
    · rintro ⟨t,ht,q⟩
      exact hn ⟨t,by simp [ht],q⟩
    · rintro ⟨t,ht,q⟩
      exact hn ⟨t,by simp [ht],q⟩
theorem makes_buildSlice {stL:St} {pk:Pk} {B:Nat->Nat} {d:Nat} {p:PV} {us:List Nat} {t:TypeId} {n:Nat} {parts:Array (Nat×Operand)} {T:Nat->Prop} (ho:o.op= .buildSlice t n parts) (hd:o.dst=some d) (hdn:d<stL.nt)
 (hT:∀x ∈ o.op.operands,∀t,x= .tmp t->T t) (hP:Placed T stL pk B) (hev:∀x ∈ o.op.operands,∀v,st.ev x=some v->stL.ev x=some v) (h:mkC E call st pk o (fun p us=>some (p,us))=some (p,us)):
 ∃stL',eff E call stL o some=some stL'/\Made stL stL' d p pk B us:=by
 rw [ho] at hev hT;simp only [Op.operands] at hev hT;have hm:∀q ∈ parts.toList,q.2 ∈ (parts.toList.map (·.2)).toArray:=fun q hq=>by simp;exact ⟨q.1,by simpa using hq⟩
 unfold mkC at h;rw [ho] at h;simp only at h
 unfold eff;rw [ho];simp only
 split at h;rotate_left;cases h
 rename_i e i he;split at h;rotate_left;cases h
 rename_i hsz;split at h;rotate_left;cases h
 rename_i xs us' hps;split at h;rotate_left;cases h
 rename_i hlen;cases h
 obtain ⟨vs,ob1,g1,g2,g3⟩:=headParts_sound hP parts.toList 0 pk stL xs _ (fun q hq=>hT _ (hm q hq)) (fun q hq=>hev _ (hm q hq)) (fun _ _ h=>h) hP.ob hps
 rw [he,g1];simp only
 rw [dY hsz,g2];simp only
 rw [dY hlen,hd];exact ⟨_,rfl,Made.one (v:= .c (.ref 0)) hdn g3⟩
theorem Placed.del {T:Nat->Prop} {stL:St} {pk:Pk} {B:Nat->Nat} (hP:Placed T stL pk B) (us:List Nat):Placed T stL (delAll us pk) B:=by
 have hs:∀t p,look (delAll us pk) t=some p->look pk t=some p:=by
  intro t p h;rw [look_delAll] at h;split at h;cases h
  exact h
 exact ⟨fun t p hT h=>hP.sl t p hT (hs t p h),fun t p hT h=>hP.ob t p hT (hs t p h),fun t p t' p' hT hT' h h'=>hP.disj t p t' p' hT hT' (hs t p h) (hs t' p' h')⟩
theorem headApp_sound {stL:St} {pk:Pk} {B:Nat->Nat} {sh:Sh} {e:Nat} {x:Operand} {us:List Nat} {xs:List (Ty sh)} {T:Nat->Prop} (hob:∀h o,look st.ob h=some o->look stL.ob h=some o) (hT:∀t,x= .tmp t->T t) (hP:Placed T stL pk B) (hev:∀v,st.ev x=some v->stL.ev x=some v) (h:headApp st pk sh e x=some (us,xs)):
    ∃c ob1,stL.ev x=some (.c c)/\appArg stL sh c=some (xs,{ stL with ob:=ob1 })/\(∀h o,look stL.ob h=some o->¬Nums pk B us h->look ob1 h=some o)/\∀t ∈ us,T t:=by
  unfold headApp at h;cases hr:headRow st pk sh e x with
  | some q=>
    obtain ⟨us',xs'⟩:=q;rw [hr] at h;simp only at h
    cases h
    rcases headRow_sound hT hP hev hr with ⟨rfl,rfl,h1 | h1⟩ | ⟨t,sh',ys,p,rfl,h0,h1,h2,h3,h4,h5⟩
    · exact ⟨_,stL.ob,h1,rfl,fun _ _ h _=>h,by simp⟩
    · exact ⟨_,stL.ob,h1,rfl,fun _ _ h _=>h,by simp⟩
    · refine ⟨_,del (B t) stL.ob,h4,?_,fun h o hh hn=> ?_,?_⟩
      · simp only [appArg,h5,h3]
      · rw [look_del_ne _ fun e=>hn ⟨t,by simp,p,0,_,h1,by rw [h2];simp only [look];rfl,by omega⟩]
        exact hh
      · intro t' ht';rw [kZ.1 ht'];exact h0
  | none=>
    rw [hr] at h;simp only at h
    split at h
    · rename_i e' sh' ys hx;split at h;rotate_left;cases h
      rename_i hf;split at h;rotate_left;cases h
      rename_i ys' hc;cases h
      refine ⟨_,stL.ob,hev _ hx,?_,fun _ _ h _=>h,by simp⟩
      simp only [appArg,dY hf,hc]
    · rename_i hh sz lo hi hx;split at h;rotate_left;cases h
      rename_i e' sh' ys ho;split at h;rotate_left;cases h
      rename_i hf;split at h;rotate_left;cases h
      rename_i ys' hc;cases h
      refine ⟨_,stL.ob,hev _ hx,?_,fun _ _ h _=>h,by simp⟩
      simp only [appArg,hob _ _ ho,dY hf,hc]
    · cases h
theorem makes_append {stL:St} {pk:Pk} {B:Nat->Nat} {d:Nat} {p:PV} {us:List Nat} {args:Array Operand} {tys:Array TypeId} {T:Nat->Prop} (hob:∀h o,look st.ob h=some o->look stL.ob h=some o) (ho:o.op= .call { callee:= .builtin .append,args,argTypes:=tys }) (hd:o.dst=some d) (hdn:d<stL.nt)
 (hT:∀x ∈ o.op.operands,∀t,x= .tmp t->T t) (hP:Placed T stL pk B) (hev:∀x ∈ o.op.operands,∀v,st.ev x=some v->stL.ev x=some v) (h:mkC E call st pk o (fun p us=>some (p,us))=some (p,us)):
 ∃stL',eff E call stL o some=some stL'/\Made stL stL' d p pk B us:=by
 rw [ho] at hev hT;have hev':∀x ∈ args.toList,∀v,st.ev x=some v->stL.ev x=some v:=fun x hx=>hev x (by simpa [Op.operands,Call.operands] using hx)
 have hT':∀x ∈ args.toList,∀t,x= .tmp t->T t:=fun x hx=>hT x (by simpa [Op.operands,Call.operands] using hx)
 unfold mkC at h;rw [ho] at h;simp only [] at h;unfold eff;rw [ho];simp only [];generalize args.toList=as at h hev' hT' ⊢;generalize tys.toList=ts at h ⊢;split at h;rotate_left;cases h
 rename_i s x t t';split at h;rotate_left;cases h
 rename_i e i he;split at h;rotate_left;cases h
 rename_i htt;split at h;rotate_left;cases h
 rename_i us1 ys hs;split at h;rotate_left;cases h
 rename_i us2 xs hx;split at h;rotate_left;cases h
 rename_i hby
 cases h
 obtain ⟨c,ob1,g1,g2,g3,g4⟩:=headApp_sound hob (hT' x (by simp)) (hP.del us1) (hev' x (by simp)) hx
 have g3':∀h o,look stL.ob h=some o->¬Nums pk B (us1++us2) h->look ob1 h=some o:=by
  intro h o hh hn;refine g3 h o hh ?_
  rintro ⟨t,ht,p,i,o',h1,h2⟩
  rw [look_delAll] at h1;split at h1;cases h1
  exact hn ⟨t,by simp [ht],p,i,o',h1,h2⟩
 rcases headRow_sound (hT' s (by simp)) hP (hev' s (by simp)) hs with ⟨rfl,rfl,h1 | h1⟩ | ⟨t0,sh',ys',p,rfl,h0,h1,h2,h3,h4,h5⟩
 · rw [h1,g1,he];simp only
   rw [dY htt,g2];simp only
   simp only [List.length_nil,Nat.zero_add] at hby
   rw [dY hby,hd];exact ⟨_,rfl,Made.one (v:= .c (.ref 0)) hdn g3'⟩
 · rw [h1,g1,he];simp only
   rw [dY htt,g2];simp only
   simp only [List.length_nil,Nat.zero_add] at hby
   rw [dY hby,hd];exact ⟨_,rfl,Made.one (v:= .c (.ref 0)) hdn g3'⟩
 · have hk:look ob1 (B t0)=some (.arr e sh' ys'):=by
    refine g3 _ _ h5 ?_
    rintro ⟨t,ht,p',i',o',k1,k2,k3⟩
    rw [look_delAll] at k1;split at k1;cases k1
    rename_i hne
    have:=hP.disj t0 p t p' h0 (g4 t ht) h1 k1 (fun e=>hne (by simp [e])) 0 (.arr e sh' ys') i' o' (by rw [h2];simp [look]) k2
    omega
   rw [h4,g1,he];simp only
   rw [dY htt,g2];simp only
   rw [hk];simp only
   rw [dY trivial,h3];simp only
   rw [dY hby,hd];refine ⟨_,rfl,Made.one (v:= .c (.ref 0)) hdn (ob1:=del (B t0) ob1) fun h o hh hn=> ?_⟩
   rw [look_del_ne _ fun e=>hn ⟨t0,by simp,p,0,_,h1,by rw [h2];simp only [look];rfl,by omega⟩]
   exact g3' h o hh hn
mutual
theorem oavs_place (N:Nat):(sh:Sh)->(x:Ty sh)->(k:Nat)->oavs sh x (N+k)=((oavs sh x k).1.map (C.place N),obsAt N (oavs sh x k).2.1,N+(oavs sh x k).2.2)
 | .b,x,k=>rfl
 | .i _,x,k=>rfl
 | .s,x,k=>rfl
 | .l e sh,xs,k=>by simp [oavs,C.place,obsAt];omega
 | .a fs,x,k=>by simp only [oavs];exact oavsL_place N fs x k
theorem oavsL_place (N:Nat):(fs:List Sh)->(x:TyL fs)->(k:Nat)->oavsL fs x (N+k)=((oavsL fs x k).1.map (C.place N),obsAt N (oavsL fs x k).2.1,N+(oavsL fs x k).2.2)
  | [],x,k=>rfl
  | [f],x,k=>by simp only [oavsL];exact oavs_place N f x k
  | f::g::r,x,k=>by
    simp only [oavsL];rw [oavs_place N f x.1 k];simp only
    rw [oavsL_place N (g::r) x.2];simp [obsAt]
end
mutual
theorem oavs_keys:(sh:Sh)->(x:Ty sh)->(k:Nat)->k<=(oavs sh x k).2.2/\(oavs sh x k).2.1.map (·.1)=List.range' k ((oavs sh x k).2.2-k)
 | .b,x,k=>by simp [oavs]
 | .i _,x,k=>by simp [oavs]
 | .s,x,k=>by simp [oavs]
 | .l e sh,xs,k=>by simp [oavs]
 | .a fs,x,k=>by simp only [oavs];exact oavsL_keys fs x k
theorem oavsL_keys:(fs:List Sh)->(x:TyL fs)->(k:Nat)->k<=(oavsL fs x k).2.2/\(oavsL fs x k).2.1.map (·.1)=List.range' k ((oavsL fs x k).2.2-k)
  | [],x,k=>by simp [oavsL]
  | [f],x,k=>by simp only [oavsL];exact oavs_keys f x k
  | f::g::r,x,k=>by
    obtain ⟨h1,h2⟩:=oavs_keys f x.1 k;obtain ⟨h3,h4⟩:=oavsL_keys (g::r) x.2 (oavs f x.1 k).2.2;simp only [oavsL];rcases e1:oavs f x.1 k with ⟨vs,os,m⟩
    rw [e1] at h1 h2 h3 h4;rcases e2:oavsL (g::r) x.2 m with ⟨ws,ps,n⟩
    simp only at h1 h2 h3 h4 ⊢
    rw [e2] at h3 h4;simp only at h3 h4 ⊢
    refine ⟨by omega,?_⟩
    rw [List.map_append,h2,h4,show n-k=(m-k)+(n-m) by omega,<-List.range'_append_1,show k+(m-k)=m by omega]
end
theorem look_putAll_other {α:Type}:∀(xs l:List (Nat×α)) (k:Nat),(∀p ∈ xs,p.1≠k)->look (putAll xs l) k=look l k
  | [],l,k,_=>rfl
  | (n,v)::xs,l,k,h=>by
    unfold putAll;rw [look_putAll_other xs _ k fun p hp=>h p (by simp [hp]),look_put_ne _ _ (fun e=>h (n,v) (by simp) e.symm)]
theorem look_putAll_in {α:Type}:∀(xs l:List (Nat×α)) (k:Nat) (v:α),(xs.map (·.1)).Nodup->look xs k=some v->look (putAll xs l) k=some v
  | [],l,k,v,_,h=>by cases h
  | (n,u)::xs,l,k,v,hn,h=>by
    simp only [List.map_cons,List.nodup_cons] at hn;unfold putAll;simp only [look] at h;split at h
    · rename_i e;subst e;rw [look_putAll_other xs _ n fun p hp e=>hn.1 (by rw [<-e];exact List.mem_map_of_mem hp),E1]
      exact h
    · exact look_putAll_in xs _ k v hn.2 h
theorem look_key {α:Type}:∀(l:List (Nat×α)) (k:Nat) (v:α),look l k=some v->k ∈ l.map (·.1)
  | [],_,_,h=>by cases h
  | (n,u)::l,k,v,h=>by
    simp only [look] at h;split at h
    · rename_i e;simp [e]
    · simp only [List.map_cons,zZ];exact .inr (look_key l k v h)
theorem look_obsAt (b:Nat):∀(os:List (Nat×Ob)) (i:Nat) (o:Ob),look os i=some o->look (obsAt b os) (b+i)=some o
  | [],_,_,h=>by cases h
  | (n,u)::os,i,o,h=>by
    simp only [look] at h;simp only [obsAt,List.map_cons,look];split at h
    · rename_i e;rw [dY (by omega)];exact h
    · rw [eY (by omega)];exact look_obsAt b os i o h
theorem resOwn_one:∀(fs:List Sh) (p:TyL fs) (b:Bool) (cs:List C) (os:List (Nat×Ob)) (n:Nat),resOwn fs p 0=([(b,cs)],os,n)->
    (os.map (·.1)=List.range' 0 n)/\∀N,resOwn fs p N=([(b,cs.map (C.place N))],obsAt N os,N+n)
  | [],p,b,cs,os,n,h=>by simp [resOwn] at h
  | [f],p,b,cs,os,n,h=>by
    simp only [resOwn,Prod.mk.injEq,List.cons.injEq,and_true] at h;obtain ⟨⟨rfl,rfl⟩,rfl,rfl⟩:=h;refine ⟨(oavs_keys f p 0).2,fun N=> ?_⟩
    have:=oavs_place N f p 0
    simp only [Nat.add_zero] at this;simp only [resOwn,this]
  | f::g::r,p,b,cs,os,n,h=>by
    have h1:=resOwn_len (f::g::r) p 0;rw [h] at h1;simp at h1
theorem makes_call {stL:St} {pk:Pk} {B:Nat->Nat} {d:Nat} {p:PV} {us:List Nat} {f:Operand} {args:Array Operand} {tys:Array TypeId} (ho:o.op= .call { callee:= .value f,args,argTypes:=tys }) (hd:o.dst=some d) (hdn:d<stL.nt)
    (hob:∀h o,look st.ob h=some o->look stL.ob h=some o) (hev:∀x ∈ o.op.operands,∀v,st.ev x=some v->stL.ev x=some v) (h:mkC E call st pk o (fun p us=>some (p,us))=some (p,us)):
    ∃stL',eff E call stL o some=some stL'/\Made stL stL' d p pk B us:=by
  rw [ho] at hev;simp only [Op.operands,Call.operands] at hev;unfold mkC at h;rw [ho] at h;simp only [] at h;unfold eff;rw [ho];simp only [];split at h;rotate_left;cases h
  rename_i g caps vs hcl hall;split at h;rotate_left;cases h
  rename_i xs hda;split at h;rotate_left;cases h
  rename_i hown;simp only [sZ,pZ] at hown;obtain ⟨hown,htk,hio⟩:=hown;have hnil:E.tk g=[]:=by simpa using htk
  have hcl':stL.callee f=some (g,caps):=by
    unfold St.callee at hcl ⊢;cases hf:st.ev f with
    | none=>rw [hf] at hcl;cases hcl
    | some v=>rw [hev f (by simp) v hf];rw [hf] at hcl;exact hcl
  have hall':∀(l:List Operand) (vs:List AV),(∀x ∈ l,∀v,st.ev x=some v->stL.ev x=some v)->evAll st l=some vs->evAll stL l=some vs:=by
    intro l;induction l with
    | nil=>intro vs _ h;exact h
    | cons x l ih=>
      intro vs hx h;simp only [evAll] at h ⊢;cases h1:st.ev x with
      | none=>rw [h1] at h;cases h
      | some v=>
        rw [h1] at h;rw [hx x (by simp) v h1]
        simp only at h ⊢
        cases h2:evAll st l with
        | none=>rw [h2] at h;cases h
        | some ws=>rw [ih ws (fun y hy=>hx y (by simp [hy])) h2];rw [h2] at h;exact h
  rw [hcl',hall' args.toList vs (fun x hx=>hev x (by simp;exact .inr (by simpa using hx))) hall]
  simp only
  rw [hnil];simp only [takeArgs];rw [dataAs_mono hob hda];simp only
  rw [dY (by simp [callable,hown,hio]),dY hio]
  cases hc:call g (xs++caps.map .c) with
  | none=>rw [hc] at h;cases h
  | some q=>
    rw [hc] at h;simp only [rZ] at h;split at h;rotate_left;cases h
    rename_i b cs os n hres;split at h;rotate_left;cases h
    rename_i v hv;cases h
    obtain ⟨k1,k2⟩:=resOwn_one _ q b cs os n hres;unfold callK;rw [hc];simp only [rZ];rw [dY hown,k2 stL.nx];simp only [hio,List.length_singleton,Nat.sub_zero,List.take_succ_cons,List.take_zero,List.drop_succ_cons,List.drop_zero,giveBack,resAV];have hv':pack b (cs.map (C.place stL.nx))=some (v.place stL.nx):=by
      unfold pack at hv ⊢;split at hv
      · rw [dY (by assumption)];rw [<-xZ hv];rfl
      · rw [eY (by assumption)]
        split at hv;rotate_left;cases hv
        rw [<-xZ hv];rfl
    rw [hv'];simp only
    have hnd:((obsAt stL.nx os).map (·.1)).Nodup:=by
      have e:(obsAt stL.nx os).map (·.1)=(os.map (·.1)).map (stL.nx+ ·):=by simp [obsAt,List.map_map,Function.comp_def]
      rw [e,k1];rw [List.map_add_range'];exact List.nodup_range'
    refine ⟨_,rfl,?_,?_,?_,fun i o hi=>⟨?_,?_⟩,fun h o hh hlt hn=> ?_⟩
    · rw [hd];simp only [St.set,dY hdn]
    · rfl
    · rw [hd];simp only [St.set,dY hdn]
    · have:=look_key _ _ _ hi
      rw [k1] at this;simpa using this
    · exact look_putAll_in _ _ _ _ hnd (look_obsAt _ _ _ _ hi)
    · show look (putAll (obsAt stL.nx os) stL.ob) h=some o
      rw [look_putAll_other _ _ _ ?_]
      · exact hh
      · intro p hp e;simp only [obsAt,List.mem_map] at hp;obtain ⟨q,_,rfl⟩:=hp;simp only at e
        omega
theorem mk_step {stL:St} {pk:Pk} {B:Nat->Nat} {d:Nat} {p:PV} {us:List Nat} {T:Nat->Prop} (hd:o.dst=some d) (hdn:d<stL.nt) (hT:∀x ∈ o.op.operands,∀t,x= .tmp t->T t) (hP:Placed T stL pk B)
 (hob:∀h o,look st.ob h=some o->look stL.ob h=some o) (hev:∀x ∈ o.op.operands,∀v,st.ev x=some v->stL.ev x=some v) (h:mkC E call st pk o (fun p us=>some (p,us))=some (p,us)):
 ∃stL',eff E call stL o some=some stL'/\Made stL stL' d p pk B us:=by
 cases ho:o.op
 case alloc t=>exact makes_alloc ho hd hdn h
 case makeSlice t l c=>exact makes_makeSlice ho hd hdn hev h
 case buildSlice t n ps=>exact makes_buildSlice ho hd hdn hT hP hev h
 case call c=>
  obtain ⟨callee,args,tys⟩:=c;cases callee
  case value f=>exact makes_call ho hd hdn hob hev h
  case builtin b=>
   cases b
   case append=>exact makes_append hob ho hd hdn hT hP hev h
   all_goals (simp only [mkC,ho] at h;cases h)
  all_goals (simp only [mkC,ho] at h;cases h)
 all_goals (simp only [mkC,ho] at h;cases h)
end
end Go.V
