/- The interpreter's fourth part: regions whose operations float, loops, whole functions; and how a statement's input is read as plain data. No condition. -/
import Derived.Test.YtdglapefgakccaaGreatV3
import Derived.WalkKit
import Derived.ProofKit
import Derived.OpenShut
import Derived.ShutString
import Derived.ChangeOld
import Derived.Below
import Derived.SizedLaws
import Derived.Carry
import Derived.Laws.BitsLemmas
import Derived.Sort.Grow
import Derived.Lib.SlicesCompact
set_option linter.unusedSimpArgs false
set_option linter.unusedVariables false
namespace Go.V
open Go.RowKit (Below)
theorem mem_dedup:∀(l acc:List Nat) (x:Nat),x ∈ l\/x ∈ acc->x ∈ dedup l acc
  | [],acc,x,h=>by simpa [dedup] using h
  | h::r,acc,x,hx=>by
    unfold dedup;split
    · rename_i hc;refine mem_dedup r acc x ?_
      rcases hx with hx | hx
      · rcases zZ.1 hx with rfl | hx
        · exact .inr (by simpa using hc)
        · exact .inl hx
      · exact .inr hx
    · refine mem_dedup r _ x ?_
      rcases hx with hx | hx
      · rcases zZ.1 hx with rfl | hx
        · exact .inr (by simp)
        · exact .inl hx
      · exact .inr (by simp [hx])
theorem nodup_dedup:∀(l acc:List Nat),acc.Nodup->(dedup l acc).Nodup
  | [],acc,h=>h
  | x::r,acc,h=>by
    unfold dedup;split
    · exact nodup_dedup r acc h
    · rename_i hc;refine nodup_dedup r _ (qZ.2 ⟨h,by simp,?_⟩)
      rintro a ha b hb rfl
      simp at hb;subst hb;exact hc (by simpa using ha)
theorem mem_reach (ob:List (Nat×Ob)):∀(n:Nat) (hs:List Nat) (x:Nat),x ∈ hs->x ∈ reach ob n hs
 | 0,hs,x,h=>h
 | n+1,hs,x,h=>mem_reach ob n _ x (mem_dedup _ _ x (.inr h))
theorem nodup_reach (ob:List (Nat×Ob)):∀(n:Nat) (hs:List Nat),hs.Nodup->(reach ob n hs).Nodup
 | 0,hs,h=>h
 | n+1,hs,h=>nodup_reach ob n _ (nodup_dedup _ _ h)
theorem look_canonOb {ob:List (Nat×Ob)} {hs:List Nat}:∀(l:List Nat) (n m:Nat) (o':Ob),look (canonOb ob hs l n) m=some o'->n<=m/\∃h o,l[m-n]? =some h/\look ob h=some o/\o'=o.ren hs/\∀x ∈ o.hs,x ∈ hs
  | [],n,m,o',h=>by cases h
  | h::r,n,m,o',hl=>by
    have next:look (canonOb ob hs r (n+1)) m=some o'->n<=m/\∃h' o,(h::r)[m-n]? =some h'/\look ob h'=some o/\o'=o.ren hs/\∀x ∈ o.hs,x ∈ hs:=by
      intro hl;obtain ⟨h1,h',o,h2,h3⟩:=look_canonOb r (n+1) m o' hl;refine ⟨by omega,h',o,?_,h3⟩
      rw [show m-n=(m-(n+1))+1 by omega]
      simpa using h2
    unfold canonOb at hl;split at hl
    · rename_i o ho;split at hl
      · rename_i hall;simp only [look] at hl;split at hl
        · rename_i e;subst e;simp only [nZ] at hl;refine ⟨cY _,h,o,by simp,ho,hl.symm,fun x hx=> ?_⟩
          simpa using uZ.1 hall x hx
        · exact next hl
      · exact next hl
    · exact next hl
theorem look_pickSl {sl:List (Nat×AV)}:∀(l:List Nat) (t:Nat) (v:AV),look (pickSl sl l) t=some v->look sl t=some v/\(v.isTup=false)
  | [],t,v,h=>by cases h
  | k::r,t,v,h=>by
    unfold pickSl at h;split at h
    · rename_i u hu;split at h
      · exact look_pickSl r t v h
      · rename_i htup;simp only [look] at h;split at h
        · rename_i e;subst e;cases h
          exact ⟨hu,by simpa using htup⟩
        · exact look_pickSl r t v h
    · exact look_pickSl r t v h
theorem look_mem {α:Type}:∀(l:List (Nat×α)) (t:Nat) (v:α),look l t=some v->(t,v) ∈ l
  | [],t,v,h=>by cases h
  | (k,u)::r,t,v,h=>by
    simp only [look] at h;split at h
    · rename_i e;subst e;cases h
      simp
    · exact fZ _ (look_mem r t v h)
theorem ren_VC {w:World} {ok:Nat->Prop} {β:Nat->Value} {hs:List Nat} {c:C} {u:Value} (h:VC w ok β c u) (hm:∀x ∈ c.hs,x ∈ hs):VC w ok (fun i=>β (hs.getD i 0)) (c.ren hs) u/\C.lt hs.length (c.ren hs):=by
 have key:∀x,x ∈ hs->hs.getD (hs.idxOf x) 0=x/\hs.idxOf x<hs.length:=by
  intro x hx;have hlt:=List.idxOf_lt_length_of_mem hx;refine ⟨?_,hlt⟩
  rw [List.getD_eq_getElem?_getD,dZ hlt]
  simp
 cases c
 case ref x=>
  obtain ⟨h1,h2⟩:=key x (hm x (by simp [C.hs]))
  exact ⟨by simp only [C.ren,VC,h1];exact h,by intro y hy;simp [C.ren,C.hs] at hy;subst hy;exact h2⟩
 case ptr x o=>
  obtain ⟨h1,h2⟩:=key x (hm x (by simp [C.hs]))
  exact ⟨by simp only [C.ren,VC,h1];exact h,by intro y hy;simp [C.ren,C.hs] at hy;subst hy;exact h2⟩
 case el x sz i j=>
  obtain ⟨h1,h2⟩:=key x (hm x (by simp [C.hs]))
  exact ⟨by simp only [C.ren,VC,h1];exact h,by intro y hy;simp [C.ren,C.hs] at hy;subst hy;exact h2⟩
 case sub x sz lo hi=>
  obtain ⟨h1,h2⟩:=key x (hm x (by simp [C.hs]))
  exact ⟨by simp only [C.ren,VC,h1];exact h,by intro y hy;simp [C.ren,C.hs] at hy;subst hy;exact h2⟩
 all_goals exact ⟨h,by intro y hy;simp [C.ren,C.hs] at hy⟩
theorem ren_all2 {w:World} {ok:Nat->Prop} {β:Nat->Value} {hs:List Nat}:∀{cs:List C} {us:List Value},All2 (VC w ok β) cs us->(∀c ∈ cs,∀x ∈ c.hs,x ∈ hs)->All2 (VC w ok fun i=>β (hs.getD i 0)) (cs.map (C.ren hs)) us/\∀c ∈ cs.map (C.ren hs),C.lt hs.length c
  | [],[],_,_=>⟨trivial,by simp⟩
  | [],_::_,h,_=>by simp [All2] at h
  | _::_,[],h,_=>by simp [All2] at h
  | c::cs,u::us,h,hm=>by
    obtain ⟨h1,h2⟩:=ren_VC h.1 (hm c (by simp))
    obtain ⟨h3,h4⟩:=ren_all2 h.2 fun c hc=>hm c (by simp [hc])
    refine ⟨⟨h1,h3⟩,?_⟩
    intro y hy;simp only [List.map_cons,zZ] at hy;rcases hy with rfl | hy
    · exact h2
    · exact h4 y hy
section
variable {E:Env} {G:Nat->Prop} {w0:Base} {st:St} {a:Act} {w:World} {β:Nat->Value} {Lf:Nat->List Nat} {R:Type} {r:R} {o:Oper} {call:CallD E} {K:Ex->St->Option R} {X:Act->World->Prop} {Q:Exit->Act->World->Prop}
theorem dedup_at:∀(l acc:List Nat) (i:Nat),i<acc.length->(dedup l acc)[i]? =acc[i]?
  | [],acc,i,h=>by simp [dedup]
  | x::r,acc,i,h=>by
    unfold dedup;split
    · exact dedup_at r acc i h
    · rw [dedup_at r (acc++[x]) i (by simp;omega),List.getElem?_append_left h]
theorem dedup_lt (l acc:List Nat) (i:Nat) (h:i<acc.length):i<(dedup l acc).length:=by
 have h1:=dedup_at l acc i h;rw [dZ h] at h1
 exact (List.getElem?_eq_some_iff.1 h1).1
theorem reach_at (ob:List (Nat×Ob)):∀(n:Nat) (hs:List Nat) (i:Nat),i<hs.length->(reach ob n hs)[i]? =hs[i]?
  | 0,hs,i,h=>by simp [reach]
  | n+1,hs,i,h=>by
    unfold reach;exact (reach_at ob n _ i (dedup_lt _ hs i h)).trans (dedup_at _ hs i h)
theorem canon0_sound (S:Sim G w0 st a w β Lf) (keys:List Nat) (hm:w0.m<=keys.headD 0):SimE G w0 (st.canon0 keys) a w:=by
  unfold St.canon0;simp only
  generalize keys.tail=kt;generalize keys.headD 0=m at hm;have hnd:(reach st.ob 3 (dedup ((pickSl st.sl kt).flatMap fun p=>p.2.hs) (List.range m))).Nodup:=nodup_reach _ _ _ (nodup_dedup _ _ List.nodup_range)
  have hin:∀p ∈ pickSl st.sl kt,∀x ∈ p.2.hs,x ∈ reach st.ob 3 (dedup ((pickSl st.sl kt).flatMap fun p=>p.2.hs) (List.range m)):=fun p hp x hx=>
    mem_reach _ _ _ x (mem_dedup _ _ x (.inl (List.mem_flatMap.2 ⟨p,hp,hx⟩)))
  have hpre:∀i,i<m->(reach st.ob 3 (dedup ((pickSl st.sl kt).flatMap fun p=>p.2.hs) (List.range m)))[i]? =some i:=by
    intro i hi;have hi':i<(List.range m).length:=by rw [List.length_range];exact hi
    exact (reach_at _ _ _ _ (dedup_lt _ _ i hi')).trans ((dedup_at _ _ i hi').trans (List.getElem?_range hi))
  generalize reach st.ob 3 (dedup ((pickSl st.sl kt).flatMap fun p=>p.2.hs) (List.range m))=hs at hnd hin hpre
  have hobj:∀n o',look (canonOb st.ob hs hs 0) n=some o'->∃o,n<hs.length/\look st.ob (hs.getD n 0)=some o/\o'=o.ren hs/\∀x ∈ o.hs,x ∈ hs:=by
    intro n o' ho;obtain ⟨_,h,o,h1,h2,h3,h4⟩:=look_canonOb hs 0 n o' ho;rw [Nat.sub_zero] at h1;have hlt:=(List.getElem?_eq_some_iff.1 h1).1
    refine ⟨o,hlt,?_,h3,h4⟩
    rw [List.getD_eq_getElem?_getD,h1]
    exact h2
  have himm:∀k,imm G st Lf k->k<w.heap.size->imm G { nt:=st.nt,nx:=hs.length,sl:=(pickSl st.sl kt).map fun p=>(p.1,p.2.ren hs),ob:=canonOb st.ob hs hs 0 } (fun i=>Lf (hs.getD i 0)) k/\w.heap[k]? =w.heap[k]? :=
    fun k hk _=>⟨⟨hk.1,fun n o ho=>by obtain ⟨o',h1,h2,_⟩:=hobj n o ho;exact hk.2 _ o' h2⟩,rfl⟩
  have hslot:∀t v,look ((pickSl st.sl kt).map fun p=>(p.1,p.2.ren hs)) t=some v->∃u,look st.sl t=some u/\u.isTup=false/\v=u.ren hs/\∀x ∈ u.hs,x ∈ hs:=by
    intro t v ht;obtain ⟨u,hu,hg⟩:=look_map (fun p:Nat×AV=>(p.1,p.2.ren hs)) (fun _=>rfl) _ t v ht
    obtain ⟨h1,h2⟩:=look_pickSl kt t u hu;simp only [Prod.mk.injEq,true_and] at hg;exact ⟨u,h1,h2,hg.symm,hin (t,u) (look_mem _ _ _ hu)⟩
  have hav:∀(v:AV) (u:Value),v.isTup=false->(∀x ∈ v.hs,x ∈ hs)->VA w (imm G st Lf) β v u->VA w (imm G st Lf) (fun i=>β (hs.getD i 0)) (v.ren hs) u/\(v.ren hs).lt hs.length:=by
    intro v u ht hm hv;cases v with
    | c x=>
      have:=ren_VC (hs:=hs) hv (fun y hy=>hm y (by simp [AV.hs,AV.cells,hy]))
      exact this
    | agg cs=>
      obtain ⟨us,rfl,hv⟩:=hv;obtain ⟨h1,h2⟩:=ren_all2 (hs:=hs) hv (fun c hc y hy=>hm y (by simp only [AV.hs,AV.cells,List.mem_flatMap];exact ⟨c,hc,hy⟩))
      exact ⟨⟨us,rfl,h1⟩,h2⟩
    | tup xs=>simp [AV.isTup] at ht
  refine ⟨fun i=>β (hs.getD i 0),fun i=>Lf (hs.getD i 0),?_⟩
  refine { fresh:=S.fresh,below:=S.below,defers:=S.defers,size:=S.size,slots:= ?_,slt:= ?_,obs:= ?_,olt:= ?_,new:= ?_,nodup:= ?_,disj:= ?_,pin:= ?_,pinx:= ?_ }
  · intro t v ht;obtain ⟨u,h1,h2,rfl,h3⟩:=hslot t v ht;obtain ⟨h4,h5⟩:=hav u _ h2 h3 (S.slots t u h1);exact h4.step h5 himm fun _ _=>rfl
  · intro t v ht;obtain ⟨u,h1,h2,rfl,h3⟩:=hslot t v ht;exact (hav u _ h2 h3 (S.slots t u h1)).2
  · intro n o' ho;obtain ⟨o,h1,h2,rfl,h3⟩:=hobj n o' ho;have hO:=S.obs _ _ h2;cases o with
    | var cs=>
      obtain ⟨b,ty,us,h4,h5,h6,h7⟩:=hO;obtain ⟨h8,h9⟩:=ren_all2 (hs:=hs) h7 (fun c hc y hy=>h3 y (by simp only [Ob.hs,List.mem_flatMap];exact ⟨c,hc,hy⟩))
      exact ⟨b,ty,us,h4,h5,h6,h8.imp fun c _ u hu=>hu.step himm fun _ _=>rfl⟩
    | arr e sh xs=>exact hO
    | opn e sh xs i cs=>
      obtain ⟨g,off,cap,cur,La,Lb,k1,k2,k3,k4,k5,k6,k7,k8,k9,k10⟩:=hO;obtain ⟨h8,h9⟩:=ren_all2 (hs:=hs) k9 (fun c hc y hy=>h3 y (by simp only [Ob.hs,List.mem_flatMap];exact ⟨c,hc,hy⟩))
      exact ⟨g,off,cap,cur,La,Lb,k1,k2,k3,k4,k5,k6,k7,k8,h8.imp fun c _ u hu=>hu.step himm fun _ _=>rfl,k10⟩
  · intro n o' ho;obtain ⟨o,h1,h2,rfl,h3⟩:=hobj n o' ho;refine ⟨h1,?_⟩
    cases o with
    | var cs=>
      obtain ⟨b,ty,us,h4,h5,h6,h7⟩:=S.obs _ _ h2;exact (ren_all2 (hs:=hs) h7 (fun c hc y hy=>h3 y (by simp only [Ob.hs,List.mem_flatMap];exact ⟨c,hc,hy⟩))).2
    | arr e sh xs=>trivial
    | opn e sh xs i cs=>
      obtain ⟨g,off,cap,cur,La,Lb,k1,k2,k3,k4,k5,k6,k7,k8,k9,k10⟩:=S.obs _ _ h2;exact (ren_all2 (hs:=hs) k9 (fun c hc y hy=>h3 y (by simp only [Ob.hs,List.mem_flatMap];exact ⟨c,hc,hy⟩))).2
  · intro n o' ho;obtain ⟨o,h1,h2,rfl,h3⟩:=hobj n o' ho;exact S.new _ o h2
  · intro n o' ho;obtain ⟨o,h1,h2,rfl,h3⟩:=hobj n o' ho;exact S.nodup _ o h2
  · intro n o1 m o2 hn hm hne;obtain ⟨p,h1,h2,rfl,h3⟩:=hobj n o1 hn;obtain ⟨q,h4,h5,rfl,h6⟩:=hobj m o2 hm;refine S.disj _ p _ q h2 h5 fun e=>hne ?_
    rw [List.getD_eq_getElem?_getD,List.getD_eq_getElem?_getD,dZ h1,dZ h4] at e
    simp only [Option.getD_some] at e;exact (List.getElem_inj hnd).1 e
  · intro i hi;have h1:=hpre i (by omega)
    show β (hs.getD i 0)=_
    rw [List.getD_eq_getElem?_getD,h1]
    exact S.pin i hi
  · rcases Nat.eq_zero_or_pos w0.m with h0 | h0
    · simp only [h0];exact Nat.zero_le _
    · have h1:=hpre (w0.m-1) (by omega)
      have:=(List.getElem?_eq_some_iff.1 h1).1
      show w0.m<=hs.length
      omega
theorem settleSl_sim:∀(l:List Nat) {st:St},SimE G w0 st a w->SimE G w0 (settleSl l st) a w
  | [],st,S=>S
  | t::r,st,S=>by
    unfold settleSl;refine settleSl_sim r ?_
    split
    · rename_i h sz lo hi ht;split
      · rename_i c st1 hs;obtain ⟨β,Lf,S⟩:=S;have hv:VC w (imm G st Lf) β (.sub h sz lo hi) (a.tmps.getD t undef):=S.slots t _ ht;have hl0:C.lt st.nx (.sub h sz lo hi):=S.slt t _ ht;have hl:∀c ∈ [C.sub h sz lo hi],C.lt st.nx c:=fun c hc=>by
          rw [kZ.1 hc];exact hl0
        obtain ⟨β',Lf',S1,h1,h2,_⟩:=settle_sim [.sub h sz lo hi] [c] [a.tmps.getD t undef] st st1 β Lf S ⟨hv,trivial⟩ hl hs;have h3:AV.lt st1.nx (.c c):=h2 c (by simp)
        exact ⟨_,_,S1.reslot (v:= .c c) h1.1 h3⟩
      · exact S
    · exact S
theorem canon_sound (S:Sim G w0 st a w β Lf) (keys:List Nat) (hm:w0.m<=keys.headD 0):SimE G w0 (st.canon keys) a w:=by
 obtain ⟨β',Lf',S'⟩:=settleSl_sim keys.tail ⟨β,Lf,S⟩;exact canon0_sound S' keys hm
def Ex.up:Ex->Exit
 | .normal=> .normal
 | .exit i=> .exit i
 | .ret=> .ret
def codeOk:Code->Bool
 | .region _ ops d=> !d || (if flowM ops<headOf ops then flowOk ops (flowM ops) (flowA ops (flowM ops)) (flowF ops (flowM ops))&&flowHd ops (flowM ops) else orderOk ops (headOf ops))
 | .seq a b=>codeOk a&&codeOk b
 | .cond _ a b=>codeOk a&&codeOk b
 | .block _ a=>codeOk a
 | .loop a=>codeOk a
 | _=>true
theorem least {J:Nat->Prop} (h:∃n,J n):∃n,J n/\∀m,J m->n<=m:=by
  obtain ⟨n,hn⟩:=h;induction n using Nat.strongRecOn with
  | ind n ih=>
    by_cases hx:∃m,m<n/\J m
    · obtain ⟨m,h1,h2⟩:=hx;exact ih m h1 h2
    · exact ⟨n,hn,fun m hm=>Nat.le_of_not_lt fun hlt=>hx ⟨m,hlt,hm⟩⟩
theorem run_sound (hE:EnvOk E) (hC:CallAt E call w0) {lv:List Nat} {k:Nat} (hlv:w0.m<=lv.headD 0):∀(c:Code) (K:Ex->St->Option R) (Q:Exit->Act->World->Prop) (st:St) (a:Act) (w:World),codeOk c=true->SimE G w0 st a w->run E call lv k c st K=some r->
    (∀e st' a' w',SimE G w0 st' a' w'->K e st'=some r->Q e.up a' w')->c.wp E.P Q a w
  | .skip,K,Q,st,a,w,_,S,h,hQ=>wp_skip (hQ .normal st a w S h)
  | .region id ops d,K,Q,st,a,w,hok,S,h,hQ=>by
    simp only [run] at h;replace S:=frzs_sim lv.tail S;unfold regionRun at h;cases d with
    | false=>exact region_text hE hC S h fun st' a' w' S' h'=>hQ .normal _ a' w' (drps_sim id lv.tail S') h'
    | true=>
      simp only [codeOk,Bool.not_true,Bool.false_or] at hok;simp only [if_true] at h;split at h
      · split at h;rotate_left;cases h
        rename_i hw;exact region_wide hE hC hw S h fun st' a' w' S' h'=>hQ .normal _ a' w' (drps_sim id lv.tail S') h'
      · split at hok
        · rename_i hm;rw [dY hm] at h;simp only [sZ] at hok;split at h;rotate_left;cases h
          rename_i hst;exact region_flow hE hC hok.1 hok.2 hst S h fun st' a' w' S' h'=>hQ .normal _ a' w' (drps_sim id lv.tail S') h'
        · rename_i hm;rw [eY hm] at h;exact region_draw hE hC hok S h fun st' a' w' S' h'=>hQ .normal _ a' w' (drps_sim id lv.tail S') h'
  | .seq x y,K,Q,st,a,w,hok,S,h,hQ=>by
    simp only [codeOk,sZ] at hok;simp only [run] at h;refine wp_seq (run_sound hE hC hlv x _ _ st a w hok.1 S h fun e st' a' w' S' h'=> ?_)
    cases e with
    | normal=>exact run_sound hE hC hlv y K Q st' a' w' hok.2 S' h' hQ
    | exit i=>exact hQ (.exit i) st' a' w' S' h'
    | ret=>exact hQ .ret st' a' w' S' h'
  | .cond c x y,K,Q,st,a,w,hok,S,h,hQ=>by
    simp only [codeOk,sZ] at hok;simp only [run] at h;split at h;rotate_left;cases h
    rename_i b hb;obtain ⟨β,Lf,S1⟩:=S;refine wp_cond (S1.bool hb) ?_
    cases b with
    | true=>exact run_sound hE hC hlv x K Q st a w hok.1 ⟨β,Lf,S1⟩ (by simpa using h) hQ
    | false=>exact run_sound hE hC hlv y K Q st a w hok.2 ⟨β,Lf,S1⟩ (by simpa using h) hQ
  | .block i c,K,Q,st,a,w,hok,S,h,hQ=>by
    simp only [codeOk] at hok;simp only [run] at h;refine wp_block (run_sound hE hC hlv c _ _ st a w hok S h fun e st' a' w' S' h'=> ?_)
    cases e with
    | normal=>exact hQ .normal st' a' w' S' h'
    | exit j=>
      simp only [Ex.up,Exit.inBlock];simp only at h'
      split at h'
      · rename_i e;rw [dY e];exact hQ .normal st' a' w' S' h'
      · rename_i e;rw [eY e];exact hQ (.exit j) st' a' w' S' h'
    | ret=>exact hQ .ret st' a' w' S' h'
  | .loop c,K,Q,st,a,w,hok,S,h,hQ=>by
    simp only [codeOk] at hok;simp only [run] at h;split at h
    case h_2=>cases h
    rename_i st0 hcl;obtain ⟨st00,hcl1,hst0⟩:=Option.map_eq_some_iff.1 hcl;replace S:=hst0▸wakes_sim (E:=E) lv.tail (closeAll_sim S hcl1);generalize hkeys:lv.headD 0::(st0.sl.map (·.1)).filter lv.tail.contains=keys at h;have hm:w0.m<=keys.headD 0:=by rw [<-hkeys];exact hlv
    let J:Nat->Act->World->Prop:=fun n a w=>∃st,SimE G w0 st a w/\loopRun keys (run E call lv k c) n st K=some r
    have hμ:∀a w,∃n,(∃m,J m a w)->J n a w/\∀m,J m a w->n<=m:=by
      intro a w;by_cases hx:∃m,J m a w
      · obtain ⟨n,h1,h2⟩:=least hx;exact ⟨n,fun _=>⟨h1,h2⟩⟩
      · exact ⟨0,fun h=>absurd h hx⟩
    let μ:Act->World->Nat:=fun a w=>Classical.choose (hμ a w)
    have hμ2:∀a w,(∃m,J m a w)->J (μ a w) a w/\∀m,J m a w->μ a w<=m:=fun a w=>Classical.choose_spec (hμ a w)
    obtain ⟨β,Lf,S1⟩:=S;refine wp_loop (fun a w=>∃n,J n a w) μ ⟨k,_,canon_sound S1 keys hm,h⟩ fun a w hI=> ?_
    obtain ⟨hJ,hmin⟩:=hμ2 a w hI;obtain ⟨st1,S2,h1⟩:=hJ;cases hn:μ a w with
    | zero=>rw [hn] at h1;cases h1
    | succ n=>
      rw [hn] at h1;simp only [loopRun] at h1;refine run_sound hE hC hlv c _ _ st1 a w hok S2 h1 fun e st' a' w' S' h'=> ?_
      cases e with
      | normal=>
        simp only at h'
        split at h'
        case h_2=>cases h'
        rename_i st2 hcl2;obtain ⟨β',Lf',S3⟩:=closeAll_sim S' hcl2;have hJ':J n a' w':=⟨_,canon_sound S3 keys hm,h'⟩;refine ⟨⟨n,hJ'⟩,?_⟩
        have:=(hμ2 a' w' ⟨n,hJ'⟩).2 n hJ'
        omega
      | exit i=>exact hQ (.exit i) st' a' w' S' h'
      | ret=>exact hQ .ret st' a' w' S' h'
  | .exit i,K,Q,st,a,w,_,S,h,hQ=>wp_exit (hQ (.exit i) st a w S h)
  | .ret,K,Q,st,a,w,_,S,h,hQ=>wp_ret (hQ .ret st a w S h)
  | .rangeFunc ..,K,Q,st,a,w,_,S,h,hQ=>by simp [run] at h
  | .scope ..,K,Q,st,a,w,_,S,h,hQ=>by simp [run] at h
  | .label ..,K,Q,st,a,w,_,S,h,hQ=>by simp [run] at h
  | .goto ..,K,Q,st,a,w,_,S,h,hQ=>by simp [run] at h
  | .refuse ..,K,Q,st,a,w,_,S,h,hQ=>by simp [run] at h
end
end Go.V
namespace Go.V
open Go.RowKit (Below)
def resM (tmps:Array Value):ResultVar->Sem Value
 | .tmp t=>pure (tmps.getD t undef)
 | .cell a t=>do loadVar t (<-asAddr (tmps.getD a undef))
theorem rep_of_VC {w:World} {ok:Nat->Prop} {β:Nat->Value} {c:C} {u:Value} (h:VC w ok β c u) (hl:C.lt 0 c):rep w ok c u:=by
 cases c
 case ref x=>exact absurd (hl x (by simp [C.hs])) (Nat.not_lt_zero _)
 case ptr x o=>exact absurd (hl x (by simp [C.hs])) (Nat.not_lt_zero _)
 case el x sz i j=>exact absurd (hl x (by simp [C.hs])) (Nat.not_lt_zero _)
 case sub x sz lo hi=>exact absurd (hl x (by simp [C.hs])) (Nat.not_lt_zero _)
 all_goals exact h
theorem repL_of_all2 {w:World} {ok:Nat->Prop} {β:Nat->Value}:∀{cs:List C} {us:List Value},All2 (VC w ok β) cs us->(∀c ∈ cs,C.lt 0 c)->repL w ok cs us
  | [],[],_,_=>by simp only [repL]
  | [],_::_,h,_=>by simp [All2] at h
  | _::_,[],h,_=>by simp [All2] at h
  | c::cs,u::us,h,hl=>by
    simp only [repL];exact ⟨u,us,rfl,rep_of_VC h.1 (hl c (by simp)),repL_of_all2 h.2 fun x hx=>hl x (by simp [hx])⟩
theorem rd_rep_all {w:World} {ok:Nat->Prop} {sh:Sh} {cs:List C} {x:Ty sh} {us:List Value} (h:rd sh cs=some (x,[])) (hm:repL w ok cs us):repT w ok sh x us:=by
 obtain ⟨vs,ws,rfl,h3,h4⟩:=rd_rep sh cs x [] us h hm;simp only [repL] at h4;subst h4;simpa using h3
section
variable {E:Env} {G:Nat->Prop} {w0:Base} {st:St} {a:Act} {w:World} {β:Nat->Value} {Lf:Nat->List Nat} {R:Type} {r:R} {o:Oper} {call:CallD E}
theorem fin1_bor {ok':Nat->Prop} (hok1:∀k,imm G st Lf k->ok' k) (hok2:∀h o,look st.ob h=some o->∀b ∈ Lf h,ok' b) (S:Sim G w0 st a w β Lf) {f:Sh} {v:AV} {u:Value} {x:Ty f} {st1:St} (hv:VA w (imm G st Lf) β v u) (h:fin1 false f v st=some (x,st1)):
 st1=st/\∃cs,u=valOf f.agg cs/\repT w ok' f x cs:=by
 unfold fin1 at h;split at h;rotate_left;cases h
 rename_i hag;simp only [Bool.false_eq_true,if_false] at h;split at h;rotate_left;cases h
 rename_i cs hda;split at h;rotate_left;cases h
 rename_i y hrd;cases h
 obtain ⟨us,hu,hall⟩:=isAggOf_cells hag hv;obtain ⟨h1,h2⟩:=datas_sound hok1 hok2 S hda hall;exact ⟨rfl,us,hu,rd_rep_all hrd (repL_of_all2 h1 h2)⟩
theorem finL_own:∀(fs:List Sh) (vs:List AV) (us:List Value) (st:St) (x:TyL fs),Sim G w0 st a w β Lf->All2 (VA w (imm G st Lf) β) vs us->finL true fs vs st=some x->
    ∃L,resO w fs x us L/\L.Nodup/\∀b ∈ L,∃h o,look st.ob h=some o/\b ∈ Lf h
  | [],[],us,st,x,S,hv,h=>by
    cases us with
    | nil=>exact ⟨[],⟨rfl,rfl⟩,List.nodup_nil,by simp⟩
    | cons u us=>simp [All2] at hv
  | [f],[v],us,st,x,S,hv,h=>by
    replace h:(match fin1 true f v st with | some (x,_)=>some x | none=>none:Option (Ty f))=some x:=h
    split at h;rotate_left;cases h
    rename_i y st1 h1;replace h:=xZ h;subst h
    match us,hv with
    | [u],hv=>
      obtain ⟨cs,L,rfl,h2,h3,h4,h5,h6⟩:=fin1_own S hv.1 h1;exact ⟨L,⟨cs,rfl,h2⟩,h6,fun b hb=>by obtain ⟨h,o,h7,_,h8⟩:=h5 b hb;exact ⟨h,o,h7,h8⟩⟩
  | f::g::r,v::vs,us,st,x,S,hv,h=>by
    replace h:(match fin1 true f v st with | some (x,st)=>(match finL true (g::r) vs st with | some y=>some (x,y) | none=>none:Option (Ty f×TyL (g::r))) | none=>none)=some x:=h
    split at h;rotate_left;cases h
    rename_i y st1 h1;split at h;rotate_left;cases h
    rename_i z h2;replace h:=xZ h;subst h
    match us,hv with
    | u::us,hv=>
      obtain ⟨cs,L,rfl,h3,h4,h5,h6,h7⟩:=fin1_own S hv.1 h1;have S1:Sim G w0 { st with ob:=st1.ob } a w β Lf:=S.fewer h5
      rw [h4] at h2;have himm:∀k,imm G st Lf k->k<w.heap.size->imm G { st with ob:=st1.ob } Lf k/\w.heap[k]? =w.heap[k]? :=fun k hk _=>⟨⟨hk.1,fun n o ho=>hk.2 n o (h5 n o ho)⟩,rfl⟩
      obtain ⟨L2,g1,g2,g3⟩:=finL_own (g::r) vs us _ z S1 (hv.2.imp fun v _ u hu=>hu.fewer himm) h2
      refine ⟨L++L2,⟨cs,us,L,L2,rfl,rfl,h3,g1⟩,qZ.2 ⟨h7,g2,?_⟩,?_⟩
      · rintro b hb b' hb' rfl
        obtain ⟨h,o,e1,e2,e3⟩:=h6 b hb;obtain ⟨h',o',f1,f3⟩:=g3 b hb';exact S.disj h o h' o' e1 (h5 h' o' f1) (fun e=>by rw [<-e] at f1;simp only at f1;rw [e2] at f1;cases f1) b e3 f3
      · intro b hb;rcases wZ.1 hb with hb | hb
        · obtain ⟨h,o,e1,e2,e3⟩:=h6 b hb;exact ⟨h,o,e1,e3⟩
        · obtain ⟨h',o',f1,f3⟩:=g3 b hb;exact ⟨h',o',h5 h' o' f1,f3⟩
  | [],_::_,us,st,x,S,hv,h=>by simp [finL] at h
  | [f],[],us,st,x,S,hv,h=>by simp [finL] at h
  | [f],_::_::_,us,st,x,S,hv,h=>by simp [finL] at h
  | f::g::r,[],us,st,x,S,hv,h=>by simp [finL] at h
theorem finL_bor {ok':Nat->Prop}:∀(fs:List Sh) (vs:List AV) (us:List Value) (st:St) (x:TyL fs),(∀k,imm G st Lf k->ok' k)->(∀h o,look st.ob h=some o->∀b ∈ Lf h,ok' b)->Sim G w0 st a w β Lf->All2 (VA w (imm G st Lf) β) vs us->finL false fs vs st=some x->
    resR w ok' fs x us
  | [],[],us,st,x,_,_,S,hv,h=>by
    cases us with
    | nil=>rfl
    | cons u us=>simp [All2] at hv
  | [f],[v],us,st,x,hok1,hok2,S,hv,h=>by
    replace h:(match fin1 false f v st with | some (x,_)=>some x | none=>none:Option (Ty f))=some x:=h
    split at h;rotate_left;cases h
    rename_i y st1 h1;replace h:=xZ h;subst h
    match us,hv with
    | [u],hv=>
      obtain ⟨_,cs,rfl,h2⟩:=fin1_bor hok1 hok2 S hv.1 h1;exact ⟨cs,rfl,h2⟩
  | f::g::r,v::vs,us,st,x,hok1,hok2,S,hv,h=>by
    replace h:(match fin1 false f v st with | some (x,st)=>(match finL false (g::r) vs st with | some y=>some (x,y) | none=>none:Option (Ty f×TyL (g::r))) | none=>none)=some x:=h
    split at h;rotate_left;cases h
    rename_i y st1 h1;split at h;rotate_left;cases h
    rename_i z h2;replace h:=xZ h;subst h
    match us,hv with
    | u::us,hv=>
      obtain ⟨rfl,cs,rfl,h3⟩:=fin1_bor hok1 hok2 S hv.1 h1;exact ⟨cs,us,rfl,h3,finL_bor (g::r) vs us _ z hok1 hok2 S hv.2 h2⟩
  | [],_::_,us,st,x,_,_,S,hv,h=>by simp [finL] at h
  | [f],[],us,st,x,_,_,S,hv,h=>by simp [finL] at h
  | [f],_::_::_,us,st,x,_,_,S,hv,h=>by simp [finL] at h
  | f::g::r,[],us,st,x,_,_,S,hv,h=>by simp [finL] at h
theorem results1_sound (hE:EnvOk E) (S:Sim G w0 st a w β Lf) {rv:ResultVar} {v:AV} (h:results1 E st rv=some v):
    ∃u,(resM a.tmps rv).run E.P w= .ok u w/\VA w (imm G st Lf) β v u:=by
  cases rv with
  | tmp t=>exact ⟨_,rfl,S.slots t v h⟩
  | cell ad t=>
    simp only [results1] at h;split at h;rotate_left;cases h
    rename_i hh i hs hi;split at h;rotate_left;cases h
    rename_i cs hob;split at h;rotate_left;cases h
    rename_i hl;have hT:=hE.ty _ _ hi;obtain ⟨b,hb1,hb2⟩:∃b,β hh= .pointer (some ⟨b,0,none⟩)/\a.tmps.getD ad undef= .pointer (some ⟨b,0,none⟩):=S.slots ad _ hs;obtain ⟨b',ty,us,hb3,hb4,hb5,hb6⟩:=S.obs _ _ hob;rw [hb1] at hb3
    injection hb3 with hb3
    injection hb3 with hb3
    cases hb3
    have hlen:(us.take i.sz).length=i.sz:=by rw [List.length_take,<-hb6.len];omega
    have hr:=run_loadAt hT (w:=w) (ad:=⟨b,0,none⟩) (us:=us.take i.sz) hlen fun j u hu=>by
      rw [lZ] at hu
      split at hu;rotate_left;cases hu
      rw [addr_add,cell_of_row w b _ _ ty (0,0) hb5];simpa using hu
    refine ⟨_,?_,pack_VA h (VP_valOf (hb6.take i.sz) fun hb=> ?_)⟩
    · show (do loadVar t (<-asAddr (a.tmps.getD ad undef)):Sem Value).run E.P w=_
      rw [hb2];simpa only [Instr.loadAt,Instr.sureAddr,asAddr] using hr
    · rw [List.length_take,Nat.min_eq_left hl,<-hT.n];exact Sh.n_one (by rw [hT.agg,hb])
theorem resultsL_sound (hE:EnvOk E) (S:Sim G w0 st a w β Lf):∀(rvs:List ResultVar) (vs:List AV),resultsL E st rvs=some vs->
    ∃us,(rvs.mapM (resM a.tmps)).run E.P w= .ok us w/\All2 (VA w (imm G st Lf) β) vs us
  | [],vs,h=>by simp only [resultsL,nZ] at h;subst h;exact ⟨[],by simp,trivial⟩
  | rv::rvs,vs,h=>by
    simp only [resultsL] at h;split at h;rotate_left;cases h
    rename_i v hv;split at h;rotate_left;cases h
    rename_i ws hws;cases h
    obtain ⟨u,h1,h2⟩:=results1_sound hE S hv;obtain ⟨us,h3,h4⟩:=resultsL_sound hE S rvs ws hws;refine ⟨u::us,?_,h2,h4⟩
    rw [List.mapM_cons];simp only [aY,h1,h3,oZ,Sem.run_pure]
theorem initSl_look {x:AV}:∀(xs:List AV) (n t:Nat),look (initSl n xs) t=some x->n<=t/\xs[t-n]? =some x
  | [],n,t,h=>by cases h
  | y::r,n,t,h=>by
    simp only [initSl,look] at h;split at h
    · rename_i e;subst e;cases h
      simp
    · obtain ⟨h1,h2⟩:=initSl_look r (n+1) t h;refine ⟨by omega,?_⟩
      rw [show t-n=(t-(n+1))+1 by omega]
      simpa using h2
theorem initSl_at:∀(xs:List AV) (n i:Nat),look (initSl n xs) (n+i)=xs[i]?
  | [],n,i=>by simp [initSl,look]
  | x::r,n,0=>by simp [initSl,look]
  | x::r,n,i+1=>by
    simp only [initSl,look];rw [eY (by omega),show n+(i+1)=(n+1)+i by omega,initSl_at r (n+1) i]
    simp
def untk:Nat->List (Option Sh)->List AV->List (Nat×AV)
 | n,[],xs=>initSl n xs
 | _,_::_,[]=>[]
 | n,some _::t,_::r=>untk (n+1) t r
 | n,none::t,x::r=>(n,x)::untk (n+1) t r
theorem untk_VA {G':Nat->Prop}:∀(t:List (Option Sh)) (xs:List AV) (us:List Value) (L:List Nat) (j k:Nat) (v:AV),ArgsT w G' t xs us L->look (untk j t xs) k=some v->j<=k/\∃u,us[k-j]? =some u/\VA w G' (fun _=>undef) v u/\v.lt 0
  | [],xs,us,L,j,k,v,h,hl=>by
    obtain ⟨h1,h2⟩:=initSl_look xs j k hl;obtain ⟨u,h3,h4⟩:=h.1.at (k-j) v h2;exact ⟨h1,u,h3,h4,h.2.1 v (iZ h2)⟩
  | _::_,[],us,L,j,k,v,h,hl=>h.elim
  | some sh::t,x::xs,us,L,j,k,v,h,hl=>by
    obtain ⟨u,vs,rfl,y,cs,L1,L2,_,_,_,_,h⟩:=h;obtain ⟨h1,u',h2,h3⟩:=untk_VA t xs vs L2 (j+1) k v h hl;refine ⟨by omega,u',?_,h3⟩
    rw [show k-j=(k-(j+1))+1 by omega]
    simpa using h2
  | none::t,x::xs,us,L,j,k,v,h,hl=>by
    obtain ⟨u,vs,rfl,g1,g2,h⟩:=h;simp only [untk,look] at hl;split at hl
    · rename_i e;subst e;cases hl
      exact ⟨cY _,u,by simp,g1,g2⟩
    · obtain ⟨h1,u',h2,h3⟩:=untk_VA t xs vs L (j+1) k v h hl;refine ⟨by omega,u',?_,h3⟩
      rw [show k-j=(k-(j+1))+1 by omega]
      simpa using h2
theorem untk_lt:∀(t:List (Option Sh)) (xs:List AV) (j k:Nat) (v:AV),look (untk j t xs) k=some v->j<=k
  | [],xs,j,k,v,h=>(initSl_look xs j k h).1
  | _::_,[],j,k,v,h=>by simp [untk,look] at h
  | some sh::t,x::xs,j,k,v,h=>by have:=untk_lt t xs (j+1) k v h;omega
  | none::t,x::xs,j,k,v,h=>by
    simp only [untk,look] at h;split at h
    · omega
    · have:=untk_lt t xs (j+1) k v h;omega
theorem all2_split {α β:Type} {R:α->β->Prop}:∀{xs ys:List α} {us:List β},All2 R (xs++ys) us->∃vs ws,us=vs++ws/\All2 R xs vs/\All2 R ys ws
  | [],ys,us,h=>⟨[],us,rfl,trivial,h⟩
  | x::xs,ys,[],h=>h.elim
  | x::xs,ys,u::us,h=>by
    obtain ⟨vs,ws,rfl,h1,h2⟩:=all2_split (xs:=xs) h.2;exact ⟨u::vs,ws,rfl,⟨h.1,h1⟩,h2⟩
mutual
theorem oavs_rows {β:Nat->Value}:(sh:Sh)->(x:Ty sh)->(n:Nat)->(us:List Value)->All2 (VS β) (oavs sh x n).1 us->n<=(oavs sh x n).2.2/\us.filter slV=(List.range' n ((oavs sh x n).2.2-n)).map β
  | .b,x,n,us,h=>by
    match us,h with
    | [u],h=>simp only [oavs] at h ⊢;rw [h.1.1];simp [slV]
  | .i k,x,n,us,h=>by
    match us,h with
    | [u],h=>simp only [oavs] at h ⊢;rw [h.1.1];simp [slV]
  | .s,x,n,us,h=>by
    match us,h with
    | [u],h=>simp only [oavs] at h ⊢;rw [h.1.1];simp [slV]
  | .l e sh,x,n,us,h=>by
    match us,h with
    | [u],h=>
      simp only [oavs] at h ⊢;obtain ⟨h1,A,m,c,h2⟩:u=β n/\∃A n c,u= .slice A n c:=h.1;have h3:slV u=true:=by rw [h2];rfl
      refine ⟨Nat.le_succ n,?_⟩
      rw [Nat.add_sub_cancel_left];subst h1;simp only [List.filter_cons,h3,if_true,List.filter_nil,List.range'_one,List.map_cons,List.map_nil]
  | .a fs,x,n,us,h=>by simp only [oavs] at h ⊢;exact oavsL_rows fs x n us h
theorem oavsL_rows {β:Nat->Value}:(fs:List Sh)->(x:TyL fs)->(n:Nat)->(us:List Value)->All2 (VS β) (oavsL fs x n).1 us->n<=(oavsL fs x n).2.2/\us.filter slV=(List.range' n ((oavsL fs x n).2.2-n)).map β
  | [],x,n,us,h=>by
    match us,h with
    | [],h=>simp [oavsL]
  | [f],x,n,us,h=>by simp only [oavsL] at h ⊢;exact oavs_rows f x n us h
  | f::g::r,x,n,us,h=>by
    simp only [oavsL] at h ⊢;obtain ⟨vs,ws,rfl,h1,h2⟩:=all2_split h;obtain ⟨a1,a2⟩:=oavs_rows f x.1 n vs h1;obtain ⟨b1,b2⟩:=oavsL_rows (g::r) x.2 _ ws h2;refine ⟨bY a1 b1,?_⟩
    rw [List.filter_append,a2,b2,<-List.map_append]
    congr 1
    have e:∀p q n:Nat,n<=p->p<=q->List.range' n (p-n)++List.range' p (q-p)=List.range' n (q-n):=by
      intro p q n h1 h2;have h3:=List.range'_append_1 (s:=n) (m:=p-n) (n:=q-p);rw [show n+(p-n)=p by omega,show p-n+(q-p)=q-n by omega] at h3
      exact h3
    exact e _ _ n a1 b1
end
theorem rowsV_sl:∀(t:List (Option Sh)) (us:List Value) (v:Value),v ∈ rowsV t us->slV v=true
  | [],us,v,h=>by simp [rowsV] at h
  | some _::t,[],v,h=>by simp [rowsV] at h
  | none::t,[],v,h=>by simp [rowsV] at h
  | some _::t,u::us,v,h=>by
    simp only [rowsV,wZ,List.mem_filter] at h;rcases h with h | h
    · exact h.2
    · exact rowsV_sl t us v h
  | none::t,u::us,v,h=>rowsV_sl t us v (by simpa only [rowsV] using h)
theorem initTk_sound {G':Nat->Prop}:∀(t:List (Option Sh)) (xs ys:List AV) (us:List Value) (L:List Nat) (j:Nat) (os:List (Nat×Ob)) (n:Nat) (st:St) (β:Nat->Value) (Lf:Nat->List Nat),Sim G w0 st a w β Lf->Free G st a w β Lf L->L.Nodup->(∀b ∈ L,(w0.w.heap.size<=b\/b ∈ w0.T)/\b<w.heap.size)->
    ArgsT w G' t xs us L->initTk t xs st.nx=some (ys,os,n)->
    ∃β' Lf',Sim G w0 { st with ob:=putAll os st.ob,nx:=n } a w β' Lf'/\st.nx<=n/\(∀h,h<st.nx->β' h=β h)/\rowsV t us=(List.range' st.nx (n-st.nx)).map β'/\∀i v,ys[i]? =some v->look (untk j t xs) (j+i)=some v\/∃u,us[i]? =some u/\∀ok,VA w ok β' v u/\v.lt n
  | [],xs,ys,us,L,j,os,n,st,β,Lf,S,F,hnd,hn,h,hi=>by
    simp only [initTk,nZ,Prod.mk.injEq] at hi;obtain ⟨rfl,rfl,rfl⟩:=hi;exact ⟨β,Lf,S,cY _,fun _ _=>rfl,by simp [rowsV],fun i v hv=> .inl (by rw [untk,initSl_at];exact hv)⟩
  | _::_,[],ys,us,L,j,os,n,st,β,Lf,S,F,hnd,hn,h,hi=>h.elim
  | some sh::t,x::xs,ys,us,L,j,os,n,st,β,Lf,S,F,hnd,hn,h,hi=>by
    obtain ⟨u,vs,rfl,y,cs,L1,L2,h1,h2,h3,rfl,h⟩:=h;simp only [initTk,h1] at hi;split at hi;rotate_left;cases hi
    rename_i v hv;split at hi;rotate_left;cases hi
    rename_i ys' ps n' hr;simp only [nZ,Prod.mk.injEq] at hi;obtain ⟨rfl,rfl,rfl⟩:=hi;obtain ⟨β1,Lf1,S1,F1,k1,k2,k3,k4⟩:=oavs_sound sh y cs L1 L2 st β Lf S F hnd (fun b hb=>hn b (gZ _ hb)) h3
    have hnd2:=(qZ.1 hnd).2.1;obtain ⟨β2,Lf2,S2,m1,m2,mr,m3⟩:=initTk_sound t xs ys' vs L2 (j+1) ps n' _ β1 Lf1 S1 F1 hnd2 (fun b hb=>hn b (eZ _ hb)) h hr
    refine ⟨β2,Lf2,by rw [putAll_append];exact S2,bY k4 m1,fun h hh=>(m2 h (jZ hh k4)).trans (k3 h hh),?_,?_⟩
    · have hall:All2 (VS β2) (oavs sh y st.nx).1 cs:=k1.imp fun c hc u hu=>hu.up (k2 c hc) m2
      obtain ⟨r1,r2⟩:=oavs_rows sh y st.nx cs hall;have hcells:u.cells.toList=cs:=by
        rw [h2];unfold valOf;cases hb:sh.agg with
        | true=>simp [Value.cells]
        | false=>
          have hl1:cs.length=1:=by rw [ownT_len h3];exact Sh.n_one hb
          match cs,hl1,hall with
          | [c],_,hall=>
            match (oavs sh y st.nx).1,hall with
            | [d],hall=>simp [cells_of_one ((hall.1.vc (w:=w) (ok:=fun _=>True)).one)]
      simp only at mr
      rw [rowsV,hcells,r2,mr,<-List.map_append]
      congr 1
      have e:n'-st.nx=((oavs sh y st.nx).2.2-st.nx)+(n'-(oavs sh y st.nx).2.2):=by
        simp only at m1
        omega
      rw [e,<-List.range'_append_1,show st.nx+((oavs sh y st.nx).2.2-st.nx)=(oavs sh y st.nx).2.2 by omega]
    · intro i w' hw';cases i with
      | zero=>
        simp only [List.getElem?_cons_zero,nZ] at hw'
        subst hw';refine .inr ⟨u,by simp,fun ok=> ?_⟩
        have hall:All2 (VC w ok β2) (oavs sh y st.nx).1 cs:=k1.imp fun c hc u hu=>(hu.up (k2 c hc) m2).vc
        refine ⟨pack_VA hv ?_,pack_lt hv fun c hc=>C.lt_up (k2 c hc) m1⟩
        rw [h2];exact VP_valOf hall fun hb=>by rw [k1.len,ownT_len h3];exact Sh.n_one hb
      | succ i=>
        simp only [List.getElem?_cons_succ] at hw'
        rcases m3 i w' hw' with g | ⟨u',g1,g2⟩
        · left
          rw [untk,show j+(i+1)=(j+1)+i by omega]
          exact g
        · exact .inr ⟨u',by simpa using g1,g2⟩
  | none::t,x::xs,ys,us,L,j,os,n,st,β,Lf,S,F,hnd,hn,h,hi=>by
    obtain ⟨u,vs,rfl,g1,g2,h⟩:=h;simp only [initTk] at hi;split at hi;rotate_left;cases hi
    rename_i ys' ps n' hr;cases hi
    obtain ⟨β2,Lf2,S2,m1,m2,mr,m3⟩:=initTk_sound t xs ys' vs L (j+1) _ _ st β Lf S F hnd hn h hr;refine ⟨β2,Lf2,S2,m1,m2,by rw [rowsV];exact mr,?_⟩
    intro i w' hw';cases i with
    | zero=>
      simp only [List.getElem?_cons_zero,nZ] at hw'
      subst hw';left
      simp [untk,look]
    | succ i=>
      simp only [List.getElem?_cons_succ] at hw'
      rcases m3 i w' hw' with g | ⟨u',g1,g2⟩
      · left
        simp only [untk,look];rw [eY (by omega),show j+(i+1)=(j+1)+i by omega]
        exact g
      · exact .inr ⟨u',by simpa using g1,g2⟩
theorem initTk_len:∀(t:List (Option Sh)) (xs ys:List AV) (m:Nat) (os:List (Nat×Ob)) (n:Nat),initTk t xs m=some (ys,os,n)->ys.length=xs.length
  | [],xs,ys,m,os,n,h=>by
    simp only [initTk,nZ,Prod.mk.injEq] at h;rw [h.1]
  | _::_,[],ys,m,os,n,h=>by simp [initTk] at h
  | some sh::t,x::xs,ys,m,os,n,h=>by
    simp only [initTk] at h;split at h;rotate_left;cases h
    split at h;rotate_left;cases h
    split at h;rotate_left;cases h
    rename_i hr;cases h
    simp [initTk_len t xs _ _ _ _ hr]
  | none::t,x::xs,ys,m,os,n,h=>by
    simp only [initTk] at h;split at h;rotate_left;cases h
    rename_i hr;cases h
    simp [initTk_len t xs _ _ _ _ hr]
theorem den_sound (hE:EnvOk E) (hok:∀f F c,E.fn f=some F->F.body=some c->codeOk c=true) (hext:∀f g,E.ext f=some g->Sound1 E f g):∀k,CallOk E (den E k)
  | 0=>fun f xs p h=>by cases h
  | k+1=>fun f xs p h=>by
    have hC:=den_sound hE hok hext k;simp only [den] at h;split at h
    · rename_i g hg;exact hext f g hg xs p h
    · split at h;cases h
      rename_i F hF;split at h;cases h
      rename_i c hc;split at h;rotate_left;cases h
      rename_i hlen;split at h
      rotate_left
      · cases h
      rename_i ys os n hin;split at h
      rotate_left
      · cases h
      rename_i hio;simp only [sZ,beq_iff_eq,pZ] at hio;obtain ⟨hio1,hio2⟩:=hio;have hfn:=hE.fn f F hF;refine ⟨⟨F,hfn,hE.body f F hF,by rw [hc];rfl⟩,fun G w us L0 htab hargs hnd hL0=> ?_⟩
      have hul:=hargs.len;have start:∃β' Lf',Sim (fun k=>k<w.heap.size->G k\/k ∈ L0) ⟨w,L0,(E.rs f).io,β'⟩ { nt:=F.ntmps,nx:=n,sl:=initSl 0 ys,ob:=putAll os [] } { tmps:=us.toArray++Array.replicate (F.ntmps-us.toArray.size) undef,defers:=[] } w β' Lf'/\rowsV (E.tk f) us=(List.range n).map β':=by
        have hget:∀(t:Nat) (u:Value),us[t]? =some u->(us.toArray++Array.replicate (F.ntmps-us.toArray.size) undef).getD t undef=u:=by
          intro t u h2;have hlt':t<us.length:=(List.getElem?_eq_some_iff.1 h2).1
          rw [aZ,Array.getElem?_append_left (by simpa using hlt')]
          simpa using congrArg (·.getD undef) h2
        have S0:Sim (fun k=>k<w.heap.size->G k\/k ∈ L0) ⟨w,L0,0,fun _=>undef⟩ { nt:=F.ntmps,nx:=0,sl:=untk 0 (E.tk f) xs,ob:=[] } { tmps:=us.toArray++Array.replicate (F.ntmps-us.toArray.size) undef,defers:=[] } w (fun _=>undef) fun _=>[]:=by
          refine { fresh:=fun k hk h=> ?_,below:=Chg.refl _ w,defers:=rfl,size:= ?_,slots:= ?_,slt:= ?_,obs:=fun h o ho=>(by cases ho),olt:=fun h o ho=>(by cases ho),new:=fun h o ho=>(by cases ho),nodup:=fun h o ho=>(by cases ho),disj:=fun h o h' o' ho=>(by cases ho),pin:=fun i hi=>absurd hi (Nat.not_lt_zero _),pinx:=Nat.zero_le _ }
          · rcases hk with hk | hk
            · exact absurd h (by simp only at hk;omega)
            · exact .inr hk
          · simp
            omega
          · intro t v ht;obtain ⟨_,u,h2,h3,_⟩:=untk_VA _ _ _ _ 0 t v hargs ht;rw [hget t u h2];exact h3.fewer fun k hk _=>⟨⟨fun _=> .inl hk,fun h o ho=>(by cases ho)⟩,rfl⟩
          · intro t v ht;obtain ⟨_,u,h2,_,h4⟩:=untk_VA _ _ _ _ 0 t v hargs ht;exact h4
        have F0:Free (fun k=>k<w.heap.size->G k\/k ∈ L0) { nt:=F.ntmps,nx:=0,sl:=untk 0 (E.tk f) xs,ob:=[] } { tmps:=us.toArray++Array.replicate (F.ntmps-us.toArray.size) undef,defers:=[] } w (fun _=>undef) (fun _=>[]) L0:=by
          refine ⟨fun t v ht=> ?_,fun h o ho=>(by cases ho),fun h o ho=>(by cases ho)⟩
          obtain ⟨_,u,h2,h3,_⟩:=untk_VA _ _ _ _ 0 t v hargs ht;rw [hget t u h2];exact h3.fewer fun k hk _=>⟨⟨⟨fun _=> .inl hk,fun h o ho=>(by cases ho)⟩,fun hm=>(hL0 k hm).2 hk⟩,rfl⟩
        obtain ⟨β',Lf',S',_,_,hrv,hys⟩:=initTk_sound _ _ _ _ _ 0 _ _ _ _ _ S0 F0 hnd (fun b hb=>⟨.inr hb,(hL0 b hb).1⟩) hargs hin
        refine ⟨β',Lf',{ fresh:=S'.fresh,below:=S'.below,defers:=S'.defers,size:=S'.size,slots:= ?_,slt:= ?_,obs:=S'.obs,olt:=S'.olt,new:=S'.new,nodup:=S'.nodup,disj:=S'.disj,pin:=fun _ _=>rfl,pinx:=hio2 },by rw [hrv,List.range_eq_range'];rfl⟩
        · intro t v ht;obtain ⟨_,h1⟩:=initSl_look ys 0 t ht;rw [Nat.sub_zero] at h1;rcases hys t v h1 with g | ⟨u,g1,g2⟩
          · exact S'.slots t v (by simpa using g)
          · rw [hget t u g1];exact (g2 _).1
        · intro t v ht;obtain ⟨_,h1⟩:=initSl_look ys 0 t ht;rw [Nat.sub_zero] at h1;rcases hys t v h1 with g | ⟨u,g1,g2⟩
          · exact S'.slt t v (by simpa using g)
          · exact (g2 (fun _=>True)).2
      obtain ⟨β0,Lf0,Sst,hrv⟩:=start;refine calls_of_wp hfn hc (run_sound (G:=fun k=>k<w.heap.size->G k\/k ∈ L0) (w0:=⟨w,L0,(E.rs f).io,β0⟩) hE ⟨hC,htab⟩ (by rw [<-hio1];exact cY _) c _ _ _ _ _ (hok f F c hF hc) ⟨β0,Lf0,Sst⟩ h fun e st1 a' w' S00 hfin=> ?_)
      have key:∀st',SimE (fun k=>k<w.heap.size->G k\/k ∈ L0) ⟨w,L0,(E.rs f).io,β0⟩ st' a' w'->(match resultsL E st' F.results.toList with | some vs=>finL (E.rs f).own (E.rs f).shs (vs++(List.range (E.rs f).io).map fun i=> .c (.ref i)) st' | none=>none)=some p->a'.defers=[]/\∃v,(results F a'.tmps).run E.P w'= .ok v w'/\∃v',Ending.returned v= .returned v'/\Chg L0 w w'/\ResOk G w w' L0 (rowsV (E.tk f) us) (E.rs f) p v':=by
          rintro st' ⟨β,Lf,S⟩ hfin
          split at hfin;rotate_left;cases hfin
          rename_i vs hvs;obtain ⟨us',h1,h2⟩:=resultsL_sound hE S _ vs hvs;have hrefs:All2 (VA w' (imm (fun k=>k<w.heap.size->G k\/k ∈ L0) st' Lf) β) ((List.range (E.rs f).io).map fun i=>AV.c (.ref i)) ((List.range (E.rs f).io).map β):=by
            have go:∀l:List Nat,(∀i ∈ l,i<(E.rs f).io)->All2 (VA w' (imm (fun k=>k<w.heap.size->G k\/k ∈ L0) st' Lf) β) (l.map fun i=>AV.c (.ref i)) (l.map β):=by
              intro l;induction l with
              | nil=>intro _;exact trivial
              | cons i l ih=>
                intro hl;refine ⟨⟨rfl,?_⟩,ih fun j hj=>hl j (by simp [hj])⟩
                have hi:=hl i (by simp)
                have hp:β i=β0 i:=S.pin i hi;have hm:β0 i ∈ rowsV (E.tk f) us:=by
                  rw [hrv];exact List.mem_map.2 ⟨i,List.mem_range.2 (jZ hi hio2),rfl⟩
                have hs:=rowsV_sl _ _ _ hm;rw [hp];cases hq:β0 i<;>rw [hq] at hs<;>simp [slV] at hs
                exact ⟨_,_,_,rfl⟩
            exact go _ fun i hi=>List.mem_range.1 hi
          have hall:=h2.append hrefs;have hdrop:(us'++(List.range (E.rs f).io).map β).length-(E.rs f).io=us'.length:=by simp
          refine ⟨S.defers,if h:us'.toArray.size=1 then us'.toArray[0] else .tuple us'.toArray,?_,_,rfl,S.below,us'++(List.range (E.rs f).io).map β,?_,?_,?_⟩
          · have hm:(F.results.mapM (resM a'.tmps)).run E.P w'= .ok us'.toArray w':=by
              rw [<-Array.toArray_toList (xs:=F.results),List.mapM_toArray,Sem.run_map,h1];rfl
            unfold results;rw [aY];refine (congrArg (fun x:Result (Array Value)=>x.andThen _) hm).trans ?_
            simp only [oZ,Sem.run_pure]
          · rw [hdrop,List.take_left]
            match us' with
            | []=>rfl
            | [u]=>rfl
            | u1::u2::r=>rfl
          · rw [hdrop,List.drop_left,hrv,<-List.map_take,List.take_range,Nat.min_eq_left hio2];exact List.map_congr_left fun i hi=>S.pin i (List.mem_range.1 hi)
          · split
            · rename_i hown;rw [hown] at hfin;obtain ⟨L,h3,h4,h5⟩:=finL_own _ _ _ st' p S hall hfin;exact ⟨L,h3,h4,fun b hb=>by obtain ⟨h,o,h6,h7⟩:=h5 b hb;exact S.new h o h6 b h7⟩
            · rename_i hown;rw [Bool.eq_false_iff.2 hown] at hfin;exact finL_bor _ _ _ st' p (fun k hk=>hk.1) (fun h o ho b hb hlt=>by
                rcases (S.new h o ho b hb).1 with h5 | h5
                · exact absurd hlt (by simp only at h5;omega)
                · exact .inr h5) S hall hfin
      have key2:(match st1.closeAll with
          | some st=>match resultsL E st F.results.toList with | some vs=>finL (E.rs f).own (E.rs f).shs (vs++(List.range (E.rs f).io).map fun i=> .c (.ref i)) st | none=>none
          | none=>none)=some p->a'.defers=[]/\∃v,(results F a'.tmps).run E.P w'= .ok v w'/\∃v',Ending.returned v= .returned v'/\Chg L0 w w'/\ResOk G w w' L0 (rowsV (E.tk f) us) (E.rs f) p v':=by
        intro h;split at h;rotate_left;cases h
        rename_i st2 hcl;exact key st2 (closeAll_sim S00 hcl) h
      cases e with
      | exit i=>cases hfin
      | normal=>exact key2 hfin
      | ret=>exact key2 hfin
end
end Go.V
namespace Go.V
open Go.RowKit (Below)
mutual
def shIs (P:Program):Sh->TypeId->Bool
 | .b,t=>match P.underlying t with | some .bool=>true | _=>false
 | .i k,t=>match P.underlying t with | some (.int k')=>decide (k'=k) | _=>false
 | .s,t=>match P.underlying t with | some .string=>true | _=>false
 | .l e sh,t=>match P.underlying t with | some (.slice e')=>e'==e&&(shIs P sh e&&(P.cellsOf e==sh.n&&decide (0<sh.n))) | _=>false
 | .a fs,t=>match P.underlying t with | some (.struct ds)=>P.cellsOf t==Sh.nL fs&&shIsL P fs ds.toList 0 | _=>false
def shIsL (P:Program):List Sh->List Field->Nat->Bool
 | [],[],_=>true
 | f::r,d::q,off=>d.offset==off&&(shIs P f d.type&&(P.cellsOf d.type==f.n&&shIsL P r q (off+f.n)))
 | _,_,_=>false
end
def inR (k:IntKind) (n:Int):Prop:=k.min<=n/\n<=k.max
def inS (s:ByteArray):Prop:=s.size<=reachBytes
def inL {α:Type} (R:α->Prop) (b:Nat) (xs:List α):Prop:=xs.length*b<=reachBytes/\∀x ∈ xs,R x
mutual
def wfT (P:Program):(sh:Sh)->Ty sh->Prop
 | .b,_=>True
 | .i k,n=>inR k n
 | .s,s=>inS s
 | .l e sh,xs=>inL (wfT P sh) (P.bytesOf e) xs
 | .a fs,x=>wfTL P fs x
def wfTL (P:Program):(fs:List Sh)->TyL fs->Prop
 | [],_=>True
 | [f],x=>wfT P f x
 | f::g::r,x=>wfT P f x.1/\wfTL P (g::r) x.2
end
section
variable {H:Type} {enc:TypeId×Value->H} {P:Program} {w:World} {spare:Nat->Bool} {held:Bool}
mutual
theorem trod_rep:(sh:Sh)->(t:TypeId)->(fuel:Nat)->(cs:List Value)->(x:DataW H×List MemPlace)->shIs P sh t=true->DataW.trod enc P w 0 spare held fuel t cs=some x->(∀n ∈ x.1.weights P t,n<=reachBytes)->
    ∃y:Ty sh,repT w (fun _=>True) sh y cs/\wfT P sh y
  | .b,t,fuel,cs,x,hs,h,hw=>by
    unfold shIs at hs;split at hs;rotate_left;cases hs
    rename_i ht;obtain ⟨b,rfl,_⟩:=DataW.trod_bool ht h;exact ⟨b,by simp only [repT],trivial⟩
  | .i k,t,fuel,cs,x,hs,h,hw=>by
    unfold shIs at hs;split at hs;rotate_left;cases hs
    rename_i k' ht
    obtain rfl:k'=k:=by simpa using hs
    obtain ⟨n,rfl,_,hwf⟩:=DataW.trod_int ht h;simp only [Lit.wf,sZ,pZ] at hwf;exact ⟨n,by simp only [repT],by simp only [wfT];exact hwf⟩
  | .s,t,fuel,cs,x,hs,h,hw=>by
    unfold shIs at hs;split at hs;rotate_left;cases hs
    rename_i ht;obtain ⟨s,rfl,rfl,_⟩:=DataW.trod_string ht h;refine ⟨s,by simp only [repT],?_⟩
    have:=hw s.data.toList.length (by simp [DataW.weights])
    simp only [wfT,inS];simpa using this
  | .l e sh,t,fuel,cs,x,hs,h,hw=>by
    unfold shIs at hs;split at hs;rotate_left;cases hs
    rename_i e' ht;simp only [sZ,beq_iff_eq,pZ] at hs;obtain ⟨rfl,hsh,hc,hpos⟩:=hs;rcases DataW.trod_slice ht h with ⟨rfl,rfl⟩ | ⟨ad,len,cap,elems,rest,n,_,rfl,rfl,hb,hl,hm,hlen,hel,hsp,hns⟩
    · refine ⟨([]:List (Ty sh)),?_,?_⟩
      · simp only [repT];exact ⟨_,rfl,none,0,rfl,cY _,Nat.zero_le _,fun h=>absurd h (by simp)⟩
      · simp only [wfT,inL];exact ⟨by simp,fun x hx=>by cases hx⟩
    · have hwl:(elems.length+rest.length)*P.bytesOf e'<=reachBytes:=by
        have:=hw _ (by simp only [DataW.weights,ht,List.length_map];exact List.mem_cons_self)
        exact this
      have hwe:∀y ∈ elems,∀n ∈ y.1.weights P e',n<=reachBytes:=by
        intro y hy n hn;refine hw n ?_
        simp only [DataW.weights,ht];refine fZ _ (gZ _ ?_)
        have:∀l:List (DataW H×List MemPlace),y ∈ l->n ∈ DataW.weightsAll P e' (l.map (·.1)):=by
          intro l;induction l with
          | nil=>simp
          | cons z l ih=>
            intro hz;simp only [List.map_cons,DataW.weightsAll];rcases zZ.1 hz with rfl | hz
            · exact gZ _ hn
            · exact eZ _ (ih hz)
        exact this elems hy
      have each:∀i:Fin len,∃y:Ty sh,(∃vs,repT w (fun _=>True) sh y vs/\∀(j:Nat) (v:Value),vs[j]? =some v->w.cell? (ad.add (i.1*sh.n+j))=some v)/\wfT P sh y:=by
        intro i;have hi:i.1<elems.length:=by rw [hlen];exact i.2
        have h1:=hel i.1 i.2;rw [dZ hi] at h1
        cases hcs:w.cells? 0 (ad.add (i.1*P.cellsOf e')) (P.cellsOf e') with
        | none=>rw [hcs] at h1;cases h1
        | some vs=>
          rw [hcs] at h1;simp only [rZ] at h1;obtain ⟨y,h2,h3⟩:=trod_rep sh e' n vs _ hsh h1 (hwe _ (tZ hi));obtain ⟨_,h4,h5⟩:=World.cells?_some hcs
          refine ⟨y,⟨vs,h2,fun j v hv=> ?_⟩,h3⟩
          have hj:j<P.cellsOf e':=by rw [<-h4];exact (List.getElem?_eq_some_iff.1 hv).1
          have:=h5 j hj
          rw [hv,hc] at this;have e1:(ad.add (i.1*sh.n)).add j=ad.add (i.1*sh.n+j):=by
            unfold Addr.add;split<;>split<;>split<;>simp_all [Nat.add_assoc]
          rw [<-e1];exact this
      have hlx:(List.ofFn fun i=>Classical.choose (each i)).length=len:=by simp
      refine ⟨(List.ofFn fun i=>Classical.choose (each i):List (Ty sh)),?_,?_⟩
      · simp only [repT];refine ⟨_,rfl,some ad,cap,by rw [hlx],by rw [hlx];exact hl,hm,fun hp=>⟨ad,rfl,trivial,?_,fun j x hx=> ?_⟩⟩
        · rw [hlx] at hp;obtain ⟨⟨vs,h2,h3⟩,_⟩:=Classical.choose_spec (each ⟨0,hp⟩);have hvl:=repT_len sh _ vs h2;have h4:=h3 0 vs[0] (by simp [hvl,hpos])
          have h5:(ad.add (0*sh.n+0)).block<w.heap.size:=by
            unfold World.cell? at h4;split at h4;rotate_left;cases h4
            rename_i hh;exact (bZ.1 hh).1
          rwa [block_add] at h5
        · rw [List.getElem?_ofFn] at hx
          split at hx;rotate_left;cases hx
          rename_i hj;cases hx
          exact (Classical.choose_spec (each ⟨j,hj⟩)).1
      · simp only [wfT,inL];refine ⟨?_,fun y hy=> ?_⟩
        · rw [hlx,<-hlen];exact bY (Nat.mul_le_mul_right _ (Nat.le_add_right _ _)) hwl
        · obtain ⟨i,rfl⟩:=(List.mem_ofFn).1 hy;exact (Classical.choose_spec (each i)).2
  | .a fs,t,fuel,cs,x,hs,h,hw=>by
    unfold shIs at hs;split at hs;rotate_left;cases hs
    rename_i ds ht;simp only [sZ,beq_iff_eq] at hs;obtain ⟨hc,hs⟩:=hs;obtain ⟨xs,n,_,rfl,hl,hxl,hf⟩:=DataW.trod_struct ht h;simp only [repT,wfT];have hw':∀n ∈ DataW.weightsEach P (ds.toList.map (·.type)) (xs.map (·.1)),n<=reachBytes:=by
      intro n hn;refine hw n ?_
      simp only [DataW.weights,ht];exact hn
    obtain ⟨y,h1,h2⟩:=trodL_rep fs ds.toList 0 n cs xs hs (by rw [hl,hc];simp) (by simp [hxl]) (fun i f hi=>hf i f (by simpa using hi)) hw'
    exact ⟨y,by simpa using h1,h2⟩
theorem trodL_rep:(fs:List Sh)->(ds:List Field)->(off:Nat)->(n:Nat)->(cs:List Value)->(xs:List (DataW H×List MemPlace))->shIsL P fs ds off=true->cs.length=off+Sh.nL fs->xs.length=ds.length->
    (∀(i:Nat) (f:Field),ds[i]? =some f->DataW.trod enc P w 0 spare held n f.type ((cs.drop f.offset).take (P.cellsOf f.type))=xs[i]?)->(∀n ∈ DataW.weightsEach P (ds.map (·.type)) (xs.map (·.1)),n<=reachBytes)->
    ∃y:TyL fs,repTL w (fun _=>True) fs y (cs.drop off)/\wfTL P fs y
  | [],ds,off,n,cs,xs,hs,hl,hxl,hf,hw=>⟨(),by simp only [repTL];rw [List.drop_eq_nil_iff];simp [hl,Sh.nL],trivial⟩
  | [f],ds,off,n,cs,xs,hs,hl,hxl,hf,hw=>by
    match ds,xs,hxl with
    | [],_,_=>simp [shIsL] at hs
    | d::q,x::r,hxl=>
      unfold shIsL at hs;simp only [sZ,beq_iff_eq] at hs;obtain ⟨h1,h2,h3,_⟩:=hs;have h4:=hf 0 d rfl;rw [h1,h3] at h4;have hle:((cs.drop off).take f.n)=cs.drop off:=by
        apply List.take_of_length_le
        rw [List.length_drop,hl];simp [Sh.nL]
      rw [hle] at h4;obtain ⟨y,h5,h6⟩:=trod_rep f d.type n _ x h2 h4 fun m hm=>hw m (by simp only [List.map_cons,DataW.weightsEach];exact gZ _ hm)
      exact ⟨y,by simp only [repTL];exact h5,by simp only [wfTL];exact h6⟩
  | f::g::r,ds,off,n,cs,xs,hs,hl,hxl,hf,hw=>by
    match ds,xs,hxl with
    | [],_,_=>simp [shIsL] at hs
    | d::q,x::xr,hxl=>
      unfold shIsL at hs;simp only [sZ,beq_iff_eq] at hs;obtain ⟨h1,h2,h3,h7⟩:=hs;have h4:=hf 0 d rfl;rw [h1,h3] at h4;obtain ⟨y,h5,h6⟩:=trod_rep f d.type n _ x h2 h4 fun m hm=>hw m (by simp only [List.map_cons,DataW.weightsEach];exact gZ _ hm)
      have hl':cs.length=(off+f.n)+Sh.nL (g::r):=by rw [hl];simp only [Sh.nL];omega
      obtain ⟨z,h8,h9⟩:=trodL_rep (g::r) q (off+f.n) n cs xr h7 hl' (by simpa using hxl) (fun i f' hi=>hf (i+1) f' (by simpa using hi)) (fun m hm=>hw m (by simp only [List.map_cons,DataW.weightsEach];exact eZ _ hm))
      refine ⟨(y,z),?_,?_⟩
      · simp only [repTL];refine ⟨_,_,?_,h5,h8⟩
        rw [<-List.drop_drop,List.take_append_drop]
      · simp only [wfTL];exact ⟨h6,h9⟩
end
theorem arg_VA {sh:Sh} {t:TypeId} {v:Value} {d:DataW H} {p:List MemPlace} (hs:shIs P sh t=true) (hval:Value.okWide P w .any 0 t v) (h:DataW.Trod enc P w 0 spare held t v d p) (hw:∀n ∈ d.weights P t,n<=reachBytes):
    ∃y:Ty sh,VA w (fun _=>True) (fun _=>undef) (argAV sh y) v/\(argAV sh y).lt 0/\wfT P sh y:=by
  obtain ⟨fuel,hf⟩:=h;obtain ⟨y,h1,h2⟩:=trod_rep sh t fuel _ _ hs hf hw;have hr:=rep_avs sh y _ h1;have hlt:=avs_lt 0 sh y;refine ⟨y,?_,?_,h2⟩
  · unfold argAV;split
    · rename_i hag;cases sh<;>simp [Sh.agg] at hag
      case a fs=>
      unfold shIs at hs;split at hs;rotate_left;cases hs
      rename_i ds ht;simp only [Value.okWide,ht] at hval;obtain ⟨cs,rfl,_⟩:=hval;exact ⟨cs.toList,by simp,All2.of_repL (by simpa [Value.cells] using hr)⟩
    · rename_i hag;have hone:v.oneCell'=true:=by
        cases sh<;>simp [Sh.agg] at hag<;>unfold shIs at hs<;>split at hs<;>first | cases hs;done | skip
        all_goals
          rename_i ht;simp only [Value.okWide,ht,Cell.okWide] at hval;cases v<;>first | rfl | (simp [Cell.ok,ht] at hval)
      rw [cells_of_one hone] at hr;have hl:=repL_len hr
      match hq:avs sh y,hl with
      | [c],_=>
        rw [hq] at hr;simp only [repL] at hr;obtain ⟨u,vs,huv,h3,_⟩:=hr;simp at huv;rw [huv.1];exact VC.of_rep h3
  · unfold argAV;split
    · exact hlt
    · split
      · rename_i c hq;rw [hq] at hlt;exact hlt c (by simp)
      · exact hlt
end
theorem below_trodAll {H:Type} {enc:TypeId×Value->H} {P:Program} (hl:laidOutB P=true) {W W':World} (hb:Below W.heap.size W W'):∀(ts:List TypeId) (vs:List Value) (ds:List (DataW H)) (ps:List MemPlace),
    (ts.all fun t=>P.readableRec t&&decide (t<P.types.size))=true->DataW.TrodAll enc P W 0 (fun _=>true) true ts vs ds ps->(∀x ∈ ps,x.block<W.heap.size)->DataW.TrodAll enc P W' 0 (fun b=>decide (b<W.heap.size)) true ts vs ds ps
  | [],[],[],ps,_,h,_=>h
  | t::ts,v::vs,d::ds,ps,hr,h,hlt=>by
    obtain ⟨p,q,h1,h2,rfl⟩:=h;simp only [List.all_cons,sZ,pZ] at hr;exact ⟨p,q,Go.RowKit.Below.trod hl hr.1.1 hr.1.2 h1 hb (fun x hx=>hlt x (gZ _ hx)),below_trodAll hl hb ts vs ds q hr.2 h2 (fun x hx=>hlt x (eZ _ hx)),rfl⟩
  | [],_::_,_,_,_,h,_=>h.elim
  | [],[],_::_,_,_,h,_=>h.elim
  | _::_,[],_,_,_,h,_=>h.elim
  | _::_,_::_,[],_,_,h,_=>h.elim
theorem resOk_bool {G:Nat->Prop} {w w':World} {L:List Nat} {V:List Value} {p:Bool} {v:Value} (h:ResOk G w w' L V ⟨false,[.b],0⟩ p v):v= .bool p:=by
 obtain ⟨us,h1,_,h2⟩:=h;simp only [Bool.false_eq_true,if_false] at h2;obtain ⟨cs,rfl,h3⟩:∃cs,us=[valOf Sh.b.agg cs]/\repT w' _ .b p cs:=h2;simp only [repT] at h3;subst h3;exact h1
theorem Chg.below {w w':World} (h:Chg [] w w'):Below w.heap.size w w':=⟨h.os,h.tape,h.output,h.size,fun k hk=>h.block k hk (by simp)⟩
def nl:Code->Nat
 | .seq a b=>nl a+nl b
 | .cond _ a b=>nl a+nl b
 | .block _ a=>nl a
 | .loop c=>nl c+1
 | _=>0
noncomputable def kontAt {R:Type} (E:Env) (call:CallD E) (lv:List Nat) (k:Nat):Code->Nat->List (Nat×List Nat)->(Ex->St->Option R)->Ex->St->Option R
  | .seq a b,j,o,K=>if j<nl a then kontAt E call lv k a j o (fun e st=>match e with
    | .normal=>run E call lv k b st K
    | e=>K e st) else kontAt E call lv k b (j-nl a) o K
  | .cond _ a b,j,o,K=>if j<nl a then kontAt E call lv k a j o K else kontAt E call lv k b (j-nl a) o K
  | .block i a,j,o,K=>kontAt E call lv k a j o (fun e st=>match e with
    | .exit j=>if j=i then K .normal st else K (.exit j) st
    | e=>K e st)
  | .loop c,0,_,K=>K
  | .loop c,j+1,(n,keys)::o,K=>kontAt E call lv k c j o (fun e st=>match e with
    | .normal=>match st.closeAll with
      | some st=>loopRun keys (run E call lv k c) n (st.canon keys) K
      | none=>none
    | e=>K e st)
  | _,_,_,K=>K
abbrev vI (x:Int):C:= .v (.int .i64 x)
abbrev vB (x:Bool):C:= .v (.bool x)
abbrev cI (x:Int):AV:= .c (.v (.int .i64 x))
abbrev cB (x:Bool):AV:= .c (.v (.bool x))
abbrev cP (h:Nat):AV:= .c (.ptr h 0)
def bodyOf (F:Func):Code:=match F.body with
 | some c=>c
 | none=> .skip
def restOf:Nat->Code->Code
 | n+1,.seq _ b=>restOf n b
 | _,c=>c
def headOf1:Code->Code
 | .seq a _=>a
 | c=>c
noncomputable def restK {R:Type} (E:Env) (call:CallD E) (lv:List Nat) (k:Nat) (c:Code) (fin:Ex->St->Option R) (n:Nat) (st:St):Option R:=run E call lv k (restOf n c) st fin
def seqK {R:Type} (f:St->Option R) (fin:Ex->St->Option R):Ex->St->Option R
 | .normal,st=>f st
 | e,st=>fin e st
theorem loop_law {R V:Type} {f g:Nat->V->Option R} {B:(V->Option R)->V->Option R} (h0:∀v,f 0 v=none) (hf:∀n v,f (n+1) v=B (f n) v) (g0:∀v,g 0 v=none) (hg:∀n v,g (n+1) v=B (g n) v):∀n v,f n v=g n v:=by
 intro n;induction n with
 | zero=>intro v;rw [h0,g0]
 | succ n ih=>intro v;rw [hf,hg,funext ih]
def QL {R V:Type} (f:Nat->V->Option R) (B:(V->Option R)->V->Option R):Prop:=∀n v,f (n+1) v=B (f n) v
theorem QL.mk {R V:Type} {f:Nat->V->Option R} {B:(V->Option R)->V->Option R} (h:∀n v,f (n+1) v=B (f n) v):QL f B:=h
noncomputable def lpr {R:Type} (E:Env) (k g:Nat) (F:Func) (j:Nat) (keys:List Nat) (n:Nat) (st:St) (K:Ex->St->Option R):Option R:=loopRun keys (run E (den E k) (E.lv g) k (nthLoop F j)) n st K
noncomputable def kon0 {R:Type} (E:Env) (k g:Nat) (F:Func) (j:Nat) (fin:Ex->St->Option R):Ex->St->Option R:=kontAt E (den E k) (E.lv g) k (bodyOf F) j [] fin
noncomputable def kon1 {R:Type} (E:Env) (k g:Nat) (F:Func) (j i n:Nat) (keys:List Nat) (K:Ex->St->Option R):Ex->St->Option R:=kontAt E (den E k) (E.lv g) k (.loop (nthLoop F j)) i [(n,keys)] K
theorem loopLaw {R V:Type} {f g:Nat->V->Option R} {B:(V->Option R)->V->Option R} (hf:∀n v,f (n+1) v=B (f n) v) (h0:∀v,f 0 v=none:=by exact fun _=>rfl) (g0:∀v,g 0 v=none:=by exact fun _=>rfl) (hg:∀n v,g (n+1) v=B (g n) v:=by exact fun _ _=>rfl):∀n v,f n v=g n v:=loop_law h0 hf g0 hg
def ix {α R:Type} (xs:List α) (n:Nat) (K:α->Option R):Option R:=match xs[n]? with
 | some x=>K x
 | none=>none
theorem T1 {n:Int} (h1: -9223372036854775808<=n) (h2:n<=9223372036854775807):IntKind.i64.wrap n=n:=by rw [IntKind.wrap_i64];omega
theorem wrap_succ {n m:Nat} (h:n<m) (hm:m<=9223372036854775807):IntKind.i64.wrap ((n:Int)+1)=((n+1:Nat):Int):=by rw [T1 (by omega) (by omega)];omega
theorem ix_at {α R:Type} {xs:List α} {n:Nat} (h:n<xs.length) (K:α->Option R):ix xs n K=K xs[n]:=by unfold ix;rw [dZ h]
theorem Y0 {α R:Type} {xs:List α} {n:Nat} {x:α} (h:xs[n]? =some x) (K:α->Option R):ix xs n K=K x:=by unfold ix;rw [h]
theorem set_take {α:Type} {xs ys:List α} {i:Nat} (hl:ys.length=xs.length) (hi:i<xs.length) (h:ys.take i=xs.take i):(ys.set i xs[i]).take (i+1)=xs.take (i+1):=by
 apply List.ext_getElem?
 intro k;simp only [lZ]
 split
 · rename_i hk;by_cases e:i=k
   · subst e;rw [List.getElem?_set_self (by omega),dZ hi]
   · rw [List.getElem?_set_ne e]
     have h1:=congrArg (·[k]?) h;simp only [lZ] at h1
     rwa [dY (by omega),dY (by omega)] at h1
 · rfl
def szR (n:Nat) (left:Int):Int:=if left<n then -1 else left-n
theorem szR_neg {n:Nat} {left:Int} (h:left<n):szR n left= -1:=dY h
theorem szR_pos {n:Nat} {left:Int} (h:¬left<n):szR n left=left-n:=eY h
theorem sz_step {f:Option Int} {n m:Nat} {left:Int} {g:Int->Option Int} (hf:f=some (szR n left)) (h0:0<=left) (h1:left<=1048576) (hg:∀p,0<=p->p<=1048576->g p=some (szR m p)):
 (f.bind fun p=>if decide (p<0)=true then some (-1) else g p)=some (szR (n+m) left):=by
 rw [hf,rZ];by_cases h:left<n
 · rw [szR_neg h,dY (by decide),szR_neg (by omega)]
 · rw [szR_pos h]
   have:decide (left-(n:Int)<0)=false:=by simp;omega
   rw [this];simp only [Bool.false_eq_true,if_false];rw [hg _ (by omega) (by omega)]
   congr 1
   by_cases h2:left-n<m
   · rw [szR_neg h2,szR_neg (by omega)]
   · rw [szR_pos h2,szR_pos (by omega)]
     omega
theorem szR_zero {p:Int} (h:0<=p):some p=some (szR 0 p):=by rw [szR_pos (by omega)];simp
theorem sz_leaf {n:Nat} {left:Int} (hn:n<=140737488351232) (h0:0<=left) (h1:left<=1048576):
 (if decide (IntKind.i64.wrap (left-(n:Int))<0)=true then some (-1) else some (IntKind.i64.wrap (left-(n:Int))))=some (szR n left):=by
 rw [T1 (by omega) (by omega)]
 by_cases h:left<n
 · rw [szR_neg h,dY (by simp;omega)]
 · rw [szR_pos h,eY (by simp;omega)]
def sumL {α:Type} (f:α->Nat):List α->Nat
 | []=>0
 | x::r=>f x+sumL f r
section
variable {α R:Type}
theorem szS_loop {L:Nat->(List α×Int×Int)->Option R} {f:α->Int->Option Int} {X0:(List α×Int×Int)->α->Int->Option R} {X1:(List α×Int×Int)->Option R} {neg:Option R} {fin:Int->Option R}
    (hs:∀n v,L (n+1) v=if (decide (v.2.2<(v.1.length:Int)))=true then if 0<=v.2.2 then ix v.1 v.2.2.toNat fun x=>(f x v.2.1).bind fun p=>if (decide (p<0))=true then X0 v x p else L n (v.1,p,(IntKind.i64.wrap (v.2.2+1))) else none else X1 v)
    (hx0:∀v x p,X0 v x p=neg) (hx1:∀v,X1 v=fin v.2.1) {s:α->Nat} {a:List α} (hf:∀x ∈ a,∀left:Int,0<=left->left<=1048576->f x left=some (szR (s x) left)) (hl:a.length<=140737488351232):
    ∀(m n i:Nat) (left:Int),i+m=a.length->m<n->0<=left->left<=1048576->L n (a,left,(i:Int))=if left<(sumL s (a.drop i):Int) then neg else fin (left-sumL s (a.drop i))
  | 0,n+1,i,left,h,_,h0,h1=>by
    have hi:i=a.length:=by omega
    subst hi;rw [hs,eY (by simp),hx1]
    simp [sumL];omega
  | m+1,n+1,i,left,h,hn,h0,h1=>by
    have hi:i<a.length:=by omega
    have hin:(i:Int).toNat=i:=by simp
    have hd:decide ((i:Int)<(a.length:Int))=true:=by simp;omega
    rw [hs,dY hd,dY (by show (0:Int)<=i;omega)]
    simp only [hin];have e:(sumL s (a.drop i):Int)=s a[i]+sumL s (a.drop (i+1)):=by
      rw [cZ hi];simp [sumL]
    rw [ix_at hi,hf _ (tZ hi) left h0 h1,rZ];by_cases hb:left<s a[i]
    · rw [szR_neg hb,dY (by decide),hx0,dY (by omega)]
    · rw [szR_pos hb,eY (by simp;omega),wrap_succ hi (by omega),szS_loop hs hx0 hx1 hf hl m n (i+1) _ (by omega) (by omega) (by omega) (by omega)]
      by_cases hc:left-(s a[i]:Int)<(sumL s (a.drop (i+1)):Int)
      · rw [dY hc,dY (by omega)]
      · rw [eY hc,eY (by omega)]
        congr 1
        omega
theorem toS_loop {L:Nat->(List α×Int×List α)->Option R} {f:α->Option α} {X:(List α×Int×List α)->Option R}
    (hs:∀n v,L (n+1) v=if (decide (v.2.1<(v.1.length:Int)))=true then if 0<=v.2.1 then ix v.1 v.2.1.toNat fun x=>(f x).bind fun p=>if 0<=v.2.1 then if v.2.1<(v.2.2.length:Int) then ix v.2.2 v.2.1.toNat fun y=>L n (v.1,(IntKind.i64.wrap (v.2.1+1)),(v.2.2.set v.2.1.toNat p)) else none else none else none else X v)
    {a:List α} (hf:∀x ∈ a,f x=some x) (hl:a.length<=1048576):
    ∀(m n i:Nat) (out:List α),i+m=a.length->m<n->out.length=a.length->out.take i=a.take i->L n (a,(i:Int),out)=X (a,(a.length:Int),a)
  | 0,n+1,i,out,h,_,ho,ht=>by
    have hi:i=a.length:=by omega
    subst hi;rw [List.take_length,List.take_of_length_le (by omega)] at ht
    subst ht;rw [hs,eY (by simp)]
  | m+1,n+1,i,out,h,hn,ho,ht=>by
    have hi:i<a.length:=by omega
    have hin:(i:Int).toNat=i:=by simp
    have h1:decide ((i:Int)<(a.length:Int))=true:=by simp;omega
    have h2:(0:Int)<=i:=by omega
    have h3:(i:Int)<(out.length:Int):=by omega
    rw [hs,dY h1,dY h2];simp only [hin];rw [ix_at hi,hf _ (tZ hi),rZ,dY h2,dY h3,ix_at (by omega),wrap_succ hi (by omega)]
    exact toS_loop hs hf hl m n (i+1) _ (by omega) (by omega) (by simp [ho]) (set_take ho hi ht)
theorem eqS_loop {L:Nat->(List α×List α×Int)->Option R} {f:α->α->Option Bool} {X0:(List α×List α×Int)->α->α->Bool->Option R} {X1:(List α×List α×Int)->Option R}
    (hs:∀n v,L (n+1) v=if (decide (v.2.2<(v.1.length:Int)))=true then if 0<=v.2.2 then ix v.1 v.2.2.toNat fun x=>if 0<=v.2.2 then ix v.2.1 v.2.2.toNat fun y=>(f x y).bind fun p=>if (!p)=true then X0 v x y p else L n (v.1,v.2.1,(IntKind.i64.wrap (v.2.2+1))) else none else none else X1 v)
    {a:List α} (hf:∀x ∈ a,f x x=some true) (hl:a.length<=1048576):
    ∀(m n i:Nat),i+m=a.length->m<n->L n (a,a,(i:Int))=X1 (a,a,(a.length:Int))
  | 0,n+1,i,h,_=>by
    have hi:i=a.length:=by omega
    subst hi;rw [hs,eY (by simp)]
  | m+1,n+1,i,h,hn=>by
    have hi:i<a.length:=by omega
    have hin:(i:Int).toNat=i:=by simp
    have h1:decide ((i:Int)<(a.length:Int))=true:=by simp;omega
    have h2:(0:Int)<=i:=by omega
    rw [hs,dY h1,dY h2];simp only [hin];rw [ix_at hi,dY h2,ix_at hi,hf _ (tZ hi),rZ,eY (by decide),wrap_succ hi (by omega)]
    exact eqS_loop hs hf hl m n (i+1) (by omega) (by omega)
theorem eqI_loop {α:Type} [BEq α] [LawfulBEq α] {R:Type} {L:Nat->(List α×List α×Int)->Option R} {X0:(List α×List α×Int)->α->α->Option R} {X1:(List α×List α×Int)->Option R}
    (hs:∀n v,L (n+1) v=if (decide (v.2.2<(v.1.length:Int)))=true then if 0<=v.2.2 then ix v.1 v.2.2.toNat fun x=>if 0<=v.2.2 then ix v.2.1 v.2.2.toNat fun y=>if (x !=y)=true then X0 v x y else L n (v.1,v.2.1,(IntKind.i64.wrap (v.2.2+1))) else none else none else X1 v)
    {a:List α} (hl:a.length<=1048576):
    ∀(m n i:Nat),i+m=a.length->m<n->L n (a,a,(i:Int))=X1 (a,a,(a.length:Int))
  | 0,n+1,i,h,_=>by
    have hi:i=a.length:=by omega
    subst hi;rw [hs,eY (by simp)]
  | m+1,n+1,i,h,hn=>by
    have hi:i<a.length:=by omega
    have hin:(i:Int).toNat=i:=by simp
    have h1:decide ((i:Int)<(a.length:Int))=true:=by simp;omega
    have h2:(0:Int)<=i:=by omega
    rw [hs,dY h1,dY h2];simp only [hin];rw [ix_at hi,dY h2,ix_at hi,eY (by simp),wrap_succ hi (by omega)]
    exact eqI_loop hs hl m n (i+1) (by omega) (by omega)
end
mutual
def szT:(sh:Sh)->Ty sh->Nat
 | .b,_=>0
 | .i _,_=>0
 | .s,_=>0
 | .l _ sh,xs=>List.length xs+sumL (szT sh) xs
 | .a fs,x=>szTL fs x
def szTL:(fs:List Sh)->TyL fs->Nat
 | [],_=>0
 | [f],x=>szT f x
 | f::g::r,x=>szT f x.1+szTL (g::r) x.2
end
theorem sumL_zero {α:Type} {f:α->Nat}:∀{l:List α},(∀x ∈ l,f x=0)->sumL f l=0
  | [],_=>rfl
  | x::r,h=>by
    have h1:=h x (by simp)
    have h2:=sumL_zero (l:=r) fun y hy=>h y (fZ _ hy)
    simp only [sumL,h1,h2]
theorem sumL_le {α:Type} {f:α->Nat}:∀{l:List α} {x:α},x ∈ l->f x<=sumL f l
  | y::r,x,h=>by
    simp only [sumL];rcases zZ.1 h with rfl | h
    · omega
    · have:=sumL_le (f:=f) h;omega
mutual
theorem szT_flat:(sh:Sh)->(x:Ty sh)->sh.flat=true->szT sh x=0
 | .b,x,_=>by simp only [szT]
 | .i k,x,_=>by simp only [szT]
 | .s,x,_=>by simp only [szT]
 | .l e sh,x,h=>by simp [Sh.flat] at h
 | .a fs,x,h=>by simp only [szT];exact szTL_flat fs x (by simpa only [Sh.flat] using h)
theorem szTL_flat:(fs:List Sh)->(x:TyL fs)->Sh.flatL fs=true->szTL fs x=0
  | [],_,_=>by simp only [szTL]
  | [f],x,h=>by simp only [szTL];exact szT_flat f x (by simpa [Sh.flatL] using h)
  | f::g::r,x,h=>by
    rw [Sh.flatL,sZ] at h;simp only [szTL,szT_flat f x.1 h.1,szTL_flat (g::r) x.2 h.2]
end
def rowLe {α:Type} (R:α->Prop) (m:Nat) (xs:List α):Prop:=xs.length<=m/\∀x ∈ xs,R x
mutual
def rowsLe (m:Nat):(sh:Sh)->Ty sh->Prop
 | .b,_=>True
 | .i _,_=>True
 | .s,_=>True
 | .l _ sh,xs=>rowLe (rowsLe m sh) m xs
 | .a fs,x=>rowsLeL m fs x
def rowsLeL (m:Nat):(fs:List Sh)->TyL fs->Prop
 | [],_=>True
 | [f],x=>rowsLe m f x
 | f::g::r,x=>rowsLe m f x.1/\rowsLeL m (g::r) x.2
end
mutual
theorem rows_le:(sh:Sh)->(x:Ty sh)->(m:Nat)->szT sh x<=m->rowsLe m sh x
  | .b,_,_,_=>by simp only [rowsLe]
  | .i k,_,_,_=>by simp only [rowsLe]
  | .s,_,_,_=>by simp only [rowsLe]
  | .l e sh,xs,m,h=>by
    simp only [szT] at h;simp only [rowsLe,rowLe];exact ⟨by omega,fun x hx=>rows_le sh x m (by have:=sumL_le (f:=szT sh) hx;omega)⟩
  | .a fs,x,m,h=>by simp only [szT] at h;simp only [rowsLe];exact rowsL_le fs x m h
theorem rowsL_le:(fs:List Sh)->(x:TyL fs)->(m:Nat)->szTL fs x<=m->rowsLeL m fs x
  | [],_,_,_=>by simp only [rowsLeL]
  | [f],x,m,h=>by simp only [szTL] at h;simp only [rowsLeL];exact rows_le f x m h
  | f::g::r,x,m,h=>by
    simp only [szTL] at h;simp only [rowsLeL];exact ⟨rows_le f x.1 m (by omega),rowsL_le (g::r) x.2 m (by omega)⟩
end
mutual
def bytesPos (P:Program):Sh->Bool
 | .l e sh=>decide (0<P.bytesOf e)&&bytesPos P sh
 | .a fs=>bytesPosL P fs
 | _=>true
def bytesPosL (P:Program):List Sh->Bool
 | []=>true
 | f::r=>bytesPos P f&&bytesPosL P r
end
mutual
theorem rows_wf {P:Program}:(sh:Sh)->(x:Ty sh)->bytesPos P sh=true->wfT P sh x->rowsLe 140737488351232 sh x
  | .b,_,_,_=>by simp only [rowsLe]
  | .i k,_,_,_=>by simp only [rowsLe]
  | .s,_,_,_=>by simp only [rowsLe]
  | .l e sh,xs,hb,h=>by
    simp only [bytesPos,sZ,pZ] at hb;simp only [wfT,inL,reachBytes] at h;simp only [rowsLe,rowLe];exact ⟨bY (Nat.le_mul_of_pos_right _ hb.1) h.1,fun x hx=>rows_wf sh x hb.2 (h.2 x hx)⟩
  | .a fs,x,hb,h=>by simp only [wfT] at h;simp only [rowsLe];exact rowsL_wf fs x (by simpa only [bytesPos] using hb) h
theorem rowsL_wf {P:Program}:(fs:List Sh)->(x:TyL fs)->bytesPosL P fs=true->wfTL P fs x->rowsLeL 140737488351232 fs x
  | [],_,_,_=>by simp only [rowsLeL]
  | [f],x,hb,h=>by simp only [wfTL] at h;simp only [rowsLeL];exact rows_wf f x (by simpa [bytesPosL] using hb) h
  | f::g::r,x,hb,h=>by
    rw [bytesPosL,sZ] at hb;simp only [wfTL] at h;simp only [rowsLeL];exact ⟨rows_wf f x.1 hb.1 h.1,rowsL_wf (g::r) x.2 hb.2 h.2⟩
end
theorem szT_row {e:Nat} {sh:Sh} (h:sh.flat=true) (xs:List (Ty sh)):szT (.l e sh) xs=xs.length:=by
 simp only [szT,sumL_zero fun x _=>szT_flat sh x h,Nat.add_zero]
theorem Z0 {m e:Nat} {sh:Sh} {xs:List (Ty sh)} (h:rowsLe m (.l e sh) xs):xs.length<=m/\∀x ∈ xs,rowsLe m sh x:=by
 simpa only [rowsLe,rowLe] using h
theorem szT_rowS (e:Nat) (sh:Sh) (xs:List (Ty sh)):szT (.l e sh) xs=xs.length+sumL (szT sh) xs:=by simp only [szT]
theorem sz_rows {α:Type} {s:α->Nat} {x:List α} {left:Int} {M:Option Int} (hl:x.length<=140737488351232) (h0:0<=left) (h1:left<=1048576)
 (hM:0<=left-(x.length:Int)->M=if left-(x.length:Int)<(sumL s x:Int) then some (-1) else some (left-x.length-sumL s x)):
 (if decide (IntKind.i64.wrap (left-(x.length:Int))<0)=true then some (-1) else M)=some (szR (x.length+sumL s x) left):=by
 rw [T1 (by omega) (by omega)]
 by_cases hb:left<(x.length:Int)
 · rw [dY (by simp;omega),szR_neg (by omega)]
 · rw [eY (by simp;omega),hM (by omega)]
   by_cases hc:left-(x.length:Int)<(sumL s x:Int)
   · rw [dY hc,szR_neg (by omega)]
   · rw [eY hc,szR_pos (by omega)]
     congr 1
     omega
theorem fold_loop {V R S α:Type} {L:Nat->V->Option R} {X:V->Option R} {a:List α} (mk:S->Int->V) (f:S->α->S)
    (hs:∀n s i,L (n+1) (mk s i)=if decide (i<(a.length:Int))=true then if 0<=i then ix a i.toNat fun x=>L n (mk (f s x) (IntKind.i64.wrap (i+1))) else none else X (mk s i)) (hl:a.length<=1048576):
    ∀(m n i:Nat) (s:S),i+m=a.length->m<n->L n (mk s (i:Int))=X (mk ((a.drop i).foldl f s) (a.length:Int))
  | 0,n+1,i,s,h,_=>by
    have hi:i=a.length:=by omega
    subst hi;rw [hs,eY (by simp)]
    simp
  | m+1,n+1,i,s,h,hn=>by
    have hi:i<a.length:=by omega
    have hin:(i:Int).toNat=i:=by simp
    rw [hs,dY (by simp;omega),dY (by omega),hin,ix_at hi,wrap_succ hi (by omega),fold_loop mk f hs hl m n (i+1) _ (by omega) (by omega),cZ hi,List.foldl_cons]
theorem row_loop {V S α R:Type} {L:Nat->V->Option R} {X:V->Option R} {a:List α} (mk:S->Int->V) {body:Nat->S->Int->α->Option R} (res:S->Nat->List α->Option R)
    (hs:∀n s i,L (n+1) (mk s i)=if decide (i<(a.length:Int))=true then if 0<=i then ix a i.toNat (body n s i) else none else X (mk s i))
    (hl:a.length<=140737488351232) (he:∀s,X (mk s (a.length:Int))=res s a.length [])
    (hb:∀n (i:Nat) s x r,IntKind.i64.wrap ((i:Int)+1)=((i+1:Nat):Int)->i<a.length->a[i]? =some x->(∀s',L n (mk s' ((i+1:Nat):Int))=res s' (i+1) r)->body n s (i:Int) x=res s i (x::r)):
    ∀(m n i:Nat) (s:S),i+m=a.length->m<n->L n (mk s (i:Int))=res s i (a.drop i)
  | 0,n+1,i,s,h,_=>by
    have hi:i=a.length:=by omega
    subst hi;rw [hs,eY (by simp),he]
    simp
  | m+1,n+1,i,s,h,hn=>by
    have hi:i<a.length:=by omega
    have hin:(i:Int).toNat=i:=by simp
    rw [hs,dY (by simp;omega),dY (by omega),hin,ix_at hi,cZ hi]
    refine hb n i s _ _ ?_ hi (dZ hi) fun s'=>row_loop mk res hs hl he hb m n (i+1) s' (by omega) (by omega)
    rw [wrap_succ hi (by omega)]
theorem row_loop0 {V S α R:Type} {L:Nat->V->Option R} {X:V->Option R} {a:List α} (mk:S->Int->V) {body:Nat->S->Int->α->Option R} (res:S->Nat->List α->Option R)
 (hs:∀n s i,L (n+1) (mk s i)=if decide (i<(a.length:Int))=true then if 0<=i then ix a i.toNat (body n s i) else none else X (mk s i))
 (hl:a.length<=140737488351232) (he:∀s,X (mk s (a.length:Int))=res s a.length [])
 (hb:∀n (i:Nat) s x r,IntKind.i64.wrap ((i:Int)+1)=((i+1:Nat):Int)->i<a.length->a[i]? =some x->(∀s',L n (mk s' ((i+1:Nat):Int))=res s' (i+1) r)->body n s (i:Int) x=res s i (x::r))
 {n:Nat} (hn:a.length<n) (s:S):L n (mk s 0)=res s 0 a:=by
 have:=row_loop mk res hs hl he hb a.length n 0 s (by omega) hn
 simpa using this
section
variable {α R:Type}
theorem szS_loop2 {a:List α} {L:Nat->(Int×Int)->Option R} {f:α->Int->Option Int} {X0:(Int×Int)->α->Int->Option R} {X1:(Int×Int)->Option R} {neg:Option R} {fin:Int->Option R}
    (hs:∀n v,L (n+1) v=if (decide (v.2<(a.length:Int)))=true then if 0<=v.2 then ix a v.2.toNat fun x=>(f x v.1).bind fun p=>if (decide (p<0))=true then X0 v x p else L n (p,(IntKind.i64.wrap (v.2+1))) else none else X1 v)
    (hx0:∀v x p,X0 v x p=neg) (hx1:∀v,X1 v=fin v.1) {s:α->Nat} (hf:∀x ∈ a,∀left:Int,0<=left->left<=1048576->f x left=some (szR (s x) left)) (hl:a.length<=140737488351232):
    ∀(m n i:Nat) (left:Int),i+m=a.length->m<n->0<=left->left<=1048576->L n (left,(i:Int))=if left<(sumL s (a.drop i):Int) then neg else fin (left-sumL s (a.drop i))
  | 0,n+1,i,left,h,_,h0,h1=>by
    have hi:i=a.length:=by omega
    subst hi;rw [hs,eY (by simp),hx1]
    simp [sumL];omega
  | m+1,n+1,i,left,h,hn,h0,h1=>by
    have hi:i<a.length:=by omega
    have hin:(i:Int).toNat=i:=by simp
    have hd:decide ((i:Int)<(a.length:Int))=true:=by simp;omega
    rw [hs,dY hd,dY (by show (0:Int)<=i;omega)]
    simp only [hin];have e:(sumL s (a.drop i):Int)=s a[i]+sumL s (a.drop (i+1)):=by
      rw [cZ hi];simp [sumL]
    rw [ix_at hi,hf _ (tZ hi) left h0 h1,rZ];by_cases hb:left<s a[i]
    · rw [szR_neg hb,dY (by decide),hx0,dY (by omega)]
    · rw [szR_pos hb,eY (by simp;omega),wrap_succ hi (by omega),szS_loop2 hs hx0 hx1 hf hl m n (i+1) _ (by omega) (by omega) (by omega) (by omega)]
      by_cases hc:left-(s a[i]:Int)<(sumL s (a.drop (i+1)):Int)
      · rw [dY hc,dY (by omega)]
      · rw [eY hc,eY (by omega)]
        congr 1
        omega
theorem toS_loop2 {a:List α} {L:Nat->(Int×List α)->Option R} {f:α->Option α} {X:(Int×List α)->Option R}
    (hs:∀n v,L (n+1) v=if (decide (v.1<(a.length:Int)))=true then if 0<=v.1 then ix a v.1.toNat fun x=>(f x).bind fun p=>if 0<=v.1 then if v.1<(v.2.length:Int) then ix v.2 v.1.toNat fun y=>L n ((IntKind.i64.wrap (v.1+1)),(v.2.set v.1.toNat p)) else none else none else none else X v)
    (hf:∀x ∈ a,f x=some x) (hl:a.length<=1048576):
    ∀(m n i:Nat) (out:List α),i+m=a.length->m<n->out.length=a.length->out.take i=a.take i->L n ((i:Int),out)=X ((a.length:Int),a)
  | 0,n+1,i,out,h,_,ho,ht=>by
    have hi:i=a.length:=by omega
    subst hi;rw [List.take_length,List.take_of_length_le (by omega)] at ht
    subst ht;rw [hs,eY (by simp)]
  | m+1,n+1,i,out,h,hn,ho,ht=>by
    have hi:i<a.length:=by omega
    have hin:(i:Int).toNat=i:=by simp
    have h1:decide ((i:Int)<(a.length:Int))=true:=by simp;omega
    have h2:(0:Int)<=i:=by omega
    have h3:(i:Int)<(out.length:Int):=by omega
    rw [hs,dY h1,dY h2];simp only [hin];rw [ix_at hi,hf _ (tZ hi),rZ,dY h2,dY h3,ix_at (by omega),wrap_succ hi (by omega)]
    exact toS_loop2 hs hf hl m n (i+1) _ (by omega) (by omega) (by simp [ho]) (set_take ho hi ht)
theorem eqS_loop2 {a:List α} {L:Nat->Int->Option R} {f:α->α->Option Bool} {X0:Int->α->α->Bool->Option R} {X1:Int->Option R}
    (hs:∀n v,L (n+1) v=if (decide (v<(a.length:Int)))=true then if 0<=v then ix a v.toNat fun x=>if 0<=v then ix a v.toNat fun y=>(f x y).bind fun p=>if (!p)=true then X0 v x y p else L n ((IntKind.i64.wrap (v+1))) else none else none else X1 v)
    (hf:∀x ∈ a,f x x=some true) (hl:a.length<=140737488351232):
    ∀(m n i:Nat),i+m=a.length->m<n->L n (i:Int)=X1 (a.length:Int)
  | 0,n+1,i,h,_=>by
    have hi:i=a.length:=by omega
    subst hi;rw [hs,eY (by simp)]
  | m+1,n+1,i,h,hn=>by
    have hi:i<a.length:=by omega
    have hin:(i:Int).toNat=i:=by simp
    have h1:decide ((i:Int)<(a.length:Int))=true:=by simp;omega
    have h2:(0:Int)<=i:=by omega
    rw [hs,dY h1,dY h2];simp only [hin];rw [ix_at hi,dY h2,ix_at hi,hf _ (tZ hi),rZ,eY (by decide),wrap_succ hi (by omega)]
    exact eqS_loop2 hs hf hl m n (i+1) (by omega) (by omega)
theorem eqI_loop2 {α:Type} [BEq α] [LawfulBEq α] {R:Type} {a:List α} {L:Nat->Int->Option R} {X0:Int->α->α->Option R} {X1:Int->Option R}
    (hs:∀n v,L (n+1) v=if (decide (v<(a.length:Int)))=true then if 0<=v then ix a v.toNat fun x=>if 0<=v then ix a v.toNat fun y=>if (x !=y)=true then X0 v x y else L n ((IntKind.i64.wrap (v+1))) else none else none else X1 v)
    (hl:a.length<=140737488351232):
    ∀(m n i:Nat),i+m=a.length->m<n->L n (i:Int)=X1 (a.length:Int)
  | 0,n+1,i,h,_=>by
    have hi:i=a.length:=by omega
    subst hi;rw [hs,eY (by simp)]
  | m+1,n+1,i,h,hn=>by
    have hi:i<a.length:=by omega
    have hin:(i:Int).toNat=i:=by simp
    have h1:decide ((i:Int)<(a.length:Int))=true:=by simp;omega
    have h2:(0:Int)<=i:=by omega
    rw [hs,dY h1,dY h2];simp only [hin];rw [ix_at hi,dY h2,ix_at hi,eY (by simp),wrap_succ hi (by omega)]
    exact eqI_loop2 hs hl m n (i+1) (by omega) (by omega)
end
section
variable {V S α R:Type}
theorem row_i {L:Nat->Int->Option R} {X:Int->Option R} {a:List α} {body:Nat->Int->α->Option R} (res:Nat->List α->Option R)
 (hs:∀n i,L (n+1) i=if decide (i<(a.length:Int))=true then if 0<=i then ix a i.toNat (body n i) else none else X i)
 (hl:a.length<=140737488351232) (he:X (a.length:Int)=res a.length [])
 (hb:∀n (i:Nat) x r,(0:Int)<=(i:Int)->(i:Int).toNat=i->IntKind.i64.wrap ((i:Int)+1)=((i+1:Nat):Int)->i<a.length->a[i]? =some x->L n ((i+1:Nat):Int)=res (i+1) r->body n (i:Int) x=res i (x::r))
 {n:Nat} (hn:a.length<n):L n 0=res 0 a:=
 row_loop0 (S:=Unit) (L:=L) (X:=X) (a:=a) (fun _ i=>i) (fun _ i l=>res i l) (fun n _ i=>hs n i) hl (fun _=>he)
  (fun n i _ x r hw hi hx ih=>hb n i x r (by omega) (by simp) hw hi hx (ih ())) hn ()
theorem row_s {L:Nat->V->Option R} {X:S->Int->Option R} {a:List α} (mk:S->Int->V) {body:Nat->S->Int->α->Option R} (res:S->Nat->List α->Option R)
    (hs:∀n s i,L (n+1) (mk s i)=if decide (i<(a.length:Int))=true then if 0<=i then ix a i.toNat (body n s i) else none else X s i)
    (hl:a.length<=140737488351232) (he:∀s,X s (a.length:Int)=res s a.length [])
    (hb:∀n (i:Nat) s x r,(0:Int)<=(i:Int)->(i:Int).toNat=i->IntKind.i64.wrap ((i:Int)+1)=((i+1:Nat):Int)->i<a.length->a[i]? =some x->(∀s',L n (mk s' ((i+1:Nat):Int))=res s' (i+1) r)->body n s (i:Int) x=res s i (x::r)):
    ∀(m n i:Nat) (s:S),i+m=a.length->m<n->L n (mk s (i:Int))=res s i (a.drop i)
  | 0,n+1,i,s,h,_=>by
    have hi:i=a.length:=by omega
    subst hi;rw [hs,eY (by simp),he]
    simp
  | m+1,n+1,i,s,h,hn=>by
    have hi:i<a.length:=by omega
    have hin:(i:Int).toNat=i:=by simp
    rw [hs,dY (by simp;omega),dY (by omega),hin,ix_at hi,cZ hi]
    refine hb n i s _ _ (by omega) hin ?_ hi (dZ hi) fun s'=>row_s mk res hs hl he hb m n (i+1) s' (by omega) (by omega)
    rw [wrap_succ hi (by omega)]
theorem row_s0 {L:Nat->V->Option R} {X:S->Int->Option R} {a:List α} (mk:S->Int->V) {body:Nat->S->Int->α->Option R} (res:S->Nat->List α->Option R)
 (hs:∀n s i,L (n+1) (mk s i)=if decide (i<(a.length:Int))=true then if 0<=i then ix a i.toNat (body n s i) else none else X s i)
 (hl:a.length<=140737488351232) (he:∀s,X s (a.length:Int)=res s a.length [])
 (hb:∀n (i:Nat) s x r,(0:Int)<=(i:Int)->(i:Int).toNat=i->IntKind.i64.wrap ((i:Int)+1)=((i+1:Nat):Int)->i<a.length->a[i]? =some x->(∀s',L n (mk s' ((i+1:Nat):Int))=res s' (i+1) r)->body n s (i:Int) x=res s i (x::r))
 {n:Nat} (hn:a.length<n) (s:S):L n (mk s 0)=res s 0 a:=by
 have:=row_s mk res hs hl he hb a.length n 0 s (by omega) hn
 simpa using this
theorem up_loop {L:Nat->Int->Option R} {len:Nat} (res:Nat->Option R) (hlen:len<=140737488351232)
 (hb:∀n (i:Nat),i<=len->(0:Int)<=(i:Int)->(i:Int).toNat=i->IntKind.i64.wrap ((i:Int)+1)=((i+1:Nat):Int)->(i<len->L n ((i+1:Nat):Int)=res (i+1))->L (n+1) (i:Int)=res i):
 ∀(m n i:Nat),i+m=len->m<n->L n (i:Int)=res i
 | 0,n+1,i,h,_=>hb n i (by omega) (by omega) (by simp) (by rw [T1 (by omega) (by omega)];omega) (fun hi=>absurd hi (by omega))
 | m+1,n+1,i,h,hn=>hb n i (by omega) (by omega) (by simp) (by rw [T1 (by omega) (by omega)];omega) (fun hi=>up_loop res hlen hb m n (i+1) (by omega) (by omega))
end
def allIdx {α:Type} (p:Nat->α->Bool):Nat->List α->Bool
 | _,[]=>true
 | i,x::r=>p i x&&allIdx p (i+1) r
def findFrom {α:Type} (p:α->Bool):Nat->List α->Int
 | _,[]=> -1
 | i,x::r=>if p x then (i:Int) else findFrom p (i+1) r
theorem findFrom_range {α:Type} (p:α->Bool):∀(l:List α) (i:Nat),findFrom p i l= -1\/((i:Int)<=findFrom p i l/\findFrom p i l<((i+l.length:Nat):Int))
  | [],i=> .inl rfl
  | x::r,i=>by
    unfold findFrom;split
    · right;simp only [List.length_cons];omega
    · rcases findFrom_range p r (i+1) with h | h
      · exact .inl h
      · right;simp only [List.length_cons];omega
theorem findFrom_any {α:Type} (p:α->Bool):∀(l:List α) (i:Nat),decide (findFrom p i l>=0)=l.any p
  | [],i=>rfl
  | x::r,i=>by
    unfold findFrom;rw [List.any_cons];split
    · rename_i h;rw [h];simp
    · rename_i h;rw [findFrom_any p r (i+1)];simp [h]
def mkL {α:Type} (f:α->Int->α×Int):List α->Int->List α×Int
 | [],m=>([],m)
 | x::r,m=>((f x m).1::(mkL f r (f x m).2).1,(mkL f r (f x m).2).2)
mutual
def mkE:(sh:Sh)->Ty sh->Int->Ty sh×Int
 | .b,x,m=>(x,m)
 | .i _,_,m=>(m,m+1)
 | .s,x,m=>(x,m)
 | .l _ sh,xs,m=>mkL (mkE sh) xs m
 | .a fs,x,m=>mkEL fs x m
def mkEL:(fs:List Sh)->TyL fs->Int->TyL fs×Int
 | [],x,m=>(x,m)
 | [f],x,m=>mkE f x m
 | f::g::r,x,m=>(((mkE f x.1 m).1,(mkEL (g::r) x.2 (mkE f x.1 m).2).1),(mkEL (g::r) x.2 (mkE f x.1 m).2).2)
end
mutual
def mkT:(sh:Sh)->Ty sh->Int->Ty sh×Int
 | .b,x,m=>(x,m)
 | .i _,x,m=>(x,m)
 | .s,x,m=>(x,m)
 | .l _ sh,xs,m=>mkL (mkE sh) xs m
 | .a fs,x,m=>mkTL fs x m
def mkTL:(fs:List Sh)->TyL fs->Int->TyL fs×Int
 | [],x,m=>(x,m)
 | [f],x,m=>mkT f x m
 | f::g::r,x,m=>(((mkT f x.1 m).1,(mkTL (g::r) x.2 (mkT f x.1 m).2).1),(mkTL (g::r) x.2 (mkT f x.1 m).2).2)
end
mutual
def Sh.leafs:Sh->Nat
 | .i _=>1
 | .a fs=>Sh.leafsL fs
 | _=>0
def Sh.leafsL:List Sh->Nat
 | []=>0
 | f::r=>Sh.leafs f+Sh.leafsL r
end
mutual
def Sh.few:Sh->Bool
 | .l _ sh=>decide (sh.leafs<=16)&&sh.few
 | .a fs=>Sh.fewL fs
 | _=>true
def Sh.fewL:List Sh->Bool
 | []=>true
 | f::r=>Sh.few f&&Sh.fewL r
end
theorem mkL_le {α:Type} {f:α->Int->α×Int} {s:α->Nat}:∀(xs:List α) (m:Int),(∀x ∈ xs,∀m,m<=(f x m).2/\(f x m).2<=m+16+16*s x)->m<=(mkL f xs m).2/\(mkL f xs m).2<=m+16*((xs.length+sumL s xs:Nat):Int)
  | [],m,_=>by simp [mkL,sumL]
  | x::r,m,h=>by
    have h1:=h x (by simp) m
    have h2:=mkL_le r (f x m).2 fun y hy=>h y (by simp [hy])
    simp only [mkL,sumL,List.length_cons];omega
theorem mkL_length {α:Type} {f:α->Int->α×Int}:∀(xs:List α) (m:Int),(mkL f xs m).1.length=xs.length
 | [],m=>rfl
 | x::r,m=>by simp [mkL,mkL_length r]
theorem mkL_sum {α:Type} {f:α->Int->α×Int} {s:α->Nat}:∀(xs:List α) (m:Int),(∀x ∈ xs,∀m,s (f x m).1=s x)->sumL s (mkL f xs m).1=sumL s xs
  | [],m,_=>rfl
  | x::r,m,h=>by
    simp only [mkL,sumL,h x (by simp) m,mkL_sum r (f x m).2 fun y hy=>h y (by simp [hy])]
mutual
theorem mkE_le:(sh:Sh)->(x:Ty sh)->(m:Int)->sh.few=true->m<=(mkE sh x m).2/\(mkE sh x m).2<=m+sh.leafs+16*szT sh x
  | .b,x,m,_=>by simp [mkE,Sh.leafs,szT]
  | .i k,x,m,_=>by simp only [mkE,Sh.leafs,szT];omega
  | .s,x,m,_=>by simp [mkE,Sh.leafs,szT]
  | .l e sh,xs,m,h=>by
    simp only [Sh.few,sZ,pZ] at h
    have:=mkL_le (f:=mkE sh) (s:=szT sh) xs m fun x _ m=>by have:=mkE_le sh x m h.2;omega
    simp only [mkE,Sh.leafs,szT];omega
  | .a fs,x,m,h=>by simp only [mkE,Sh.leafs,szT];exact mkEL_le fs x m (by simpa only [Sh.few] using h)
theorem mkEL_le:(fs:List Sh)->(x:TyL fs)->(m:Int)->Sh.fewL fs=true->m<=(mkEL fs x m).2/\(mkEL fs x m).2<=m+Sh.leafsL fs+16*szTL fs x
  | [],x,m,_=>by simp [mkEL,Sh.leafsL,szTL]
  | [f],x,m,h=>by
    have:=mkE_le f x m (by simpa [Sh.fewL] using h)
    simp only [mkEL,Sh.leafsL,szTL];omega
  | f::g::r,x,m,h=>by
    rw [Sh.fewL,sZ] at h;have h1:=mkE_le f x.1 m h.1;have h2:=mkEL_le (g::r) x.2 (mkE f x.1 m).2 h.2;simp only [mkEL,szTL];rw [Sh.leafsL];omega
end
mutual
theorem mkT_le:(sh:Sh)->(x:Ty sh)->(m:Int)->sh.few=true->m<=(mkT sh x m).2/\(mkT sh x m).2<=m+16*szT sh x
  | .b,x,m,_=>by simp [mkT,szT]
  | .i k,x,m,_=>by simp [mkT,szT]
  | .s,x,m,_=>by simp [mkT,szT]
  | .l e sh,xs,m,h=>by
    simp only [Sh.few,sZ,pZ] at h
    have:=mkL_le (f:=mkE sh) (s:=szT sh) xs m fun x _ m=>by have:=mkE_le sh x m h.2;omega
    simp only [mkT,szT];omega
  | .a fs,x,m,h=>by simp only [mkT,szT];exact mkTL_le fs x m (by simpa only [Sh.few] using h)
theorem mkTL_le:(fs:List Sh)->(x:TyL fs)->(m:Int)->Sh.fewL fs=true->m<=(mkTL fs x m).2/\(mkTL fs x m).2<=m+16*szTL fs x
  | [],x,m,_=>by simp [mkTL,szTL]
  | [f],x,m,h=>by simp only [mkTL,szTL];exact mkT_le f x m (by simpa [Sh.fewL] using h)
  | f::g::r,x,m,h=>by
    rw [Sh.fewL,sZ] at h;have h1:=mkT_le f x.1 m h.1;have h2:=mkTL_le (g::r) x.2 (mkT f x.1 m).2 h.2;simp only [mkTL,szTL];omega
end
mutual
theorem mkE_sz:(sh:Sh)->(x:Ty sh)->(m:Int)->szT sh (mkE sh x m).1=szT sh x
  | .b,x,m=>by simp [mkE]
  | .i k,x,m=>by simp [szT]
  | .s,x,m=>by simp [mkE]
  | .l e sh,xs,m=>by
    simp only [mkE,szT,mkL_sum xs m fun x _ m=>mkE_sz sh x m]
    exact congrArg (· +sumL (szT sh) xs) (mkL_length xs m)
  | .a fs,x,m=>by simp only [mkE,szT];exact mkEL_sz fs x m
theorem mkEL_sz:(fs:List Sh)->(x:TyL fs)->(m:Int)->szTL fs (mkEL fs x m).1=szTL fs x
 | [],x,m=>by simp [mkEL]
 | [f],x,m=>by simp only [mkEL,szTL];exact mkE_sz f x m
 | f::g::r,x,m=>by simp only [mkEL,szTL,mkE_sz f,mkEL_sz (g::r)]
end
mutual
theorem mkT_sz:(sh:Sh)->(x:Ty sh)->(m:Int)->szT sh (mkT sh x m).1=szT sh x
  | .b,x,m=>by simp [mkT]
  | .i k,x,m=>by simp [mkT]
  | .s,x,m=>by simp [mkT]
  | .l e sh,xs,m=>by
    simp only [mkT,szT,mkL_sum xs m fun x _ m=>mkE_sz sh x m]
    exact congrArg (· +sumL (szT sh) xs) (mkL_length xs m)
  | .a fs,x,m=>by simp only [mkT,szT];exact mkTL_sz fs x m
theorem mkTL_sz:(fs:List Sh)->(x:TyL fs)->(m:Int)->szTL fs (mkTL fs x m).1=szTL fs x
 | [],x,m=>by simp [mkTL]
 | [f],x,m=>by simp only [mkTL,szTL];exact mkT_sz f x m
 | f::g::r,x,m=>by simp only [mkTL,szTL,mkT_sz f,mkTL_sz (g::r)]
end
section
variable {V R α:Type}
theorem mark_loop {L:Nat->V->Option R} {X:V->Option R} (mk:List α->Int->Int->V) {f:α->Int->α×Int} {s:α->Nat} {B:Int} {P:α->Prop}
    (hs:∀n a (i:Nat) m x,i<a.length->a[i]? =some x->P x->0<=m->m+16+16*s x<=B->(0:Int)<=(i:Int)->(i:Int)<(a.length:Int)->(i:Int).toNat=i->IntKind.i64.wrap ((i:Int)+1)=((i+1:Nat):Int)->
      L (n+1) (mk a (i:Int) m)=L n (mk (a.set i (f x m).1) ((i+1:Nat):Int) (f x m).2))
    (hx:∀n a m,L (n+1) (mk a (a.length:Int) m)=X (mk a (a.length:Int) m)) (hf:∀x m,m<=(f x m).2/\(f x m).2<=m+16+16*s x):
    ∀(r:List α) (n i:Nat) (a:List α) (m:Int),(∀x ∈ r,P x)->a.length<=140737488351232->a.drop i=r->i<=a.length->r.length<n->0<=m->m+16*((r.length+sumL s r:Nat):Int)<=B->
      L n (mk a (i:Int) m)=X (mk (a.take i++(mkL f r m).1) (a.length:Int) (mkL f r m).2)
  | [],n+1,i,a,m,hP,hl,hd,hi,hn,h0,hB=>by
    have:i=a.length:=by have:=congrArg List.length hd;simp at this;omega
    subst this;rw [hx];simp [mkL]
  | x::r,n+1,i,a,m,hP,hl,hd,hi,hn,h0,hB=>by
    have hlt:i<a.length:=by
      rcases Nat.lt_or_ge i a.length with h | h
      · exact h
      · rw [List.drop_eq_nil_of_le h] at hd;cases hd
    have hx':a[i]? =some x:=by
      have:=congrArg (·[0]?) hd
      simpa using this
    have hd':a.drop (i+1)=r:=by
      rw [<-List.drop_drop,hd];rfl
    simp only [sumL,List.length_cons] at hB hn;have hfx:=hf x m;rw [hs n a i m x hlt hx' (hP x (by simp)) h0 (by omega) (by omega) (by omega) (by simp) (wrap_succ hlt (by omega)),mark_loop mk hs hx hf r n (i+1) (a.set i (f x m).1) (f x m).2 (fun y hy=>hP y (by simp [hy])) (by simpa using hl) ?_ (by simp;omega) (by omega) (by omega) (by omega)]
    · congr 1
      have e:(a.set i (f x m).1).take (i+1)=a.take i++[(f x m).1]:=by
        rw [List.take_add_one,List.take_set_of_le (cY i)];simp [hlt]
      rw [e];simp [mkL]
    · rw [List.drop_set_of_lt (by omega)]
      exact hd'
theorem mark_loop0 {L:Nat->V->Option R} {X:V->Option R} (mk:List α->Int->Int->V) {f:α->Int->α×Int} {s:α->Nat} {B:Int} {P:α->Prop}
 (hs:∀n a (i:Nat) m x,i<a.length->a[i]? =some x->P x->0<=m->m+16+16*s x<=B->(0:Int)<=(i:Int)->(i:Int)<(a.length:Int)->(i:Int).toNat=i->IntKind.i64.wrap ((i:Int)+1)=((i+1:Nat):Int)->
  L (n+1) (mk a (i:Int) m)=L n (mk (a.set i (f x m).1) ((i+1:Nat):Int) (f x m).2))
 (hx:∀n a m,L (n+1) (mk a (a.length:Int) m)=X (mk a (a.length:Int) m)) (hf:∀x m,m<=(f x m).2/\(f x m).2<=m+16+16*s x)
 {a:List α} {n:Nat} {m:Int} (hP:∀x ∈ a,P x) (hl:a.length<=140737488351232) (hn:a.length<n) (h0:0<=m) (hB:m+16*((a.length+sumL s a:Nat):Int)<=B):
 L n (mk a 0 m)=X (mk (mkL f a m).1 (a.length:Int) (mkL f a m).2):=by
 have:=mark_loop mk hs hx hf a n 0 a m hP hl rfl (Nat.zero_le _) hn h0 hB
 simpa using this
theorem held_loop {L:Nat->V->Option R} {X:V->Option R} {a:List α} (mk:Int->Int->V) {f:α->Int->α×Int} {s:α->Nat} {B:Int} {P:α->Prop}
    (hs:∀n (i:Nat) m x,i<a.length->a[i]? =some (f x m).1->P x->0<=m->m+16+16*s x<=B->(0:Int)<=(i:Int)->(i:Int)<(a.length:Int)->(i:Int).toNat=i->IntKind.i64.wrap ((i:Int)+1)=((i+1:Nat):Int)->L (n+1) (mk (i:Int) m)=L n (mk ((i+1:Nat):Int) (f x m).2))
    (hx:∀n m,L (n+1) (mk (a.length:Int) m)=X (mk (a.length:Int) m)) (hf:∀x m,m<=(f x m).2/\(f x m).2<=m+16+16*s x) (hl:a.length<=140737488351232):
    ∀(r:List α) (n i:Nat) (m:Int),(∀x ∈ r,P x)->a.drop i=(mkL f r m).1->i+r.length=a.length->r.length<n->0<=m->m+16*((r.length+sumL s r:Nat):Int)<=B->L n (mk (i:Int) m)=X (mk (a.length:Int) (mkL f r m).2)
  | [],n+1,i,m,hP,hd,hi,hn,h0,hB=>by
    have:i=a.length:=by simpa using hi
    subst this;rw [hx];simp [mkL]
  | x::r,n+1,i,m,hP,hd,hi,hn,h0,hB=>by
    simp only [List.length_cons] at hi hn;have hlt:i<a.length:=by omega
    simp only [mkL] at hd;have hx':a[i]? =some (f x m).1:=by
      have:=congrArg (·[0]?) hd
      simpa using this
    have hd':a.drop (i+1)=(mkL f r (f x m).2).1:=by
      rw [<-List.drop_drop,hd];rfl
    simp only [sumL,List.length_cons] at hB;have hfx:=hf x m;rw [hs n i m x hlt hx' (hP x (by simp)) h0 (by omega) (by omega) (by omega) (by simp) (wrap_succ hlt (by omega)),held_loop mk hs hx hf hl r n (i+1) (f x m).2 (fun y hy=>hP y (by simp [hy])) hd' (by omega) (by omega) (by omega) (by omega)]
    simp [mkL]
theorem held_loop0 {L:Nat->V->Option R} {X:V->Option R} (mk:Int->Int->V) {f:α->Int->α×Int} {s:α->Nat} {B:Int} {P:α->Prop} {r a:List α} {m:Int} (ha:a=(mkL f r m).1)
 (hs:∀n (i:Nat) m x,i<a.length->a[i]? =some (f x m).1->P x->0<=m->m+16+16*s x<=B->(0:Int)<=(i:Int)->(i:Int)<(a.length:Int)->(i:Int).toNat=i->IntKind.i64.wrap ((i:Int)+1)=((i+1:Nat):Int)->L (n+1) (mk (i:Int) m)=L n (mk ((i+1:Nat):Int) (f x m).2))
 (hx:∀n m,L (n+1) (mk (a.length:Int) m)=X (mk (a.length:Int) m)) (hf:∀x m,m<=(f x m).2/\(f x m).2<=m+16+16*s x)
 {n:Nat} (hP:∀x ∈ r,P x) (hl:r.length<=140737488351232) (hn:r.length<n) (h0:0<=m) (hB:m+16*((r.length+sumL s r:Nat):Int)<=B):
 L n (mk 0 m)=X (mk (a.length:Int) (mkL f r m).2):=by
 have e:a.length=r.length:=by rw [ha,mkL_length]
 have:=held_loop mk hs hx hf (by omega) r n 0 m hP (by simpa using ha) (by omega) hn h0 hB
 simpa using this
end
section
variable {V S α R:Type}
theorem row_inv {L:Nat->V->Option R} {X:S->Int->Option R} {a:List α} (mk:S->Int->V) {body:Nat->S->Int->α->Option R} (res:S->Nat->List α->Option R) (I:S->Nat->Prop)
    (hs:∀n s i,L (n+1) (mk s i)=if decide (i<(a.length:Int))=true then if 0<=i then ix a i.toNat (body n s i) else none else X s i)
    (hl:a.length<=140737488351232) (he:∀s,I s a.length->X s (a.length:Int)=res s a.length [])
    (hb:∀n (i:Nat) s x r,I s i->(0:Int)<=(i:Int)->(i:Int).toNat=i->IntKind.i64.wrap ((i:Int)+1)=((i+1:Nat):Int)->i<a.length->a[i]? =some x->(∀s',I s' (i+1)->L n (mk s' ((i+1:Nat):Int))=res s' (i+1) r)->body n s (i:Int) x=res s i (x::r)):
    ∀(m n i:Nat) (s:S),I s i->i+m=a.length->m<n->L n (mk s (i:Int))=res s i (a.drop i)
  | 0,n+1,i,s,hI,h,_=>by
    have hi:i=a.length:=by omega
    subst hi;rw [hs,eY (by simp),he s hI]
    simp
  | m+1,n+1,i,s,hI,h,hn=>by
    have hi:i<a.length:=by omega
    have hin:(i:Int).toNat=i:=by simp
    rw [hs,dY (by simp;omega),dY (by omega),hin,ix_at hi,cZ hi]
    refine hb n i s _ _ hI (by omega) hin ?_ hi (dZ hi) fun s' hI'=>row_inv mk res I hs hl he hb m n (i+1) s' hI' (by omega) (by omega)
    rw [wrap_succ hi (by omega)]
theorem row_inv0 {L:Nat->V->Option R} {X:S->Int->Option R} {a:List α} (mk:S->Int->V) {body:Nat->S->Int->α->Option R} (res:S->Nat->List α->Option R) (I:S->Nat->Prop)
 (hs:∀n s i,L (n+1) (mk s i)=if decide (i<(a.length:Int))=true then if 0<=i then ix a i.toNat (body n s i) else none else X s i)
 (hl:a.length<=140737488351232) (he:∀s,I s a.length->X s (a.length:Int)=res s a.length [])
 (hb:∀n (i:Nat) s x r,I s i->(0:Int)<=(i:Int)->(i:Int).toNat=i->IntKind.i64.wrap ((i:Int)+1)=((i+1:Nat):Int)->i<a.length->a[i]? =some x->(∀s',I s' (i+1)->L n (mk s' ((i+1:Nat):Int))=res s' (i+1) r)->body n s (i:Int) x=res s i (x::r))
 {n:Nat} (hn:a.length<n) (s:S) (hI:I s 0):L n (mk s 0)=res s 0 a:=by
 have:=row_inv mk res I hs hl he hb a.length n 0 s hI (by omega) hn
 simpa using this
theorem up_inv {L:Nat->V->Option R} {len:Nat} (mk:S->Int->V) (res:S->Nat->Option R) (I:S->Nat->Prop) (hlen:len<=140737488351232)
 (hb:∀n (i:Nat) s,I s i->i<=len->(0:Int)<=(i:Int)->(i:Int).toNat=i->IntKind.i64.wrap ((i:Int)+1)=((i+1:Nat):Int)->(i<len->∀s',I s' (i+1)->L n (mk s' ((i+1:Nat):Int))=res s' (i+1))->L (n+1) (mk s (i:Int))=res s i):
 ∀(m n i:Nat) (s:S),I s i->i+m=len->m<n->L n (mk s (i:Int))=res s i
 | 0,n+1,i,s,hI,h,_=>hb n i s hI (by omega) (by omega) (by simp) (by rw [T1 (by omega) (by omega)];omega) (fun hi=>absurd hi (by omega))
 | m+1,n+1,i,s,hI,h,hn=>hb n i s hI (by omega) (by omega) (by simp) (by rw [T1 (by omega) (by omega)];omega) (fun hi s' hI'=>up_inv mk res I hlen hb m n (i+1) s' hI' (by omega) (by omega))
theorem up_inv0 {L:Nat->V->Option R} {len:Nat} (mk:S->Int->V) (res:S->Nat->Option R) (I:S->Nat->Prop) (hlen:len<=140737488351232)
 (hb:∀n (i:Nat) s,I s i->i<=len->(0:Int)<=(i:Int)->(i:Int).toNat=i->IntKind.i64.wrap ((i:Int)+1)=((i+1:Nat):Int)->(i<len->∀s',I s' (i+1)->L n (mk s' ((i+1:Nat):Int))=res s' (i+1))->L (n+1) (mk s (i:Int))=res s i)
 {n:Nat} (hn:len<n) (s:S) (hI:I s 0):L n (mk s 0)=res s 0:=by
 have:=up_inv mk res I hlen hb len n 0 s hI (by omega) hn
 simpa using this
end
theorem clone_eq {α:Type} (xs:List α):agree xs.isEmpty (some ([]:List α)) (some xs)=some xs:=by
 cases xs<;>simp [agree]
theorem take_loop {R α:Type} {L:Nat->(Int×List α)->Option R} {a:List α} {Y:Option R}
    (hb:∀n (i:Nat) (h:i<a.length),(0:Int)<=(i:Int)->(i:Int).toNat=i->decide ((i:Int)<(a.length:Int))=true->IntKind.i64.wrap ((i:Int)+1)=((i+1:Nat):Int)->(a.take i).length=i->
      L (n+1) ((i:Int),a.take i)=L n (((i+1:Nat):Int),a.take i++[a[i]]))
    (he:∀n,decide ((a.length:Int)<(a.length:Int))=false->L (n+1) ((a.length:Int),a)=Y) (hl:a.length<=140737488351232) {n:Nat} (hn:a.length<n):L n (0,[])=Y:=by
  have key:∀(m n i:Nat),i+m=a.length->m<n->L n ((i:Int),a.take i)=Y:=by
    intro m;induction m with
    | zero=>
      intro n i h hn
      obtain rfl:i=a.length:=by omega
      obtain ⟨n,rfl⟩:∃q,n=q+1:=⟨n-1,by omega⟩
      rw [List.take_length];exact he n (by simp)
    | succ m ih=>
      intro n i h hn;obtain ⟨n,rfl⟩:∃q,n=q+1:=⟨n-1,by omega⟩
      have hi:i<a.length:=by omega
      rw [hb n i hi (by omega) (by simp) (by simp;omega) (by rw [T1 (by omega) (by omega)];omega) (by rw [List.length_take];omega),List.take_append_getElem hi]
      exact ih n (i+1) (by omega) (by omega)
  simpa using key a.length n 0 (by omega) hn
def SS (D:Nat) (sh:Sh) (F:Nat->Ty sh->Int->Option Int):Prop:=∀(k:Nat) (x:Ty sh) (left:Int),rowsLe 140737488351232 sh x->szT sh x+D<k->0<=left->left<=1048576->F k x left=some (szR (szT sh x) left)
def TT (D:Nat) (sh:Sh) (F:Nat->Ty sh->Option (Ty sh)):Prop:=∀(k:Nat) (x:Ty sh),szT sh x<=1048576->szT sh x+D<k->F k x=some x
def QQ (D:Nat) (sh:Sh) (F:Nat->Ty sh->Ty sh->Option Bool):Prop:=∀(k:Nat) (x:Ty sh),szT sh x<=140737488351232->szT sh x+D<k->F k x x=some true
def Fit (B D k:Nat) (fs:List Sh) (x:TyL fs):Prop:=szTL fs x<=B/\szTL fs x+D<k
theorem Fit.b {B D k:Nat} {f g:Sh} {r:List Sh} {x:TyL (f::g::r)} (h:Fit B D k (f::g::r) x):Fit B D k (g::r) x.2:=by
 unfold Fit at h ⊢;simp only [szTL] at h;omega
theorem QQ.l {D e:Nat} {sh:Sh} {F:Nat->Ty sh->Ty sh->Option Bool} {G:Nat->List (Ty sh)->List (Ty sh)->Option Bool} {L:Nat->List (Ty sh)->Nat->Int->Option Bool} (h:QQ D sh F)
 (he:∀k x,G (k+1) x x=if ((x.length:Int) !=(x.length:Int))=true then some false else L k x k 0)
 (hL:∀k x n v,L k x (n+1) v=if (decide (v<(x.length:Int)))=true then if 0<=v then ix x v.toNat fun y=>if 0<=v then ix x v.toNat fun z=>(F k y z).bind fun p=>if (!p)=true then some false else L k x n (IntKind.i64.wrap (v+1)) else none else none else some true):
 QQ (D+1) (.l e sh) G:=by
 intro k (x:List (Ty sh)) hz hk;replace hz:x.length+sumL (szT sh) x<=140737488351232:=hz;replace hk:x.length+sumL (szT sh) x+(D+1)<k:=hk;obtain ⟨k,rfl⟩:∃q,k=q+1:=⟨k-1,by omega⟩
 rw [he,eY (by simp)]
 exact eqS_loop2 (L:=L k x) (f:=fun y z=>F k y z) (X0:=fun _ _ _ _=>some false) (X1:=fun _=>some true) (hL k x) (fun y hy=>h k y (by have:=sumL_le (f:=szT sh) hy;omega) (by have:=sumL_le (f:=szT sh) hy;omega)) (by omega) x.length k 0 (by omega) (by omega)
theorem QQ.i {e:Nat} {G:Nat->List Int->List Int->Option Bool} {L:Nat->List Int->Nat->Int->Option Bool}
 (he:∀k x,G (k+1) x x=if ((x.length:Int) !=(x.length:Int))=true then some false else L k x k 0)
 (hL:∀k x n v,L k x (n+1) v=if (decide (v<(x.length:Int)))=true then if 0<=v then ix x v.toNat fun y=>if 0<=v then ix x v.toNat fun z=>if (y !=z)=true then some false else L k x n (IntKind.i64.wrap (v+1)) else none else none else some true):
 QQ 1 (.l e (.i .i64)) G:=by
 intro k (x:List Int) hz hk;replace hz:x.length+sumL (szT (.i .i64)) x<=140737488351232:=hz;replace hk:x.length+sumL (szT (.i .i64)) x+1<k:=hk;obtain ⟨k,rfl⟩:∃q,k=q+1:=⟨k-1,by omega⟩
 refine (he k x).trans ?_
 rw [eY (by simp)]
 exact eqI_loop2 (α:=Int) (L:=L k x) (X0:=fun _ _ _=>some false) (X1:=fun _=>some true) (hL k x) (by omega) x.length k 0 (by omega) (by omega)
theorem TT.l {D e b:Nat} {sh:Sh} {z:Ty sh} {F:Nat->Ty sh->Option (Ty sh)} {G:Nat->List (Ty sh)->Option (List (Ty sh))} {L:Nat->List (Ty sh)->Nat->Int×List (Ty sh)->Option (List (Ty sh))} (h:TT D sh F)
 (he:∀k x,G (k+1) x=if ((x.length:Int)==(x.length:Int))=true then if 0<=(x.length:Int) then if b*(x.length:Int).toNat<=281474976710656 then L k x k (0,List.replicate (x.length:Int).toNat z) else none else none else none)
 (hL:∀k x n v,L k x (n+1) v=if (decide (v.1<(x.length:Int)))=true then if 0<=v.1 then ix x v.1.toNat fun y=>(F k y).bind fun p=>if 0<=v.1 then if v.1<(v.2.length:Int) then ix v.2 v.1.toNat fun _=>L k x n ((IntKind.i64.wrap (v.1+1)),(v.2.set v.1.toNat p)) else none else none else none else some v.2)
 (hb:b<=268435456:=by decide):TT (D+1) (.l e sh) G:=by
 intro k (x:List (Ty sh)) hz hk;replace hz:x.length+sumL (szT sh) x<=1048576:=hz;replace hk:x.length+sumL (szT sh) x+(D+1)<k:=hk;obtain ⟨k,rfl⟩:∃q,k=q+1:=⟨k-1,by omega⟩
 refine (he k x).trans ?_
 have hm:b*x.length<=268435456*1048576:=Nat.mul_le_mul hb (by omega)
 rw [dY (beq_self_eq_true _),dY (by omega),dY (by simp;omega)]
 exact toS_loop2 (L:=L k x) (f:=fun y=>F k y) (X:=fun v=>some v.2) (hL k x) (fun y hy=>h k y (by have:=sumL_le (f:=szT sh) hy;omega) (by have:=sumL_le (f:=szT sh) hy;omega)) (by omega) x.length k 0 _ (by omega) (by omega) (by simp) (by simp)
theorem TT.o {sh:Sh}:TT 0 sh fun _ x=>some x:=fun _ _ _ _=>rfl
def CH (n:Nat) (g:Int->Option Int):Prop:=∀p,0<=p->p<=1048576->g p=some (szR n p)
def Rit (D k:Nat) (fs:List Sh) (x:TyL fs):Prop:=rowsLeL 140737488351232 fs x/\szTL fs x+D<k
theorem Rit.b {D k:Nat} {f g:Sh} {r:List Sh} {x:TyL (f::g::r)} (h:Rit D k (f::g::r) x):Rit D k (g::r) x.2:=by
 unfold Rit at h ⊢;simp only [szTL,rowsLeL] at h;exact ⟨h.1.2,by omega⟩
theorem SS.l {D e:Nat} {sh:Sh} {F:Nat->Ty sh->Int->Option Int} {G:Nat->List (Ty sh)->Int->Option Int} {L:Nat->List (Ty sh)->Nat->Int×Int->Option Int} (h:SS D sh F)
 (he:∀k x left,G (k+1) x left=if decide (IntKind.i64.wrap (left-(x.length:Int))<0)=true then some (-1) else L k x k (IntKind.i64.wrap (left-(x.length:Int)),0))
 (hL:∀k x n v,L k x (n+1) v=if (decide (v.2<(x.length:Int)))=true then if 0<=v.2 then ix x v.2.toNat fun y=>(F k y v.1).bind fun p=>if (decide (p<0))=true then some (-1) else L k x n (p,(IntKind.i64.wrap (v.2+1))) else none else some v.1):
 SS (D+1) (.l e sh) G:=by
 intro k (x:List (Ty sh)) left hr hk h0 h1;replace hk:x.length+sumL (szT sh) x+(D+1)<k:=hk;show _=some (szR (x.length+sumL (szT sh) x) left)
 obtain ⟨k,rfl⟩:∃q,k=q+1:=⟨k-1,by omega⟩
 obtain ⟨hl,hr⟩:=Z0 hr;refine (he k x left).trans (sz_rows (s:=szT sh) hl h0 h1 fun hp=> ?_)
 rw [T1 (by omega) (by omega)]
 exact szS_loop2 (L:=L k x) (f:=fun y p=>F k y p) (X0:=fun _ _ _=>some (-1)) (X1:=fun v=>some v.1) (hL k x) (neg:=some (-1)) (fin:=fun p=>some p) (fun _ _ _=>rfl) (fun _=>rfl) (s:=szT sh) (a:=x) (fun y hy p q0 q1=>h k y p (hr y hy) (by have:=sumL_le (f:=szT sh) hy;omega) q0 q1) hl x.length k 0 (left-x.length) (by omega) (by omega) (by omega) (by omega)
theorem SS.s {e:Nat} {sh:Sh} {G:Nat->List (Ty sh)->Int->Option Int} (hf:sh.flat=true)
 (he:∀k x left,G (k+1) x left=if decide (IntKind.i64.wrap (left-(x.length:Int))<0)=true then some (-1) else some (IntKind.i64.wrap (left-(x.length:Int)))):SS 1 (.l e sh) G:=by
 intro k (x:List (Ty sh)) left hr hk h0 h1;obtain ⟨k,rfl⟩:∃q,k=q+1:=⟨k-1,by omega⟩
 have hz:szT (.l e sh) x=x.length:=szT_row hf x;rw [hz];exact (he k x left).trans (sz_leaf (Z0 hr).1 h0 h1)
theorem TT.c {α β:Type} {F:Option α} {K:α->Option β} {y:α} {x:β} (h:F=some y) (h2:K y=some x):F.bind K=some x:=by rw [h];exact h2
structure CQ (D:Nat) (f:Sh) where
 run:Nat->Ty f->Ty f->Option Bool->Option Bool
 ok:∀(k:Nat) (x:Ty f) (R:Option Bool),szT f x<=140737488351232->szT f x+D<k->run k x x R=R
def CQ.n {D:Nat}:CQ D (.i .i64):=⟨fun _ (x y:Int) R=>if (x !=y)=true then some false else R,fun _ (x:Int) R _ _=>by show (if (x !=x)=true then some false else R)=R;rw [eY (by simp)]⟩
def CQ.c {D D':Nat} {f:Sh} {F:Nat->Ty f->Ty f->Option Bool} (h:QQ D' f F) (hd:D'<=D:=by decide):CQ D f:=⟨fun k x y R=>(F k x y).bind fun p=>if (!p)=true then some false else R,fun k x R h1 h2=>by rw [h k x h1 (by omega)];rfl⟩
def CQs (D:Nat):List Sh->Type
 | []=>Unit
 | [f]=>CQ D f
 | f::g::r=>CQ D f×CQs D (g::r)
def CQs.tree {D:Nat}:(fs:List Sh)->CQs D fs->Nat->TyL fs->TyL fs->Option Bool->Option Bool
 | [],_,_,_,_,R=>R
 | [_],c,k,x,y,R=>CQ.run c k x y R
 | _::g::r,c,k,x,y,R=>c.1.run k x.1 y.1 (CQs.tree (g::r) c.2 k x.2 y.2 R)
theorem CQs.ok {D k:Nat}:∀(fs:List Sh) (c:CQs D fs) (x:TyL fs) (R:Option Bool),Fit 140737488351232 D k fs x->c.tree fs k x x R=R
  | [],_,_,_,_=>rfl
  | [f],c,x,R,h=>by
    unfold Fit at h;simp only [szTL] at h;exact CQ.ok c k x R (by omega) (by omega)
  | f::g::r,c,x,R,h=>by
    have h2:=h.b;unfold Fit at h;simp only [szTL] at h;exact (CQ.ok c.1 k x.1 _ (by omega) (by omega)).trans (CQs.ok (g::r) c.2 x.2 R h2)
theorem QQ.s {D:Nat} {fs:List Sh} {G:Nat->TyL fs->TyL fs->Option Bool} (c:CQs D fs) (he:∀k x y,G (k+1) x y=c.tree fs k x y (some true)):QQ (D+1) (.a fs) G:=by
 intro k x hz hk;simp only [szT] at hz hk;obtain ⟨k,rfl⟩:∃q,k=q+1:=⟨k-1,by omega⟩
 exact (he k x x).trans (CQs.ok fs c x _ ⟨hz,by omega⟩)
structure CT (D:Nat) (f:Sh) where
 run:Nat->Ty f->{β:Type}->(Ty f->Option β)->Option β
 ok:∀(k:Nat) (x:Ty f) {β:Type} (K:Ty f->Option β),szT f x<=1048576->szT f x+D<k->run k x K=K x
def CT.n {D:Nat} {f:Sh}:CT D f:=⟨fun _ x _ K=>K x,fun _ _ _ _ _ _=>rfl⟩
def CT.c {D D':Nat} {f:Sh} {F:Nat->Ty f->Option (Ty f)} (h:TT D' f F) (hd:D'<=D:=by decide):CT D f:=⟨fun k x _ K=>(F k x).bind K,fun k x _ K h1 h2=>by rw [h k x h1 (by omega)];rfl⟩
def CTs (D:Nat):List Sh->Type 1
 | []=>PUnit
 | [f]=>CT D f
 | f::g::r=>CT D f×CTs D (g::r)
def CTs.tree {D:Nat}:(fs:List Sh)->CTs D fs->Nat->TyL fs->{β:Type}->(TyL fs->Option β)->Option β
 | [],_,_,x,_,K=>K x
 | [_],c,k,x,_,K=>CT.run c k x K
 | _::g::r,c,k,x,_,K=>c.1.run k x.1 fun y=>CTs.tree (g::r) c.2 k x.2 fun ys=>K (y,ys)
theorem CTs.ok {D k:Nat}:∀(fs:List Sh) (c:CTs D fs) (x:TyL fs) {β:Type} (K:TyL fs->Option β),Fit 1048576 D k fs x->c.tree fs k x K=K x
  | [],_,_,_,_,_=>rfl
  | [f],c,x,_,K,h=>by
    unfold Fit at h;simp only [szTL] at h;exact CT.ok c k x K (by omega) (by omega)
  | f::g::r,c,x,_,K,h=>by
    have h2:=h.b;unfold Fit at h;simp only [szTL] at h;exact (CT.ok c.1 k x.1 _ (by omega) (by omega)).trans (CTs.ok (g::r) c.2 x.2 _ h2)
theorem TT.s {D:Nat} {fs:List Sh} {G:Nat->TyL fs->Option (TyL fs)} (c:CTs D fs) (he:∀k x,G (k+1) x=c.tree fs k x some):TT (D+1) (.a fs) G:=by
 intro k x hz hk;simp only [szT] at hz hk;obtain ⟨k,rfl⟩:∃q,k=q+1:=⟨k-1,by omega⟩
 exact (he k x).trans (CTs.ok fs c x _ ⟨hz,by omega⟩)
structure CZ (D:Nat) (f:Sh) where
 run:Nat->Ty f->Int->(Int->Option Int)->Option Int
 ok:∀(k m:Nat) (x:Ty f) (K:Int->Option Int),rowsLe 140737488351232 f x->szT f x+D<k->CH m K->CH (szT f x+m) fun p=>run k x p K
def CZ.n {D:Nat} {f:Sh} (hf:f.flat=true:=by rfl):CZ D f:=⟨fun _ _ p K=>K p,fun _ m x K _ _ h p h0 h1=>by rw [szT_flat f x hf,Nat.zero_add];exact h p h0 h1⟩
def CZ.c {D D':Nat} {f:Sh} {F:Nat->Ty f->Int->Option Int} (s:SS D' f F) (hd:D'<=D:=by decide):CZ D f:=⟨fun k x p K=>(F k x p).bind fun q=>if decide (q<0)=true then some (-1) else K q,fun k m x K h1 h2 h p h0 h3=>sz_step (s k x p h1 (by omega) h0 h3) h0 h3 h⟩
def CZs (D:Nat):List Sh->Type
 | []=>Unit
 | [f]=>CZ D f
 | f::g::r=>CZ D f×CZs D (g::r)
def CZs.tree {D:Nat}:(fs:List Sh)->CZs D fs->Nat->TyL fs->Int->(Int->Option Int)->Option Int
 | [],_,_,_,p,K=>K p
 | [_],c,k,x,p,K=>CZ.run c k x p K
 | _::g::r,c,k,x,p,K=>c.1.run k x.1 p fun q=>CZs.tree (g::r) c.2 k x.2 q K
theorem CZs.ok {D k m:Nat} {K:Int->Option Int} (hK:CH m K):∀(fs:List Sh) (c:CZs D fs) (x:TyL fs),Rit D k fs x->CH (szTL fs x+m) fun p=>c.tree fs k x p K
  | [],_,_,_=>by simp only [szTL,Nat.zero_add];exact hK
  | [f],c,x,w=>by
    unfold Rit at w;simp only [szTL,rowsLeL] at w ⊢;exact CZ.ok c k m x K w.1 w.2 hK
  | f::g::r,c,x,w=>by
    have w2:=w.b;unfold Rit at w;simp only [szTL,rowsLeL] at w ⊢;rw [Nat.add_assoc];exact CZ.ok c.1 k _ x.1 _ w.1.1 (by omega) (CZs.ok hK (g::r) c.2 x.2 w2)
theorem SS.a {D:Nat} {fs:List Sh} {G:Nat->TyL fs->Int->Option Int} (c:CZs D fs) (he:∀k x p,G (k+1) x p=c.tree fs k x p some):SS (D+1) (.a fs) G:=by
 intro k x left hr hk h0 h1;simp only [szT,rowsLe] at hr hk ⊢;obtain ⟨k,rfl⟩:∃q,k=q+1:=⟨k-1,by omega⟩
 exact (he k x left).trans (CZs.ok (m:=0) (fun p h _=>szR_zero h) fs c x ⟨hr,by omega⟩ left h0 h1)
noncomputable def Lq (E:Env) (g:Nat) (F:Func) (nt e:Nat) (sh:Sh) (k:Nat) (x:List (Ty sh)) (n:Nat) (v:Int):Option (RTy (E.rs g)):=lpr E k g F 0 [0,0,1,5] n ⟨nt,0,[(0,.c (.l e sh x)),(1,.c (.l e sh x)),(5,cI v)],[]⟩ (kon0 E k g F 0 (C1 E (E.rs g) F))
noncomputable def Lt (E:Env) (g:Nat) (F:Func) (nt e:Nat) (sh:Sh) (e2:Nat) (sh2:Sh) (k:Nat) (x:List (Ty sh)) (n:Nat) (v:Int×List (Ty sh2)):Option (RTy (E.rs g)):=lpr E k g F 0 [0,0,3,4] n ⟨nt,1,[(0,.c (.l e sh x)),(3,.c (.ref 0)),(4,cI v.1)],[(0,.arr e2 sh2 v.2)]⟩ (kon0 E k g F 0 (C1 E (E.rs g) F))
noncomputable def Lz (E:Env) (g:Nat) (F:Func) (nt e:Nat) (sh:Sh) (k:Nat) (x:List (Ty sh)) (n:Nat) (v:Int×Int):Option (RTy (E.rs g)):=lpr E k g F 0 [0,0,1,5] n ⟨nt,0,[(0,.c (.l e sh x)),(1,cI v.1),(5,cI v.2)],[]⟩ (kon0 E k g F 0 (C1 E (E.rs g) F))
noncomputable def Lm (E:Env) (g:Nat) (F:Func) (nt e:Nat) (sh:Sh) (k n:Nat) (v:Int×Int×List (Ty sh)):Option (RTy (E.rs g)):=lpr E k g F 0 [1,0,1,5] n ⟨nt,1,[(0,.c (.ref 0)),(1,cI v.1),(5,cI v.2.1)],[(0,.arr e sh v.2.2)]⟩ (kon0 E k g F 0 (C1 E (E.rs g) F))
def MM (D e:Nat) (sh:Sh) (F:Nat->List (Ty sh)->Int->Option (Int×List (Ty sh))):Prop:=∀(k:Nat) (x:List (Ty sh)) (m:Int),0<=m->m+16*szT (.l e sh) x<=1152921504606846976->szT (.l e sh) x<=140737488351232->szT (.l e sh) x+D<k->F k x m=some ((mkT (.l e sh) x m).2,(mkT (.l e sh) x m).1)
def HH (D e:Nat) (sh:Sh) (F:Nat->List (Ty sh)->Int->Option Int):Prop:=∀(k:Nat) (x:List (Ty sh)) (m:Int),0<=m->m+16*szT (.l e sh) x<=1152921504606846976->szT (.l e sh) x<=140737488351232->szT (.l e sh) x+D<k->F k (mkT (.l e sh) x m).1 m=some (mkT (.l e sh) x m).2
structure CM (D:Nat) (f:Sh) where
 run:{α R:Type}->(α->Ty f)->(α->Ty f->α)->Nat->Int->Int->List α->List α->(Int->List α->List α->Option R)->Option R
 ok:∀{α R:Type} (get:α->Ty f) (put:α->Ty f->α),(∀y a,get (put y a)=a)->(∀y a b,put (put y a) b=put y b)->∀(k i:Nat) (m:Int) (gs xs:List α) (y:α) (K:Int->List α->List α->Option R),gs.length=xs.length->i<xs.length->xs[i]? =some y->0<=m->
  m+f.leafs+16*szT f (get y)<=1152921504606846976->szT f (get y)<=140737488351232->szT f (get y)+D<k->∃hs:List α,hs.length=xs.length/\run get put k i m gs xs K=K (mkE f (get y) m).2 hs (xs.set i (put y (mkE f (get y) m).1))
def CM.n {D:Nat}:CM D (.i .i64):=⟨fun _ put _ i m gs xs K=>if 0<=i then if i<(gs.length:Int) then ix xs i.toNat fun y=>K (IntKind.i64.wrap (m+1)) (xs.set i.toNat (put y m)) (xs.set i.toNat (put y m)) else none else none,fun get put _ _ k i m gs xs y K hg hi hy h0 hB _ _=>by
    simp only [Sh.leafs] at hB;refine ⟨xs.set i (put y m),by simp,?_⟩
    rw [dY (by omega),dY (by omega),show (i:Int).toNat=i from by simp,Y0 hy,T1 (by omega) (by omega)]
    simp only [mkE]⟩
def CM.r {D D' e:Nat} {sh:Sh} {F:Nat->List (Ty sh)->Int->Option (Int×List (Ty sh))} (h:MM D' e sh F) (hd:D'<=D:=by decide):CM D (.l e sh):=⟨fun get put k i m gs xs K=>if 0<=i then if i<(gs.length:Int) then ix xs i.toNat fun y=>(F k (get y) m).bind fun p=>K p.1 xs (xs.set i.toNat (put y p.2)) else none else none,fun get put _ _ k i m gs xs y K hg hi hy h0 hB h1 h2=>by
    simp only [Sh.leafs] at hB;refine ⟨xs,rfl,?_⟩
    rw [dY (by omega),dY (by omega),show (i:Int).toNat=i from by simp,Y0 hy,h k (get y) m h0 (by omega) h1 (by omega)]
    simp only [mkT,mkE];rfl⟩
def CMs (D:Nat):List Sh->Type 1
 | []=>PUnit
 | [f]=>CM D f
 | f::g::r=>CM D f×CMs D (g::r)
def CMs.tree {D:Nat} {α R:Type}:(fs:List Sh)->CMs D fs->(α->TyL fs)->(α->TyL fs->α)->Nat->Int->Int->List α->List α->(Int->List α->List α->Option R)->Option R
 | [],_,_,_,_,_,m,gs,xs,K=>K m gs xs
 | [_],c,get,put,k,i,m,gs,xs,K=>CM.run c get put k i m gs xs K
 | _::g::r,c,get,put,k,i,m,gs,xs,K=>c.1.run (fun y=>(get y).1) (fun y a=>put y (a,(get y).2)) k i m gs xs fun m gs xs=>CMs.tree (g::r) c.2 (fun y=>(get y).2) (fun y b=>put y ((get y).1,b)) k i m gs xs K
theorem CMs.ok {D:Nat} {α R:Type}:∀(f:Sh) (fs:List Sh) (c:CMs D (f::fs)),Sh.fewL (f::fs)=true->∀(get:α->TyL (f::fs)) (put:α->TyL (f::fs)->α),(∀y a,get (put y a)=a)->(∀y a b,put (put y a) b=put y b)->∀(k i:Nat) (m:Int) (gs xs:List α) (y:α) (K:Int->List α->List α->Option R),gs.length=xs.length->i<xs.length->xs[i]? =some y->0<=m->
    m+Sh.leafsL (f::fs)+16*szTL (f::fs) (get y)<=1152921504606846976->szTL (f::fs) (get y)<=140737488351232->szTL (f::fs) (get y)+D<k->∃hs:List α,hs.length=xs.length/\c.tree (f::fs) get put k i m gs xs K=K (mkEL (f::fs) (get y) m).2 hs (xs.set i (put y (mkEL (f::fs) (get y) m).1))
  | f,[],c,hf,get,put,gp,pp,k,i,m,gs,xs,y,K,hg,hi,hy,h0,hB,h1,h2=>by
    simp only [Sh.leafsL,szTL] at hB h1 h2;simp only [mkEL];exact CM.ok c get put gp pp k i m gs xs y K hg hi hy h0 (by omega) h1 h2
  | f,g::r,c,hf,get,put,gp,pp,k,i,m,gs,xs,y,K,hg,hi,hy,h0,hB,h1,h2=>by
    rw [Sh.fewL,sZ] at hf;have hle:=mkE_le f (get y).1 m hf.1;have e:Sh.leafsL (f::g::r)=f.leafs+Sh.leafsL (g::r):=by simp only [Sh.leafsL]
    simp only [szTL] at hB h1 h2;rw [e] at hB;obtain ⟨g1,hg1,s1⟩:=CM.ok c.1 (fun y=>(get y).1) (fun y a=>put y (a,(get y).2)) (fun y a=>congrArg Prod.fst (gp y (a,(get y).2))) (fun y a b=>(congrArg (fun z=>put (put y (a,(get y).2)) (b,z)) (congrArg Prod.snd (gp y (a,(get y).2)))).trans (pp y _ _)) k i m gs xs y (fun m gs xs=>CMs.tree (g::r) c.2 (fun y=>(get y).2) (fun y b=>put y ((get y).1,b)) k i m gs xs K) hg hi hy h0 (by omega) (by omega) (by omega)
    have e2:=gp y ((mkE f (get y).1 m).1,(get y).2);have e3:szTL (g::r) (get (put y ((mkE f (get y).1 m).1,(get y).2))).2=szTL (g::r) (get y).2:=congrArg (fun z=>szTL (g::r) z.2) e2
    obtain ⟨g2,hg2,s2⟩:=CMs.ok g r c.2 hf.2 (fun y=>(get y).2) (fun y b=>put y ((get y).1,b)) (fun y a=>congrArg Prod.snd (gp y ((get y).1,a))) (fun y a b=>(congrArg (fun z=>put (put y ((get y).1,a)) (z,b)) (congrArg Prod.fst (gp y ((get y).1,a)))).trans (pp y _ _)) k i (mkE f (get y).1 m).2 g1 (xs.set i (put y ((mkE f (get y).1 m).1,(get y).2))) (put y ((mkE f (get y).1 m).1,(get y).2)) K (by simpa using hg1) (by simpa using hi) (by rw [List.getElem?_set_self hi]) (by omega) (by rw [e3];omega) (by rw [e3];omega) (by rw [e3];omega)
    refine ⟨g2,by simpa using hg2,s1.trans (s2.trans ?_)⟩
    show K (mkEL (g::r) (get (put y ((mkE f (get y).1 m).1,(get y).2))).2 (mkE f (get y).1 m).2).2 g2 ((xs.set i (put y ((mkE f (get y).1 m).1,(get y).2))).set i (put (put y ((mkE f (get y).1 m).1,(get y).2)) ((get (put y ((mkE f (get y).1 m).1,(get y).2))).1,(mkEL (g::r) (get (put y ((mkE f (get y).1 m).1,(get y).2))).2 (mkE f (get y).1 m).2).1)))=_
    rw [List.set_set];refine (congrArg (fun z:TyL (f::g::r)=>K (mkEL (g::r) z.2 (mkE f (get y).1 m).2).2 g2 (xs.set i (put (put y ((mkE f (get y).1 m).1,(get y).2)) (z.1,(mkEL (g::r) z.2 (mkE f (get y).1 m).2).1)))) e2).trans ?_
    refine (congrArg (fun z=>K (mkEL (g::r) (get y).2 (mkE f (get y).1 m).2).2 g2 (xs.set i z)) (pp y _ _)).trans ?_
    simp only [mkEL]
def CM.a {D:Nat} {f:Sh} {fs:List Sh} (c:CMs D (f::fs)) (hf:Sh.fewL (f::fs)=true:=by rfl):CM D (.a (f::fs)):=⟨fun get put k i m gs xs K=>c.tree (f::fs) get put k i m gs xs K,fun get put gp pp k i m gs xs y K hg hi hy h0 hB h1 h2=>by
    simp only [Sh.leafs,szT] at hB h1 h2;simp only [mkE];exact CMs.ok f fs c hf get put gp pp k i m gs xs y K hg hi hy h0 hB h1 h2⟩
theorem MM.l {D e:Nat} {sh:Sh} {G:Nat->List (Ty sh)->Int->Option (Int×List (Ty sh))} {L:Nat->Nat->Int×Int×List (Ty sh)->Option (Int×List (Ty sh))} (c:CM D sh) (he:∀k x m,G (k+1) x m=L k k (m,0,x))
 (hL:∀k n v,L k (n+1) v=if decide (v.2.1<(v.2.2.length:Int))=true then c.run (fun y=>y) (fun _ a=>a) k v.2.1 v.1 v.2.2 v.2.2 (fun m _ xs=>L k n (m,IntKind.i64.wrap (v.2.1+1),xs)) else some (v.1,v.2.2)) (hf:(Sh.l e sh).few=true:=by rfl):MM (D+1) e sh G:=by
 intro k x m h0 hB hz hk;simp only [Sh.few,sZ,pZ] at hf;replace hz:x.length+sumL (szT sh) x<=140737488351232:=hz;replace hk:x.length+sumL (szT sh) x+(D+1)<k:=hk;replace hB:m+16*((x.length+sumL (szT sh) x:Nat):Int)<=1152921504606846976:=hB;obtain ⟨k,rfl⟩:∃q,k=q+1:=⟨k-1,by omega⟩
 rw [he];refine (mark_loop0 (L:=L k) (X:=fun v=>some (v.1,v.2.2)) (fun a i m=>(m,i,a)) (f:=mkE sh) (s:=szT sh) (B:=1152921504606846976) (P:=fun y=>szT sh y+D<k/\szT sh y<=140737488351232) (fun n a i m y hi hy hP h0 hB hn hlt hin hw=> ?_) (fun n a m=> ?_) (fun y m=> ?_) (fun y hy=> ?_) (by omega) (by omega) h0 hB).trans rfl
 · rw [hL,dY (by simpa using hi)]
   obtain ⟨hs,_,h⟩:=c.ok (fun y=>y) (fun _ a=>a) (fun _ _=>rfl) (fun _ _ _=>rfl) k i m a a y (fun m _ xs=>L k n (m,IntKind.i64.wrap ((i:Int)+1),xs)) rfl hi hy h0 (by omega) hP.2 hP.1
   exact h.trans (by rw [hw])
 · rw [hL,eY (by simp)]
 · have:=mkE_le sh y m hf.2
   omega
 · have:=sumL_le (f:=szT sh) hy
   constructor<;>omega
structure CD (D:Nat) (f:Sh) where
 run:{α:Type}->(α->Ty f)->Nat->Int->Int->List α->(Int->Option Int)->Option Int
 ok:∀{α:Type} (get:α->Ty f) (k i:Nat) (m:Int) (xs:List α) (y:α) (x:Ty f) (K:Int->Option Int),xs[i]? =some y->get y=(mkE f x m).1->0<=m->
  m+f.leafs+16*szT f x<=1152921504606846976->szT f x<=140737488351232->szT f x+D<k->run get k i m xs K=K (mkE f x m).2
def CD.n {D:Nat}:CD D (.i .i64):=⟨fun get _ i m xs K=>if 0<=i then ix xs i.toNat fun y=>if ((show Int from get y) !=m)=true then some (-1) else K (IntKind.i64.wrap (m+1)) else none,fun get k i m xs y x K hy hg h0 hB _ _=>by
    simp only [Sh.leafs] at hB;rw [dY (by omega),show (i:Int).toNat=i from by simp,Y0 hy,T1 (by omega) (by omega)]
    refine (eY ?_).trans ?_
    · rw [hg];simp only [mkE];show ¬(m !=m)=true
      simp
    · simp only [mkE]⟩
def CD.r {D D' e:Nat} {sh:Sh} {F:Nat->List (Ty sh)->Int->Option Int} (h:HH D' e sh F) (hf:(Sh.l e sh).few=true:=by rfl) (hd:D'<=D:=by decide):CD D (.l e sh):=⟨fun get k i m xs K=>if 0<=i then ix xs i.toNat fun y=>(F k (get y) m).bind fun p=>if decide (p<0)=true then some (-1) else K p else none,fun get k i m xs y x K hy hg h0 hB h1 h2=>by
    simp only [Sh.leafs] at hB;have hle:=mkE_le (.l e sh) x m hf;have hh:=h k x m h0 (by omega) h1 (by omega)
    have e1:mkT (.l e sh) x m=mkE (.l e sh) x m:=by simp only [mkT,mkE];rfl
    rw [e1] at hh;rw [dY (by omega),show (i:Int).toNat=i from by simp,Y0 hy,hg,hh,rZ,eY (by simp;omega)]⟩
def CDs (D:Nat):List Sh->Type 1
 | []=>PUnit
 | [f]=>CD D f
 | f::g::r=>CD D f×CDs D (g::r)
def CDs.tree {D:Nat} {α:Type}:(fs:List Sh)->CDs D fs->(α->TyL fs)->Nat->Int->Int->List α->(Int->Option Int)->Option Int
 | [],_,_,_,_,m,_,K=>K m
 | [_],c,get,k,i,m,xs,K=>CD.run c get k i m xs K
 | _::g::r,c,get,k,i,m,xs,K=>c.1.run (fun y=>(get y).1) k i m xs fun m=>CDs.tree (g::r) c.2 (fun y=>(get y).2) k i m xs K
theorem CDs.ok {D:Nat} {α:Type}:∀(f:Sh) (fs:List Sh) (c:CDs D (f::fs)),Sh.fewL (f::fs)=true->∀(get:α->TyL (f::fs)) (k i:Nat) (m:Int) (xs:List α) (y:α) (x:TyL (f::fs)) (K:Int->Option Int),xs[i]? =some y->get y=(mkEL (f::fs) x m).1->0<=m->
    m+Sh.leafsL (f::fs)+16*szTL (f::fs) x<=1152921504606846976->szTL (f::fs) x<=140737488351232->szTL (f::fs) x+D<k->c.tree (f::fs) get k i m xs K=K (mkEL (f::fs) x m).2
  | f,[],c,hf,get,k,i,m,xs,y,x,K,hy,hg,h0,hB,h1,h2=>by
    simp only [Sh.leafsL,szTL] at hB h1 h2;simp only [mkEL] at hg ⊢;exact CD.ok c get k i m xs y x K hy hg h0 (by omega) h1 h2
  | f,g::r,c,hf,get,k,i,m,xs,y,x,K,hy,hg,h0,hB,h1,h2=>by
    rw [Sh.fewL,sZ] at hf;have hle:=mkE_le f x.1 m hf.1;have e:Sh.leafsL (f::g::r)=f.leafs+Sh.leafsL (g::r):=by simp only [Sh.leafsL]
    simp only [szTL] at hB h1 h2;rw [e] at hB;simp only [mkEL] at hg ⊢;refine (CD.ok c.1 (fun y=>(get y).1) k i m xs y x.1 _ hy (by rw [hg]) h0 (by omega) (by omega) (by omega)).trans ?_
    exact CDs.ok g r c.2 hf.2 (fun y=>(get y).2) k i (mkE f x.1 m).2 xs y x.2 K hy (by rw [hg]) (by omega) (by omega) (by omega) (by omega)
def CD.a {D:Nat} {f:Sh} {fs:List Sh} (c:CDs D (f::fs)) (hf:Sh.fewL (f::fs)=true:=by rfl):CD D (.a (f::fs)):=⟨fun get k i m xs K=>c.tree (f::fs) get k i m xs K,fun get k i m xs y x K hy hg h0 hB h1 h2=>by
    simp only [Sh.leafs,szT] at hB h1 h2;simp only [mkE] at hg ⊢;exact CDs.ok f fs c hf get k i m xs y x K hy hg h0 hB h1 h2⟩
theorem HH.l {D e:Nat} {sh:Sh} {G:Nat->List (Ty sh)->Int->Option Int} {L:Nat->List (Ty sh)->Nat->Int×Int->Option Int} (c:CD D sh) (he:∀k x m,G (k+1) x m=L k x k (m,0))
 (hL:∀k x n v,L k x (n+1) v=if decide (v.2<(x.length:Int))=true then c.run (fun y=>y) k v.2 v.1 x (fun m=>L k x n (m,IntKind.i64.wrap (v.2+1))) else some v.1) (hf:(Sh.l e sh).few=true:=by rfl):HH (D+1) e sh G:=by
 intro k x m h0 hB hz hk;simp only [Sh.few,sZ,pZ] at hf;replace hz:x.length+sumL (szT sh) x<=140737488351232:=hz;replace hk:x.length+sumL (szT sh) x+(D+1)<k:=hk;replace hB:m+16*((x.length+sumL (szT sh) x:Nat):Int)<=1152921504606846976:=hB;obtain ⟨k,rfl⟩:∃q,k=q+1:=⟨k-1,by omega⟩
 simp only [mkT];obtain ⟨a,ha⟩:∃a:List (Ty sh),(mkL (mkE sh) x m).1=a:=⟨_,rfl⟩;rw [ha,he];refine (held_loop0 (L:=L k a) (X:=fun v=>some v.1) (fun i m=>(m,i)) (f:=mkE sh) (s:=szT sh) (B:=1152921504606846976) (P:=fun y=>szT sh y+D<k/\szT sh y<=140737488351232) (r:=x) (m:=m) ha.symm (fun n i m y hi hy hP h0 hB hn hlt hin hw=> ?_) (fun n m=> ?_) (fun y m=> ?_) (fun y hy=> ?_) (by omega) (by omega) h0 hB).trans rfl
 · rw [hL,dY (by simpa using hi)]
   exact (c.ok (fun y=>y) k i m a _ y _ hy rfl h0 (by omega) hP.2 hP.1).trans (by rw [hw])
 · rw [hL,eY (by simp)]
 · have:=mkE_le sh y m hf.2
   omega
 · have:=sumL_le (f:=szT sh) hy
   constructor<;>omega
end Go.V
namespace Go.V
open Go.Sort
def SoundX (P:Program) (tab:List (Nat×Array Value)) (tk:List (Option Sh)) (rs:RSh) (f:Nat) (g:List AV->Option (RTy rs)):Prop:=
 ∀xs p,g xs=some p->Enterable P f/\∀(G:Nat->Prop) (w:World) (us:List Value) (L0:List Nat),(∀p ∈ tab,(∃ty fr,w.heap[p.1]? =some (.cells p.2 ty fr))/\p.1 ∉ L0)->ArgsT w G tk xs us L0->L0.Nodup->(∀b ∈ L0,b<w.heap.size/\¬G b)->
  Calls P f us.toArray w fun e w'=>∃v,e= .returned v/\Chg L0 w w'/\ResOk G w w' L0 (rowsV tk us) rs p v
theorem SoundX.sound1 {E:Env} {f:Nat} {g:List AV->Option (RTy (E.rs f))} (h:SoundX E.P E.tab (E.tk f) (E.rs f) f g):Sound1 E f g:=h
theorem rowO_ints (w:World):∀(xs:List Int) (us:List Value),(∀(j:Nat) (x:Int),xs[j]? =some x->us[j]? =some (Value.int .i64 x))->rowO 1 (ownT w (.i .i64)) xs us []
  | [],us,_=>rfl
  | x::xs,us,h=>by
    cases us with
    | nil=>
      have:=h 0 x rfl
      simp at this
    | cons u us=>
      have h0:=h 0 x rfl;simp only [List.getElem?_cons_zero,nZ] at h0
      refine ⟨[],[],rfl,?_,?_⟩
      · simp only [ownT];exact ⟨by rw [h0];rfl,trivial⟩
      · exact rowO_ints w xs us fun j y hy=>by simpa using h (j+1) y (by simpa using hy)
theorem own_int_cells {w:World} {e:Nat} {xs:List Int} {us:List Value} {L:List Nat} (h:rowO 1 (ownT w (.i .i64)) xs us L):L=[]/\∀(j:Nat) (x:Int),xs[j]? =some x->us[j]? =some (Value.int .i64 x):=by
 refine ⟨rowO_flat h fun x vs L hx=>ownT_flat (.i .i64) x vs L rfl hx,fun j x hx=> ?_⟩
 obtain ⟨L1,_,h1⟩:=rowO_at h j x hx;simp only [ownT,Nat.mul_one] at h1
 have:=congrArg (·[0]?) h1.1
 simpa [lZ,mZ] using this
theorem own_int_holds {w:World} {e g off cap:Nat} {cur:Array Value} {xs:List Int} {L:List Nat} (hg:w.heap[g]? =some (.cells cur e (0,0))) (h:rowO 1 (ownT w (.i .i64)) xs (cur.toList.drop off) L):Holds (Value.int .i64) w g off xs.toArray:=by
 intro j hj;have hj':j<xs.length:=by simpa using hj
 have h1:=(own_int_cells (e:=e) h).2 j _ (dZ hj')
 rw [mZ] at h1
 refine ⟨?_,by simp [World.frozen?,hg]⟩
 rw [cell_of_row w g _ cur e (0,0) hg,<-Array.getElem?_toList,h1]
 simp [getElem!_pos,hj']
theorem putRow_heap (enc:Int->Value) {w:World} {g off e:Nat} {cur:Array Value} (d:Array Int) (hg:w.heap[g]? =some (.cells cur e (0,0))):(putRow enc w g off d).heap[g]? =some (.cells (putCells enc off d cur) e (0,0)):=by
 simp [putRow,mapBlock,Array.getElem?_modify,hg,onCells]
theorem putRow_old (enc:Int->Value) (w:World) (g off k:Nat) (d:Array Int) (hk:k≠g):(putRow enc w g off d).heap[k]? =w.heap[k]? :=by
 simp [putRow,mapBlock,Array.getElem?_modify,Ne.symm hk]
theorem chg_put (enc:Int->Value) (w:World) (g off n:Nat) (d:Array Int) (os:Array Obj):Chg [g] w (grow (putRow enc (Sort.ahead w n) g off d) os):=by
 refine ⟨rfl,rfl,rfl,?_,fun k hk hn=> ?_⟩
 · simp [grow,putRow,mapBlock,Sort.ahead]
 · have hne:k≠g:=by simpa using hn
   have hs:k<(putRow enc (Sort.ahead w n) g off d).heap.size:=by simpa [putRow,mapBlock,Sort.ahead] using hk
   show ((putRow enc (Sort.ahead w n) g off d).heap++os)[k]? =w.heap[k]?
   rw [Array.getElem?_append_left hs]
   exact putRow_old enc (Sort.ahead w n) g off k d hne
abbrev ownI (w:World) (e:Nat) (xs:List Int) (u:Value) (L:List Nat):Prop:=ownRow (α:=Int) w e 1 (ownT w (.i .i64)) xs u L
theorem own_int_put {w:World} {e g off cap m n:Nat} {cur:Array Value} {zs:List Int} (hg:w.heap[g]? =some (.cells cur e (0,0))) (hcap:zs.length<=cap) (hmx:cap<=maxLen) (hcs:cur.size=off+cap*1) (hm:m<=zs.length) (os:Array Obj):
 ownI (grow (putRow (Value.int .i64) (Sort.ahead w n) g off zs.toArray) os) e (zs.take m) (.slice (some ⟨g,off,none⟩) m cap) [g]:=by
 have hlt:=(bZ.1 hg).1
 have hml:(zs.take m).length=m:=by rw [List.length_take,Nat.min_eq_left hm]
 refine .inr ⟨g,off,cap,putCells (Value.int .i64) off zs.toArray cur,[],?_,?_,?_,hmx,by simp [putCells,hcs],rfl,rowO_ints _ (zs.take m) _ fun j x hx=> ?_⟩
 · show Value.slice (some ⟨g,off,none⟩) m cap=Value.slice (some ⟨g,off,none⟩) (zs.take m).length cap
   rw [hml]
 · have hs:g<(putRow (Value.int .i64) (Sort.ahead w n) g off zs.toArray).heap.size:=by simpa [putRow,mapBlock,Sort.ahead] using hlt
   show ((putRow (Value.int .i64) (Sort.ahead w n) g off zs.toArray).heap++os)[g]? =_
   rw [Array.getElem?_append_left hs]
   exact putRow_heap (w:=Sort.ahead w n) (Value.int .i64) zs.toArray hg
 · show (zs.take m).length<=cap
   omega
 · rw [lZ] at hx
   split at hx
   · have hj:j<zs.length:=(List.getElem?_eq_some_iff.1 hx).1
     rw [mZ,Array.getElem?_toList]
     have hc:off+j<cur.size:=by omega
     simp only [putCells,Array.getElem?_mapIdx,Array.getElem?_eq_getElem hc,Option.map_some]
     rw [dY ⟨by omega,by simp;omega⟩]
     have e1:off+j-off=j:=by omega
     rw [e1];rw [dZ hj,nZ] at hx
     simp [hj,hx]
   · cases hx
theorem rd_sl {e:Nat} {sh:Sh} {c:C} {y:List (Ty sh)} (h:rd (.l e sh) [c]=some (y,[])):C.isSl e sh c=some y:=by
 simp only [rd,headC] at h;split at h
 · rename_i x hx;obtain ⟨h1,_⟩:=Prod.mk.inj (xZ h);rw [<-h1];exact hx
 · cases h
theorem argsT_row {w:World} {G:Nat->Prop} {e e':Nat} {sh:Sh} {xs:List (Ty sh)} {t:List (Option Sh)} {rest:List AV} {us:List Value} {L0:List Nat} (h:ArgsT w G (some (.l e sh)::t) (.c (.l e' sh xs)::rest) us L0):
 e'=e/\∃u vs L1 L2,us=u::vs/\ownRow w e sh.n (ownT w sh) xs u L1/\L0=L1++L2/\ArgsT w G t rest vs L2:=by
 obtain ⟨u,vs,rfl,y,cs,L1,L2,h1,rfl,h2,rfl,h3⟩:=h;have h4:=rd_sl h1;simp only [C.isSl] at h4;split at h4
 · rename_i he;obtain ⟨e1,e2⟩:=castSh_eq h4;have e2:xs=y:=e2;subst e2;simp only [ownT] at h2;obtain ⟨u,rfl,h2⟩:=h2;exact ⟨he,u,vs,L1,L2,rfl,h2,rfl,h3⟩
 · cases h4
theorem soundX_io {P:Program} {tab:List (Nat×Array Value)} {f e:Nat} {g:List Int->Option (List Int)} {Gx:List AV->Option (List Int)} (hG:∀xs p,Gx xs=some p->∃e' zs,xs=[.c (.l e' (.i .i64) zs)]/\g zs=some p) (hen:Enterable P f)
 (core:∀(zs ys:List Int) (u:Value) (L:List Nat) (w:World),g zs=some ys->ownI w e zs u L->(∀b ∈ L,b<w.heap.size)->Calls P f #[u] w fun r w'=>r= .returned (.tuple #[])/\Chg L w w'/\ownI w' e ys u L):
 SoundX P tab [some (.l e (.i .i64))] ⟨true,[.l e (.i .i64)],1⟩ f Gx:=by
 intro xs p hp;obtain ⟨e',zs,rfl,hgp⟩:=hG _ _ hp;refine ⟨hen,fun Gd w us L0 htab hargs hnd hL0=> ?_⟩
 obtain ⟨rfl,u,vs,L1,L2,rfl,hO,rfl,hv,_,rfl⟩:=argsT_row (sh:= .i .i64) (xs:=zs) hargs;cases vs with
 | cons v vs=>simp [All2] at hv
 | nil=>
 obtain ⟨A,c,hu,_⟩:=ownRow_val hO;have hV:rowsV [some (.l e' (.i .i64))] [u]=[u]:=by
  subst hu;rfl
 refine (core zs p u L1 w hgp hO (fun b hb=>(hL0 b (by simpa using hb)).1)).mono ?_
 rintro r w' ⟨rfl,hC,hO'⟩
 refine ⟨_,rfl,by simpa using hC,[u],rfl,by rw [hV];rfl,L1,⟨[u],rfl,?_⟩,by simpa using hnd,fun b hb=>⟨.inr (by simpa using hb),jZ (hL0 b (by simpa using hb)).1 hC.size⟩⟩
 simp only [ownT];exact ⟨u,rfl,hO'⟩
theorem soundX_take {P:Program} {tab:List (Nat×Array Value)} {f e:Nat} {sh:Sh} {t:List (Option Sh)} {G:List AV->Option (List (Ty sh))} (hG:∀xs p,G xs=some p->∃e' zs rest,xs= .c (.l e' sh zs)::rest) (hen:Enterable P f)
 (core:∀(zs ys:List (Ty sh)) (rest:List AV) (u:Value) (vs:List Value) (L1 L2:List Nat) (Gd:Nat->Prop) (w:World),G (.c (.l e sh zs)::rest)=some ys->ownRow w e sh.n (ownT w sh) zs u L1->ArgsT w Gd t rest vs L2->(L1++L2).Nodup->(∀b ∈ L1++L2,b<w.heap.size/\¬Gd b)->
  Calls P f (u::vs).toArray w fun r w'=>∃v,r= .returned v/\Chg (L1++L2) w w'/\∃L,ownRow w' e sh.n (ownT w' sh) ys v L/\L.Nodup/\∀b ∈ L,(w.heap.size<=b\/b ∈ L1++L2)/\b<w'.heap.size):
 SoundX P tab (some (.l e sh)::t) ⟨true,[.l e sh],0⟩ f G:=by
 intro xs p hp;obtain ⟨e',zs,rest,rfl⟩:=hG _ _ hp;refine ⟨hen,fun Gd w us L0 htab hargs hnd hL0=> ?_⟩
 obtain ⟨rfl,u,vs,L1,L2,rfl,hO,rfl,hv⟩:=argsT_row hargs;refine (core zs p rest u vs L1 L2 Gd w hp hO hv hnd hL0).mono ?_
 rintro r w' ⟨v,rfl,hC,L,hO',hnd',hL⟩
 refine ⟨v,rfl,hC,[v],rfl,rfl,L,⟨[v],rfl,?_⟩,hnd',hL⟩
 simp only [ownT];exact ⟨v,rfl,hO'⟩
def sortB (xs:List Int):List Int:=xs.mergeSort fun x y=>decide (x<=y)
def extSort:List AV->Option (List Int)
 | [.c (.l _ (.i .i64) xs)]=>if List.length (α:=Int) xs<=1099511627776 then some (sortB xs) else none
 | _=>none
theorem extSort_sound {P:Program} {tab:List (Nat×Array Value)} {f e:Nat} (hen:Enterable P f)
 (hc:∀(blk off cap:Nat) (zs:List Int) (w:World),Holds (Value.int .i64) w blk off zs.toArray->blk<w.heap.size->zs.length<4611686018427387904->
  Calls P f #[.slice (some ⟨blk,off,none⟩) zs.length cap] w fun e w'=>e= .returned (.tuple #[])/\∃n os,w'=grow (putRow (Value.int .i64) (Sort.ahead w n) blk off (zs.mergeSort fun x y=>decide (x<=y)).toArray) os)
 (h0:∀(p:Option Addr) (cap:Nat) (w:World),Calls P f #[.slice p 0 cap] w fun e w'=>e= .returned (.tuple #[])/\w'=w):
 SoundX P tab [some (.l e (.i .i64))] ⟨true,[.l e (.i .i64)],1⟩ f extSort:=by
 refine soundX_io (g:=fun zs=>if zs.length<=1099511627776 then some (sortB zs) else none) (fun xs p hp=> ?_) hen fun zs ys u L w hg hO hL=> ?_
 · unfold extSort at hp;split at hp
   · rename_i e' zs;exact ⟨e',zs,rfl,hp⟩
   · cases hp
 · split at hg
   case isFalse=>cases hg
   rename_i hlen;cases hg
   rcases hO with ⟨rfl,rfl,A,rfl⟩ | ⟨g,off,cap,cur,L',rfl,hg,hl,hm,hs,rfl,hr⟩
   · refine (h0 A 0 w).mono ?_
     rintro e w' ⟨rfl,rfl⟩
     exact ⟨rfl,Chg.refl _ _,.inl ⟨by simp [sortB],rfl,A,rfl⟩⟩
   · obtain ⟨rfl,_⟩:=own_int_cells (e:=e) hr;have hgl:=hL g (by simp)
     refine (hc g off cap zs w (own_int_holds (cap:=cap) hg hr) hgl (by omega)).mono ?_
     rintro e' w' ⟨rfl,n,os,rfl⟩
     have hlen':(sortB zs).length=zs.length:=by simp [sortB]
     refine ⟨rfl,chg_put _ _ _ _ _ _ _,?_⟩
     have:=own_int_put (n:=n) (m:=(sortB zs).length) (zs:=sortB zs) hg (by rw [hlen'];exact hl) hm hs (cY _) os
     rw [List.take_length,hlen'] at this;exact this
def compactB (xs:List Int):List Int:=Lib.compact xs
def extCompact:List AV->Option (List Int)
 | [.c (.l _ (.i .i64) xs)]=>some (compactB xs)
 | _=>none
theorem compact_le (zs:List Int):(Lib.compact zs).length<=zs.length:=by
 unfold Lib.compact Lib.compactUpTo;rw [List.length_map];exact bY (List.length_filter_le _ _) (by simp)
theorem extCompact_sound {P:Program} {tab:List (Nat×Array Value)} {f e:Nat} (hen:Enterable P f)
 (hc:∀(blk off cap:Nat) (zs:List Int) (w:World),Holds (Value.int .i64) w blk off zs.toArray->zs.length<=9223372036854775807->zs.length<=cap->
  Calls P f #[.slice (some ⟨blk,off,none⟩) zs.length cap] w fun e w'=>e= .returned (.slice (some ⟨blk,off,none⟩) (Lib.compact zs).length cap)/\∃q,w'=putRow (Value.int .i64) (Sort.ahead w q) blk off (Lib.compact zs++List.replicate (zs.length-(Lib.compact zs).length) 0).toArray)
 (h0:∀(p:Option Addr) (w:World),Calls P f #[.slice p 0 0] w fun e w'=>e= .returned (.slice p 0 0)/\w'=w):
 SoundX P tab [some (.l e (.i .i64))] ⟨true,[.l e (.i .i64)],0⟩ f extCompact:=by
 refine soundX_take (sh:= .i .i64) (fun xs p hp=> ?_) hen fun zs ys rest u vs L1 L2 Gd w hg hO hv hnd hL=> ?_
 · unfold extCompact at hp;split at hp
   · rename_i e' zs;exact ⟨e',zs,[],rfl⟩
   · cases hp
 · cases rest with
   | cons x rest=>simp [extCompact] at hg
   | nil=>
   obtain ⟨hv,_,rfl⟩:=hv;cases vs with
   | cons v vs=>simp [All2] at hv
   | nil=>
   have key:∀(zs ys:List Int),ys=compactB zs->ownI w e zs u L1->Calls P f #[u] w fun r w'=>∃v,r= .returned v/\Chg (L1++[]) w w'/\∃L,ownI w' e ys v L/\L.Nodup/\∀b ∈ L,(w.heap.size<=b\/b ∈ L1++[])/\b<w'.heap.size:=by
    rintro zs ys rfl (⟨rfl,rfl,A,rfl⟩ | ⟨g,off,cap,cur,L',rfl,hg,hl,hm,hs,rfl,hr⟩)
    · refine (h0 A w).mono ?_
      rintro r w' ⟨rfl,rfl⟩
      exact ⟨_,rfl,Chg.refl _ _,[],.inl ⟨List.eq_nil_of_length_eq_zero (Nat.le_zero.1 (compact_le [])),rfl,A,rfl⟩,List.nodup_nil,by simp⟩
    · obtain ⟨rfl,_⟩:=own_int_cells (e:=e) hr;have hgl:=(hL g (by simp)).1
      have hmx:zs.length<=9223372036854775807:=bY hl hm;refine (hc g off cap zs w (own_int_holds (cap:=cap) hg hr) hmx hl).mono ?_
      rintro r w' ⟨rfl,q,rfl⟩
      have hle:=compact_le zs;have hlen':(Lib.compact zs++List.replicate (zs.length-(Lib.compact zs).length) 0).length=zs.length:=by
       rw [List.length_append,List.length_replicate];omega
      have hgrow:∀W:World,W=grow W #[]:=fun W=>by simp [grow]
      have hch:=chg_put (Value.int .i64) w g off q (Lib.compact zs++List.replicate (zs.length-(Lib.compact zs).length) 0).toArray #[];rw [<-hgrow] at hch;refine ⟨_,rfl,by simpa using hch,[g],?_,by simp,fun b hb=>⟨.inr (by simpa using hb),?_⟩⟩
      · have:=own_int_put (n:=q) (m:=(Lib.compact zs).length) (zs:=Lib.compact zs++List.replicate (zs.length-(Lib.compact zs).length) 0) hg (by rw [hlen'];exact hl) hm hs (by rw [hlen'];exact hle) #[]
        rw [<-hgrow,List.take_left] at this;exact this
      · rw [kZ.1 hb];simp only [putRow,mapBlock,Sort.ahead,Array.size_modify];exact hgl
   have hg:some (compactB zs)=some ys:=hg;exact key zs ys (xZ hg).symm hO
def putAt:List Value->Nat->Array Value->Array Value
 | [],_,c=>c
 | v::r,o,c=>putAt r (o+1) (c.setIfInBounds o v)
theorem setCells_map (b:Nat):∀(vs:List Value) (o:Nat) (w:World),w.setCells b o vs=mapBlock w b (putAt vs o)
  | [],o,w=>(mapBlock_id w b _ fun _ _ _ _=>rfl).symm
  | v::r,o,w=>by
    rw [World.setCells,setCells_map b r (o+1),setCell_eq,mapBlock_mapBlock];rfl
theorem putAt_size:∀(vs:List Value) (o:Nat) (c:Array Value),(putAt vs o c).size=c.size
 | [],_,_=>rfl
 | v::r,o,c=>by rw [putAt,putAt_size r];simp
theorem putAt_get:∀(vs:List Value) (o:Nat) (c:Array Value) (k:Nat),o+vs.length<=c.size->(putAt vs o c)[k]? =if o<=k/\k<o+vs.length then vs[k-o]? else c[k]?
  | [],o,c,k,_=>by simp [putAt];intro h1 h2;omega
  | v::r,o,c,k,h=>by
    rw [putAt,putAt_get r (o+1) _ k (by simp at h ⊢;omega)]
    simp only [List.length_cons] at h ⊢;by_cases h1:k=o
    · subst h1;rw [eY (by omega),dY (by omega),Nat.sub_self,Array.getElem?_setIfInBounds_self_of_lt (by omega)]
      rfl
    · by_cases h2:o+1<=k/\k<o+1+r.length
      · rw [dY h2,dY (by omega),show k-o=(k-(o+1))+1 by omega,List.getElem?_cons_succ]
      · rw [eY h2,eY (by omega),Array.getElem?_setIfInBounds_ne (by omega)]
theorem mapBlock_heap {w:World} {g e:Nat} {cur:Array Value} (F:Array Value->Array Value) (hg:w.heap[g]? =some (.cells cur e (0,0))):(mapBlock w g F).heap[g]? =some (.cells (F cur) e (0,0)):=by
 simp [mapBlock,Array.getElem?_modify,hg,onCells]
theorem chg_map (w:World) (g:Nat) (F:Array Value->Array Value):Chg [g] w (mapBlock w g F):=by
 refine ⟨rfl,rfl,rfl,by simp [mapBlock],fun k hk hn=> ?_⟩
 have hne:k≠g:=by simpa using hn
 simp [mapBlock,Array.getElem?_modify,Ne.symm hne]
def extDelete {sh:Sh}:List AV->Option (List (Ty sh))
  | [.c (.l _ sh' xs),.c (.v (.int .i64 i)),.c (.v (.int .i64 j))]=>if 0<=i then if i<j then if j<=(xs.length:Int) then match castSh (sh':=sh) xs with
    | some xs=>some (xs.take i.toNat++xs.drop j.toNat)
    | none=>none
    else none else none else none
  | _=>none
theorem extDelete_sound {P:Program} {tab:List (Nat×Array Value)} {f e:Nat} {sh:Sh} (hf:sh.flat=true) (zc:Array Value) (hzc:zc.size=sh.n) (hen:Enterable P f)
 (walk:∀(blk off cap i j m:Nat) (cur:Array Value) (w:World),w.heap[blk]? =some (.cells cur e (0,0))->m<=cap->cap<=9223372036854775807->cur.size=off+cap*sh.n->i<j->j<=m->(∀u ∈ (cur.toList.drop off).take (m*sh.n),u.oneCell'=true)->
  Calls P f #[.slice (some ⟨blk,off,none⟩) m cap,.int .i64 i,.int .i64 j] w fun r w'=>r= .returned (.slice (some ⟨blk,off,none⟩) (m-(j-i)) cap)/\
   w'=(w.drew.setCells blk (off+i*sh.n) (((cur.toList.drop off).take (m*sh.n)).drop (j*sh.n))).setCells blk (off+(i+(m-j))*sh.n) (Builtin.zeroCells zc (m-(i+(m-j)))).toList):
 SoundX P tab [some (.l e sh)] ⟨true,[.l e sh],0⟩ f (extDelete (sh:=sh)):=by
 refine soundX_take (fun xs p hp=> ?_) hen fun zs ys rest u vs L1 L2 Gd w hg hO hv hnd hL=> ?_
 · unfold extDelete at hp;split at hp
   · rename_i e' sh' xs i j;split at hp<;>try (cases hp;done)
     split at hp<;>try (cases hp;done)
     split at hp<;>try (cases hp;done)
     split at hp
     · rename_i zs hz;obtain ⟨e1,e2⟩:=castSh_eq hz;subst e1;exact ⟨e',xs,_,rfl⟩
     · cases hp
   · cases hp
 · unfold extDelete at hg;split at hg
   case h_2=>cases hg
   rename_i e' sh' xs i j heq
   injection heq with heq1 heq2
   subst heq2
   injection heq1 with heq1
   injection heq1 with _ heq1 heq3
   subst heq1;have heq3:=eq_of_heq heq3;subst heq3;split at hg<;>try (cases hg;done)
   split at hg<;>try (cases hg;done)
   split at hg<;>try (cases hg;done)
   rename_i h0 hij hj;split at hg
   case h_2=>cases hg
   rename_i ys' hz;obtain ⟨e1,e2⟩:=castSh_eq hz;have e2:zs=ys':=e2;subst e2;have hg:=(xZ hg).symm;subst hg;obtain ⟨hv,_,rfl⟩:=hv
   match vs,hv with
   | [ui,uj],hv=>
   obtain ⟨hi,hj',_⟩:=hv;have hi:rep w Gd (.v (.int .i64 i)) ui:=hi;have hj':rep w Gd (.v (.int .i64 j)) uj:=hj';simp only [rep] at hi hj';obtain ⟨rfl,_⟩:=hi;obtain ⟨rfl,_⟩:=hj';obtain ⟨a,rfl⟩:∃a:Nat,i=a:=⟨i.toNat,by omega⟩
   obtain ⟨b,rfl⟩:∃b:Nat,j=b:=⟨j.toNat,by omega⟩
   simp only [Int.toNat_natCast];have hab:a<b:=by omega
   have hbl:b<=zs.length:=by omega
   rcases hO with ⟨h1,_⟩ | ⟨g,off,cap,cur,L',rfl,hg,hl,hm,hs,rfl,hr⟩
   · subst h1;simp at hbl;omega
   · have hL':L'=[]:=rowO_flat hr fun x vs L hx=>ownT_flat sh x vs L hf hx
     subst hL';have hgl:=(hL g (by simp)).1
     refine (walk g off cap a b zs.length cur w hg hl hm hs hab hbl (rowO_one hr)).mono ?_
     rintro r w' ⟨rfl,rfl⟩
     rw [setCells_map,setCells_map,mapBlock_mapBlock];have hch:=chg_map w.drew g (fun c=>putAt (Builtin.zeroCells zc (zs.length-(a+(zs.length-b)))).toList (off+(a+(zs.length-b))*sh.n) (putAt (((cur.toList.drop off).take (zs.length*sh.n)).drop (b*sh.n)) (off+a*sh.n) c))
     refine ⟨_,rfl,⟨hch.os,hch.tape,hch.output,hch.size,fun k hk hn=>hch.block k hk (by simpa using hn)⟩,[g],?_,by simp,fun k hk=>⟨.inr (by simpa using hk),?_⟩⟩
     · have hlen:(zs.take a++zs.drop b).length=zs.length-(b-a):=by
        rw [List.length_append,List.length_take,List.length_drop];omega
       have hcl:(cur.toList.drop off).length=cap*sh.n:=by rw [List.length_drop,Array.length_toList,hs];omega
       have m1:a*sh.n<=b*sh.n:=Nat.mul_le_mul_right _ (by omega)
       have m2:b*sh.n<=zs.length*sh.n:=Nat.mul_le_mul_right _ hbl;have m3:zs.length*sh.n<=cap*sh.n:=Nat.mul_le_mul_right _ hl;have m4:(a+(zs.length-b))*sh.n=a*sh.n+(zs.length*sh.n-b*sh.n):=by rw [Nat.add_mul,Nat.sub_mul]
       have m5:(zs.length-(a+(zs.length-b)))*sh.n=b*sh.n-a*sh.n:=by rw [show zs.length-(a+(zs.length-b))=b-a by omega,Nat.sub_mul]
       obtain ⟨La,k1,k2,_⟩:=rowO_take hr a;obtain ⟨Lb,k3,k4,_⟩:=rowO_drop hr b;have eLa:La=[]:=List.eq_nil_iff_forall_not_mem.2 fun x hx=>by simpa using k2 x hx
       have eLb:Lb=[]:=List.eq_nil_iff_forall_not_mem.2 fun x hx=>by simpa using k4 x hx
       subst eLa eLb;have hal:(zs.take a).length=a:=by rw [List.length_take];omega
       have k5:rowO sh.n (ownT w sh) (zs.take a) ((cur.toList.drop off).take (a*sh.n)) []:=rowO_congr k1 (by rw [hal,List.take_take,Nat.min_self])
       have k6:=rowO_append k5 (by rw [List.length_take,hcl,hal];omega) k3
       refine .inr ⟨g,off,cap,_,[],by rw [hlen],mapBlock_heap (w:=w.drew) _ hg,by rw [hlen];omega,hm,by rw [putAt_size,putAt_size,hs],rfl,?_⟩
       have k7:=rowO_world (w':=mapBlock w.drew g (fun c=>putAt (Builtin.zeroCells zc (zs.length-(a+(zs.length-b)))).toList (off+(a+(zs.length-b))*sh.n) (putAt (((cur.toList.drop off).take (zs.length*sh.n)).drop (b*sh.n)) (off+a*sh.n) c))) k6 (fun k hk=>by simp at hk)
       refine rowO_congr k7 (List.ext_getElem? fun k=> ?_)
       have hzl:(Builtin.zeroCells zc (zs.length-(a+(zs.length-b)))).toList.length=b*sh.n-a*sh.n:=by rw [Array.length_toList,size_zeroCells,hzc,m5]
       have hnl:(((cur.toList.drop off).take (zs.length*sh.n)).drop (b*sh.n)).length=zs.length*sh.n-b*sh.n:=by rw [List.length_drop,List.length_take,hcl];omega
       have m6:(zs.take a++zs.drop b).length*sh.n=a*sh.n+(zs.length*sh.n-b*sh.n):=by rw [hlen,show zs.length-(b-a)=a+(zs.length-b) by omega,m4]
       rw [m6,lZ,lZ]
       split
       · rename_i hk;have eD:∀X:Array Value,(X.toList.drop off)[k]? =X[off+k]? :=fun X=>by rw [mZ,Array.getElem?_toList]
         rw [eD,putAt_get _ _ _ _ (by rw [putAt_size,hzl,m4,hs];omega),eY (by rw [m4];omega),putAt_get _ _ _ _ (by rw [hnl,hs];omega)]
         rw [hnl];by_cases hka:k<a*sh.n
         · rw [eY (by omega),List.getElem?_append_left (by rw [List.length_take,hcl];omega),lZ,dY hka,eD]
         · rw [dY (by omega),List.getElem?_append_right (by rw [List.length_take,hcl];omega),List.length_take,hcl,mZ,mZ,mZ (xs:=List.take _ _),lZ,dY (by omega),mZ]
           congr 1
           omega
       · rfl
     · rw [kZ.1 hk];simp only [mapBlock,Array.size_modify];exact hgl
end Go.V
namespace Go.V
open Go.Sort
open Go.RowKit (Below)
theorem alloc_keeps (w:World) (o:Obj) (k:Nat) (hk:k<w.heap.size):(w.alloc o).heap[k]? =w.heap[k]? :=by
 show (w.heap.push o)[k]? =_
 rw [Array.getElem?_push,eY (by omega)]
def insB (xs:List Int) (i:Nat) (x:Int):List Int:=xs.take i++x::xs.drop i
def extInsert:List AV->Option (List Int)
  | [.c (.l _ (.i .i64) xs),.c (.v (.int .i64 i)),.c (.l _ (.i .i64) ys)]=>match (ys:List Int) with
    | [x]=>if 0<=i then if i<=(List.length (α:=Int) xs:Int) then if (List.length (α:=Int) xs+1)*8<=140737488355328 then some (insB xs i.toNat x) else none else none else none
    | _=>none
  | _=>none
theorem ownI_cells {w:World} {e g off cap n:Nat} {cur:Array Value} (ys:List Int) (hn:n=ys.length) (hg:w.heap[g]? =some (.cells cur e (0,0))) (hl:n<=cap) (hm:cap<=maxLen) (hs:cur.size=off+cap) (hc:∀(j:Nat) (x:Int),ys[j]? =some x->cur[off+j]? =some (.int .i64 x)):
 ownI w e ys (.slice (some ⟨g,off,none⟩) n cap) [g]:=by
 subst hn;refine .inr ⟨g,off,cap,cur,[],rfl,hg,hl,hm,by omega,rfl,rowO_ints _ ys _ fun j x hx=> ?_⟩
 rw [mZ,Array.getElem?_toList]
 exact hc j x hx
theorem ownI_split {w:World} {e:Nat} {xs:List Int} {u:Value} {L:List Nat} (h:ownI w e xs u L):(xs=[]/\L=[]/\∃A,u= .slice A 0 0)\/
 ∃g off cap cur,u= .slice (some ⟨g,off,none⟩) xs.length cap/\w.heap[g]? =some (.cells cur e (0,0))/\xs.length<=cap/\cap<=maxLen/\cur.size=off+cap/\L=[g]/\∀(j:Nat) (x:Int),xs[j]? =some x->cur[off+j]? =some (.int .i64 x):=by
 rcases h with h | ⟨g,off,cap,cur,L',rfl,hg,hl,hm,hs,rfl,hr⟩
 · exact .inl h
 · obtain ⟨rfl,hc⟩:=own_int_cells (e:=e) hr;refine .inr ⟨g,off,cap,cur,rfl,hg,hl,hm,by omega,rfl,fun j x hx=> ?_⟩
   have:=hc j x hx
   rwa [mZ,Array.getElem?_toList] at this
theorem map_get (zs:List Int) (j:Nat) (v:Value) (h:(zs.map (Value.int .i64))[j]? =some v):∃x,zs[j]? =some x/\v= .int .i64 x:=by
 rw [List.getElem?_map] at h
 cases hz:zs[j]? with
 | none=>rw [hz] at h;cases h
 | some x=>rw [hz] at h;exact ⟨x,rfl,(xZ h).symm⟩
theorem map_one (zs:List Int):∀v ∈ zs.map (Value.int .i64),v.oneCell'=true:=by
 intro v hv;obtain ⟨x,_,rfl⟩:=List.mem_map.1 hv;rfl
theorem ins_get {zs:List Int} {i:Nat} {x:Int} (hi:i<=zs.length) (j:Nat):(zs.take i++x::zs.drop i)[j]? =if j<i then zs[j]? else if j=i then some x else zs[j-1]? :=by
 by_cases h1:j<i
 · rw [dY h1,List.getElem?_append_left (by rw [List.length_take];omega),lZ,dY h1]
 · rw [eY h1,List.getElem?_append_right (by rw [List.length_take];omega),List.length_take,Nat.min_eq_left hi]
   by_cases h2:j=i
   · rw [dY h2,h2,Nat.sub_self];rfl
   · rw [eY h2,show j-i=(j-i-1)+1 by omega,List.getElem?_cons_succ,mZ]
     congr 1
     omega
theorem chg_at (w w':World) (g:Nat) (F:Array Value->Array Value) (e:w'=mapBlock w.drew g F):Chg [g] w w':=by
 subst e;have h:=chg_map w.drew g F;exact ⟨h.os,h.tape,h.output,h.size,h.block⟩
section
variable {P:Program} {tab:List (Nat×Array Value)} {f e:Nat}
theorem extInsert_sound (hen:Enterable P f)
    (h1:∀(b off n c i vb voff m vc:Nat) (cs vs:List Value) (w:World),i<n->0<m->n+m<=c->c<=9223372036854775807->vb≠b->cs.length=n->vs.length=m->
      (∀(j:Nat) (v:Value),cs[j]? =some v->w.cell? ⟨b,off+j,none⟩=some v)->(∀j,j<n+m->(w.cell? ⟨b,off+j,none⟩).isSome=true)->(∀j,j<n+m->w.frozen? ⟨b,off+j,none⟩=false)->
      (∀(j:Nat) (v:Value),vs[j]? =some v->w.cell? ⟨vb,voff+j,none⟩=some v)->(∀v ∈ cs,v.oneCell'=true)->(∀v ∈ vs,v.oneCell'=true)->∀(tA tB:TypeId) (kA kB:Nat),w.shape? vb=some (tA,kA)->w.shape? b=some (tB,kB)->kB≠0->w.frozen? ⟨vb,voff,none⟩=false->w.frozen? ⟨vb,kA,none⟩=false->
      Calls P f #[.slice (some ⟨b,off,none⟩) n c,.int .i64 i,.slice (some ⟨vb,voff,none⟩) m vc] w fun r w'=>r= .returned (.slice (some ⟨b,off,none⟩) (n+m) c)/\w'=(w.drew.setCells b (off+(i+m)) (cs.drop i)).setCells b (off+i) vs)
    (h2:∀(b off n c vb voff m vc:Nat) (vs:List Value) (w:World),0<m->n+m<=c->c<=9223372036854775807->vs.length=m->(∀j,j<m->(w.cell? ⟨b,off+n+j,none⟩).isSome=true)->(∀j,j<m->w.frozen? ⟨b,off+n+j,none⟩=false)->
      (∀(j:Nat) (v:Value),vs[j]? =some v->w.cell? ⟨vb,voff+j,none⟩=some v)->(∀v ∈ vs,v.oneCell'=true)->
      Calls P f #[.slice (some ⟨b,off,none⟩) n c,.int .i64 n,.slice (some ⟨vb,voff,none⟩) m vc] w fun r w'=>r= .returned (.slice (some ⟨b,off,none⟩) (n+m) c)/\w'=w.setCells b (off+n) vs)
    (h3:∀(base:Option Addr) (n c vb voff m vc:Nat) (cs vs:List Value) (w:World),0<m->n<=c->c<n+m->(n+m)*8<=140737488355328->cs.length=n->vs.length=m->(base=none->n=0)->(∀a,base=some a->∀(j:Nat) (v:Value),cs[j]? =some v->w.cell? (a.add j)=some v)->
      (∀(j:Nat) (v:Value),vs[j]? =some v->w.cell? ⟨vb,voff+j,none⟩=some v)->(∀v ∈ vs,v.oneCell'=true)->
      Calls P f #[.slice base n c,.int .i64 n,.slice (some ⟨vb,voff,none⟩) m vc] w fun r w'=>r= .returned (.slice (some ⟨w.heap.size,0,none⟩) (n+m) (grownCap w (n+m) c e))/\
        w'=w.drew.alloc (.cells ((cs++vs).toArray++Builtin.zeroCells (Value.int .i64 0).cells (grownCap w (n+m) c e-(n+m))) e))
    (h4:∀(b off n c i vb voff m vc:Nat) (cs vs:List Value) (w:World),i<n->0<m->n<=c->c<n+m->(n+m)*8<=140737488355328->cs.length=n->vs.length=m->(∀(j:Nat) (v:Value),cs[j]? =some v->w.cell? ⟨b,off+j,none⟩=some v)->
      (∀(j:Nat) (v:Value),vs[j]? =some v->w.cell? ⟨vb,voff+j,none⟩=some v)->(∀v ∈ cs,v.oneCell'=true)->(∀v ∈ vs,v.oneCell'=true)->
      Calls P f #[.slice (some ⟨b,off,none⟩) n c,.int .i64 i,.slice (some ⟨vb,voff,none⟩) m vc] w fun r w'=>r= .returned (.slice (some ⟨w.heap.size,0,none⟩) (n+m) (grownCap w (n+m) c e))/\
        w'=(((w.alloc (.cells ((cs.take i).toArray++Builtin.zeroCells (Value.int .i64 0).cells (n+m-i)++Builtin.zeroCells (Value.int .i64 0).cells (grownCap w (n+m) c e-(n+m))) e)).drew.setCells w.heap.size i vs).drew).setCells w.heap.size (i+m) (cs.drop i)):
    SoundX P tab [some (.l e (.i .i64)),none,some (.l e (.i .i64))] ⟨true,[.l e (.i .i64)],0⟩ f extInsert:=by
  refine soundX_take (sh:= .i .i64) (fun xs p hp=> ?_) hen fun zs ys rest u vs L1 L2 Gd w hg hO hv hnd hL=> ?_
  · unfold extInsert at hp;split at hp
    · exact ⟨_,_,_,rfl⟩
    · cases hp
  have key:∀(zs ys:List Int) (i:Int) (x:Int) (u:Value) (v2:Value) (L1 L2:List Nat),ys=zs.take i.toNat++x::zs.drop i.toNat->0<=i->i<=(zs.length:Int)->(zs.length+1)*8<=140737488355328->ownI w e zs u L1->ownI w e [x] v2 L2->(L1++L2).Nodup->(∀b ∈ L1++L2,b<w.heap.size)->
      Calls P f #[u,.int .i64 i,v2] w fun r w'=>∃v,r= .returned v/\Chg (L1++L2) w w'/\∃L,ownI w' e ys v L/\L.Nodup/\∀b ∈ L,(w.heap.size<=b\/b ∈ L1++L2)/\b<w'.heap.size:=by
    rintro zs ys i x u v2 L1 L2 rfl hi0 hin hlim hO1 hO2 hnd hL
    obtain ⟨i,rfl⟩:∃a:Nat,i=a:=⟨i.toNat,by omega⟩
    simp only [Int.toNat_natCast];have hin:i<=zs.length:=by omega
    rcases ownI_split hO2 with ⟨h,_⟩ | ⟨vb,voff,vc,vcur,rfl,hvg,hvl,hvm,hvs,rfl,hvc⟩
    · cases h
    have hx0:vcur[voff]? =some (.int .i64 x):=by simpa using hvc 0 x rfl
    have hvx:∀(j:Nat) (v:Value),[Value.int .i64 x][j]? =some v->w.cell? ⟨vb,voff+j,none⟩=some v:=by
      intro j v hj;cases j with
      | zero=>
        simp only [List.getElem?_cons_zero,nZ] at hj
        rw [Nat.add_zero,cell_of_row w vb _ vcur e (0,0) hvg,hx0,hj]
      | succ j=>simp at hj
    have hvone:∀v ∈ [Value.int .i64 x],v.oneCell'=true:=by intro v hv;simp at hv;subst hv;rfl
    have hvf:∀k,w.frozen? ⟨vb,k,none⟩=false:=fun k=>by simp [World.frozen?,hvg]
    have hylen:(zs.take i++x::zs.drop i).length=zs.length+1:=by rw [List.length_append,List.length_take,List.length_cons,List.length_drop];omega
    have grown:∀(w':World) (cur':Array Value) (c:Nat),w'.heap[w.heap.size]? =some (.cells cur' e (0,0))->cur'.size=grownCap w (zs.length+1) c e->(∀(j:Nat) (y:Int),(zs.take i++x::zs.drop i)[j]? =some y->cur'[j]? =some (.int .i64 y))->Below w.heap.size w w'->
        ∃v,Ending.returned (.slice (some ⟨w.heap.size,0,none⟩) (zs.length+1) (grownCap w (zs.length+1) c e))= .returned v/\Chg (L1++[vb]) w w'/\∃L,ownI w' e (zs.take i++x::zs.drop i) v L/\L.Nodup/\∀b ∈ L,(w.heap.size<=b\/b ∈ L1++[vb])/\b<w'.heap.size:=by
      intro w' cur' c hh hsz hcc hB;refine ⟨_,rfl,Chg.of_below hB _,[w.heap.size],ownI_cells _ hylen.symm hh (grownCap_ge w _ c e) (grownCap_le_maxLen w _ c e (by simp only [maxLen];omega)) (by omega) (by simpa using hcc),by simp,fun b hb=> ?_⟩
      rw [kZ.1 hb];exact ⟨.inl (cY _),(bZ.1 hh).1⟩
    rcases ownI_split hO1 with ⟨rfl,rfl,A,rfl⟩ | ⟨b,off,cap,cur,rfl,hbg,hbl,hbm,hbs,rfl,hbc⟩
    · obtain rfl:i=0:=by simpa using hin
      refine (h3 A 0 0 vb voff 1 vc [] [.int .i64 x] w (by omega) (by omega) (by omega) (by omega) rfl rfl (fun _=>rfl) (fun a _ j v hj=>by simp at hj) hvx hvone).mono ?_
      rintro r w' ⟨rfl,rfl⟩
      refine grown _ _ 0 (heap_alloc_new w.drew _) ?_ (fun j y hj=> ?_) (((Below.refl _ w).drew).alloc (cY _) _)
      · have:=grownCap_ge w 1 0 e
        simp only [Array.size_append,List.size_toArray,size_zeroCells,List.nil_append,List.length_singleton,List.length_nil,Nat.zero_add];show 1+(grownCap w 1 0 e-1)*1=_
        omega
      · cases j with
        | zero=>
          simp at hj;subst hj;rw [Array.getElem?_append_left (by simp)]
          rfl
        | succ j=>simp at hj
    · have hne:vb≠b:=by
        rintro rfl
        simp at hnd
      have hcs:∀(j:Nat) (v:Value),(zs.map (Value.int .i64))[j]? =some v->w.cell? ⟨b,off+j,none⟩=some v:=by
        intro j v hj;obtain ⟨y,hy,rfl⟩:=map_get zs j v hj;rw [cell_of_row w b _ cur e (0,0) hbg];exact hbc j y hy
      have hsp:∀j,j<cap->(w.cell? ⟨b,off+j,none⟩).isSome=true:=fun j hj=>by
        rw [cell_of_row w b _ cur e (0,0) hbg,Array.getElem?_eq_getElem (by omega)];rfl
      have hfz:∀k,w.frozen? ⟨b,k,none⟩=false:=fun k=>by simp [World.frozen?,hbg]
      have place:∀(w':World) (F:Array Value->Array Value),w'=mapBlock w.drew b F->(F cur).size=cur.size->zs.length+1<=cap->(∀(j:Nat) (y:Int),(zs.take i++x::zs.drop i)[j]? =some y->(F cur)[off+j]? =some (.int .i64 y))->
          ∃v,Ending.returned (.slice (some ⟨b,off,none⟩) (zs.length+1) cap)= .returned v/\Chg ([b]++[vb]) w w'/\∃L,ownI w' e (zs.take i++x::zs.drop i) v L/\L.Nodup/\∀k ∈ L,(w.heap.size<=k\/k ∈ [b]++[vb])/\k<w'.heap.size:=by
        intro w' F hw' hsz hroom hcc;have hch:=chg_at w w' b F hw';have hh:w'.heap[b]? =some (.cells (F cur) e (0,0)):=by rw [hw'];exact mapBlock_heap (w:=w.drew) F hbg
        refine ⟨_,rfl,⟨hch.os,hch.tape,hch.output,hch.size,fun k hk hn=>hch.block k hk fun hm=>hn (by simp at hm;simp [hm])⟩,[b],ownI_cells _ hylen.symm hh hroom hbm (by omega) hcc,by simp,fun k hk=> ?_⟩
        rw [kZ.1 hk];exact ⟨.inr (by simp),jZ (hL b (by simp)) hch.size⟩
      have hml:(zs.map (Value.int .i64)).length=zs.length:=by simp
      by_cases hend:i=zs.length
      · subst hend;by_cases hroom:zs.length+1<=cap
        · refine (h2 b off zs.length cap vb voff 1 vc [.int .i64 x] w (by omega) hroom hbm rfl (fun j hj=>by rw [Nat.add_assoc];exact hsp _ (by omega)) (fun j hj=>hfz _) hvx hvone).mono ?_
          rintro r w' ⟨rfl,rfl⟩
          have hch:=chg_map w b (putAt [.int .i64 x] (off+zs.length));rw [setCells_map];have hh:=mapBlock_heap (putAt [.int .i64 x] (off+zs.length)) hbg;refine ⟨_,rfl,⟨hch.os,hch.tape,hch.output,hch.size,fun k hk hn=>hch.block k hk fun hm=>hn (by simp at hm;simp [hm])⟩,[b],ownI_cells _ hylen.symm hh hroom hbm (by rw [putAt_size];omega) (fun j y hj=> ?_),by simp,fun k hk=> ?_⟩
          · rw [putAt_get _ _ _ _ (by simp;omega)]
            rw [ins_get (cY _)] at hj;by_cases h1:j<zs.length
            · rw [dY h1] at hj;rw [eY (by omega)]
              exact hbc j y hj
            · rw [eY h1] at hj;by_cases h2:j=zs.length
              · rw [dY h2] at hj;rw [dY (by simp;omega),h2,Nat.sub_self]
                cases hj
                rfl
              · rw [eY h2,List.getElem?_eq_none (by omega)] at hj
                cases hj
          · rw [kZ.1 hk];exact ⟨.inr (by simp),jZ (hL b (by simp)) hch.size⟩
        · refine (h3 (some ⟨b,off,none⟩) zs.length cap vb voff 1 vc (zs.map (Value.int .i64)) [.int .i64 x] w (by omega) hbl (by omega) (by omega) hml rfl (fun h=>by cases h) (fun a ha j v hj=>by cases ha;rw [Addr.add_lit];exact hcs j v hj) hvx hvone).mono ?_
          rintro r w' ⟨rfl,rfl⟩
          refine grown _ _ cap (heap_alloc_new w.drew _) ?_ (fun j y hj=> ?_) (((Below.refl _ w).drew).alloc (cY _) _)
          · have:=grownCap_ge w (zs.length+1) cap e
            simp only [Array.size_append,List.size_toArray,size_zeroCells,List.length_append,hml,List.length_singleton];show zs.length+1+(grownCap w (zs.length+1) cap e-(zs.length+1))*1=_
            omega
          · have hjl:j<zs.length+1:=by rw [<-hylen];exact (List.getElem?_eq_some_iff.1 hj).1
            rw [Array.getElem?_append_left (by simp;omega),List.getElem?_toArray]
            rw [ins_get (cY _)] at hj;by_cases h1:j<zs.length
            · rw [dY h1] at hj;rw [List.getElem?_append_left (by simpa using h1),List.getElem?_map,hj]
              rfl
            · rw [eY h1,dY (by omega)] at hj
              cases hj
              rw [List.getElem?_append_right (by simp;omega),hml,show j-zs.length=0 by omega]
              rfl
      · have hlt:i<zs.length:=by omega
        by_cases hroom:zs.length+1<=cap
        · refine (h1 b off zs.length cap i vb voff 1 vc (zs.map (Value.int .i64)) [.int .i64 x] w hlt (by omega) hroom hbm hne hml rfl hcs (fun j hj=>hsp j (by omega)) (fun j hj=>hfz _) hvx (map_one zs) hvone e e vcur.size cur.size (by simp [World.shape?,hvg]) (by simp [World.shape?,hbg]) (by omega) (hvf _) (hvf _)).mono ?_
          rintro r w' ⟨rfl,rfl⟩
          rw [setCells_map,setCells_map,mapBlock_mapBlock];have hdl:((zs.map (Value.int .i64)).drop i).length=zs.length-i:=by simp
          refine place _ _ rfl (by rw [putAt_size,putAt_size]) hroom fun j y hj=> ?_
          have hjl:j<zs.length+1:=by rw [<-hylen];exact (List.getElem?_eq_some_iff.1 hj).1
          rw [putAt_get _ _ _ _ (by rw [putAt_size];simp;omega),putAt_get _ _ _ _ (by rw [hdl];omega),hdl]
          rw [ins_get hin] at hj;by_cases h1:j<i
          · rw [dY h1] at hj;rw [eY (by omega),eY (by omega)]
            exact hbc j y hj
          · rw [eY h1] at hj;by_cases h2:j=i
            · rw [dY h2] at hj;rw [dY (by simp;omega),h2,Nat.sub_self]
              cases hj
              rfl
            · rw [eY h2] at hj;rw [eY (by simp;omega),dY (by omega),mZ,List.getElem?_map,show i+(off+j-(off+(i+1)))=j-1 by omega,hj]
              rfl
        · refine (h4 b off zs.length cap i vb voff 1 vc (zs.map (Value.int .i64)) [.int .i64 x] w hlt (by omega) hbl (by omega) (by omega) hml rfl hcs hvx (map_one zs) hvone).mono ?_
          rintro r w' ⟨rfl,rfl⟩
          obtain ⟨X,hX⟩:∃X:Array Value,X=(((zs.map (Value.int .i64)).take i).toArray++Builtin.zeroCells (Value.int .i64 0).cells (zs.length+1-i)++Builtin.zeroCells (Value.int .i64 0).cells (grownCap w (zs.length+1) cap e-(zs.length+1))):=⟨_,rfl⟩;have hge:=grownCap_ge w (zs.length+1) cap e;have hXs:X.size=grownCap w (zs.length+1) cap e:=by
            rw [hX];simp only [Array.size_append,List.size_toArray,size_zeroCells,List.length_take,hml];show min i zs.length+(zs.length+1-i)*1+(grownCap w (zs.length+1) cap e-(zs.length+1))*1=_
            omega
          have hXi:∀j,j<i->X[j]? =(zs[j]?).map (Value.int .i64):=fun j hj=>by
            rw [hX,Array.append_assoc,Array.getElem?_append_left (by simp;omega),List.getElem?_toArray,lZ,dY hj,List.getElem?_map]
          rw [<-hX,setCells_map,setCells_map];have hg0:(w.alloc (.cells X e)).heap[w.heap.size]? =some (.cells X e (0,0)):=heap_alloc_new w _;have hg1:=mapBlock_heap (w:=(w.alloc (.cells X e)).drew) (putAt [.int .i64 x] i) hg0;have hg2:=mapBlock_heap (w:=(mapBlock (w.alloc (.cells X e)).drew w.heap.size (putAt [.int .i64 x] i)).drew) (putAt ((zs.map (Value.int .i64)).drop i) (i+1)) hg1;have hdl:((zs.map (Value.int .i64)).drop i).length=zs.length-i:=by simp
          refine grown _ _ cap hg2 (by rw [putAt_size,putAt_size,hXs]) (fun j y hj=> ?_) ?_
          · have hjl:j<zs.length+1:=by rw [<-hylen];exact (List.getElem?_eq_some_iff.1 hj).1
            rw [putAt_get _ _ _ _ (by rw [putAt_size,hdl,hXs];omega),putAt_get _ _ _ _ (by simp;omega),hdl]
            rw [ins_get hin] at hj;by_cases h1:j<i
            · rw [dY h1] at hj;rw [eY (by omega),eY (by omega),hXi j h1,hj]
              rfl
            · rw [eY h1] at hj;by_cases h2:j=i
              · rw [dY h2] at hj;rw [eY (by omega),dY (by simp;omega),h2,Nat.sub_self]
                cases hj
                rfl
              · rw [eY h2] at hj;rw [dY (by omega),mZ,List.getElem?_map,show i+(j-(i+1))=j-1 by omega,hj]
                rfl
          · have c1:=chg_map (w.alloc (.cells X e)).drew w.heap.size (putAt [.int .i64 x] i);have c2:=chg_map (mapBlock (w.alloc (.cells X e)).drew w.heap.size (putAt [.int .i64 x] i)).drew w.heap.size (putAt ((zs.map (Value.int .i64)).drop i) (i+1));have hsz:w.heap.size<=(w.alloc (.cells X e)).heap.size:=by simp
            refine ⟨rfl,rfl,rfl,bY hsz (bY c1.size c2.size),fun k hk=> ?_⟩
            have hk1:k<(w.alloc (.cells X e)).heap.size:=jZ hk hsz;have hn:k ∉ [w.heap.size]:=by simp;omega
            exact (c2.block k (jZ hk1 c1.size) hn).trans ((c1.block k hk1 hn).trans (alloc_keeps w _ k hk))
  unfold extInsert at hg;split at hg
  case h_2=>cases hg
  rename_i e1 zs' i e2 ys' heq
  injection heq with heq1 heq2
  subst heq2
  injection heq1 with heq1
  injection heq1 with _ _ heq3
  subst heq3;split at hg
  case h_2=>cases hg
  rename_i x;split at hg<;>try (cases hg;done)
  split at hg<;>try (cases hg;done)
  split at hg<;>try (cases hg;done)
  rename_i hi0 hin hlim;have hg:=(xZ hg).symm;obtain ⟨ui,vs',rfl,hvi,_,hargs⟩:=hv;have hvi:rep w Gd (.v (.int .i64 i)) ui:=hvi;simp only [rep] at hvi;obtain ⟨rfl,_⟩:=hvi;obtain ⟨rfl,v2,vs2,L3,L4,rfl,hO2,rfl,hv2,_,rfl⟩:=argsT_row hargs;cases vs2 with
  | cons v vs=>simp [All2] at hv2
  | nil=>
  rw [List.append_nil] at hnd hL ⊢;exact key zs ys i x u v2 L1 L3 hg hi0 hin hlim hO hO2 hnd fun b hb=>(hL b hb).1
end
end Go.V
