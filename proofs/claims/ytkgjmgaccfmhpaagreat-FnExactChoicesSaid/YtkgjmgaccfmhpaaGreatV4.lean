/- The interpreter's fourth part: regions whose operations float, loops, whole functions; and how a statement's input is read as plain data. No condition. -/
import Derived.Test.YtkgjmgaccfmhpaaGreatV3
import Derived.WalkKit
import Derived.ProofKit
import Derived.OpenShut
import Derived.ShutString
import Derived.ChangeOld
import Derived.Below
import Derived.SizedLaws
import Derived.Carry
import Derived.Laws.BitsLemmas
import Derived.Sort.Grow
import Derived.Lib.SlicesCompact
namespace Go.V
open Go.RowKit (Below)
set_option linter.unusedVariables false
set_option linter.unusedSimpArgs false
theorem jw4:∀(l acc:List Nat) (x:Nat),x ∈ l∨x ∈ acc→x ∈ j64 l acc
  | [],acc,x,h=>by simpa [j64] using h
  | h::r,acc,x,hx=>by
    unfold j64;split
    · rename_i hc;refine jw4 r acc x ?_
      rcases hx with hx | hx
      · rcases List.mem_cons.1 hx with rfl | hx
        · exact .inr (by simpa using hc)
        · exact .inl hx
      · exact .inr hx
    · refine jw4 r _ x ?_
      rcases hx with hx | hx
      · rcases List.mem_cons.1 hx with rfl | hx
        · exact .inr (by simp)
        · exact .inl hx
      · exact .inr (by simp [hx])
theorem vl3:∀(l acc:List Nat),acc.Nodup→(j64 l acc).Nodup
  | [],acc,h=>h
  | x::r,acc,h=>by
    unfold j64;split
    · exact vl3 r acc h
    · rename_i hc;refine vl3 r _ (List.nodup_append.2 ⟨h,by simp,?_⟩)
      rintro a ha b hb rfl
      simp at hb;subst hb;exact hc (by simpa using ha)
theorem yq7 (ob:List (Nat×Ob)):∀(n:Nat) (hs:List Nat) (x:Nat),x ∈ hs→x ∈ ys6 ob n hs
 | 0,hs,x,h=>h
 | n+1,hs,x,h=>yq7 ob n _ x (jw4 _ _ x (.inr h))
theorem jm6 (ob:List (Nat×Ob)):∀(n:Nat) (hs:List Nat),hs.Nodup→(ys6 ob n hs).Nodup
 | 0,hs,h=>h
 | n+1,hs,h=>jm6 ob n _ (vl3 _ _ h)
theorem wv5 {ob:List (Nat×Ob)} {hs:List Nat}:∀(l:List Nat) (n m:Nat) (o':Ob),look (xk3 ob hs l n) m=some o'→n≤m∧∃h o,l[m-n]? =some h∧look ob h=some o∧o'=o.ren hs∧∀x ∈ o.hs,x ∈ hs
  | [],n,m,o',h=>by cases h
  | h::r,n,m,o',hl=>by
    have next:look (xk3 ob hs r (n+1)) m=some o'→n≤m∧∃h' o,(h::r)[m-n]? =some h'∧look ob h'=some o∧o'=o.ren hs∧∀x ∈ o.hs,x ∈ hs:=by
      intro hl;obtain ⟨h1,h',o,h2,h3⟩:=wv5 r (n+1) m o' hl;refine ⟨by omega,h',o,?_,h3⟩
      rw [show m-n=(m-(n+1))+1 by omega]
      simpa using h2
    unfold xk3 at hl;split at hl
    · rename_i o ho;split at hl
      · rename_i hall;simp only [look] at hl;split at hl
        · rename_i e;subst e;simp only [Option.some.injEq] at hl;refine ⟨Nat.le_refl _,h,o,by simp,ho,hl.symm,fun x hx=> ?_⟩
          simpa using List.all_eq_true.1 hall x hx
        · exact next hl
      · exact next hl
    · exact next hl
theorem zq3 {sl:List (Nat×AV)}:∀(l:List Nat) (t:Nat) (v:AV),look (yh3 sl l) t=some v→look sl t=some v∧(v.isTup=false)
  | [],t,v,h=>by cases h
  | k::r,t,v,h=>by
    unfold yh3 at h;split at h
    · rename_i u hu;split at h
      · exact zq3 r t v h
      · rename_i htup;simp only [look] at h;split at h
        · rename_i e;subst e;simp only [Option.some.injEq] at h;subst h;exact ⟨hu,by simpa using htup⟩
        · exact zq3 r t v h
    · exact zq3 r t v h
theorem x09 {α:Type}:∀(l:List (Nat×α)) (t:Nat) (v:α),look l t=some v→(t,v) ∈ l
  | [],t,v,h=>by cases h
  | (k,u)::r,t,v,h=>by
    simp only [look] at h;split at h
    · rename_i e;subst e;simp only [Option.some.injEq] at h;subst h;simp
    · exact List.mem_cons_of_mem _ (x09 r t v h)
theorem w3b {w:World} {ok:Nat→Prop} {β:Nat→Value} {hs:List Nat} {c:C} {u:Value} (h:VC w ok β c u) (hm:∀x ∈ c.hs,x ∈ hs):VC w ok (fun i=>β (hs.getD i 0)) (c.ren hs) u∧C.lt hs.length (c.ren hs):=by
 have key:∀x,x ∈ hs→hs.getD (hs.idxOf x) 0=x∧hs.idxOf x<hs.length:=by
  intro x hx;have hlt:=List.idxOf_lt_length_of_mem hx;refine ⟨?_,hlt⟩
  rw [List.getD_eq_getElem?_getD,List.getElem?_eq_getElem hlt]
  simp
 cases c
 case ref x=>
  obtain ⟨h1,h2⟩:=key x (hm x (by simp [C.hs]))
  exact ⟨by simp only [C.ren,VC,h1];exact h,by intro y hy;simp [C.ren,C.hs] at hy;subst hy;exact h2⟩
 case ptr x o=>
  obtain ⟨h1,h2⟩:=key x (hm x (by simp [C.hs]))
  exact ⟨by simp only [C.ren,VC,h1];exact h,by intro y hy;simp [C.ren,C.hs] at hy;subst hy;exact h2⟩
 case el x sz i j=>
  obtain ⟨h1,h2⟩:=key x (hm x (by simp [C.hs]))
  exact ⟨by simp only [C.ren,VC,h1];exact h,by intro y hy;simp [C.ren,C.hs] at hy;subst hy;exact h2⟩
 case sub x sz lo hi=>
  obtain ⟨h1,h2⟩:=key x (hm x (by simp [C.hs]))
  exact ⟨by simp only [C.ren,VC,h1];exact h,by intro y hy;simp [C.ren,C.hs] at hy;subst hy;exact h2⟩
 all_goals exact ⟨h,by intro y hy;simp [C.ren,C.hs] at hy⟩
theorem va4 {w:World} {ok:Nat→Prop} {β:Nat→Value} {hs:List Nat}:∀{cs:List C} {us:List Value},zl (VC w ok β) cs us→(∀c ∈ cs,∀x ∈ c.hs,x ∈ hs)→zl (VC w ok fun i=>β (hs.getD i 0)) (cs.map (C.ren hs)) us∧∀c ∈ cs.map (C.ren hs),C.lt hs.length c
  | [],[],_,_=>⟨trivial,by simp⟩
  | [],_::_,h,_=>by simp [zl] at h
  | _::_,[],h,_=>by simp [zl] at h
  | c::cs,u::us,h,hm=>by
    obtain ⟨h1,h2⟩:=w3b h.1 (hm c (by simp))
    obtain ⟨h3,h4⟩:=va4 h.2 fun c hc=>hm c (by simp [hc])
    refine ⟨⟨h1,h3⟩,?_⟩
    intro y hy;simp only [List.map_cons,List.mem_cons] at hy;rcases hy with rfl | hy
    · exact h2
    · exact h4 y hy
section
variable {E:Env} {G:Nat→Prop} {w0:Base} {st:St} {a:Act} {w:World} {β:Nat→Value} {Lf:Nat→List Nat} {R:Type} {r:R} {o:Oper} {call:vk1 E} {K:Ex→St→Option R} {X:Act→World→Prop} {Q:Exit→Act→World→Prop}
theorem vt4:∀(l acc:List Nat) (i:Nat),i<acc.length→(j64 l acc)[i]? =acc[i]?
  | [],acc,i,h=>by simp [j64]
  | x::r,acc,i,h=>by
    unfold j64;split
    · exact vt4 r acc i h
    · rw [vt4 r (acc++[x]) i (by simp;omega),List.getElem?_append_left h]
theorem jw8 (l acc:List Nat) (i:Nat) (h:i<acc.length):i<(j64 l acc).length:=by
 have h1:=vt4 l acc i h;rw [List.getElem?_eq_getElem h] at h1
 exact (List.getElem?_eq_some_iff.1 h1).1
theorem yy8 (ob:List (Nat×Ob)):∀(n:Nat) (hs:List Nat) (i:Nat),i<hs.length→(ys6 ob n hs)[i]? =hs[i]?
  | 0,hs,i,h=>by simp [ys6]
  | n+1,hs,i,h=>by
    unfold ys6;exact (yy8 ob n _ i (jw8 _ hs i h)).trans (vt4 _ hs i h)
theorem v18 (S:Sim G w0 st a w β Lf) (keys:List Nat) (hm:w0.m≤keys.headD 0):vl1 G w0 (st.canon0 keys) a w:=by
  unfold St.canon0;simp only
  generalize keys.tail=kt;generalize keys.headD 0=m at hm;have hnd:(ys6 st.ob 3 (j64 ((yh3 st.sl kt).flatMap fun p=>p.2.hs) (List.range m))).Nodup:=jm6 _ _ _ (vl3 _ _ List.nodup_range)
  have hin:∀p ∈ yh3 st.sl kt,∀x ∈ p.2.hs,x ∈ ys6 st.ob 3 (j64 ((yh3 st.sl kt).flatMap fun p=>p.2.hs) (List.range m)):=fun p hp x hx=>
    yq7 _ _ _ x (jw4 _ _ x (.inl (List.mem_flatMap.2 ⟨p,hp,hx⟩)))
  have hpre:∀i,i<m→(ys6 st.ob 3 (j64 ((yh3 st.sl kt).flatMap fun p=>p.2.hs) (List.range m)))[i]? =some i:=by
    intro i hi;have hi':i<(List.range m).length:=by rw [List.length_range];exact hi
    exact (yy8 _ _ _ _ (jw8 _ _ i hi')).trans ((vt4 _ _ i hi').trans (List.getElem?_range hi))
  generalize ys6 st.ob 3 (j64 ((yh3 st.sl kt).flatMap fun p=>p.2.hs) (List.range m))=hs at hnd hin hpre
  have hobj:∀n o',look (xk3 st.ob hs hs 0) n=some o'→∃o,n<hs.length∧look st.ob (hs.getD n 0)=some o∧o'=o.ren hs∧∀x ∈ o.hs,x ∈ hs:=by
    intro n o' ho;obtain ⟨_,h,o,h1,h2,h3,h4⟩:=wv5 hs 0 n o' ho;rw [Nat.sub_zero] at h1;have hlt:=(List.getElem?_eq_some_iff.1 h1).1
    refine ⟨o,hlt,?_,h3,h4⟩
    rw [List.getD_eq_getElem?_getD,h1]
    exact h2
  have himm:∀k,imm G st Lf k→k<w.heap.size→imm G { nt:=st.nt,nx:=hs.length,sl:=(yh3 st.sl kt).map fun p=>(p.1,p.2.ren hs),ob:=xk3 st.ob hs hs 0 } (fun i=>Lf (hs.getD i 0)) k∧w.heap[k]? =w.heap[k]? :=
    fun k hk _=>⟨⟨hk.1,fun n o ho=>by obtain ⟨o',h1,h2,_⟩:=hobj n o ho;exact hk.2 _ o' h2⟩,rfl⟩
  have hslot:∀t v,look ((yh3 st.sl kt).map fun p=>(p.1,p.2.ren hs)) t=some v→∃u,look st.sl t=some u∧u.isTup=false∧v=u.ren hs∧∀x ∈ u.hs,x ∈ hs:=by
    intro t v ht;obtain ⟨u,hu,hg⟩:=y97 (fun p:Nat×AV=>(p.1,p.2.ren hs)) (fun _=>rfl) _ t v ht
    obtain ⟨h1,h2⟩:=zq3 kt t u hu;simp only [Prod.mk.injEq,true_and] at hg;exact ⟨u,h1,h2,hg.symm,hin (t,u) (x09 _ _ _ hu)⟩
  have hav:∀(v:AV) (u:Value),v.isTup=false→(∀x ∈ v.hs,x ∈ hs)→VA w (imm G st Lf) β v u→VA w (imm G st Lf) (fun i=>β (hs.getD i 0)) (v.ren hs) u∧(v.ren hs).lt hs.length:=by
    intro v u ht hm hv;cases v with
    | c x=>
      have:=w3b (hs:=hs) hv (fun y hy=>hm y (by simp [AV.hs,AV.cells,hy]))
      exact this
    | agg cs=>
      obtain ⟨us,rfl,hv⟩:=hv;obtain ⟨h1,h2⟩:=va4 (hs:=hs) hv (fun c hc y hy=>hm y (by simp only [AV.hs,AV.cells,List.mem_flatMap];exact ⟨c,hc,hy⟩))
      exact ⟨⟨us,rfl,h1⟩,h2⟩
    | tup xs=>simp [AV.isTup] at ht
  refine ⟨fun i=>β (hs.getD i 0),fun i=>Lf (hs.getD i 0),?_⟩
  refine { fresh:=S.fresh,below:=S.below,defers:=S.defers,size:=S.size,slots:= ?_,slt:= ?_,obs:= ?_,olt:= ?_,new:= ?_,nodup:= ?_,disj:= ?_,pin:= ?_,pinx:= ?_ }
  · intro t v ht;obtain ⟨u,h1,h2,rfl,h3⟩:=hslot t v ht;obtain ⟨h4,h5⟩:=hav u _ h2 h3 (S.slots t u h1);exact h4.step h5 himm fun _ _=>rfl
  · intro t v ht;obtain ⟨u,h1,h2,rfl,h3⟩:=hslot t v ht;exact (hav u _ h2 h3 (S.slots t u h1)).2
  · intro n o' ho;obtain ⟨o,h1,h2,rfl,h3⟩:=hobj n o' ho;have hO:=S.obs _ _ h2;cases o with
    | var cs=>
      obtain ⟨b,ty,us,h4,h5,h6,h7⟩:=hO;obtain ⟨h8,h9⟩:=va4 (hs:=hs) h7 (fun c hc y hy=>h3 y (by simp only [Ob.hs,List.mem_flatMap];exact ⟨c,hc,hy⟩))
      exact ⟨b,ty,us,h4,h5,h6,h8.imp fun c _ u hu=>hu.step himm fun _ _=>rfl⟩
    | arr e sh xs=>exact hO
    | opn e sh xs i cs=>
      obtain ⟨g,off,cap,cur,La,Lb,k1,k2,k3,k4,k5,k6,k7,k8,k9,k10⟩:=hO;obtain ⟨h8,h9⟩:=va4 (hs:=hs) k9 (fun c hc y hy=>h3 y (by simp only [Ob.hs,List.mem_flatMap];exact ⟨c,hc,hy⟩))
      exact ⟨g,off,cap,cur,La,Lb,k1,k2,k3,k4,k5,k6,k7,k8,h8.imp fun c _ u hu=>hu.step himm fun _ _=>rfl,k10⟩
  · intro n o' ho;obtain ⟨o,h1,h2,rfl,h3⟩:=hobj n o' ho;refine ⟨h1,?_⟩
    cases o with
    | var cs=>
      obtain ⟨b,ty,us,h4,h5,h6,h7⟩:=S.obs _ _ h2;exact (va4 (hs:=hs) h7 (fun c hc y hy=>h3 y (by simp only [Ob.hs,List.mem_flatMap];exact ⟨c,hc,hy⟩))).2
    | arr e sh xs=>trivial
    | opn e sh xs i cs=>
      obtain ⟨g,off,cap,cur,La,Lb,k1,k2,k3,k4,k5,k6,k7,k8,k9,k10⟩:=S.obs _ _ h2;exact (va4 (hs:=hs) k9 (fun c hc y hy=>h3 y (by simp only [Ob.hs,List.mem_flatMap];exact ⟨c,hc,hy⟩))).2
  · intro n o' ho;obtain ⟨o,h1,h2,rfl,h3⟩:=hobj n o' ho;exact S.new _ o h2
  · intro n o' ho;obtain ⟨o,h1,h2,rfl,h3⟩:=hobj n o' ho;exact S.nodup _ o h2
  · intro n o1 m o2 hn hm hne;obtain ⟨p,h1,h2,rfl,h3⟩:=hobj n o1 hn;obtain ⟨q,h4,h5,rfl,h6⟩:=hobj m o2 hm;refine S.disj _ p _ q h2 h5 fun e=>hne ?_
    rw [List.getD_eq_getElem?_getD,List.getD_eq_getElem?_getD,List.getElem?_eq_getElem h1,List.getElem?_eq_getElem h4] at e
    simp only [Option.getD_some] at e;exact (List.getElem_inj hnd).1 e
  · intro i hi;have h1:=hpre i (by omega)
    show β (hs.getD i 0)=_
    rw [List.getD_eq_getElem?_getD,h1]
    exact S.pin i hi
  · rcases Nat.eq_zero_or_pos w0.m with h0 | h0
    · simp only [h0];exact Nat.zero_le _
    · have h1:=hpre (w0.m-1) (by omega)
      have:=(List.getElem?_eq_some_iff.1 h1).1
      show w0.m≤hs.length
      omega
theorem wt5:∀(l:List Nat) {st:St},vl1 G w0 st a w→vl1 G w0 (y16 l st) a w
  | [],st,S=>S
  | t::r,st,S=>by
    unfold y16;refine wt5 r ?_
    split
    · rename_i h sz lo hi ht;split
      · rename_i c st1 hs;obtain ⟨β,Lf,S⟩:=S;have hv:VC w (imm G st Lf) β (.sub h sz lo hi) (a.tmps.getD t undef):=S.slots t _ ht;have hl0:C.lt st.nx (.sub h sz lo hi):=S.slt t _ ht;have hl:∀c ∈ [C.sub h sz lo hi],C.lt st.nx c:=fun c hc=>by
          rw [List.mem_singleton.1 hc];exact hl0
        obtain ⟨β',Lf',S1,h1,h2,_⟩:=zd4 [.sub h sz lo hi] [c] [a.tmps.getD t undef] st st1 β Lf S ⟨hv,trivial⟩ hl hs;have h3:AV.lt st1.nx (.c c):=h2 c (by simp)
        exact ⟨_,_,S1.reslot (v:= .c c) h1.1 h3⟩
      · exact S
    · exact S
theorem ja6 (S:Sim G w0 st a w β Lf) (keys:List Nat) (hm:w0.m≤keys.headD 0):vl1 G w0 (st.canon keys) a w:=by
 obtain ⟨β',Lf',S'⟩:=wt5 keys.tail ⟨β,Lf,S⟩;exact v18 S' keys hm
def Ex.up:Ex→Exit
 | .normal=> .normal
 | .exit i=> .exit i
 | .ret=> .ret
def yf2:Code→Bool
 | .region _ ops d=> !d || (if y43 ops<vr3 ops then yt4 ops (y43 ops) (jt6 ops (y43 ops)) (ja8 ops (y43 ops))&&jy8 ops (y43 ops) else z96 ops (vr3 ops))
 | .seq a b=>yf2 a&&yf2 b
 | .cond _ a b=>yf2 a&&yf2 b
 | .block _ a=>yf2 a
 | .loop a=>yf2 a
 | _=>true
theorem jtb {J:Nat→Prop} (h:∃n,J n):∃n,J n∧∀m,J m→n≤m:=by
  obtain ⟨n,hn⟩:=h;induction n using Nat.strongRecOn with
  | ind n ih=>
    by_cases hx:∃m,m<n∧J m
    · obtain ⟨m,h1,h2⟩:=hx;exact ih m h1 h2
    · exact ⟨n,hn,fun m hm=>Nat.le_of_not_lt fun hlt=>hx ⟨m,hlt,hm⟩⟩
theorem z43 (hE:EnvOk E) (hC:CallAt E call w0) {lv:List Nat} {k:Nat} (hlv:w0.m≤lv.headD 0):∀(c:Code) (K:Ex→St→Option R) (Q:Exit→Act→World→Prop) (st:St) (a:Act) (w:World),yf2 c=true→vl1 G w0 st a w→run E call lv k c st K=some r→
    (∀e st' a' w',vl1 G w0 st' a' w'→K e st'=some r→Q e.up a' w')→c.wp E.P Q a w
  | .skip,K,Q,st,a,w,_,S,h,hQ=>wp_skip (hQ .normal st a w S h)
  | .region id ops d,K,Q,st,a,w,hok,S,h,hQ=>by
    simp only [run] at h;replace S:=x56 lv.tail S;unfold wr7 at h;cases d with
    | false=>exact zl8 hE hC S h fun st' a' w' S' h'=>hQ .normal _ a' w' (w15 id lv.tail S') h'
    | true=>
      simp only [yf2,Bool.not_true,Bool.false_or] at hok;simp only [if_true] at h;split at h
      · split at h
        · rename_i hw;exact wh8 hE hC hw S h fun st' a' w' S' h'=>hQ .normal _ a' w' (w15 id lv.tail S') h'
        · cases h
      · split at hok
        · rename_i hm;rw [if_pos hm] at h;simp only [Bool.and_eq_true] at hok;split at h
          · rename_i hst;exact wk8 hE hC hok.1 hok.2 hst S h fun st' a' w' S' h'=>hQ .normal _ a' w' (w15 id lv.tail S') h'
          · cases h
        · rename_i hm;rw [if_neg hm] at h;exact zp8 hE hC hok S h fun st' a' w' S' h'=>hQ .normal _ a' w' (w15 id lv.tail S') h'
  | .seq x y,K,Q,st,a,w,hok,S,h,hQ=>by
    simp only [yf2,Bool.and_eq_true] at hok;simp only [run] at h;refine wp_seq (z43 hE hC hlv x _ _ st a w hok.1 S h fun e st' a' w' S' h'=> ?_)
    cases e with
    | normal=>exact z43 hE hC hlv y K Q st' a' w' hok.2 S' h' hQ
    | exit i=>exact hQ (.exit i) st' a' w' S' h'
    | ret=>exact hQ .ret st' a' w' S' h'
  | .cond c x y,K,Q,st,a,w,hok,S,h,hQ=>by
    simp only [yf2,Bool.and_eq_true] at hok;simp only [run] at h;split at h
    · rename_i b hb;obtain ⟨β,Lf,S1⟩:=S;refine wp_cond (S1.bool hb) ?_
      cases b with
      | true=>exact z43 hE hC hlv x K Q st a w hok.1 ⟨β,Lf,S1⟩ (by simpa using h) hQ
      | false=>exact z43 hE hC hlv y K Q st a w hok.2 ⟨β,Lf,S1⟩ (by simpa using h) hQ
    · cases h
  | .block i c,K,Q,st,a,w,hok,S,h,hQ=>by
    simp only [yf2] at hok;simp only [run] at h;refine wp_block (z43 hE hC hlv c _ _ st a w hok S h fun e st' a' w' S' h'=> ?_)
    cases e with
    | normal=>exact hQ .normal st' a' w' S' h'
    | exit j=>
      simp only [Ex.up,Exit.inBlock];simp only at h'
      split at h'
      · rename_i e;rw [if_pos e];exact hQ .normal st' a' w' S' h'
      · rename_i e;rw [if_neg e];exact hQ (.exit j) st' a' w' S' h'
    | ret=>exact hQ .ret st' a' w' S' h'
  | .loop c,K,Q,st,a,w,hok,S,h,hQ=>by
    simp only [yf2] at hok;simp only [run] at h;split at h
    case h_2=>cases h
    rename_i st0 hcl;obtain ⟨st00,hcl1,hst0⟩:=Option.map_eq_some_iff.1 hcl;replace S:=hst0▸w05 (E:=E) lv.tail (x34 S hcl1);generalize hkeys:lv.headD 0::(st0.sl.map (·.1)).filter lv.tail.contains=keys at h;have hm:w0.m≤keys.headD 0:=by rw [←hkeys];exact hlv
    let J:Nat→Act→World→Prop:=fun n a w=>∃st,vl1 G w0 st a w∧z2 keys (run E call lv k c) n st K=some r
    have hμ:∀a w,∃n,(∃m,J m a w)→J n a w∧∀m,J m a w→n≤m:=by
      intro a w;by_cases hx:∃m,J m a w
      · obtain ⟨n,h1,h2⟩:=jtb hx;exact ⟨n,fun _=>⟨h1,h2⟩⟩
      · exact ⟨0,fun h=>absurd h hx⟩
    let μ:Act→World→Nat:=fun a w=>Classical.choose (hμ a w)
    have hμ2:∀a w,(∃m,J m a w)→J (μ a w) a w∧∀m,J m a w→μ a w≤m:=fun a w=>Classical.choose_spec (hμ a w)
    obtain ⟨β,Lf,S1⟩:=S;refine wp_loop (fun a w=>∃n,J n a w) μ ⟨k,_,ja6 S1 keys hm,h⟩ fun a w hI=> ?_
    obtain ⟨hJ,hmin⟩:=hμ2 a w hI;obtain ⟨st1,S2,h1⟩:=hJ;cases hn:μ a w with
    | zero=>rw [hn] at h1;cases h1
    | succ n=>
      rw [hn] at h1;simp only [z2] at h1;refine z43 hE hC hlv c _ _ st1 a w hok S2 h1 fun e st' a' w' S' h'=> ?_
      cases e with
      | normal=>
        simp only at h'
        split at h'
        case h_2=>cases h'
        rename_i st2 hcl2;obtain ⟨β',Lf',S3⟩:=x34 S' hcl2;have hJ':J n a' w':=⟨_,ja6 S3 keys hm,h'⟩;refine ⟨⟨n,hJ'⟩,?_⟩
        have:=(hμ2 a' w' ⟨n,hJ'⟩).2 n hJ'
        omega
      | exit i=>exact hQ (.exit i) st' a' w' S' h'
      | ret=>exact hQ .ret st' a' w' S' h'
  | .exit i,K,Q,st,a,w,_,S,h,hQ=>wp_exit (hQ (.exit i) st a w S h)
  | .ret,K,Q,st,a,w,_,S,h,hQ=>wp_ret (hQ .ret st a w S h)
  | .rangeFunc ..,K,Q,st,a,w,_,S,h,hQ=>by simp [run] at h
  | .scope ..,K,Q,st,a,w,_,S,h,hQ=>by simp [run] at h
  | .label ..,K,Q,st,a,w,_,S,h,hQ=>by simp [run] at h
  | .goto ..,K,Q,st,a,w,_,S,h,hQ=>by simp [run] at h
  | .refuse ..,K,Q,st,a,w,_,S,h,hQ=>by simp [run] at h
end
end Go.V
namespace Go.V
open Go.RowKit (Below)
set_option linter.unusedVariables false
set_option linter.unusedSimpArgs false
def jwb (tmps:Array Value):ResultVar→Sem Value
 | .tmp t=>pure (tmps.getD t undef)
 | .cell a t=>do loadVar t (←asAddr (tmps.getD a undef))
theorem x6a {w:World} {ok:Nat→Prop} {β:Nat→Value} {c:C} {u:Value} (h:VC w ok β c u) (hl:C.lt 0 c):rep w ok c u:=by
 cases c
 case ref x=>exact absurd (hl x (by simp [C.hs])) (Nat.not_lt_zero _)
 case ptr x o=>exact absurd (hl x (by simp [C.hs])) (Nat.not_lt_zero _)
 case el x sz i j=>exact absurd (hl x (by simp [C.hs])) (Nat.not_lt_zero _)
 case sub x sz lo hi=>exact absurd (hl x (by simp [C.hs])) (Nat.not_lt_zero _)
 all_goals exact h
theorem jn5 {w:World} {ok:Nat→Prop} {β:Nat→Value}:∀{cs:List C} {us:List Value},zl (VC w ok β) cs us→(∀c ∈ cs,C.lt 0 c)→wo1 w ok cs us
  | [],[],_,_=>by simp only [wo1]
  | [],_::_,h,_=>by simp [zl] at h
  | _::_,[],h,_=>by simp [zl] at h
  | c::cs,u::us,h,hl=>by
    simp only [wo1];exact ⟨u,us,rfl,x6a h.1 (hl c (by simp)),jn5 h.2 fun x hx=>hl x (by simp [hx])⟩
theorem zi9 {w:World} {ok:Nat→Prop} {sh:Sh} {cs:List C} {x:Ty sh} {us:List Value} (h:rd sh cs=some (x,[])) (hm:wo1 w ok cs us):vi1 w ok sh x us:=by
 obtain ⟨vs,ws,rfl,h3,h4⟩:=z19 sh cs x [] us h hm;simp only [wo1] at h4;subst h4;simpa using h3
section
variable {E:Env} {G:Nat→Prop} {w0:Base} {st:St} {a:Act} {w:World} {β:Nat→Value} {Lf:Nat→List Nat} {R:Type} {r:R} {o:Oper} {call:vk1 E}
theorem vx8 {ok':Nat→Prop} (hok1:∀k,imm G st Lf k→ok' k) (hok2:∀h o,look st.ob h=some o→∀b ∈ Lf h,ok' b) (S:Sim G w0 st a w β Lf) {f:Sh} {v:AV} {u:Value} {x:Ty f} {st1:St} (hv:VA w (imm G st Lf) β v u) (h:vy9 false f v st=some (x,st1)):
 st1=st∧∃cs,u=zn1 f.agg cs∧vi1 w ok' f x cs:=by
 unfold vy9 at h;split at h
 · rename_i hag;simp only [Bool.false_eq_true,if_false] at h;split at h
   · rename_i cs hda;split at h
     · rename_i y hrd;simp only [Option.some.injEq,Prod.mk.injEq] at h;obtain ⟨rfl,rfl⟩:=h;obtain ⟨us,hu,hall⟩:=y45 hag hv;obtain ⟨h1,h2⟩:=jn4 hok1 hok2 S hda hall;exact ⟨rfl,us,hu,zi9 hrd (jn5 h1 h2)⟩
     · cases h
   · cases h
 · cases h
theorem ww8:∀(fs:List Sh) (vs:List AV) (us:List Value) (st:St) (x:TyL fs),Sim G w0 st a w β Lf→zl (VA w (imm G st Lf) β) vs us→j68 true fs vs st=some x→
    ∃L,jv8 w fs x us L∧L.Nodup∧∀b ∈ L,∃h o,look st.ob h=some o∧b ∈ Lf h
  | [],[],us,st,x,S,hv,h=>by
    cases us with
    | nil=>exact ⟨[],⟨rfl,rfl⟩,List.nodup_nil,by simp⟩
    | cons u us=>simp [zl] at hv
  | [f],[v],us,st,x,S,hv,h=>by
    replace h:(match vy9 true f v st with | some (x,_)=>some x | none=>none:Option (Ty f))=some x:=h
    split at h
    · rename_i y st1 h1;replace h:=Option.some.inj h;subst h
      match us,hv with
      | [u],hv=>
        obtain ⟨cs,L,rfl,h2,h3,h4,h5,h6⟩:=yi7 S hv.1 h1;exact ⟨L,⟨cs,rfl,h2⟩,h6,fun b hb=>by obtain ⟨h,o,h7,_,h8⟩:=h5 b hb;exact ⟨h,o,h7,h8⟩⟩
    · cases h
  | f::g::r,v::vs,us,st,x,S,hv,h=>by
    replace h:(match vy9 true f v st with | some (x,st)=>(match j68 true (g::r) vs st with | some y=>some (x,y) | none=>none:Option (Ty f×TyL (g::r))) | none=>none)=some x:=h
    split at h
    · rename_i y st1 h1;split at h
      · rename_i z h2;replace h:=Option.some.inj h;subst h
        match us,hv with
        | u::us,hv=>
          obtain ⟨cs,L,rfl,h3,h4,h5,h6,h7⟩:=yi7 S hv.1 h1;have S1:Sim G w0 { st with ob:=st1.ob } a w β Lf:=S.fewer h5
          rw [h4] at h2;have himm:∀k,imm G st Lf k→k<w.heap.size→imm G { st with ob:=st1.ob } Lf k∧w.heap[k]? =w.heap[k]? :=fun k hk _=>⟨⟨hk.1,fun n o ho=>hk.2 n o (h5 n o ho)⟩,rfl⟩
          obtain ⟨L2,g1,g2,g3⟩:=ww8 (g::r) vs us _ z S1 (hv.2.imp fun v _ u hu=>hu.fewer himm) h2
          refine ⟨L++L2,⟨cs,us,L,L2,rfl,rfl,h3,g1⟩,List.nodup_append.2 ⟨h7,g2,?_⟩,?_⟩
          · rintro b hb b' hb' rfl
            obtain ⟨h,o,e1,e2,e3⟩:=h6 b hb;obtain ⟨h',o',f1,f3⟩:=g3 b hb';exact S.disj h o h' o' e1 (h5 h' o' f1) (fun e=>by rw [←e] at f1;simp only at f1;rw [e2] at f1;cases f1) b e3 f3
          · intro b hb;rcases List.mem_append.1 hb with hb | hb
            · obtain ⟨h,o,e1,e2,e3⟩:=h6 b hb;exact ⟨h,o,e1,e3⟩
            · obtain ⟨h',o',f1,f3⟩:=g3 b hb;exact ⟨h',o',h5 h' o' f1,f3⟩
      · cases h
    · cases h
  | [],_::_,us,st,x,S,hv,h=>by simp [j68] at h
  | [f],[],us,st,x,S,hv,h=>by simp [j68] at h
  | [f],_::_::_,us,st,x,S,hv,h=>by simp [j68] at h
  | f::g::r,[],us,st,x,S,hv,h=>by simp [j68] at h
theorem xu8 {ok':Nat→Prop}:∀(fs:List Sh) (vs:List AV) (us:List Value) (st:St) (x:TyL fs),(∀k,imm G st Lf k→ok' k)→(∀h o,look st.ob h=some o→∀b ∈ Lf h,ok' b)→Sim G w0 st a w β Lf→zl (VA w (imm G st Lf) β) vs us→j68 false fs vs st=some x→
    y78 w ok' fs x us
  | [],[],us,st,x,_,_,S,hv,h=>by
    cases us with
    | nil=>rfl
    | cons u us=>simp [zl] at hv
  | [f],[v],us,st,x,hok1,hok2,S,hv,h=>by
    replace h:(match vy9 false f v st with | some (x,_)=>some x | none=>none:Option (Ty f))=some x:=h
    split at h
    · rename_i y st1 h1;replace h:=Option.some.inj h;subst h
      match us,hv with
      | [u],hv=>
        obtain ⟨_,cs,rfl,h2⟩:=vx8 hok1 hok2 S hv.1 h1;exact ⟨cs,rfl,h2⟩
    · cases h
  | f::g::r,v::vs,us,st,x,hok1,hok2,S,hv,h=>by
    replace h:(match vy9 false f v st with | some (x,st)=>(match j68 false (g::r) vs st with | some y=>some (x,y) | none=>none:Option (Ty f×TyL (g::r))) | none=>none)=some x:=h
    split at h
    · rename_i y st1 h1;split at h
      · rename_i z h2;replace h:=Option.some.inj h;subst h
        match us,hv with
        | u::us,hv=>
          obtain ⟨rfl,cs,rfl,h3⟩:=vx8 hok1 hok2 S hv.1 h1;exact ⟨cs,us,rfl,h3,xu8 (g::r) vs us _ z hok1 hok2 S hv.2 h2⟩
      · cases h
    · cases h
  | [],_::_,us,st,x,_,_,S,hv,h=>by simp [j68] at h
  | [f],[],us,st,x,_,_,S,hv,h=>by simp [j68] at h
  | [f],_::_::_,us,st,x,_,_,S,hv,h=>by simp [j68] at h
  | f::g::r,[],us,st,x,_,_,S,hv,h=>by simp [j68] at h
theorem zu6 (hE:EnvOk E) (S:Sim G w0 st a w β Lf) {rv:ResultVar} {v:AV} (h:zc7 E st rv=some v):
    ∃u,(jwb a.tmps rv).run E.P w= .ok u w∧VA w (imm G st Lf) β v u:=by
  cases rv with
  | tmp t=>exact ⟨_,rfl,S.slots t v h⟩
  | cell ad t=>
    simp only [zc7] at h;split at h
    · rename_i hh i hs hi;split at h
      · rename_i cs hob;split at h
        · rename_i hl;have hT:=hE.ty _ _ hi;obtain ⟨b,hb1,hb2⟩:∃b,β hh= .pointer (some ⟨b,0,none⟩)∧a.tmps.getD ad undef= .pointer (some ⟨b,0,none⟩):=S.slots ad _ hs;obtain ⟨b',ty,us,hb3,hb4,hb5,hb6⟩:=S.obs _ _ hob;rw [hb1] at hb3
          injection hb3 with hb3
          injection hb3 with hb3
          injection hb3 with hb3
          subst hb3;have hlen:(us.take i.sz).length=i.sz:=by rw [List.length_take,←hb6.len];omega
          have hr:=v42 hT (w:=w) (ad:=⟨b,0,none⟩) (us:=us.take i.sz) hlen fun j u hu=>by
            rw [List.getElem?_take] at hu
            split at hu
            · rw [yx,cell_of_row w b _ _ ty (0,0) hb5];simpa using hu
            · cases hu
          refine ⟨_,?_,yp2 h (wt1 (hb6.take i.sz) fun hb=> ?_)⟩
          · show (do loadVar t (←asAddr (a.tmps.getD ad undef)):Sem Value).run E.P w=_
            rw [hb2];simpa only [Instr.loadAt,Instr.sureAddr,asAddr] using hr
          · rw [List.length_take,Nat.min_eq_left hl,←hT.n];exact Sh.n_one (by rw [hT.agg,hb])
        · cases h
      · cases h
    · cases h
theorem vj4 (hE:EnvOk E) (S:Sim G w0 st a w β Lf):∀(rvs:List ResultVar) (vs:List AV),ji3 E st rvs=some vs→
    ∃us,(rvs.mapM (jwb a.tmps)).run E.P w= .ok us w∧zl (VA w (imm G st Lf) β) vs us
  | [],vs,h=>by simp only [ji3,Option.some.injEq] at h;subst h;exact ⟨[],by simp,trivial⟩
  | rv::rvs,vs,h=>by
    simp only [ji3] at h;split at h
    · rename_i v hv;split at h
      · rename_i ws hws;simp only [Option.some.injEq] at h;subst h;obtain ⟨u,h1,h2⟩:=zu6 hE S hv;obtain ⟨us,h3,h4⟩:=vj4 hE S rvs ws hws;refine ⟨u::us,?_,h2,h4⟩
        rw [List.mapM_cons];simp only [Sem.run_bind,h1,h3,Result.andThen_ok,Sem.run_pure]
      · cases h
    · cases h
theorem xz2 {x:AV}:∀(xs:List AV) (n t:Nat),look (xm4 n xs) t=some x→n≤t∧xs[t-n]? =some x
  | [],n,t,h=>by cases h
  | y::r,n,t,h=>by
    simp only [xm4,look] at h;split at h
    · rename_i e;subst e;simp only [Option.some.injEq] at h;subst h;simp
    · obtain ⟨h1,h2⟩:=xz2 r (n+1) t h;refine ⟨by omega,?_⟩
      rw [show t-n=(t-(n+1))+1 by omega]
      simpa using h2
theorem yx7:∀(xs:List AV) (n i:Nat),look (xm4 n xs) (n+i)=xs[i]?
  | [],n,i=>by simp [xm4,look]
  | x::r,n,0=>by simp [xm4,look]
  | x::r,n,i+1=>by
    simp only [xm4,look];rw [if_neg (by omega),show n+(i+1)=(n+1)+i by omega,yx7 r (n+1) i]
    simp
def vw8:Nat→List (Option Sh)→List AV→List (Nat×AV)
 | n,[],xs=>xm4 n xs
 | _,_::_,[]=>[]
 | n,some _::t,_::r=>vw8 (n+1) t r
 | n,none::t,x::r=>(n,x)::vw8 (n+1) t r
theorem xf6 {G':Nat→Prop}:∀(t:List (Option Sh)) (xs:List AV) (us:List Value) (L:List Nat) (j k:Nat) (v:AV),yu3 w G' t xs us L→look (vw8 j t xs) k=some v→j≤k∧∃u,us[k-j]? =some u∧VA w G' (fun _=>undef) v u∧v.lt 0
  | [],xs,us,L,j,k,v,h,hl=>by
    obtain ⟨h1,h2⟩:=xz2 xs j k hl;obtain ⟨u,h3,h4⟩:=h.1.at (k-j) v h2;exact ⟨h1,u,h3,h4,h.2.1 v (List.mem_of_getElem? h2)⟩
  | _::_,[],us,L,j,k,v,h,hl=>h.elim
  | some sh::t,x::xs,us,L,j,k,v,h,hl=>by
    obtain ⟨u,vs,rfl,y,cs,L1,L2,_,_,_,_,h⟩:=h;obtain ⟨h1,u',h2,h3⟩:=xf6 t xs vs L2 (j+1) k v h hl;refine ⟨by omega,u',?_,h3⟩
    rw [show k-j=(k-(j+1))+1 by omega]
    simpa using h2
  | none::t,x::xs,us,L,j,k,v,h,hl=>by
    obtain ⟨u,vs,rfl,g1,g2,h⟩:=h;simp only [vw8,look] at hl;split at hl
    · rename_i e;subst e;simp only [Option.some.injEq] at hl;subst hl;exact ⟨Nat.le_refl _,u,by simp,g1,g2⟩
    · obtain ⟨h1,u',h2,h3⟩:=xf6 t xs vs L (j+1) k v h hl;refine ⟨by omega,u',?_,h3⟩
      rw [show k-j=(k-(j+1))+1 by omega]
      simpa using h2
theorem zn9:∀(t:List (Option Sh)) (xs:List AV) (j k:Nat) (v:AV),look (vw8 j t xs) k=some v→j≤k
  | [],xs,j,k,v,h=>(xz2 xs j k h).1
  | _::_,[],j,k,v,h=>by simp [vw8,look] at h
  | some sh::t,x::xs,j,k,v,h=>by have:=zn9 t xs (j+1) k v h;omega
  | none::t,x::xs,j,k,v,h=>by
    simp only [vw8,look] at h;split at h
    · omega
    · have:=zn9 t xs (j+1) k v h;omega
theorem z07 {α β:Type} {R:α→β→Prop}:∀{xs ys:List α} {us:List β},zl R (xs++ys) us→∃vs ws,us=vs++ws∧zl R xs vs∧zl R ys ws
  | [],ys,us,h=>⟨[],us,rfl,trivial,h⟩
  | x::xs,ys,[],h=>h.elim
  | x::xs,ys,u::us,h=>by
    obtain ⟨vs,ws,rfl,h1,h2⟩:=z07 (xs:=xs) h.2;exact ⟨u::vs,ws,rfl,⟨h.1,h1⟩,h2⟩
mutual
theorem jo6 {β:Nat→Value}:(sh:Sh)→(x:Ty sh)→(n:Nat)→(us:List Value)→zl (VS β) (wd2 sh x n).1 us→n≤(wd2 sh x n).2.2∧us.filter slV=(List.range' n ((wd2 sh x n).2.2-n)).map β
  | .b,x,n,us,h=>by
    match us,h with
    | [u],h=>simp only [wd2] at h ⊢;rw [h.1.1];simp [slV]
  | .i k,x,n,us,h=>by
    match us,h with
    | [u],h=>simp only [wd2] at h ⊢;rw [h.1.1];simp [slV]
  | .s,x,n,us,h=>by
    match us,h with
    | [u],h=>simp only [wd2] at h ⊢;rw [h.1.1];simp [slV]
  | .l e sh,x,n,us,h=>by
    match us,h with
    | [u],h=>
      simp only [wd2] at h ⊢;obtain ⟨h1,A,m,c,h2⟩:u=β n∧∃A n c,u= .slice A n c:=h.1;have h3:slV u=true:=by rw [h2];rfl
      refine ⟨Nat.le_succ n,?_⟩
      rw [Nat.add_sub_cancel_left];subst h1;simp only [List.filter_cons,h3,if_true,List.filter_nil,List.range'_one,List.map_cons,List.map_nil]
  | .a fs,x,n,us,h=>by simp only [wd2] at h ⊢;exact xy6 fs x n us h
theorem xy6 {β:Nat→Value}:(fs:List Sh)→(x:TyL fs)→(n:Nat)→(us:List Value)→zl (VS β) (xt1 fs x n).1 us→n≤(xt1 fs x n).2.2∧us.filter slV=(List.range' n ((xt1 fs x n).2.2-n)).map β
  | [],x,n,us,h=>by
    match us,h with
    | [],h=>simp [xt1]
  | [f],x,n,us,h=>by simp only [xt1] at h ⊢;exact jo6 f x n us h
  | f::g::r,x,n,us,h=>by
    simp only [xt1] at h ⊢;obtain ⟨vs,ws,rfl,h1,h2⟩:=z07 h;obtain ⟨a1,a2⟩:=jo6 f x.1 n vs h1;obtain ⟨b1,b2⟩:=xy6 (g::r) x.2 _ ws h2;refine ⟨Nat.le_trans a1 b1,?_⟩
    rw [List.filter_append,a2,b2,←List.map_append]
    congr 1
    have e:∀p q n:Nat,n≤p→p≤q→List.range' n (p-n)++List.range' p (q-p)=List.range' n (q-n):=by
      intro p q n h1 h2;have h3:=List.range'_append_1 (s:=n) (m:=p-n) (n:=q-p);rw [show n+(p-n)=p by omega,show p-n+(q-p)=q-n by omega] at h3
      exact h3
    exact e _ _ n a1 b1
end
theorem wc7:∀(t:List (Option Sh)) (us:List Value) (v:Value),v ∈ y22 t us→slV v=true
  | [],us,v,h=>by simp [y22] at h
  | some _::t,[],v,h=>by simp [y22] at h
  | none::t,[],v,h=>by simp [y22] at h
  | some _::t,u::us,v,h=>by
    simp only [y22,List.mem_append,List.mem_filter] at h;rcases h with h | h
    · exact h.2
    · exact wc7 t us v h
  | none::t,u::us,v,h=>wc7 t us v (by simpa only [y22] using h)
theorem wy3 {G':Nat→Prop}:∀(t:List (Option Sh)) (xs ys:List AV) (us:List Value) (L:List Nat) (j:Nat) (os:List (Nat×Ob)) (n:Nat) (st:St) (β:Nat→Value) (Lf:Nat→List Nat),Sim G w0 st a w β Lf→Free G st a w β Lf L→L.Nodup→(∀b ∈ L,(w0.w.heap.size≤b∨b ∈ w0.T)∧b<w.heap.size)→
    yu3 w G' t xs us L→yr3 t xs st.nx=some (ys,os,n)→
    ∃β' Lf',Sim G w0 { st with ob:=xx1 os st.ob,nx:=n } a w β' Lf'∧st.nx≤n∧(∀h,h<st.nx→β' h=β h)∧y22 t us=(List.range' st.nx (n-st.nx)).map β'∧∀i v,ys[i]? =some v→look (vw8 j t xs) (j+i)=some v∨∃u,us[i]? =some u∧∀ok,VA w ok β' v u∧v.lt n
  | [],xs,ys,us,L,j,os,n,st,β,Lf,S,F,hnd,hn,h,hi=>by
    simp only [yr3,Option.some.injEq,Prod.mk.injEq] at hi;obtain ⟨rfl,rfl,rfl⟩:=hi;exact ⟨β,Lf,S,Nat.le_refl _,fun _ _=>rfl,by simp [y22],fun i v hv=> .inl (by rw [vw8,yx7];exact hv)⟩
  | _::_,[],ys,us,L,j,os,n,st,β,Lf,S,F,hnd,hn,h,hi=>h.elim
  | some sh::t,x::xs,ys,us,L,j,os,n,st,β,Lf,S,F,hnd,hn,h,hi=>by
    obtain ⟨u,vs,rfl,y,cs,L1,L2,h1,h2,h3,rfl,h⟩:=h;simp only [yr3,h1] at hi;split at hi
    · rename_i v hv;split at hi
      · rename_i ys' ps n' hr;simp only [Option.some.injEq,Prod.mk.injEq] at hi;obtain ⟨rfl,rfl,rfl⟩:=hi;obtain ⟨β1,Lf1,S1,F1,k1,k2,k3,k4⟩:=vw2 sh y cs L1 L2 st β Lf S F hnd (fun b hb=>hn b (List.mem_append_left _ hb)) h3
        have hnd2:=(List.nodup_append.1 hnd).2.1;obtain ⟨β2,Lf2,S2,m1,m2,mr,m3⟩:=wy3 t xs ys' vs L2 (j+1) ps n' _ β1 Lf1 S1 F1 hnd2 (fun b hb=>hn b (List.mem_append_right _ hb)) h hr
        refine ⟨β2,Lf2,by rw [zd2];exact S2,Nat.le_trans k4 m1,fun h hh=>(m2 h (Nat.lt_of_lt_of_le hh k4)).trans (k3 h hh),?_,?_⟩
        · have hall:zl (VS β2) (wd2 sh y st.nx).1 cs:=k1.imp fun c hc u hu=>hu.up (k2 c hc) m2
          obtain ⟨r1,r2⟩:=jo6 sh y st.nx cs hall;have hcells:u.cells.toList=cs:=by
            rw [h2];unfold zn1;cases hb:sh.agg with
            | true=>simp [Value.cells]
            | false=>
              have hl1:cs.length=1:=by rw [jk2 h3];exact Sh.n_one hb
              match cs,hl1,hall with
              | [c],_,hall=>
                match (wd2 sh y st.nx).1,hall with
                | [d],hall=>simp [zn2 ((hall.1.vc (w:=w) (ok:=fun _=>True)).one)]
          simp only at mr
          rw [y22,hcells,r2,mr,←List.map_append]
          congr 1
          have e:n'-st.nx=((wd2 sh y st.nx).2.2-st.nx)+(n'-(wd2 sh y st.nx).2.2):=by
            simp only at m1
            omega
          rw [e,←List.range'_append_1,show st.nx+((wd2 sh y st.nx).2.2-st.nx)=(wd2 sh y st.nx).2.2 by omega]
        · intro i w' hw';cases i with
          | zero=>
            simp only [List.getElem?_cons_zero,Option.some.injEq] at hw'
            subst hw';refine .inr ⟨u,by simp,fun ok=> ?_⟩
            have hall:zl (VC w ok β2) (wd2 sh y st.nx).1 cs:=k1.imp fun c hc u hu=>(hu.up (k2 c hc) m2).vc
            refine ⟨yp2 hv ?_,zy2 hv fun c hc=>C.lt_up (k2 c hc) m1⟩
            rw [h2];exact wt1 hall fun hb=>by rw [k1.len,jk2 h3];exact Sh.n_one hb
          | succ i=>
            simp only [List.getElem?_cons_succ] at hw'
            rcases m3 i w' hw' with g | ⟨u',g1,g2⟩
            · left
              rw [vw8,show j+(i+1)=(j+1)+i by omega]
              exact g
            · exact .inr ⟨u',by simpa using g1,g2⟩
      · cases hi
    · cases hi
  | none::t,x::xs,ys,us,L,j,os,n,st,β,Lf,S,F,hnd,hn,h,hi=>by
    obtain ⟨u,vs,rfl,g1,g2,h⟩:=h;simp only [yr3] at hi;split at hi
    · rename_i ys' ps n' hr;simp only [Option.some.injEq,Prod.mk.injEq] at hi;obtain ⟨rfl,rfl,rfl⟩:=hi;obtain ⟨β2,Lf2,S2,m1,m2,mr,m3⟩:=wy3 t xs ys' vs L (j+1) _ _ st β Lf S F hnd hn h hr;refine ⟨β2,Lf2,S2,m1,m2,by rw [y22];exact mr,?_⟩
      intro i w' hw';cases i with
      | zero=>
        simp only [List.getElem?_cons_zero,Option.some.injEq] at hw'
        subst hw';left
        simp [vw8,look]
      | succ i=>
        simp only [List.getElem?_cons_succ] at hw'
        rcases m3 i w' hw' with g | ⟨u',g1,g2⟩
        · left
          simp only [vw8,look];rw [if_neg (by omega),show j+(i+1)=(j+1)+i by omega]
          exact g
        · exact .inr ⟨u',by simpa using g1,g2⟩
    · cases hi
theorem wy6:∀(t:List (Option Sh)) (xs ys:List AV) (m:Nat) (os:List (Nat×Ob)) (n:Nat),yr3 t xs m=some (ys,os,n)→ys.length=xs.length
  | [],xs,ys,m,os,n,h=>by
    simp only [yr3,Option.some.injEq,Prod.mk.injEq] at h;rw [h.1]
  | _::_,[],ys,m,os,n,h=>by simp [yr3] at h
  | some sh::t,x::xs,ys,m,os,n,h=>by
    simp only [yr3] at h;split at h
    · split at h
      · split at h
        · rename_i hr;simp only [Option.some.injEq,Prod.mk.injEq] at h;obtain ⟨rfl,rfl,rfl⟩:=h;simp [wy6 t xs _ _ _ _ hr]
        · cases h
      · cases h
    · cases h
  | none::t,x::xs,ys,m,os,n,h=>by
    simp only [yr3] at h;split at h
    · rename_i hr;simp only [Option.some.injEq,Prod.mk.injEq] at h;obtain ⟨rfl,rfl,rfl⟩:=h;simp [wy6 t xs _ _ _ _ hr]
    · cases h
theorem z58 (hE:EnvOk E) (hok:∀f F c,E.fn f=some F→F.body=some c→yf2 c=true) (hext:∀f g,E.ext f=some g→yy6 E f g):∀k,wr9 E (den E k)
  | 0=>fun f xs p h=>by cases h
  | k+1=>fun f xs p h=>by
    have hC:=z58 hE hok hext k;simp only [den] at h;split at h
    · rename_i g hg;exact hext f g hg xs p h
    · split at h
      · cases h
      · rename_i F hF;split at h
        · cases h
        · rename_i c hc;split at h
          · rename_i hlen;split at h
            rotate_left
            · cases h
            rename_i ys os n hin;split at h
            rotate_left
            · cases h
            rename_i hio;simp only [Bool.and_eq_true,beq_iff_eq,decide_eq_true_eq] at hio;obtain ⟨hio1,hio2⟩:=hio;have hfn:=hE.fn f F hF;refine ⟨⟨F,hfn,hE.body f F hF,by rw [hc];rfl⟩,fun G w us L0 htab hargs hnd hL0=> ?_⟩
            have hul:=hargs.len;have start:∃β' Lf',Sim (fun k=>k<w.heap.size→G k∨k ∈ L0) ⟨w,L0,(E.rs f).io,β'⟩ { nt:=F.ntmps,nx:=n,sl:=xm4 0 ys,ob:=xx1 os [] } { tmps:=us.toArray++Array.replicate (F.ntmps-us.toArray.size) undef,defers:=[] } w β' Lf'∧y22 (E.tk f) us=(List.range n).map β':=by
              have hget:∀(t:Nat) (u:Value),us[t]? =some u→(us.toArray++Array.replicate (F.ntmps-us.toArray.size) undef).getD t undef=u:=by
                intro t u h2;have hlt':t<us.length:=(List.getElem?_eq_some_iff.1 h2).1
                rw [Array.getD_eq_getD_getElem?,Array.getElem?_append_left (by simpa using hlt')]
                simpa using congrArg (·.getD undef) h2
              have S0:Sim (fun k=>k<w.heap.size→G k∨k ∈ L0) ⟨w,L0,0,fun _=>undef⟩ { nt:=F.ntmps,nx:=0,sl:=vw8 0 (E.tk f) xs,ob:=[] } { tmps:=us.toArray++Array.replicate (F.ntmps-us.toArray.size) undef,defers:=[] } w (fun _=>undef) fun _=>[]:=by
                refine { fresh:=fun k hk h=> ?_,below:=Chg.refl _ w,defers:=rfl,size:= ?_,slots:= ?_,slt:= ?_,obs:=fun h o ho=>(by cases ho),olt:=fun h o ho=>(by cases ho),new:=fun h o ho=>(by cases ho),nodup:=fun h o ho=>(by cases ho),disj:=fun h o h' o' ho=>(by cases ho),pin:=fun i hi=>absurd hi (Nat.not_lt_zero _),pinx:=Nat.zero_le _ }
                · rcases hk with hk | hk
                  · exact absurd h (by simp only at hk;omega)
                  · exact .inr hk
                · simp
                  omega
                · intro t v ht;obtain ⟨_,u,h2,h3,_⟩:=xf6 _ _ _ _ 0 t v hargs ht;rw [hget t u h2];exact h3.fewer fun k hk _=>⟨⟨fun _=> .inl hk,fun h o ho=>(by cases ho)⟩,rfl⟩
                · intro t v ht;obtain ⟨_,u,h2,_,h4⟩:=xf6 _ _ _ _ 0 t v hargs ht;exact h4
              have F0:Free (fun k=>k<w.heap.size→G k∨k ∈ L0) { nt:=F.ntmps,nx:=0,sl:=vw8 0 (E.tk f) xs,ob:=[] } { tmps:=us.toArray++Array.replicate (F.ntmps-us.toArray.size) undef,defers:=[] } w (fun _=>undef) (fun _=>[]) L0:=by
                refine ⟨fun t v ht=> ?_,fun h o ho=>(by cases ho),fun h o ho=>(by cases ho)⟩
                obtain ⟨_,u,h2,h3,_⟩:=xf6 _ _ _ _ 0 t v hargs ht;rw [hget t u h2];exact h3.fewer fun k hk _=>⟨⟨⟨fun _=> .inl hk,fun h o ho=>(by cases ho)⟩,fun hm=>(hL0 k hm).2 hk⟩,rfl⟩
              obtain ⟨β',Lf',S',_,_,hrv,hys⟩:=wy3 _ _ _ _ _ 0 _ _ _ _ _ S0 F0 hnd (fun b hb=>⟨.inr hb,(hL0 b hb).1⟩) hargs hin
              refine ⟨β',Lf',{ fresh:=S'.fresh,below:=S'.below,defers:=S'.defers,size:=S'.size,slots:= ?_,slt:= ?_,obs:=S'.obs,olt:=S'.olt,new:=S'.new,nodup:=S'.nodup,disj:=S'.disj,pin:=fun _ _=>rfl,pinx:=hio2 },by rw [hrv,List.range_eq_range'];rfl⟩
              · intro t v ht;obtain ⟨_,h1⟩:=xz2 ys 0 t ht;rw [Nat.sub_zero] at h1;rcases hys t v h1 with g | ⟨u,g1,g2⟩
                · exact S'.slots t v (by simpa using g)
                · rw [hget t u g1];exact (g2 _).1
              · intro t v ht;obtain ⟨_,h1⟩:=xz2 ys 0 t ht;rw [Nat.sub_zero] at h1;rcases hys t v h1 with g | ⟨u,g1,g2⟩
                · exact S'.slt t v (by simpa using g)
                · exact (g2 (fun _=>True)).2
            obtain ⟨β0,Lf0,Sst,hrv⟩:=start;refine calls_of_wp hfn hc (z43 (G:=fun k=>k<w.heap.size→G k∨k ∈ L0) (w0:=⟨w,L0,(E.rs f).io,β0⟩) hE ⟨hC,htab⟩ (by rw [←hio1];exact Nat.le_refl _) c _ _ _ _ _ (hok f F c hF hc) ⟨β0,Lf0,Sst⟩ h fun e st1 a' w' S00 hfin=> ?_)
            have key:∀st',vl1 (fun k=>k<w.heap.size→G k∨k ∈ L0) ⟨w,L0,(E.rs f).io,β0⟩ st' a' w'→(match ji3 E st' F.results.toList with | some vs=>j68 (E.rs f).own (E.rs f).shs (vs++(List.range (E.rs f).io).map fun i=> .c (.ref i)) st' | none=>none)=some p→a'.defers=[]∧∃v,(results F a'.tmps).run E.P w'= .ok v w'∧∃v',Ending.returned v= .returned v'∧Chg L0 w w'∧xga G w w' L0 (y22 (E.tk f) us) (E.rs f) p v':=by
                rintro st' ⟨β,Lf,S⟩ hfin
                split at hfin
                · rename_i vs hvs;obtain ⟨us',h1,h2⟩:=vj4 hE S _ vs hvs;have hrefs:zl (VA w' (imm (fun k=>k<w.heap.size→G k∨k ∈ L0) st' Lf) β) ((List.range (E.rs f).io).map fun i=>AV.c (.ref i)) ((List.range (E.rs f).io).map β):=by
                    have go:∀l:List Nat,(∀i ∈ l,i<(E.rs f).io)→zl (VA w' (imm (fun k=>k<w.heap.size→G k∨k ∈ L0) st' Lf) β) (l.map fun i=>AV.c (.ref i)) (l.map β):=by
                      intro l;induction l with
                      | nil=>intro _;exact trivial
                      | cons i l ih=>
                        intro hl;refine ⟨⟨rfl,?_⟩,ih fun j hj=>hl j (by simp [hj])⟩
                        have hi:=hl i (by simp)
                        have hp:β i=β0 i:=S.pin i hi;have hm:β0 i ∈ y22 (E.tk f) us:=by
                          rw [hrv];exact List.mem_map.2 ⟨i,List.mem_range.2 (Nat.lt_of_lt_of_le hi hio2),rfl⟩
                        have hs:=wc7 _ _ _ hm;rw [hp];cases hq:β0 i<;>rw [hq] at hs<;>simp [slV] at hs
                        exact ⟨_,_,_,rfl⟩
                    exact go _ fun i hi=>List.mem_range.1 hi
                  have hall:=h2.append hrefs;have hdrop:(us'++(List.range (E.rs f).io).map β).length-(E.rs f).io=us'.length:=by simp
                  refine ⟨S.defers,if h:us'.toArray.size=1 then us'.toArray[0] else .tuple us'.toArray,?_,_,rfl,S.below,us'++(List.range (E.rs f).io).map β,?_,?_,?_⟩
                  · have hm:(F.results.mapM (jwb a'.tmps)).run E.P w'= .ok us'.toArray w':=by
                      rw [←Array.toArray_toList (xs:=F.results),List.mapM_toArray,Sem.run_map,h1];rfl
                    unfold results;rw [Sem.run_bind];refine (congrArg (fun x:Result (Array Value)=>x.andThen _) hm).trans ?_
                    simp only [Result.andThen_ok,Sem.run_pure]
                  · rw [hdrop,List.take_left]
                    match us' with
                    | []=>rfl
                    | [u]=>rfl
                    | u1::u2::r=>rfl
                  · rw [hdrop,List.drop_left,hrv,←List.map_take,List.take_range,Nat.min_eq_left hio2];exact List.map_congr_left fun i hi=>S.pin i (List.mem_range.1 hi)
                  · split
                    · rename_i hown;rw [hown] at hfin;obtain ⟨L,h3,h4,h5⟩:=ww8 _ _ _ st' p S hall hfin;exact ⟨L,h3,h4,fun b hb=>by obtain ⟨h,o,h6,h7⟩:=h5 b hb;exact S.new h o h6 b h7⟩
                    · rename_i hown;rw [Bool.eq_false_iff.2 hown] at hfin;exact xu8 _ _ _ st' p (fun k hk=>hk.1) (fun h o ho b hb hlt=>by
                        rcases (S.new h o ho b hb).1 with h5 | h5
                        · exact absurd hlt (by simp only at h5;omega)
                        · exact .inr h5) S hall hfin
                · cases hfin
            have key2:(match st1.closeAll with
                | some st=>match ji3 E st F.results.toList with | some vs=>j68 (E.rs f).own (E.rs f).shs (vs++(List.range (E.rs f).io).map fun i=> .c (.ref i)) st | none=>none
                | none=>none)=some p→a'.defers=[]∧∃v,(results F a'.tmps).run E.P w'= .ok v w'∧∃v',Ending.returned v= .returned v'∧Chg L0 w w'∧xga G w w' L0 (y22 (E.tk f) us) (E.rs f) p v':=by
              intro h;split at h
              · rename_i st2 hcl;exact key st2 (x34 S00 hcl) h
              · cases h
            cases e with
            | exit i=>cases hfin
            | normal=>exact key2 hfin
            | ret=>exact key2 hfin
          · cases h
end
end Go.V
namespace Go.V
open Go.RowKit (Below)
set_option linter.unusedVariables false
set_option linter.unusedSimpArgs false
mutual
def zka (P:Program):Sh→TypeId→Bool
 | .b,t=>match P.underlying t with | some .bool=>true | _=>false
 | .i k,t=>match P.underlying t with | some (.int k')=>decide (k'=k) | _=>false
 | .s,t=>match P.underlying t with | some .string=>true | _=>false
 | .l e sh,t=>match P.underlying t with | some (.slice e')=>e'==e&&(zka P sh e&&(P.cellsOf e==sh.n&&decide (0<sh.n))) | _=>false
 | .a fs,t=>match P.underlying t with | some (.struct ds)=>P.cellsOf t==Sh.nL fs&&y88 P fs ds.toList 0 | _=>false
def y88 (P:Program):List Sh→List Field→Nat→Bool
 | [],[],_=>true
 | f::r,d::q,off=>d.offset==off&&(zka P f d.type&&(P.cellsOf d.type==f.n&&y88 P r q (off+f.n)))
 | _,_,_=>false
end
def inR (k:IntKind) (n:Int):Prop:=k.min≤n∧n≤k.max
def inS (s:ByteArray):Prop:=s.size≤reachBytes
def inL {α:Type} (R:α→Prop) (b:Nat) (xs:List α):Prop:=xs.length*b≤reachBytes∧∀x ∈ xs,R x
mutual
def wfT (P:Program):(sh:Sh)→Ty sh→Prop
 | .b,_=>True
 | .i k,n=>inR k n
 | .s,s=>inS s
 | .l e sh,xs=>inL (wfT P sh) (P.bytesOf e) xs
 | .a fs,x=>w4b P fs x
def w4b (P:Program):(fs:List Sh)→TyL fs→Prop
 | [],_=>True
 | [f],x=>wfT P f x
 | f::g::r,x=>wfT P f x.1∧w4b P (g::r) x.2
end
section
variable {H:Type} {enc:TypeId×Value→H} {P:Program} {w:World} {spare:Nat→Bool} {held:Bool}
mutual
theorem j56:(sh:Sh)→(t:TypeId)→(fuel:Nat)→(cs:List Value)→(x:DataW H×List MemPlace)→zka P sh t=true→DataW.trod enc P w 0 spare held fuel t cs=some x→(∀n ∈ x.1.weights P t,n≤reachBytes)→
    ∃y:Ty sh,vi1 w (fun _=>True) sh y cs∧wfT P sh y
  | .b,t,fuel,cs,x,hs,h,hw=>by
    unfold zka at hs;split at hs
    · rename_i ht;obtain ⟨b,rfl,_⟩:=DataW.trod_bool ht h;exact ⟨b,by simp only [vi1],trivial⟩
    · cases hs
  | .i k,t,fuel,cs,x,hs,h,hw=>by
    unfold zka at hs;split at hs
    · rename_i k' ht
      obtain rfl:k'=k:=by simpa using hs
      obtain ⟨n,rfl,_,hwf⟩:=DataW.trod_int ht h;simp only [Lit.wf,Bool.and_eq_true,decide_eq_true_eq] at hwf;exact ⟨n,by simp only [vi1],by simp only [wfT];exact hwf⟩
    · cases hs
  | .s,t,fuel,cs,x,hs,h,hw=>by
    unfold zka at hs;split at hs
    · rename_i ht;obtain ⟨s,rfl,rfl,_⟩:=DataW.trod_string ht h;refine ⟨s,by simp only [vi1],?_⟩
      have:=hw s.data.toList.length (by simp [DataW.weights])
      simp only [wfT,inS];simpa using this
    · cases hs
  | .l e sh,t,fuel,cs,x,hs,h,hw=>by
    unfold zka at hs;split at hs
    · rename_i e' ht;simp only [Bool.and_eq_true,beq_iff_eq,decide_eq_true_eq] at hs;obtain ⟨rfl,hsh,hc,hpos⟩:=hs;rcases DataW.trod_slice ht h with ⟨rfl,rfl⟩ | ⟨ad,len,cap,elems,rest,n,_,rfl,rfl,hb,hl,hm,hlen,hel,hsp,hns⟩
      · refine ⟨([]:List (Ty sh)),?_,?_⟩
        · simp only [vi1];exact ⟨_,rfl,none,0,rfl,Nat.le_refl _,Nat.zero_le _,fun h=>absurd h (by simp)⟩
        · simp only [wfT,inL];exact ⟨by simp,fun x hx=>by cases hx⟩
      · have hwl:(elems.length+rest.length)*P.bytesOf e'≤reachBytes:=by
          have:=hw _ (by simp only [DataW.weights,ht,List.length_map];exact List.mem_cons_self)
          exact this
        have hwe:∀y ∈ elems,∀n ∈ y.1.weights P e',n≤reachBytes:=by
          intro y hy n hn;refine hw n ?_
          simp only [DataW.weights,ht];refine List.mem_cons_of_mem _ (List.mem_append_left _ ?_)
          have:∀l:List (DataW H×List MemPlace),y ∈ l→n ∈ DataW.weightsAll P e' (l.map (·.1)):=by
            intro l;induction l with
            | nil=>simp
            | cons z l ih=>
              intro hz;simp only [List.map_cons,DataW.weightsAll];rcases List.mem_cons.1 hz with rfl | hz
              · exact List.mem_append_left _ hn
              · exact List.mem_append_right _ (ih hz)
          exact this elems hy
        have each:∀i:Fin len,∃y:Ty sh,(∃vs,vi1 w (fun _=>True) sh y vs∧∀(j:Nat) (v:Value),vs[j]? =some v→w.cell? (ad.add (i.1*sh.n+j))=some v)∧wfT P sh y:=by
          intro i;have hi:i.1<elems.length:=by rw [hlen];exact i.2
          have h1:=hel i.1 i.2;rw [List.getElem?_eq_getElem hi] at h1
          cases hcs:w.cells? 0 (ad.add (i.1*P.cellsOf e')) (P.cellsOf e') with
          | none=>rw [hcs] at h1;cases h1
          | some vs=>
            rw [hcs] at h1;simp only [Option.bind_some] at h1;obtain ⟨y,h2,h3⟩:=j56 sh e' n vs _ hsh h1 (hwe _ (List.getElem_mem hi));obtain ⟨_,h4,h5⟩:=World.cells?_some hcs
            refine ⟨y,⟨vs,h2,fun j v hv=> ?_⟩,h3⟩
            have hj:j<P.cellsOf e':=by rw [←h4];exact (List.getElem?_eq_some_iff.1 hv).1
            have:=h5 j hj
            rw [hv,hc] at this;have e1:(ad.add (i.1*sh.n)).add j=ad.add (i.1*sh.n+j):=by
              unfold Addr.add;split<;>split<;>split<;>simp_all [Nat.add_assoc]
            rw [←e1];exact this
        have hlx:(List.ofFn fun i=>Classical.choose (each i)).length=len:=by simp
        refine ⟨(List.ofFn fun i=>Classical.choose (each i):List (Ty sh)),?_,?_⟩
        · simp only [vi1];refine ⟨_,rfl,some ad,cap,by rw [hlx],by rw [hlx];exact hl,hm,fun hp=>⟨ad,rfl,trivial,?_,fun j x hx=> ?_⟩⟩
          · rw [hlx] at hp;obtain ⟨⟨vs,h2,h3⟩,_⟩:=Classical.choose_spec (each ⟨0,hp⟩);have hvl:=vz1 sh _ vs h2;have h4:=h3 0 vs[0] (by simp [hvl,hpos])
            have h5:(ad.add (0*sh.n+0)).block<w.heap.size:=by
              unfold World.cell? at h4;split at h4
              · rename_i hh;exact (Array.getElem?_eq_some_iff.1 hh).1
              · cases h4
            rwa [jr1] at h5
          · rw [List.getElem?_ofFn] at hx
            split at hx
            · rename_i hj;simp only [Option.some.injEq] at hx;subst hx;exact (Classical.choose_spec (each ⟨j,hj⟩)).1
            · cases hx
        · simp only [wfT,inL];refine ⟨?_,fun y hy=> ?_⟩
          · rw [hlx,←hlen];exact Nat.le_trans (Nat.mul_le_mul_right _ (Nat.le_add_right _ _)) hwl
          · obtain ⟨i,rfl⟩:=(List.mem_ofFn).1 hy;exact (Classical.choose_spec (each i)).2
    · cases hs
  | .a fs,t,fuel,cs,x,hs,h,hw=>by
    unfold zka at hs;split at hs
    · rename_i ds ht;simp only [Bool.and_eq_true,beq_iff_eq] at hs;obtain ⟨hc,hs⟩:=hs;obtain ⟨xs,n,_,rfl,hl,hxl,hf⟩:=DataW.trod_struct ht h;simp only [vi1,wfT];have hw':∀n ∈ DataW.weightsEach P (ds.toList.map (·.type)) (xs.map (·.1)),n≤reachBytes:=by
        intro n hn;refine hw n ?_
        simp only [DataW.weights,ht];exact hn
      obtain ⟨y,h1,h2⟩:=v58 fs ds.toList 0 n cs xs hs (by rw [hl,hc];simp) (by simp [hxl]) (fun i f hi=>hf i f (by simpa using hi)) hw'
      exact ⟨y,by simpa using h1,h2⟩
    · cases hs
theorem v58:(fs:List Sh)→(ds:List Field)→(off:Nat)→(n:Nat)→(cs:List Value)→(xs:List (DataW H×List MemPlace))→y88 P fs ds off=true→cs.length=off+Sh.nL fs→xs.length=ds.length→
    (∀(i:Nat) (f:Field),ds[i]? =some f→DataW.trod enc P w 0 spare held n f.type ((cs.drop f.offset).take (P.cellsOf f.type))=xs[i]?)→(∀n ∈ DataW.weightsEach P (ds.map (·.type)) (xs.map (·.1)),n≤reachBytes)→
    ∃y:TyL fs,ja1 w (fun _=>True) fs y (cs.drop off)∧w4b P fs y
  | [],ds,off,n,cs,xs,hs,hl,hxl,hf,hw=>⟨(),by simp only [ja1];rw [List.drop_eq_nil_iff];simp [hl,Sh.nL],trivial⟩
  | [f],ds,off,n,cs,xs,hs,hl,hxl,hf,hw=>by
    match ds,xs,hxl with
    | [],_,_=>simp [y88] at hs
    | d::q,x::r,hxl=>
      unfold y88 at hs;simp only [Bool.and_eq_true,beq_iff_eq] at hs;obtain ⟨h1,h2,h3,_⟩:=hs;have h4:=hf 0 d rfl;rw [h1,h3] at h4;have hle:((cs.drop off).take f.n)=cs.drop off:=by
        apply List.take_of_length_le
        rw [List.length_drop,hl];simp [Sh.nL]
      rw [hle] at h4;obtain ⟨y,h5,h6⟩:=j56 f d.type n _ x h2 h4 fun m hm=>hw m (by simp only [List.map_cons,DataW.weightsEach];exact List.mem_append_left _ hm)
      exact ⟨y,by simp only [ja1];exact h5,by simp only [w4b];exact h6⟩
  | f::g::r,ds,off,n,cs,xs,hs,hl,hxl,hf,hw=>by
    match ds,xs,hxl with
    | [],_,_=>simp [y88] at hs
    | d::q,x::xr,hxl=>
      unfold y88 at hs;simp only [Bool.and_eq_true,beq_iff_eq] at hs;obtain ⟨h1,h2,h3,h7⟩:=hs;have h4:=hf 0 d rfl;rw [h1,h3] at h4;obtain ⟨y,h5,h6⟩:=j56 f d.type n _ x h2 h4 fun m hm=>hw m (by simp only [List.map_cons,DataW.weightsEach];exact List.mem_append_left _ hm)
      have hl':cs.length=(off+f.n)+Sh.nL (g::r):=by rw [hl];simp only [Sh.nL];omega
      obtain ⟨z,h8,h9⟩:=v58 (g::r) q (off+f.n) n cs xr h7 hl' (by simpa using hxl) (fun i f' hi=>hf (i+1) f' (by simpa using hi)) (fun m hm=>hw m (by simp only [List.map_cons,DataW.weightsEach];exact List.mem_append_right _ hm))
      refine ⟨(y,z),?_,?_⟩
      · simp only [ja1];refine ⟨_,_,?_,h5,h8⟩
        rw [←List.drop_drop,List.take_append_drop]
      · simp only [w4b];exact ⟨h6,h9⟩
end
theorem zob {sh:Sh} {t:TypeId} {v:Value} {d:DataW H} {p:List MemPlace} (hs:zka P sh t=true) (hval:Value.okWide P w .any 0 t v) (h:DataW.Trod enc P w 0 spare held t v d p) (hw:∀n ∈ d.weights P t,n≤reachBytes):
    ∃y:Ty sh,VA w (fun _=>True) (fun _=>undef) (vy5 sh y) v∧(vy5 sh y).lt 0∧wfT P sh y:=by
  obtain ⟨fuel,hf⟩:=h;obtain ⟨y,h1,h2⟩:=j56 sh t fuel _ _ hs hf hw;have hr:=vp3 sh y _ h1;have hlt:=xv5 0 sh y;refine ⟨y,?_,?_,h2⟩
  · unfold vy5;split
    · rename_i hag;cases sh<;>simp [Sh.agg] at hag
      case a fs=>
      unfold zka at hs;split at hs
      · rename_i ds ht;simp only [Value.okWide,ht] at hval;obtain ⟨cs,rfl,_⟩:=hval;exact ⟨cs.toList,by simp,zl.of_repL (by simpa [Value.cells] using hr)⟩
      · cases hs
    · rename_i hag;have hone:v.oneCell'=true:=by
        cases sh<;>simp [Sh.agg] at hag<;>unfold zka at hs<;>split at hs<;>first | cases hs;done | skip
        all_goals
          rename_i ht;simp only [Value.okWide,ht,Cell.okWide] at hval;cases v<;>first | rfl | (simp [Cell.ok,ht] at hval)
      rw [zn2 hone] at hr;have hl:=yb7 hr
      match hq:avs sh y,hl with
      | [c],_=>
        rw [hq] at hr;simp only [wo1] at hr;obtain ⟨u,vs,huv,h3,_⟩:=hr;simp at huv;rw [huv.1];exact VC.of_rep h3
  · unfold vy5;split
    · exact hlt
    · split
      · rename_i c hq;rw [hq] at hlt;exact hlt c (by simp)
      · exact hlt
end
theorem yc5 {H:Type} {enc:TypeId×Value→H} {P:Program} (hl:laidOutB P=true) {W W':World} (hb:Below W.heap.size W W'):∀(ts:List TypeId) (vs:List Value) (ds:List (DataW H)) (ps:List MemPlace),
    (ts.all fun t=>P.readableRec t&&decide (t<P.types.size))=true→DataW.TrodAll enc P W 0 (fun _=>true) true ts vs ds ps→(∀x ∈ ps,x.block<W.heap.size)→DataW.TrodAll enc P W' 0 (fun b=>decide (b<W.heap.size)) true ts vs ds ps
  | [],[],[],ps,_,h,_=>h
  | t::ts,v::vs,d::ds,ps,hr,h,hlt=>by
    obtain ⟨p,q,h1,h2,rfl⟩:=h;simp only [List.all_cons,Bool.and_eq_true,decide_eq_true_eq] at hr;exact ⟨p,q,Go.RowKit.Below.trod hl hr.1.1 hr.1.2 h1 hb (fun x hx=>hlt x (List.mem_append_left _ hx)),yc5 hl hb ts vs ds q hr.2 h2 (fun x hx=>hlt x (List.mem_append_right _ hx)),rfl⟩
  | [],_::_,_,_,_,h,_=>h.elim
  | [],[],_::_,_,_,h,_=>h.elim
  | _::_,[],_,_,_,h,_=>h.elim
  | _::_,_::_,[],_,_,h,_=>h.elim
theorem xe9 {G:Nat→Prop} {w w':World} {L:List Nat} {V:List Value} {p:Bool} {v:Value} (h:xga G w w' L V ⟨false,[.b],0⟩ p v):v= .bool p:=by
 obtain ⟨us,h1,_,h2⟩:=h;simp only [Bool.false_eq_true,if_false] at h2;obtain ⟨cs,rfl,h3⟩:∃cs,us=[zn1 Sh.b.agg cs]∧vi1 w' _ .b p cs:=h2;simp only [vi1] at h3;subst h3;exact h1
theorem Chg.below {w w':World} (h:Chg [] w w'):Below w.heap.size w w':=⟨h.os,h.tape,h.output,h.size,fun k hk=>h.block k hk (by simp)⟩
end Go.V
namespace Go.V
set_option linter.unusedVariables false
def nl:Code→Nat
 | .seq a b=>nl a+nl b
 | .cond _ a b=>nl a+nl b
 | .block _ a=>nl a
 | .loop c=>nl c+1
 | _=>0
noncomputable def z8 {R:Type} (E:Env) (call:vk1 E) (lv:List Nat) (k:Nat):Code→Nat→List (Nat×List Nat)→(Ex→St→Option R)→Ex→St→Option R
  | .seq a b,j,o,K=>if j<nl a then z8 E call lv k a j o (fun e st=>match e with
    | .normal=>run E call lv k b st K
    | e=>K e st) else z8 E call lv k b (j-nl a) o K
  | .cond _ a b,j,o,K=>if j<nl a then z8 E call lv k a j o K else z8 E call lv k b (j-nl a) o K
  | .block i a,j,o,K=>z8 E call lv k a j o (fun e st=>match e with
    | .exit j=>if j=i then K .normal st else K (.exit j) st
    | e=>K e st)
  | .loop c,0,_,K=>K
  | .loop c,j+1,(n,keys)::o,K=>z8 E call lv k c j o (fun e st=>match e with
    | .normal=>match st.closeAll with
      | some st=>z2 keys (run E call lv k c) n (st.canon keys) K
      | none=>none
    | e=>K e st)
  | _,_,_,K=>K
abbrev vI (x:Int):C:= .v (.int .i64 x)
abbrev vB (x:Bool):C:= .v (.bool x)
abbrev cI (x:Int):AV:= .c (.v (.int .i64 x))
abbrev cB (x:Bool):AV:= .c (.v (.bool x))
abbrev cP (h:Nat):AV:= .c (.ptr h 0)
def yc (F:Func):Code:=match F.body with
 | some c=>c
 | none=> .skip
def v6b:Nat→Code→Code
 | n+1,.seq _ b=>v6b n b
 | _,c=>c
def wvb:Code→Code
 | .seq a _=>a
 | c=>c
noncomputable def vxb {R:Type} (E:Env) (call:vk1 E) (lv:List Nat) (k:Nat) (c:Code) (fin:Ex→St→Option R) (n:Nat) (st:St):Option R:=run E call lv k (v6b n c) st fin
def yzb {R:Type} (f:St→Option R) (fin:Ex→St→Option R):Ex→St→Option R
 | .normal,st=>f st
 | e,st=>fin e st
theorem ji2 {R V:Type} {f g:Nat→V→Option R} {B:(V→Option R)→V→Option R} (h0:∀v,f 0 v=none) (hf:∀n v,f (n+1) v=B (f n) v) (g0:∀v,g 0 v=none) (hg:∀n v,g (n+1) v=B (g n) v):∀n v,f n v=g n v:=by
 intro n;induction n with
 | zero=>intro v;rw [h0,g0]
 | succ n ih=>intro v;rw [hf,hg,funext ih]
theorem j6 {R V:Type} {f g:Nat→V→Option R} {B:(V→Option R)→V→Option R} (hf:∀n v,f (n+1) v=B (f n) v) (h0:∀v,f 0 v=none:=by exact fun _=>rfl) (g0:∀v,g 0 v=none:=by exact fun _=>rfl) (hg:∀n v,g (n+1) v=B (g n) v:=by exact fun _ _=>rfl):∀n v,f n v=g n v:=ji2 h0 hf g0 hg
def ix {α R:Type} (xs:List α) (n:Nat) (K:α→Option R):Option R:=match xs[n]? with
 | some x=>K x
 | none=>none
end Go.V
namespace Go.V
theorem y9 {n:Int} (h1: -9223372036854775808≤n) (h2:n≤9223372036854775807):IntKind.i64.wrap n=n:=by rw [IntKind.wrap_i64];omega
theorem yd1 {n m:Nat} (h:n<m) (hm:m≤9223372036854775807):IntKind.i64.wrap ((n:Int)+1)=((n+1:Nat):Int):=by rw [y9 (by omega) (by omega)];omega
theorem w61 {α R:Type} {xs:List α} {n:Nat} (h:n<xs.length) (K:α→Option R):ix xs n K=K xs[n]:=by unfold ix;rw [List.getElem?_eq_getElem h]
theorem v7 {α R:Type} {xs:List α} {n:Nat} {x:α} (h:xs[n]? =some x) (K:α→Option R):ix xs n K=K x:=by unfold ix;rw [h]
theorem wy8 {α:Type} {xs ys:List α} {i:Nat} (hl:ys.length=xs.length) (hi:i<xs.length) (h:ys.take i=xs.take i):(ys.set i xs[i]).take (i+1)=xs.take (i+1):=by
 apply List.ext_getElem?
 intro k;simp only [List.getElem?_take]
 split
 · rename_i hk;by_cases e:i=k
   · subst e;rw [List.getElem?_set_self (by omega),List.getElem?_eq_getElem hi]
   · rw [List.getElem?_set_ne e]
     have h1:=congrArg (·[k]?) h;simp only [List.getElem?_take] at h1
     rwa [if_pos (by omega),if_pos (by omega)] at h1
 · rfl
end Go.V
namespace Go.V
set_option linter.unusedVariables false
def szR (n:Nat) (left:Int):Int:=if left<n then -1 else left-n
theorem vb3 {n:Nat} {left:Int} (h:left<n):szR n left= -1:=if_pos h
theorem jj3 {n:Nat} {left:Int} (h:¬left<n):szR n left=left-n:=if_neg h
theorem v51 {f:Option Int} {n m:Nat} {left:Int} {g:Int→Option Int} (hf:f=some (szR n left)) (h0:0≤left) (h1:left≤1048576) (hg:∀p,0≤p→p≤1048576→g p=some (szR m p)):
 (f.bind fun p=>if decide (p<0)=true then some (-1) else g p)=some (szR (n+m) left):=by
 rw [hf,Option.bind_some];by_cases h:left<n
 · rw [vb3 h,if_pos (by decide),vb3 (by omega)]
 · rw [jj3 h]
   have:decide (left-(n:Int)<0)=false:=by simp;omega
   rw [this];simp only [Bool.false_eq_true,if_false];rw [hg _ (by omega) (by omega)]
   congr 1
   by_cases h2:left-n<m
   · rw [vb3 h2,vb3 (by omega)]
   · rw [jj3 h2,jj3 (by omega)]
     omega
theorem y63 {p:Int} (h:0≤p):some p=some (szR 0 p):=by rw [jj3 (by omega)];simp
theorem va3 {n:Nat} {left:Int} (hn:n≤140737488351232) (h0:0≤left) (h1:left≤1048576):
 (if decide (IntKind.i64.wrap (left-(n:Int))<0)=true then some (-1) else some (IntKind.i64.wrap (left-(n:Int))))=some (szR n left):=by
 rw [y9 (by omega) (by omega)]
 by_cases h:left<n
 · rw [vb3 h,if_pos (by simp;omega)]
 · rw [jj3 h,if_neg (by simp;omega)]
def vn {α:Type} (f:α→Nat):List α→Nat
 | []=>0
 | x::r=>f x+vn f r
section
variable {α R:Type}
theorem vwa {L:Nat→(List α×Int×Int)→Option R} {f:α→Int→Option Int} {X0:(List α×Int×Int)→α→Int→Option R} {X1:(List α×Int×Int)→Option R} {neg:Option R} {fin:Int→Option R}
    (hs:∀n v,L (n+1) v=if (decide (v.2.2<(v.1.length:Int)))=true then if 0≤v.2.2 then ix v.1 v.2.2.toNat fun x=>(f x v.2.1).bind fun p=>if (decide (p<0))=true then X0 v x p else L n (v.1,p,(IntKind.i64.wrap (v.2.2+1))) else none else X1 v)
    (hx0:∀v x p,X0 v x p=neg) (hx1:∀v,X1 v=fin v.2.1) {s:α→Nat} {a:List α} (hf:∀x ∈ a,∀left:Int,0≤left→left≤1048576→f x left=some (szR (s x) left)) (hl:a.length≤140737488351232):
    ∀(m n i:Nat) (left:Int),i+m=a.length→m<n→0≤left→left≤1048576→L n (a,left,(i:Int))=if left<(vn s (a.drop i):Int) then neg else fin (left-vn s (a.drop i))
  | 0,n+1,i,left,h,_,h0,h1=>by
    have hi:i=a.length:=by omega
    subst hi;rw [hs,if_neg (by simp),hx1]
    simp [vn];omega
  | m+1,n+1,i,left,h,hn,h0,h1=>by
    have hi:i<a.length:=by omega
    have hin:(i:Int).toNat=i:=by simp
    have hd:decide ((i:Int)<(a.length:Int))=true:=by simp;omega
    rw [hs,if_pos hd,if_pos (by show (0:Int)≤i;omega)]
    simp only [hin];have e:(vn s (a.drop i):Int)=s a[i]+vn s (a.drop (i+1)):=by
      rw [List.drop_eq_getElem_cons hi];simp [vn]
    rw [w61 hi,hf _ (List.getElem_mem hi) left h0 h1,Option.bind_some];by_cases hb:left<s a[i]
    · rw [vb3 hb,if_pos (by decide),hx0,if_pos (by omega)]
    · rw [jj3 hb,if_neg (by simp;omega),yd1 hi (by omega),vwa hs hx0 hx1 hf hl m n (i+1) _ (by omega) (by omega) (by omega) (by omega)]
      by_cases hc:left-(s a[i]:Int)<(vn s (a.drop (i+1)):Int)
      · rw [if_pos hc,if_pos (by omega)]
      · rw [if_neg hc,if_neg (by omega)]
        congr 1
        omega
theorem wya {L:Nat→(List α×Int×List α)→Option R} {f:α→Option α} {X:(List α×Int×List α)→Option R}
    (hs:∀n v,L (n+1) v=if (decide (v.2.1<(v.1.length:Int)))=true then if 0≤v.2.1 then ix v.1 v.2.1.toNat fun x=>(f x).bind fun p=>if 0≤v.2.1 then if v.2.1<(v.2.2.length:Int) then ix v.2.2 v.2.1.toNat fun y=>L n (v.1,(IntKind.i64.wrap (v.2.1+1)),(v.2.2.set v.2.1.toNat p)) else none else none else none else X v)
    {a:List α} (hf:∀x ∈ a,f x=some x) (hl:a.length≤1048576):
    ∀(m n i:Nat) (out:List α),i+m=a.length→m<n→out.length=a.length→out.take i=a.take i→L n (a,(i:Int),out)=X (a,(a.length:Int),a)
  | 0,n+1,i,out,h,_,ho,ht=>by
    have hi:i=a.length:=by omega
    subst hi;rw [List.take_length,List.take_of_length_le (by omega)] at ht
    subst ht;rw [hs,if_neg (by simp)]
  | m+1,n+1,i,out,h,hn,ho,ht=>by
    have hi:i<a.length:=by omega
    have hin:(i:Int).toNat=i:=by simp
    have h1:decide ((i:Int)<(a.length:Int))=true:=by simp;omega
    have h2:(0:Int)≤i:=by omega
    have h3:(i:Int)<(out.length:Int):=by omega
    rw [hs,if_pos h1,if_pos h2];simp only [hin];rw [w61 hi,hf _ (List.getElem_mem hi),Option.bind_some,if_pos h2,if_pos h3,w61 (by omega),yd1 hi (by omega)]
    exact wya hs hf hl m n (i+1) _ (by omega) (by omega) (by simp [ho]) (wy8 ho hi ht)
theorem zra {L:Nat→(List α×List α×Int)→Option R} {f:α→α→Option Bool} {X0:(List α×List α×Int)→α→α→Bool→Option R} {X1:(List α×List α×Int)→Option R}
    (hs:∀n v,L (n+1) v=if (decide (v.2.2<(v.1.length:Int)))=true then if 0≤v.2.2 then ix v.1 v.2.2.toNat fun x=>if 0≤v.2.2 then ix v.2.1 v.2.2.toNat fun y=>(f x y).bind fun p=>if (!p)=true then X0 v x y p else L n (v.1,v.2.1,(IntKind.i64.wrap (v.2.2+1))) else none else none else X1 v)
    {a:List α} (hf:∀x ∈ a,f x x=some true) (hl:a.length≤1048576):
    ∀(m n i:Nat),i+m=a.length→m<n→L n (a,a,(i:Int))=X1 (a,a,(a.length:Int))
  | 0,n+1,i,h,_=>by
    have hi:i=a.length:=by omega
    subst hi;rw [hs,if_neg (by simp)]
  | m+1,n+1,i,h,hn=>by
    have hi:i<a.length:=by omega
    have hin:(i:Int).toNat=i:=by simp
    have h1:decide ((i:Int)<(a.length:Int))=true:=by simp;omega
    have h2:(0:Int)≤i:=by omega
    rw [hs,if_pos h1,if_pos h2];simp only [hin];rw [w61 hi,if_pos h2,w61 hi,hf _ (List.getElem_mem hi),Option.bind_some,if_neg (by decide),yd1 hi (by omega)]
    exact zra hs hf hl m n (i+1) (by omega) (by omega)
theorem vya {α:Type} [BEq α] [LawfulBEq α] {R:Type} {L:Nat→(List α×List α×Int)→Option R} {X0:(List α×List α×Int)→α→α→Option R} {X1:(List α×List α×Int)→Option R}
    (hs:∀n v,L (n+1) v=if (decide (v.2.2<(v.1.length:Int)))=true then if 0≤v.2.2 then ix v.1 v.2.2.toNat fun x=>if 0≤v.2.2 then ix v.2.1 v.2.2.toNat fun y=>if (x !=y)=true then X0 v x y else L n (v.1,v.2.1,(IntKind.i64.wrap (v.2.2+1))) else none else none else X1 v)
    {a:List α} (hl:a.length≤1048576):
    ∀(m n i:Nat),i+m=a.length→m<n→L n (a,a,(i:Int))=X1 (a,a,(a.length:Int))
  | 0,n+1,i,h,_=>by
    have hi:i=a.length:=by omega
    subst hi;rw [hs,if_neg (by simp)]
  | m+1,n+1,i,h,hn=>by
    have hi:i<a.length:=by omega
    have hin:(i:Int).toNat=i:=by simp
    have h1:decide ((i:Int)<(a.length:Int))=true:=by simp;omega
    have h2:(0:Int)≤i:=by omega
    rw [hs,if_pos h1,if_pos h2];simp only [hin];rw [w61 hi,if_pos h2,w61 hi,if_neg (by simp),yd1 hi (by omega)]
    exact vya hs hl m n (i+1) (by omega) (by omega)
end
mutual
def szT:(sh:Sh)→Ty sh→Nat
 | .b,_=>0
 | .i _,_=>0
 | .s,_=>0
 | .l _ sh,xs=>List.length xs+vn (szT sh) xs
 | .a fs,x=>vw5 fs x
def vw5:(fs:List Sh)→TyL fs→Nat
 | [],_=>0
 | [f],x=>szT f x
 | f::g::r,x=>szT f x.1+vw5 (g::r) x.2
end
theorem wv7 {α:Type} {f:α→Nat}:∀{l:List α},(∀x ∈ l,f x=0)→vn f l=0
  | [],_=>rfl
  | x::r,h=>by
    have h1:=h x (by simp)
    have h2:=wv7 (l:=r) fun y hy=>h y (List.mem_cons_of_mem _ hy)
    simp only [vn,h1,h2]
theorem xc {α:Type} {f:α→Nat}:∀{l:List α} {x:α},x ∈ l→f x≤vn f l
  | y::r,x,h=>by
    simp only [vn];rcases List.mem_cons.1 h with rfl | h
    · omega
    · have:=xc (f:=f) h;omega
mutual
theorem ym:(sh:Sh)→(x:Ty sh)→sh.flat=true→szT sh x=0
 | .b,x,_=>by simp only [szT]
 | .i k,x,_=>by simp only [szT]
 | .s,x,_=>by simp only [szT]
 | .l e sh,x,h=>by simp [Sh.flat] at h
 | .a fs,x,h=>by simp only [szT];exact vv7 fs x (by simpa only [Sh.flat] using h)
theorem vv7:(fs:List Sh)→(x:TyL fs)→Sh.flatL fs=true→vw5 fs x=0
  | [],_,_=>by simp only [vw5]
  | [f],x,h=>by simp only [vw5];exact ym f x (by simpa [Sh.flatL] using h)
  | f::g::r,x,h=>by
    rw [Sh.flatL,Bool.and_eq_true] at h;simp only [vw5,ym f x.1 h.1,vv7 (g::r) x.2 h.2]
end
def yoa {α:Type} (R:α→Prop) (m:Nat) (xs:List α):Prop:=xs.length≤m∧∀x ∈ xs,R x
mutual
def va (m:Nat):(sh:Sh)→Ty sh→Prop
 | .b,_=>True
 | .i _,_=>True
 | .s,_=>True
 | .l _ sh,xs=>yoa (va m sh) m xs
 | .a fs,x=>xb3 m fs x
def xb3 (m:Nat):(fs:List Sh)→TyL fs→Prop
 | [],_=>True
 | [f],x=>va m f x
 | f::g::r,x=>va m f x.1∧xb3 m (g::r) x.2
end
mutual
theorem ya7:(sh:Sh)→(x:Ty sh)→(m:Nat)→szT sh x≤m→va m sh x
  | .b,_,_,_=>by simp only [va]
  | .i k,_,_,_=>by simp only [va]
  | .s,_,_,_=>by simp only [va]
  | .l e sh,xs,m,h=>by
    simp only [szT] at h;simp only [va,yoa];exact ⟨by omega,fun x hx=>ya7 sh x m (by have:=xc (f:=szT sh) hx;omega)⟩
  | .a fs,x,m,h=>by simp only [szT] at h;simp only [va];exact vy8 fs x m h
theorem vy8:(fs:List Sh)→(x:TyL fs)→(m:Nat)→vw5 fs x≤m→xb3 m fs x
  | [],_,_,_=>by simp only [xb3]
  | [f],x,m,h=>by simp only [vw5] at h;simp only [xb3];exact ya7 f x m h
  | f::g::r,x,m,h=>by
    simp only [vw5] at h;simp only [xb3];exact ⟨ya7 f x.1 m (by omega),vy8 (g::r) x.2 m (by omega)⟩
end
mutual
def za5 (P:Program):Sh→Bool
 | .l e sh=>decide (0<P.bytesOf e)&&za5 P sh
 | .a fs=>xx3 P fs
 | _=>true
def xx3 (P:Program):List Sh→Bool
 | []=>true
 | f::r=>za5 P f&&xx3 P r
end
mutual
theorem we7 {P:Program}:(sh:Sh)→(x:Ty sh)→za5 P sh=true→wfT P sh x→va 140737488351232 sh x
  | .b,_,_,_=>by simp only [va]
  | .i k,_,_,_=>by simp only [va]
  | .s,_,_,_=>by simp only [va]
  | .l e sh,xs,hb,h=>by
    simp only [za5,Bool.and_eq_true,decide_eq_true_eq] at hb;simp only [wfT,inL,reachBytes] at h;simp only [va,yoa];exact ⟨Nat.le_trans (Nat.le_mul_of_pos_right _ hb.1) h.1,fun x hx=>we7 sh x hb.2 (h.2 x hx)⟩
  | .a fs,x,hb,h=>by simp only [wfT] at h;simp only [va];exact wz8 fs x (by simpa only [za5] using hb) h
theorem wz8 {P:Program}:(fs:List Sh)→(x:TyL fs)→xx3 P fs=true→w4b P fs x→xb3 140737488351232 fs x
  | [],_,_,_=>by simp only [xb3]
  | [f],x,hb,h=>by simp only [w4b] at h;simp only [xb3];exact we7 f x (by simpa [xx3] using hb) h
  | f::g::r,x,hb,h=>by
    rw [xx3,Bool.and_eq_true] at hb;simp only [w4b] at h;simp only [xb3];exact ⟨we7 f x.1 hb.1 h.1,wz8 (g::r) x.2 hb.2 h.2⟩
end
theorem x23 {e:Nat} {sh:Sh} (h:sh.flat=true) (xs:List (Ty sh)):szT (.l e sh) xs=xs.length:=by
 simp only [szT,wv7 fun x _=>ym sh x h,Nat.add_zero]
theorem vd {m e:Nat} {sh:Sh} {xs:List (Ty sh)} (h:va m (.l e sh) xs):xs.length≤m∧∀x ∈ xs,va m sh x:=by
 simpa only [va,yoa] using h
theorem v67 {α:Type} {s:α→Nat} {x:List α} {left:Int} {M:Option Int} (hl:x.length≤140737488351232) (h0:0≤left) (h1:left≤1048576)
 (hM:0≤left-(x.length:Int)→M=if left-(x.length:Int)<(vn s x:Int) then some (-1) else some (left-x.length-vn s x)):
 (if decide (IntKind.i64.wrap (left-(x.length:Int))<0)=true then some (-1) else M)=some (szR (x.length+vn s x) left):=by
 rw [y9 (by omega) (by omega)]
 by_cases hb:left<(x.length:Int)
 · rw [if_pos (by simp;omega),vb3 (by omega)]
 · rw [if_neg (by simp;omega),hM (by omega)]
   by_cases hc:left-(x.length:Int)<(vn s x:Int)
   · rw [if_pos hc,vb3 (by omega)]
   · rw [if_neg hc,jj3 (by omega)]
     congr 1
     omega
theorem z3a {V R S α:Type} {L:Nat→V→Option R} {X:V→Option R} {a:List α} (mk:S→Int→V) (f:S→α→S)
    (hs:∀n s i,L (n+1) (mk s i)=if decide (i<(a.length:Int))=true then if 0≤i then ix a i.toNat fun x=>L n (mk (f s x) (IntKind.i64.wrap (i+1))) else none else X (mk s i)) (hl:a.length≤1048576):
    ∀(m n i:Nat) (s:S),i+m=a.length→m<n→L n (mk s (i:Int))=X (mk ((a.drop i).foldl f s) (a.length:Int))
  | 0,n+1,i,s,h,_=>by
    have hi:i=a.length:=by omega
    subst hi;rw [hs,if_neg (by simp)]
    simp
  | m+1,n+1,i,s,h,hn=>by
    have hi:i<a.length:=by omega
    have hin:(i:Int).toNat=i:=by simp
    rw [hs,if_pos (by simp;omega),if_pos (by omega),hin,w61 hi,yd1 hi (by omega),z3a mk f hs hl m n (i+1) _ (by omega) (by omega),List.drop_eq_getElem_cons hi,List.foldl_cons]
end Go.V
namespace Go.V
set_option linter.unusedVariables false
theorem zx8 {V S α R:Type} {L:Nat→V→Option R} {X:V→Option R} {a:List α} (mk:S→Int→V) {body:Nat→S→Int→α→Option R} (res:S→Nat→List α→Option R)
    (hs:∀n s i,L (n+1) (mk s i)=if decide (i<(a.length:Int))=true then if 0≤i then ix a i.toNat (body n s i) else none else X (mk s i))
    (hl:a.length≤140737488351232) (he:∀s,X (mk s (a.length:Int))=res s a.length [])
    (hb:∀n (i:Nat) s x r,IntKind.i64.wrap ((i:Int)+1)=((i+1:Nat):Int)→i<a.length→a[i]? =some x→(∀s',L n (mk s' ((i+1:Nat):Int))=res s' (i+1) r)→body n s (i:Int) x=res s i (x::r)):
    ∀(m n i:Nat) (s:S),i+m=a.length→m<n→L n (mk s (i:Int))=res s i (a.drop i)
  | 0,n+1,i,s,h,_=>by
    have hi:i=a.length:=by omega
    subst hi;rw [hs,if_neg (by simp),he]
    simp
  | m+1,n+1,i,s,h,hn=>by
    have hi:i<a.length:=by omega
    have hin:(i:Int).toNat=i:=by simp
    rw [hs,if_pos (by simp;omega),if_pos (by omega),hin,w61 hi,List.drop_eq_getElem_cons hi]
    refine hb n i s _ _ ?_ hi (List.getElem?_eq_getElem hi) fun s'=>zx8 mk res hs hl he hb m n (i+1) s' (by omega) (by omega)
    rw [yd1 hi (by omega)]
theorem jea {V S α R:Type} {L:Nat→V→Option R} {X:V→Option R} {a:List α} (mk:S→Int→V) {body:Nat→S→Int→α→Option R} (res:S→Nat→List α→Option R)
 (hs:∀n s i,L (n+1) (mk s i)=if decide (i<(a.length:Int))=true then if 0≤i then ix a i.toNat (body n s i) else none else X (mk s i))
 (hl:a.length≤140737488351232) (he:∀s,X (mk s (a.length:Int))=res s a.length [])
 (hb:∀n (i:Nat) s x r,IntKind.i64.wrap ((i:Int)+1)=((i+1:Nat):Int)→i<a.length→a[i]? =some x→(∀s',L n (mk s' ((i+1:Nat):Int))=res s' (i+1) r)→body n s (i:Int) x=res s i (x::r))
 {n:Nat} (hn:a.length<n) (s:S):L n (mk s 0)=res s 0 a:=by
 have:=zx8 mk res hs hl he hb a.length n 0 s (by omega) hn
 simpa using this
end Go.V
namespace Go.V
set_option linter.unusedVariables false
section
variable {α R:Type}
theorem y34 {a:List α} {L:Nat→(Int×Int)→Option R} {f:α→Int→Option Int} {X0:(Int×Int)→α→Int→Option R} {X1:(Int×Int)→Option R} {neg:Option R} {fin:Int→Option R}
    (hs:∀n v,L (n+1) v=if (decide (v.2<(a.length:Int)))=true then if 0≤v.2 then ix a v.2.toNat fun x=>(f x v.1).bind fun p=>if (decide (p<0))=true then X0 v x p else L n (p,(IntKind.i64.wrap (v.2+1))) else none else X1 v)
    (hx0:∀v x p,X0 v x p=neg) (hx1:∀v,X1 v=fin v.1) {s:α→Nat} (hf:∀x ∈ a,∀left:Int,0≤left→left≤1048576→f x left=some (szR (s x) left)) (hl:a.length≤140737488351232):
    ∀(m n i:Nat) (left:Int),i+m=a.length→m<n→0≤left→left≤1048576→L n (left,(i:Int))=if left<(vn s (a.drop i):Int) then neg else fin (left-vn s (a.drop i))
  | 0,n+1,i,left,h,_,h0,h1=>by
    have hi:i=a.length:=by omega
    subst hi;rw [hs,if_neg (by simp),hx1]
    simp [vn];omega
  | m+1,n+1,i,left,h,hn,h0,h1=>by
    have hi:i<a.length:=by omega
    have hin:(i:Int).toNat=i:=by simp
    have hd:decide ((i:Int)<(a.length:Int))=true:=by simp;omega
    rw [hs,if_pos hd,if_pos (by show (0:Int)≤i;omega)]
    simp only [hin];have e:(vn s (a.drop i):Int)=s a[i]+vn s (a.drop (i+1)):=by
      rw [List.drop_eq_getElem_cons hi];simp [vn]
    rw [w61 hi,hf _ (List.getElem_mem hi) left h0 h1,Option.bind_some];by_cases hb:left<s a[i]
    · rw [vb3 hb,if_pos (by decide),hx0,if_pos (by omega)]
    · rw [jj3 hb,if_neg (by simp;omega),yd1 hi (by omega),y34 hs hx0 hx1 hf hl m n (i+1) _ (by omega) (by omega) (by omega) (by omega)]
      by_cases hc:left-(s a[i]:Int)<(vn s (a.drop (i+1)):Int)
      · rw [if_pos hc,if_pos (by omega)]
      · rw [if_neg hc,if_neg (by omega)]
        congr 1
        omega
theorem v71 {a:List α} {L:Nat→(Int×List α)→Option R} {f:α→Option α} {X:(Int×List α)→Option R}
    (hs:∀n v,L (n+1) v=if (decide (v.1<(a.length:Int)))=true then if 0≤v.1 then ix a v.1.toNat fun x=>(f x).bind fun p=>if 0≤v.1 then if v.1<(v.2.length:Int) then ix v.2 v.1.toNat fun y=>L n ((IntKind.i64.wrap (v.1+1)),(v.2.set v.1.toNat p)) else none else none else none else X v)
    (hf:∀x ∈ a,f x=some x) (hl:a.length≤1048576):
    ∀(m n i:Nat) (out:List α),i+m=a.length→m<n→out.length=a.length→out.take i=a.take i→L n ((i:Int),out)=X ((a.length:Int),a)
  | 0,n+1,i,out,h,_,ho,ht=>by
    have hi:i=a.length:=by omega
    subst hi;rw [List.take_length,List.take_of_length_le (by omega)] at ht
    subst ht;rw [hs,if_neg (by simp)]
  | m+1,n+1,i,out,h,hn,ho,ht=>by
    have hi:i<a.length:=by omega
    have hin:(i:Int).toNat=i:=by simp
    have h1:decide ((i:Int)<(a.length:Int))=true:=by simp;omega
    have h2:(0:Int)≤i:=by omega
    have h3:(i:Int)<(out.length:Int):=by omega
    rw [hs,if_pos h1,if_pos h2];simp only [hin];rw [w61 hi,hf _ (List.getElem_mem hi),Option.bind_some,if_pos h2,if_pos h3,w61 (by omega),yd1 hi (by omega)]
    exact v71 hs hf hl m n (i+1) _ (by omega) (by omega) (by simp [ho]) (wy8 ho hi ht)
theorem vc1 {a:List α} {L:Nat→Int→Option R} {f:α→α→Option Bool} {X0:Int→α→α→Bool→Option R} {X1:Int→Option R}
    (hs:∀n v,L (n+1) v=if (decide (v<(a.length:Int)))=true then if 0≤v then ix a v.toNat fun x=>if 0≤v then ix a v.toNat fun y=>(f x y).bind fun p=>if (!p)=true then X0 v x y p else L n ((IntKind.i64.wrap (v+1))) else none else none else X1 v)
    (hf:∀x ∈ a,f x x=some true) (hl:a.length≤140737488351232):
    ∀(m n i:Nat),i+m=a.length→m<n→L n (i:Int)=X1 (a.length:Int)
  | 0,n+1,i,h,_=>by
    have hi:i=a.length:=by omega
    subst hi;rw [hs,if_neg (by simp)]
  | m+1,n+1,i,h,hn=>by
    have hi:i<a.length:=by omega
    have hin:(i:Int).toNat=i:=by simp
    have h1:decide ((i:Int)<(a.length:Int))=true:=by simp;omega
    have h2:(0:Int)≤i:=by omega
    rw [hs,if_pos h1,if_pos h2];simp only [hin];rw [w61 hi,if_pos h2,w61 hi,hf _ (List.getElem_mem hi),Option.bind_some,if_neg (by decide),yd1 hi (by omega)]
    exact vc1 hs hf hl m n (i+1) (by omega) (by omega)
theorem w58 {α:Type} [BEq α] [LawfulBEq α] {R:Type} {a:List α} {L:Nat→Int→Option R} {X0:Int→α→α→Option R} {X1:Int→Option R}
    (hs:∀n v,L (n+1) v=if (decide (v<(a.length:Int)))=true then if 0≤v then ix a v.toNat fun x=>if 0≤v then ix a v.toNat fun y=>if (x !=y)=true then X0 v x y else L n ((IntKind.i64.wrap (v+1))) else none else none else X1 v)
    (hl:a.length≤140737488351232):
    ∀(m n i:Nat),i+m=a.length→m<n→L n (i:Int)=X1 (a.length:Int)
  | 0,n+1,i,h,_=>by
    have hi:i=a.length:=by omega
    subst hi;rw [hs,if_neg (by simp)]
  | m+1,n+1,i,h,hn=>by
    have hi:i<a.length:=by omega
    have hin:(i:Int).toNat=i:=by simp
    have h1:decide ((i:Int)<(a.length:Int))=true:=by simp;omega
    have h2:(0:Int)≤i:=by omega
    rw [hs,if_pos h1,if_pos h2];simp only [hin];rw [w61 hi,if_pos h2,w61 hi,if_neg (by simp),yd1 hi (by omega)]
    exact w58 hs hl m n (i+1) (by omega) (by omega)
end
section
variable {V S α R:Type}
theorem zu3 {L:Nat→Int→Option R} {X:Int→Option R} {a:List α} {body:Nat→Int→α→Option R} (res:Nat→List α→Option R)
 (hs:∀n i,L (n+1) i=if decide (i<(a.length:Int))=true then if 0≤i then ix a i.toNat (body n i) else none else X i)
 (hl:a.length≤140737488351232) (he:X (a.length:Int)=res a.length [])
 (hb:∀n (i:Nat) x r,(0:Int)≤(i:Int)→(i:Int).toNat=i→IntKind.i64.wrap ((i:Int)+1)=((i+1:Nat):Int)→i<a.length→a[i]? =some x→L n ((i+1:Nat):Int)=res (i+1) r→body n (i:Int) x=res i (x::r))
 {n:Nat} (hn:a.length<n):L n 0=res 0 a:=
 jea (S:=Unit) (L:=L) (X:=X) (a:=a) (fun _ i=>i) (fun _ i l=>res i l) (fun n _ i=>hs n i) hl (fun _=>he)
  (fun n i _ x r hw hi hx ih=>hb n i x r (by omega) (by simp) hw hi hx (ih ())) hn ()
theorem vob {L:Nat→V→Option R} {X:S→Int→Option R} {a:List α} (mk:S→Int→V) {body:Nat→S→Int→α→Option R} (res:S→Nat→List α→Option R)
    (hs:∀n s i,L (n+1) (mk s i)=if decide (i<(a.length:Int))=true then if 0≤i then ix a i.toNat (body n s i) else none else X s i)
    (hl:a.length≤140737488351232) (he:∀s,X s (a.length:Int)=res s a.length [])
    (hb:∀n (i:Nat) s x r,(0:Int)≤(i:Int)→(i:Int).toNat=i→IntKind.i64.wrap ((i:Int)+1)=((i+1:Nat):Int)→i<a.length→a[i]? =some x→(∀s',L n (mk s' ((i+1:Nat):Int))=res s' (i+1) r)→body n s (i:Int) x=res s i (x::r)):
    ∀(m n i:Nat) (s:S),i+m=a.length→m<n→L n (mk s (i:Int))=res s i (a.drop i)
  | 0,n+1,i,s,h,_=>by
    have hi:i=a.length:=by omega
    subst hi;rw [hs,if_neg (by simp),he]
    simp
  | m+1,n+1,i,s,h,hn=>by
    have hi:i<a.length:=by omega
    have hin:(i:Int).toNat=i:=by simp
    rw [hs,if_pos (by simp;omega),if_pos (by omega),hin,w61 hi,List.drop_eq_getElem_cons hi]
    refine hb n i s _ _ (by omega) hin ?_ hi (List.getElem?_eq_getElem hi) fun s'=>vob mk res hs hl he hb m n (i+1) s' (by omega) (by omega)
    rw [yd1 hi (by omega)]
theorem yx8 {L:Nat→V→Option R} {X:S→Int→Option R} {a:List α} (mk:S→Int→V) {body:Nat→S→Int→α→Option R} (res:S→Nat→List α→Option R)
 (hs:∀n s i,L (n+1) (mk s i)=if decide (i<(a.length:Int))=true then if 0≤i then ix a i.toNat (body n s i) else none else X s i)
 (hl:a.length≤140737488351232) (he:∀s,X s (a.length:Int)=res s a.length [])
 (hb:∀n (i:Nat) s x r,(0:Int)≤(i:Int)→(i:Int).toNat=i→IntKind.i64.wrap ((i:Int)+1)=((i+1:Nat):Int)→i<a.length→a[i]? =some x→(∀s',L n (mk s' ((i+1:Nat):Int))=res s' (i+1) r)→body n s (i:Int) x=res s i (x::r))
 {n:Nat} (hn:a.length<n) (s:S):L n (mk s 0)=res s 0 a:=by
 have:=vob mk res hs hl he hb a.length n 0 s (by omega) hn
 simpa using this
theorem w8b {L:Nat→Int→Option R} {len:Nat} (res:Nat→Option R) (hlen:len≤140737488351232)
 (hb:∀n (i:Nat),i≤len→(0:Int)≤(i:Int)→(i:Int).toNat=i→IntKind.i64.wrap ((i:Int)+1)=((i+1:Nat):Int)→(i<len→L n ((i+1:Nat):Int)=res (i+1))→L (n+1) (i:Int)=res i):
 ∀(m n i:Nat),i+m=len→m<n→L n (i:Int)=res i
 | 0,n+1,i,h,_=>hb n i (by omega) (by omega) (by simp) (by rw [y9 (by omega) (by omega)];omega) (fun hi=>absurd hi (by omega))
 | m+1,n+1,i,h,hn=>hb n i (by omega) (by omega) (by simp) (by rw [y9 (by omega) (by omega)];omega) (fun hi=>w8b res hlen hb m n (i+1) (by omega) (by omega))
end
def vnb {α:Type} (p:Nat→α→Bool):Nat→List α→Bool
 | _,[]=>true
 | i,x::r=>p i x&&vnb p (i+1) r
def x81 {α:Type} (p:α→Bool):Nat→List α→Int
 | _,[]=> -1
 | i,x::r=>if p x then (i:Int) else x81 p (i+1) r
theorem wv6 {α:Type} (p:α→Bool):∀(l:List α) (i:Nat),x81 p i l= -1∨((i:Int)≤x81 p i l∧x81 p i l<((i+l.length:Nat):Int))
  | [],i=> .inl rfl
  | x::r,i=>by
    unfold x81;split
    · right;simp only [List.length_cons];omega
    · rcases wv6 p r (i+1) with h | h
      · exact .inl h
      · right;simp only [List.length_cons];omega
theorem v14 {α:Type} (p:α→Bool):∀(l:List α) (i:Nat),decide (x81 p i l≥0)=l.any p
  | [],i=>rfl
  | x::r,i=>by
    unfold x81;rw [List.any_cons];split
    · rename_i h;rw [h];simp
    · rename_i h;rw [v14 p r (i+1)];simp [h]
end Go.V
namespace Go.V
set_option linter.unusedVariables false
def mkL {α:Type} (f:α→Int→α×Int):List α→Int→List α×Int
 | [],m=>([],m)
 | x::r,m=>((f x m).1::(mkL f r (f x m).2).1,(mkL f r (f x m).2).2)
mutual
def mkE:(sh:Sh)→Ty sh→Int→Ty sh×Int
 | .b,x,m=>(x,m)
 | .i _,_,m=>(m,m+1)
 | .s,x,m=>(x,m)
 | .l _ sh,xs,m=>mkL (mkE sh) xs m
 | .a fs,x,m=>vm9 fs x m
def vm9:(fs:List Sh)→TyL fs→Int→TyL fs×Int
 | [],x,m=>(x,m)
 | [f],x,m=>mkE f x m
 | f::g::r,x,m=>(((mkE f x.1 m).1,(vm9 (g::r) x.2 (mkE f x.1 m).2).1),(vm9 (g::r) x.2 (mkE f x.1 m).2).2)
end
mutual
def mkT:(sh:Sh)→Ty sh→Int→Ty sh×Int
 | .b,x,m=>(x,m)
 | .i _,x,m=>(x,m)
 | .s,x,m=>(x,m)
 | .l _ sh,xs,m=>mkL (mkE sh) xs m
 | .a fs,x,m=>xm9 fs x m
def xm9:(fs:List Sh)→TyL fs→Int→TyL fs×Int
 | [],x,m=>(x,m)
 | [f],x,m=>mkT f x m
 | f::g::r,x,m=>(((mkT f x.1 m).1,(xm9 (g::r) x.2 (mkT f x.1 m).2).1),(xm9 (g::r) x.2 (mkT f x.1 m).2).2)
end
mutual
def Sh.leafs:Sh→Nat
 | .i _=>1
 | .a fs=>Sh.leafsL fs
 | _=>0
def Sh.leafsL:List Sh→Nat
 | []=>0
 | f::r=>Sh.leafs f+Sh.leafsL r
end
mutual
def Sh.few:Sh→Bool
 | .l _ sh=>decide (sh.leafs≤16)&&sh.few
 | .a fs=>Sh.fewL fs
 | _=>true
def Sh.fewL:List Sh→Bool
 | []=>true
 | f::r=>Sh.few f&&Sh.fewL r
end
theorem xy9 {α:Type} {f:α→Int→α×Int} {s:α→Nat}:∀(xs:List α) (m:Int),(∀x ∈ xs,∀m,m≤(f x m).2∧(f x m).2≤m+16+16*s x)→m≤(mkL f xs m).2∧(mkL f xs m).2≤m+16*((xs.length+vn s xs:Nat):Int)
  | [],m,_=>by simp [mkL,vn]
  | x::r,m,h=>by
    have h1:=h x (by simp) m
    have h2:=xy9 r (f x m).2 fun y hy=>h y (by simp [hy])
    simp only [mkL,vn,List.length_cons];omega
theorem xb4 {α:Type} {f:α→Int→α×Int}:∀(xs:List α) (m:Int),(mkL f xs m).1.length=xs.length
 | [],m=>rfl
 | x::r,m=>by simp [mkL,xb4 r]
theorem zj8 {α:Type} {f:α→Int→α×Int} {s:α→Nat}:∀(xs:List α) (m:Int),(∀x ∈ xs,∀m,s (f x m).1=s x)→vn s (mkL f xs m).1=vn s xs
  | [],m,_=>rfl
  | x::r,m,h=>by
    simp only [mkL,vn,h x (by simp) m,zj8 r (f x m).2 fun y hy=>h y (by simp [hy])]
mutual
theorem vb2:(sh:Sh)→(x:Ty sh)→(m:Int)→sh.few=true→m≤(mkE sh x m).2∧(mkE sh x m).2≤m+sh.leafs+16*szT sh x
  | .b,x,m,_=>by simp [mkE,Sh.leafs,szT]
  | .i k,x,m,_=>by simp only [mkE,Sh.leafs,szT];omega
  | .s,x,m,_=>by simp [mkE,Sh.leafs,szT]
  | .l e sh,xs,m,h=>by
    simp only [Sh.few,Bool.and_eq_true,decide_eq_true_eq] at h
    have:=xy9 (f:=mkE sh) (s:=szT sh) xs m fun x _ m=>by have:=vb2 sh x m h.2;omega
    simp only [mkE,Sh.leafs,szT];omega
  | .a fs,x,m,h=>by simp only [mkE,Sh.leafs,szT];exact w1a fs x m (by simpa only [Sh.few] using h)
theorem w1a:(fs:List Sh)→(x:TyL fs)→(m:Int)→Sh.fewL fs=true→m≤(vm9 fs x m).2∧(vm9 fs x m).2≤m+Sh.leafsL fs+16*vw5 fs x
  | [],x,m,_=>by simp [vm9,Sh.leafsL,vw5]
  | [f],x,m,h=>by
    have:=vb2 f x m (by simpa [Sh.fewL] using h)
    simp only [vm9,Sh.leafsL,vw5];omega
  | f::g::r,x,m,h=>by
    rw [Sh.fewL,Bool.and_eq_true] at h;have h1:=vb2 f x.1 m h.1;have h2:=w1a (g::r) x.2 (mkE f x.1 m).2 h.2;simp only [vm9,vw5];rw [Sh.leafsL];omega
end
mutual
theorem wi1:(sh:Sh)→(x:Ty sh)→(m:Int)→sh.few=true→m≤(mkT sh x m).2∧(mkT sh x m).2≤m+16*szT sh x
  | .b,x,m,_=>by simp [mkT,szT]
  | .i k,x,m,_=>by simp [mkT,szT]
  | .s,x,m,_=>by simp [mkT,szT]
  | .l e sh,xs,m,h=>by
    simp only [Sh.few,Bool.and_eq_true,decide_eq_true_eq] at h
    have:=xy9 (f:=mkE sh) (s:=szT sh) xs m fun x _ m=>by have:=vb2 sh x m h.2;omega
    simp only [mkT,szT];omega
  | .a fs,x,m,h=>by simp only [mkT,szT];exact yea fs x m (by simpa only [Sh.few] using h)
theorem yea:(fs:List Sh)→(x:TyL fs)→(m:Int)→Sh.fewL fs=true→m≤(xm9 fs x m).2∧(xm9 fs x m).2≤m+16*vw5 fs x
  | [],x,m,_=>by simp [xm9,vw5]
  | [f],x,m,h=>by simp only [xm9,vw5];exact wi1 f x m (by simpa [Sh.fewL] using h)
  | f::g::r,x,m,h=>by
    rw [Sh.fewL,Bool.and_eq_true] at h;have h1:=wi1 f x.1 m h.1;have h2:=yea (g::r) x.2 (mkT f x.1 m).2 h.2;simp only [xm9,vw5];omega
end
mutual
theorem yv8:(sh:Sh)→(x:Ty sh)→(m:Int)→szT sh (mkE sh x m).1=szT sh x
  | .b,x,m=>by simp [mkE]
  | .i k,x,m=>by simp [szT]
  | .s,x,m=>by simp [mkE]
  | .l e sh,xs,m=>by
    simp only [mkE,szT,zj8 xs m fun x _ m=>yv8 sh x m]
    exact congrArg (· +vn (szT sh) xs) (xb4 xs m)
  | .a fs,x,m=>by simp only [mkE,szT];exact vs9 fs x m
theorem vs9:(fs:List Sh)→(x:TyL fs)→(m:Int)→vw5 fs (vm9 fs x m).1=vw5 fs x
 | [],x,m=>by simp [vm9]
 | [f],x,m=>by simp only [vm9,vw5];exact yv8 f x m
 | f::g::r,x,m=>by simp only [vm9,vw5,yv8 f,vs9 (g::r)]
end
mutual
theorem y5b:(sh:Sh)→(x:Ty sh)→(m:Int)→szT sh (mkT sh x m).1=szT sh x
  | .b,x,m=>by simp [mkT]
  | .i k,x,m=>by simp [mkT]
  | .s,x,m=>by simp [mkT]
  | .l e sh,xs,m=>by
    simp only [mkT,szT,zj8 xs m fun x _ m=>yv8 sh x m]
    exact congrArg (· +vn (szT sh) xs) (xb4 xs m)
  | .a fs,x,m=>by simp only [mkT,szT];exact x3a fs x m
theorem x3a:(fs:List Sh)→(x:TyL fs)→(m:Int)→vw5 fs (xm9 fs x m).1=vw5 fs x
 | [],x,m=>by simp [xm9]
 | [f],x,m=>by simp only [xm9,vw5];exact y5b f x m
 | f::g::r,x,m=>by simp only [xm9,vw5,y5b f,x3a (g::r)]
end
section
variable {V R α:Type}
theorem w38 {L:Nat→V→Option R} {X:V→Option R} (mk:List α→Int→Int→V) {f:α→Int→α×Int} {s:α→Nat} {B:Int} {P:α→Prop}
    (hs:∀n a (i:Nat) m x,i<a.length→a[i]? =some x→P x→0≤m→m+16+16*s x≤B→(0:Int)≤(i:Int)→(i:Int)<(a.length:Int)→(i:Int).toNat=i→IntKind.i64.wrap ((i:Int)+1)=((i+1:Nat):Int)→
      L (n+1) (mk a (i:Int) m)=L n (mk (a.set i (f x m).1) ((i+1:Nat):Int) (f x m).2))
    (hx:∀n a m,L (n+1) (mk a (a.length:Int) m)=X (mk a (a.length:Int) m)) (hf:∀x m,m≤(f x m).2∧(f x m).2≤m+16+16*s x):
    ∀(r:List α) (n i:Nat) (a:List α) (m:Int),(∀x ∈ r,P x)→a.length≤140737488351232→a.drop i=r→i≤a.length→r.length<n→0≤m→m+16*((r.length+vn s r:Nat):Int)≤B→
      L n (mk a (i:Int) m)=X (mk (a.take i++(mkL f r m).1) (a.length:Int) (mkL f r m).2)
  | [],n+1,i,a,m,hP,hl,hd,hi,hn,h0,hB=>by
    have:i=a.length:=by have:=congrArg List.length hd;simp at this;omega
    subst this;rw [hx];simp [mkL]
  | x::r,n+1,i,a,m,hP,hl,hd,hi,hn,h0,hB=>by
    have hlt:i<a.length:=by
      rcases Nat.lt_or_ge i a.length with h | h
      · exact h
      · rw [List.drop_eq_nil_of_le h] at hd;cases hd
    have hx':a[i]? =some x:=by
      have:=congrArg (·[0]?) hd
      simpa using this
    have hd':a.drop (i+1)=r:=by
      rw [←List.drop_drop,hd];rfl
    simp only [vn,List.length_cons] at hB hn;have hfx:=hf x m;rw [hs n a i m x hlt hx' (hP x (by simp)) h0 (by omega) (by omega) (by omega) (by simp) (yd1 hlt (by omega)),w38 mk hs hx hf r n (i+1) (a.set i (f x m).1) (f x m).2 (fun y hy=>hP y (by simp [hy])) (by simpa using hl) ?_ (by simp;omega) (by omega) (by omega) (by omega)]
    · congr 1
      have e:(a.set i (f x m).1).take (i+1)=a.take i++[(f x m).1]:=by
        rw [List.take_add_one,List.take_set_of_le (Nat.le_refl i)];simp [hlt]
      rw [e];simp [mkL]
    · rw [List.drop_set_of_lt (by omega)]
      exact hd'
theorem wz {L:Nat→V→Option R} {X:V→Option R} (mk:List α→Int→Int→V) {f:α→Int→α×Int} {s:α→Nat} {B:Int} {P:α→Prop}
 (hs:∀n a (i:Nat) m x,i<a.length→a[i]? =some x→P x→0≤m→m+16+16*s x≤B→(0:Int)≤(i:Int)→(i:Int)<(a.length:Int)→(i:Int).toNat=i→IntKind.i64.wrap ((i:Int)+1)=((i+1:Nat):Int)→
  L (n+1) (mk a (i:Int) m)=L n (mk (a.set i (f x m).1) ((i+1:Nat):Int) (f x m).2))
 (hx:∀n a m,L (n+1) (mk a (a.length:Int) m)=X (mk a (a.length:Int) m)) (hf:∀x m,m≤(f x m).2∧(f x m).2≤m+16+16*s x)
 {a:List α} {n:Nat} {m:Int} (hP:∀x ∈ a,P x) (hl:a.length≤140737488351232) (hn:a.length<n) (h0:0≤m) (hB:m+16*((a.length+vn s a:Nat):Int)≤B):
 L n (mk a 0 m)=X (mk (mkL f a m).1 (a.length:Int) (mkL f a m).2):=by
 have:=w38 mk hs hx hf a n 0 a m hP hl rfl (Nat.zero_le _) hn h0 hB
 simpa using this
theorem xx7 {L:Nat→V→Option R} {X:V→Option R} {a:List α} (mk:Int→Int→V) {f:α→Int→α×Int} {s:α→Nat} {B:Int} {P:α→Prop}
    (hs:∀n (i:Nat) m x,i<a.length→a[i]? =some (f x m).1→P x→0≤m→m+16+16*s x≤B→(0:Int)≤(i:Int)→(i:Int)<(a.length:Int)→(i:Int).toNat=i→IntKind.i64.wrap ((i:Int)+1)=((i+1:Nat):Int)→L (n+1) (mk (i:Int) m)=L n (mk ((i+1:Nat):Int) (f x m).2))
    (hx:∀n m,L (n+1) (mk (a.length:Int) m)=X (mk (a.length:Int) m)) (hf:∀x m,m≤(f x m).2∧(f x m).2≤m+16+16*s x) (hl:a.length≤140737488351232):
    ∀(r:List α) (n i:Nat) (m:Int),(∀x ∈ r,P x)→a.drop i=(mkL f r m).1→i+r.length=a.length→r.length<n→0≤m→m+16*((r.length+vn s r:Nat):Int)≤B→L n (mk (i:Int) m)=X (mk (a.length:Int) (mkL f r m).2)
  | [],n+1,i,m,hP,hd,hi,hn,h0,hB=>by
    have:i=a.length:=by simpa using hi
    subst this;rw [hx];simp [mkL]
  | x::r,n+1,i,m,hP,hd,hi,hn,h0,hB=>by
    simp only [List.length_cons] at hi hn;have hlt:i<a.length:=by omega
    simp only [mkL] at hd;have hx':a[i]? =some (f x m).1:=by
      have:=congrArg (·[0]?) hd
      simpa using this
    have hd':a.drop (i+1)=(mkL f r (f x m).2).1:=by
      rw [←List.drop_drop,hd];rfl
    simp only [vn,List.length_cons] at hB;have hfx:=hf x m;rw [hs n i m x hlt hx' (hP x (by simp)) h0 (by omega) (by omega) (by omega) (by simp) (yd1 hlt (by omega)),xx7 mk hs hx hf hl r n (i+1) (f x m).2 (fun y hy=>hP y (by simp [hy])) hd' (by omega) (by omega) (by omega) (by omega)]
    simp [mkL]
theorem xd9 {L:Nat→V→Option R} {X:V→Option R} (mk:Int→Int→V) {f:α→Int→α×Int} {s:α→Nat} {B:Int} {P:α→Prop} {r a:List α} {m:Int} (ha:a=(mkL f r m).1)
 (hs:∀n (i:Nat) m x,i<a.length→a[i]? =some (f x m).1→P x→0≤m→m+16+16*s x≤B→(0:Int)≤(i:Int)→(i:Int)<(a.length:Int)→(i:Int).toNat=i→IntKind.i64.wrap ((i:Int)+1)=((i+1:Nat):Int)→L (n+1) (mk (i:Int) m)=L n (mk ((i+1:Nat):Int) (f x m).2))
 (hx:∀n m,L (n+1) (mk (a.length:Int) m)=X (mk (a.length:Int) m)) (hf:∀x m,m≤(f x m).2∧(f x m).2≤m+16+16*s x)
 {n:Nat} (hP:∀x ∈ r,P x) (hl:r.length≤140737488351232) (hn:r.length<n) (h0:0≤m) (hB:m+16*((r.length+vn s r:Nat):Int)≤B):
 L n (mk 0 m)=X (mk (a.length:Int) (mkL f r m).2):=by
 have e:a.length=r.length:=by rw [ha,xb4]
 have:=xx7 mk hs hx hf (by omega) r n 0 m hP (by simpa using ha) (by omega) hn h0 hB
 simpa using this
end
section
variable {V S α R:Type}
theorem zo9 {L:Nat→V→Option R} {X:S→Int→Option R} {a:List α} (mk:S→Int→V) {body:Nat→S→Int→α→Option R} (res:S→Nat→List α→Option R) (I:S→Nat→Prop)
    (hs:∀n s i,L (n+1) (mk s i)=if decide (i<(a.length:Int))=true then if 0≤i then ix a i.toNat (body n s i) else none else X s i)
    (hl:a.length≤140737488351232) (he:∀s,I s a.length→X s (a.length:Int)=res s a.length [])
    (hb:∀n (i:Nat) s x r,I s i→(0:Int)≤(i:Int)→(i:Int).toNat=i→IntKind.i64.wrap ((i:Int)+1)=((i+1:Nat):Int)→i<a.length→a[i]? =some x→(∀s',I s' (i+1)→L n (mk s' ((i+1:Nat):Int))=res s' (i+1) r)→body n s (i:Int) x=res s i (x::r)):
    ∀(m n i:Nat) (s:S),I s i→i+m=a.length→m<n→L n (mk s (i:Int))=res s i (a.drop i)
  | 0,n+1,i,s,hI,h,_=>by
    have hi:i=a.length:=by omega
    subst hi;rw [hs,if_neg (by simp),he s hI]
    simp
  | m+1,n+1,i,s,hI,h,hn=>by
    have hi:i<a.length:=by omega
    have hin:(i:Int).toNat=i:=by simp
    rw [hs,if_pos (by simp;omega),if_pos (by omega),hin,w61 hi,List.drop_eq_getElem_cons hi]
    refine hb n i s _ _ hI (by omega) hin ?_ hi (List.getElem?_eq_getElem hi) fun s' hI'=>zo9 mk res I hs hl he hb m n (i+1) s' hI' (by omega) (by omega)
    rw [yd1 hi (by omega)]
theorem yc2 {L:Nat→V→Option R} {X:S→Int→Option R} {a:List α} (mk:S→Int→V) {body:Nat→S→Int→α→Option R} (res:S→Nat→List α→Option R) (I:S→Nat→Prop)
 (hs:∀n s i,L (n+1) (mk s i)=if decide (i<(a.length:Int))=true then if 0≤i then ix a i.toNat (body n s i) else none else X s i)
 (hl:a.length≤140737488351232) (he:∀s,I s a.length→X s (a.length:Int)=res s a.length [])
 (hb:∀n (i:Nat) s x r,I s i→(0:Int)≤(i:Int)→(i:Int).toNat=i→IntKind.i64.wrap ((i:Int)+1)=((i+1:Nat):Int)→i<a.length→a[i]? =some x→(∀s',I s' (i+1)→L n (mk s' ((i+1:Nat):Int))=res s' (i+1) r)→body n s (i:Int) x=res s i (x::r))
 {n:Nat} (hn:a.length<n) (s:S) (hI:I s 0):L n (mk s 0)=res s 0 a:=by
 have:=zo9 mk res I hs hl he hb a.length n 0 s hI (by omega) hn
 simpa using this
theorem v5b {L:Nat→V→Option R} {len:Nat} (mk:S→Int→V) (res:S→Nat→Option R) (I:S→Nat→Prop) (hlen:len≤140737488351232)
 (hb:∀n (i:Nat) s,I s i→i≤len→(0:Int)≤(i:Int)→(i:Int).toNat=i→IntKind.i64.wrap ((i:Int)+1)=((i+1:Nat):Int)→(i<len→∀s',I s' (i+1)→L n (mk s' ((i+1:Nat):Int))=res s' (i+1))→L (n+1) (mk s (i:Int))=res s i):
 ∀(m n i:Nat) (s:S),I s i→i+m=len→m<n→L n (mk s (i:Int))=res s i
 | 0,n+1,i,s,hI,h,_=>hb n i s hI (by omega) (by omega) (by simp) (by rw [y9 (by omega) (by omega)];omega) (fun hi=>absurd hi (by omega))
 | m+1,n+1,i,s,hI,h,hn=>hb n i s hI (by omega) (by omega) (by simp) (by rw [y9 (by omega) (by omega)];omega) (fun hi s' hI'=>v5b mk res I hlen hb m n (i+1) s' hI' (by omega) (by omega))
theorem z4a {L:Nat→V→Option R} {len:Nat} (mk:S→Int→V) (res:S→Nat→Option R) (I:S→Nat→Prop) (hlen:len≤140737488351232)
 (hb:∀n (i:Nat) s,I s i→i≤len→(0:Int)≤(i:Int)→(i:Int).toNat=i→IntKind.i64.wrap ((i:Int)+1)=((i+1:Nat):Int)→(i<len→∀s',I s' (i+1)→L n (mk s' ((i+1:Nat):Int))=res s' (i+1))→L (n+1) (mk s (i:Int))=res s i)
 {n:Nat} (hn:len<n) (s:S) (hI:I s 0):L n (mk s 0)=res s 0:=by
 have:=v5b mk res I hlen hb len n 0 s hI (by omega) hn
 simpa using this
end
theorem j53 {α R:Type} {xs:List α} {i:Nat} {z:α} (h:i<xs.length) (K:α→Option R):ix (xs.set i z) i K=K z:=by
 unfold ix;rw [List.getElem?_set_self h]
end Go.V
namespace Go.V
set_option linter.unusedVariables false
theorem yra {α:Type} (xs:List α):wh9 xs.isEmpty (some ([]:List α)) (some xs)=some xs:=by
 cases xs<;>simp [wh9]
end Go.V
namespace Go.V
open Go.Sort
set_option linter.unusedVariables false
set_option linter.unusedSimpArgs false
def wo5 (P:Program) (tab:List (Nat×Array Value)) (tk:List (Option Sh)) (rs:RSh) (f:Nat) (g:List AV→Option (RTy rs)):Prop:=
 ∀xs p,g xs=some p→jg3 P f∧∀(G:Nat→Prop) (w:World) (us:List Value) (L0:List Nat),(∀p ∈ tab,(∃ty fr,w.heap[p.1]? =some (.cells p.2 ty fr))∧p.1 ∉ L0)→yu3 w G tk xs us L0→L0.Nodup→(∀b ∈ L0,b<w.heap.size∧¬G b)→
  Calls P f us.toArray w fun e w'=>∃v,e= .returned v∧Chg L0 w w'∧xga G w w' L0 (y22 tk us) rs p v
theorem wo5.sound1 {E:Env} {f:Nat} {g:List AV→Option (RTy (E.rs f))} (h:wo5 E.P E.tab (E.tk f) (E.rs f) f g):yy6 E f g:=h
theorem v48 (w:World):∀(xs:List Int) (us:List Value),(∀(j:Nat) (x:Int),xs[j]? =some x→us[j]? =some (Value.int .i64 x))→z73 1 (wr w (.i .i64)) xs us []
  | [],us,_=>rfl
  | x::xs,us,h=>by
    cases us with
    | nil=>
      have:=h 0 x rfl
      simp at this
    | cons u us=>
      have h0:=h 0 x rfl;simp only [List.getElem?_cons_zero,Option.some.injEq] at h0
      refine ⟨[],[],rfl,?_,?_⟩
      · simp only [wr];exact ⟨by rw [h0];rfl,trivial⟩
      · exact v48 w xs us fun j y hy=>by simpa using h (j+1) y (by simpa using hy)
theorem vm3 {w:World} {e:Nat} {xs:List Int} {us:List Value} {L:List Nat} (h:z73 1 (wr w (.i .i64)) xs us L):L=[]∧∀(j:Nat) (x:Int),xs[j]? =some x→us[j]? =some (Value.int .i64 x):=by
 refine ⟨y38 h fun x vs L hx=>zt4 (.i .i64) x vs L rfl hx,fun j x hx=> ?_⟩
 obtain ⟨L1,_,h1⟩:=xh6 h j x hx;simp only [wr,Nat.mul_one] at h1
 have:=congrArg (·[0]?) h1.1
 simpa [List.getElem?_take,List.getElem?_drop] using this
theorem own_int_holds {w:World} {e g off cap:Nat} {cur:Array Value} {xs:List Int} {L:List Nat} (hg:w.heap[g]? =some (.cells cur e (0,0))) (h:z73 1 (wr w (.i .i64)) xs (cur.toList.drop off) L):Holds (Value.int .i64) w g off xs.toArray:=by
 intro j hj;have hj':j<xs.length:=by simpa using hj
 have h1:=(vm3 (e:=e) h).2 j _ (List.getElem?_eq_getElem hj')
 rw [List.getElem?_drop] at h1
 refine ⟨?_,by simp [World.frozen?,hg]⟩
 rw [cell_of_row w g _ cur e (0,0) hg,←Array.getElem?_toList,h1]
 simp [getElem!_pos,hj']
theorem xp8 (enc:Int→Value) {w:World} {g off e:Nat} {cur:Array Value} (d:Array Int) (hg:w.heap[g]? =some (.cells cur e (0,0))):(putRow enc w g off d).heap[g]? =some (.cells (putCells enc off d cur) e (0,0)):=by
 simp [putRow,mapBlock,Array.getElem?_modify,hg,onCells]
theorem vj9 (enc:Int→Value) (w:World) (g off k:Nat) (d:Array Int) (hk:k≠g):(putRow enc w g off d).heap[k]? =w.heap[k]? :=by
 simp [putRow,mapBlock,Array.getElem?_modify,Ne.symm hk]
theorem zga (enc:Int→Value) (w:World) (g off n:Nat) (d:Array Int) (os:Array Obj):Chg [g] w (grow (putRow enc (Sort.ahead w n) g off d) os):=by
 refine ⟨rfl,rfl,rfl,?_,fun k hk hn=> ?_⟩
 · simp [grow,putRow,mapBlock,Sort.ahead]
 · have hne:k≠g:=by simpa using hn
   have hs:k<(putRow enc (Sort.ahead w n) g off d).heap.size:=by simpa [putRow,mapBlock,Sort.ahead] using hk
   show ((putRow enc (Sort.ahead w n) g off d).heap++os)[k]? =w.heap[k]?
   rw [Array.getElem?_append_left hs]
   exact vj9 enc (Sort.ahead w n) g off k d hne
abbrev zmb (w:World) (e:Nat) (xs:List Int) (u:Value) (L:List Nat):Prop:=zr (α:=Int) w e 1 (wr w (.i .i64)) xs u L
theorem z76 {w:World} {e g off cap m n:Nat} {cur:Array Value} {zs:List Int} (hg:w.heap[g]? =some (.cells cur e (0,0))) (hcap:zs.length≤cap) (hmx:cap≤maxLen) (hcs:cur.size=off+cap*1) (hm:m≤zs.length) (os:Array Obj):
 zmb (grow (putRow (Value.int .i64) (Sort.ahead w n) g off zs.toArray) os) e (zs.take m) (.slice (some ⟨g,off,none⟩) m cap) [g]:=by
 have hlt:=(Array.getElem?_eq_some_iff.1 hg).1
 have hml:(zs.take m).length=m:=by rw [List.length_take,Nat.min_eq_left hm]
 refine .inr ⟨g,off,cap,putCells (Value.int .i64) off zs.toArray cur,[],?_,?_,?_,hmx,by simp [putCells,hcs],rfl,v48 _ (zs.take m) _ fun j x hx=> ?_⟩
 · show Value.slice (some ⟨g,off,none⟩) m cap=Value.slice (some ⟨g,off,none⟩) (zs.take m).length cap
   rw [hml]
 · have hs:g<(putRow (Value.int .i64) (Sort.ahead w n) g off zs.toArray).heap.size:=by simpa [putRow,mapBlock,Sort.ahead] using hlt
   show ((putRow (Value.int .i64) (Sort.ahead w n) g off zs.toArray).heap++os)[g]? =_
   rw [Array.getElem?_append_left hs]
   exact xp8 (w:=Sort.ahead w n) (Value.int .i64) zs.toArray hg
 · show (zs.take m).length≤cap
   omega
 · rw [List.getElem?_take] at hx
   split at hx
   · have hj:j<zs.length:=(List.getElem?_eq_some_iff.1 hx).1
     rw [List.getElem?_drop,Array.getElem?_toList]
     have hc:off+j<cur.size:=by omega
     simp only [putCells,Array.getElem?_mapIdx,Array.getElem?_eq_getElem hc,Option.map_some]
     rw [if_pos ⟨by omega,by simp;omega⟩]
     have e1:off+j-off=j:=by omega
     rw [e1];rw [List.getElem?_eq_getElem hj,Option.some.injEq] at hx
     simp [hj,hx]
   · cases hx
theorem wtb {e:Nat} {sh:Sh} {c:C} {y:List (Ty sh)} (h:rd (.l e sh) [c]=some (y,[])):C.isSl e sh c=some y:=by
 simp only [rd,zr4] at h;split at h
 · rename_i x hx;obtain ⟨h1,_⟩:=Prod.mk.inj (Option.some.inj h);rw [←h1];exact hx
 · cases h
theorem js7 {w:World} {G:Nat→Prop} {e e':Nat} {sh:Sh} {xs:List (Ty sh)} {t:List (Option Sh)} {rest:List AV} {us:List Value} {L0:List Nat} (h:yu3 w G (some (.l e sh)::t) (.c (.l e' sh xs)::rest) us L0):
 e'=e∧∃u vs L1 L2,us=u::vs∧zr w e sh.n (wr w sh) xs u L1∧L0=L1++L2∧yu3 w G t rest vs L2:=by
 obtain ⟨u,vs,rfl,y,cs,L1,L2,h1,rfl,h2,rfl,h3⟩:=h;have h4:=wtb h1;simp only [C.isSl] at h4;split at h4
 · rename_i he;obtain ⟨e1,e2⟩:=zi3 h4;have e2:xs=y:=e2;subst e2;simp only [wr] at h2;obtain ⟨u,rfl,h2⟩:=h2;exact ⟨he,u,vs,L1,L2,rfl,h2,rfl,h3⟩
 · cases h4
theorem xka {P:Program} {tab:List (Nat×Array Value)} {f e:Nat} {g:List Int→Option (List Int)} {Gx:List AV→Option (List Int)} (hG:∀xs p,Gx xs=some p→∃e' zs,xs=[.c (.l e' (.i .i64) zs)]∧g zs=some p) (hen:jg3 P f)
 (core:∀(zs ys:List Int) (u:Value) (L:List Nat) (w:World),g zs=some ys→zmb w e zs u L→(∀b ∈ L,b<w.heap.size)→Calls P f #[u] w fun r w'=>r= .returned (.tuple #[])∧Chg L w w'∧zmb w' e ys u L):
 wo5 P tab [some (.l e (.i .i64))] ⟨true,[.l e (.i .i64)],1⟩ f Gx:=by
 intro xs p hp;obtain ⟨e',zs,rfl,hgp⟩:=hG _ _ hp;refine ⟨hen,fun Gd w us L0 htab hargs hnd hL0=> ?_⟩
 obtain ⟨rfl,u,vs,L1,L2,rfl,hO,rfl,hv,_,rfl⟩:=js7 (sh:= .i .i64) (xs:=zs) hargs;cases vs with
 | cons v vs=>simp [zl] at hv
 | nil=>
 obtain ⟨A,c,hu,_⟩:=zg5 hO;have hV:y22 [some (.l e' (.i .i64))] [u]=[u]:=by
  subst hu;rfl
 refine (core zs p u L1 w hgp hO (fun b hb=>(hL0 b (by simpa using hb)).1)).mono ?_
 rintro r w' ⟨rfl,hC,hO'⟩
 refine ⟨_,rfl,by simpa using hC,[u],rfl,by rw [hV];rfl,L1,⟨[u],rfl,?_⟩,by simpa using hnd,fun b hb=>⟨.inr (by simpa using hb),Nat.lt_of_lt_of_le (hL0 b (by simpa using hb)).1 hC.size⟩⟩
 simp only [wr];exact ⟨u,rfl,hO'⟩
theorem js8 {P:Program} {tab:List (Nat×Array Value)} {f e:Nat} {sh:Sh} {t:List (Option Sh)} {G:List AV→Option (List (Ty sh))} (hG:∀xs p,G xs=some p→∃e' zs rest,xs= .c (.l e' sh zs)::rest) (hen:jg3 P f)
 (core:∀(zs ys:List (Ty sh)) (rest:List AV) (u:Value) (vs:List Value) (L1 L2:List Nat) (Gd:Nat→Prop) (w:World),G (.c (.l e sh zs)::rest)=some ys→zr w e sh.n (wr w sh) zs u L1→yu3 w Gd t rest vs L2→(L1++L2).Nodup→(∀b ∈ L1++L2,b<w.heap.size∧¬Gd b)→
  Calls P f (u::vs).toArray w fun r w'=>∃v,r= .returned v∧Chg (L1++L2) w w'∧∃L,zr w' e sh.n (wr w' sh) ys v L∧L.Nodup∧∀b ∈ L,(w.heap.size≤b∨b ∈ L1++L2)∧b<w'.heap.size):
 wo5 P tab (some (.l e sh)::t) ⟨true,[.l e sh],0⟩ f G:=by
 intro xs p hp;obtain ⟨e',zs,rest,rfl⟩:=hG _ _ hp;refine ⟨hen,fun Gd w us L0 htab hargs hnd hL0=> ?_⟩
 obtain ⟨rfl,u,vs,L1,L2,rfl,hO,rfl,hv⟩:=js7 hargs;refine (core zs p rest u vs L1 L2 Gd w hp hO hv hnd hL0).mono ?_
 rintro r w' ⟨v,rfl,hC,L,hO',hnd',hL⟩
 refine ⟨v,rfl,hC,[v],rfl,rfl,L,⟨[v],rfl,?_⟩,hnd',hL⟩
 simp only [wr];exact ⟨v,rfl,hO'⟩
def zf5 (xs:List Int):List Int:=xs.mergeSort fun x y=>decide (x≤y)
def xc7:List AV→Option (List Int)
 | [.c (.l _ (.i .i64) xs)]=>if List.length (α:=Int) xs≤1099511627776 then some (zf5 xs) else none
 | _=>none
theorem vn7 {P:Program} {tab:List (Nat×Array Value)} {f e:Nat} (hen:jg3 P f)
 (hc:∀(blk off cap:Nat) (zs:List Int) (w:World),Holds (Value.int .i64) w blk off zs.toArray→blk<w.heap.size→zs.length<4611686018427387904→
  Calls P f #[.slice (some ⟨blk,off,none⟩) zs.length cap] w fun e w'=>e= .returned (.tuple #[])∧∃n os,w'=grow (putRow (Value.int .i64) (Sort.ahead w n) blk off (zs.mergeSort fun x y=>decide (x≤y)).toArray) os)
 (h0:∀(p:Option Addr) (cap:Nat) (w:World),Calls P f #[.slice p 0 cap] w fun e w'=>e= .returned (.tuple #[])∧w'=w):
 wo5 P tab [some (.l e (.i .i64))] ⟨true,[.l e (.i .i64)],1⟩ f xc7:=by
 refine xka (g:=fun zs=>if zs.length≤1099511627776 then some (zf5 zs) else none) (fun xs p hp=> ?_) hen fun zs ys u L w hg hO hL=> ?_
 · unfold xc7 at hp;split at hp
   · rename_i e' zs;exact ⟨e',zs,rfl,hp⟩
   · cases hp
 · split at hg
   case isFalse=>cases hg
   rename_i hlen;cases hg
   rcases hO with ⟨rfl,rfl,A,rfl⟩ | ⟨g,off,cap,cur,L',rfl,hg,hl,hm,hs,rfl,hr⟩
   · refine (h0 A 0 w).mono ?_
     rintro e w' ⟨rfl,rfl⟩
     exact ⟨rfl,Chg.refl _ _,.inl ⟨by simp [zf5],rfl,A,rfl⟩⟩
   · obtain ⟨rfl,_⟩:=vm3 (e:=e) hr;have hgl:=hL g (by simp)
     refine (hc g off cap zs w (own_int_holds (cap:=cap) hg hr) hgl (by omega)).mono ?_
     rintro e' w' ⟨rfl,n,os,rfl⟩
     have hlen':(zf5 zs).length=zs.length:=by simp [zf5]
     refine ⟨rfl,zga _ _ _ _ _ _ _,?_⟩
     have:=z76 (n:=n) (m:=(zf5 zs).length) (zs:=zf5 zs) hg (by rw [hlen'];exact hl) hm hs (Nat.le_refl _) os
     rw [List.take_length,hlen'] at this;exact this
def vu2 (xs:List Int):List Int:=Lib.compact xs
def ye3:List AV→Option (List Int)
 | [.c (.l _ (.i .i64) xs)]=>some (vu2 xs)
 | _=>none
theorem x17 (zs:List Int):(Lib.compact zs).length≤zs.length:=by
 unfold Lib.compact Lib.compactUpTo;rw [List.length_map];exact Nat.le_trans (List.length_filter_le _ _) (by simp)
theorem yx5 {P:Program} {tab:List (Nat×Array Value)} {f e:Nat} (hen:jg3 P f)
 (hc:∀(blk off cap:Nat) (zs:List Int) (w:World),Holds (Value.int .i64) w blk off zs.toArray→zs.length≤9223372036854775807→zs.length≤cap→
  Calls P f #[.slice (some ⟨blk,off,none⟩) zs.length cap] w fun e w'=>e= .returned (.slice (some ⟨blk,off,none⟩) (Lib.compact zs).length cap)∧∃q,w'=putRow (Value.int .i64) (Sort.ahead w q) blk off (Lib.compact zs++List.replicate (zs.length-(Lib.compact zs).length) 0).toArray)
 (h0:∀(p:Option Addr) (w:World),Calls P f #[.slice p 0 0] w fun e w'=>e= .returned (.slice p 0 0)∧w'=w):
 wo5 P tab [some (.l e (.i .i64))] ⟨true,[.l e (.i .i64)],0⟩ f ye3:=by
 refine js8 (sh:= .i .i64) (fun xs p hp=> ?_) hen fun zs ys rest u vs L1 L2 Gd w hg hO hv hnd hL=> ?_
 · unfold ye3 at hp;split at hp
   · rename_i e' zs;exact ⟨e',zs,[],rfl⟩
   · cases hp
 · cases rest with
   | cons x rest=>simp [ye3] at hg
   | nil=>
   obtain ⟨hv,_,rfl⟩:=hv;cases vs with
   | cons v vs=>simp [zl] at hv
   | nil=>
   have key:∀(zs ys:List Int),ys=vu2 zs→zmb w e zs u L1→Calls P f #[u] w fun r w'=>∃v,r= .returned v∧Chg (L1++[]) w w'∧∃L,zmb w' e ys v L∧L.Nodup∧∀b ∈ L,(w.heap.size≤b∨b ∈ L1++[])∧b<w'.heap.size:=by
    rintro zs ys rfl (⟨rfl,rfl,A,rfl⟩ | ⟨g,off,cap,cur,L',rfl,hg,hl,hm,hs,rfl,hr⟩)
    · refine (h0 A w).mono ?_
      rintro r w' ⟨rfl,rfl⟩
      exact ⟨_,rfl,Chg.refl _ _,[],.inl ⟨List.eq_nil_of_length_eq_zero (Nat.le_zero.1 (x17 [])),rfl,A,rfl⟩,List.nodup_nil,by simp⟩
    · obtain ⟨rfl,_⟩:=vm3 (e:=e) hr;have hgl:=(hL g (by simp)).1
      have hmx:zs.length≤9223372036854775807:=Nat.le_trans hl hm;refine (hc g off cap zs w (own_int_holds (cap:=cap) hg hr) hmx hl).mono ?_
      rintro r w' ⟨rfl,q,rfl⟩
      have hle:=x17 zs;have hlen':(Lib.compact zs++List.replicate (zs.length-(Lib.compact zs).length) 0).length=zs.length:=by
       rw [List.length_append,List.length_replicate];omega
      have hgrow:∀W:World,W=grow W #[]:=fun W=>by simp [grow]
      have hch:=zga (Value.int .i64) w g off q (Lib.compact zs++List.replicate (zs.length-(Lib.compact zs).length) 0).toArray #[];rw [←hgrow] at hch;refine ⟨_,rfl,by simpa using hch,[g],?_,by simp,fun b hb=>⟨.inr (by simpa using hb),?_⟩⟩
      · have:=z76 (n:=q) (m:=(Lib.compact zs).length) (zs:=Lib.compact zs++List.replicate (zs.length-(Lib.compact zs).length) 0) hg (by rw [hlen'];exact hl) hm hs (by rw [hlen'];exact hle) #[]
        rw [←hgrow,List.take_left] at this;exact this
      · rw [List.mem_singleton.1 hb];simp only [putRow,mapBlock,Sort.ahead,Array.size_modify];exact hgl
   have hg:some (vu2 zs)=some ys:=hg;exact key zs ys (Option.some.inj hg).symm hO
def xe8:List Value→Nat→Array Value→Array Value
 | [],_,c=>c
 | v::r,o,c=>xe8 r (o+1) (c.setIfInBounds o v)
theorem zt7 (b:Nat):∀(vs:List Value) (o:Nat) (w:World),w.setCells b o vs=mapBlock w b (xe8 vs o)
  | [],o,w=>(mapBlock_id w b _ fun _ _ _ _=>rfl).symm
  | v::r,o,w=>by
    rw [World.setCells,zt7 b r (o+1),setCell_eq,mapBlock_mapBlock];rfl
theorem w69:∀(vs:List Value) (o:Nat) (c:Array Value),(xe8 vs o c).size=c.size
 | [],_,_=>rfl
 | v::r,o,c=>by rw [xe8,w69 r];simp
theorem js9:∀(vs:List Value) (o:Nat) (c:Array Value) (k:Nat),o+vs.length≤c.size→(xe8 vs o c)[k]? =if o≤k∧k<o+vs.length then vs[k-o]? else c[k]?
  | [],o,c,k,_=>by simp [xe8];intro h1 h2;omega
  | v::r,o,c,k,h=>by
    rw [xe8,js9 r (o+1) _ k (by simp at h ⊢;omega)]
    simp only [List.length_cons] at h ⊢;by_cases h1:k=o
    · subst h1;rw [if_neg (by omega),if_pos (by omega),Nat.sub_self,Array.getElem?_setIfInBounds_self_of_lt (by omega)]
      rfl
    · by_cases h2:o+1≤k∧k<o+1+r.length
      · rw [if_pos h2,if_pos (by omega),show k-o=(k-(o+1))+1 by omega,List.getElem?_cons_succ]
      · rw [if_neg h2,if_neg (by omega),Array.getElem?_setIfInBounds_ne (by omega)]
def jpb {sh:Sh}:List AV→Option (List (Ty sh))
  | [.c (.l _ sh' xs),.c (.v (.int .i64 i)),.c (.v (.int .i64 j))]=>if 0≤i then if i<j then if j≤(xs.length:Int) then match wg3 (sh':=sh) xs with
    | some xs=>some (xs.take i.toNat++xs.drop j.toNat)
    | none=>none
    else none else none else none
  | _=>none
end Go.V
namespace Go.V
open Go.Sort
open Go.RowKit (Below)
set_option linter.unusedVariables false
set_option linter.unusedSimpArgs false
def zyb (xs:List Int) (i:Nat) (x:Int):List Int:=xs.take i++x::xs.drop i
def yob:List AV→Option (List Int)
  | [.c (.l _ (.i .i64) xs),.c (.v (.int .i64 i)),.c (.l _ (.i .i64) ys)]=>match (ys:List Int) with
    | [x]=>if 0≤i then if i≤(List.length (α:=Int) xs:Int) then if (List.length (α:=Int) xs+1)*8≤140737488355328 then some (zyb xs i.toNat x) else none else none else none
    | _=>none
  | _=>none
section
variable {P:Program} {tab:List (Nat×Array Value)} {f e:Nat}
end
end Go.V
