/- The interpreter's third part: closures, regions that draw an order. No condition. -/
import Derived.Test.YtdglapefgakccaaGreatV2
import Derived.OrdersHeld
set_option linter.unusedSimpArgs false
set_option linter.unusedVariables false
namespace Go.V
open Go.RowKit (Below)
section
variable {E:Env} {G:Nat->Prop} {w0:Base} {st:St} {a:Act} {w:World} {β:Nat->Value} {Lf:Nat->List Nat} {R:Type} {r:R} {o:Oper} {call:CallD E}
theorem place_VC {w:World} {ok ok':Nat->Prop} {β β':Nat->Value} {b b' n:Nat} {c:C} {u:Value} (h:VC w ok β (c.place b) u) (hok:∀k,ok k->k<w.heap.size->ok' k/\w.heap[k]? =w.heap[k]?) (hlt:c.lt n) (hβ:∀i,i<n->β' (b'+i)=β (b+i)):VC w ok' β' (c.place b') u:=by
 cases c
 case ref x=>
  have:=hβ x (hlt x (by simp [C.hs]))
  simp only [C.place,VC] at h ⊢;rw [this];exact h
 case ptr x o=>
  have:=hβ x (hlt x (by simp [C.hs]))
  simp only [C.place,VC] at h ⊢;rw [this];exact h
 case el x sz i j=>
  have:=hβ x (hlt x (by simp [C.hs]))
  simp only [C.place,VC] at h ⊢;rw [this];exact h
 case sub x sz lo hi=>
  have:=hβ x (hlt x (by simp [C.hs]))
  simp only [C.place,VC] at h ⊢;rw [this];exact h
 all_goals exact VC.step (β':=β') h hok (by intro y hy;simp [C.place,C.hs] at hy)
theorem place_lt {b n:Nat} {c:C} (h:c.lt n):(c.place b).lt (b+n):=by
 intro y hy;cases c<;>simp [C.place,C.hs] at hy
 all_goals
  subst hy
  have:=h _ (by simp [C.hs];rfl)
  omega
theorem All2.map_imp {α β γ δ:Type} {P:α->β->Prop} {Q:γ->β->Prop} {f:δ->α} {g:δ->γ}:∀{l:List δ} {us:List β},All2 P (l.map f) us->(∀x ∈ l,∀u,P (f x) u->Q (g x) u)->All2 Q (l.map g) us
 | [],[],_,_=>trivial
 | [],_::_,h,_=>by simp [All2] at h
 | _::_,[],h,_=>by simp [All2] at h
 | x::l,u::us,h,hi=>⟨hi x (by simp) u h.1,All2.map_imp h.2 fun y hy=>hi y (by simp [hy])⟩
theorem place_VA {w:World} {ok ok':Nat->Prop} {β β':Nat->Value} {b b' n:Nat} {v:AV} {u:Value} (h:VA w ok β (v.place b) u) (hok:∀k,ok k->k<w.heap.size->ok' k/\w.heap[k]? =w.heap[k]?) (hlt:v.lt n) (ht:v.isTup=false) (hβ:∀i,i<n->β' (b'+i)=β (b+i)):VA w ok' β' (v.place b') u:=by
  cases v with
  | c x=>exact place_VC h hok hlt hβ
  | agg cs=>
    obtain ⟨us,h1,h2⟩:=h;exact ⟨us,h1,All2.map_imp h2 fun c hc u hu=>place_VC hu hok (hlt c hc) hβ⟩
  | tup xs=>cases ht
theorem place_AV_lt {b n:Nat} {v:AV} (h:v.lt n) (ht:v.isTup=false):(v.place b).lt (b+n):=by
  cases v with
  | c x=>exact place_lt h
  | agg cs=>
    intro c hc;obtain ⟨c',hc',rfl⟩:=List.mem_map.1 hc;exact place_lt (h c' hc')
  | tup xs=>cases ht
theorem AV.lt_mono {n m:Nat} {v:AV} (h:v.lt n) (hm:n<=m):v.lt m:=by
 cases v with
 | c x=>exact fun y hy=>jZ (h y hy) hm
 | agg cs=>exact fun c hc y hy=>jZ (h c hc y hy) hm
 | tup xs=>exact fun p hp c hc y hy=>jZ (h p hp c hc y hy) hm
theorem Ob.lt_mono {n m:Nat} {v:Ob} (h:v.lt n) (hm:n<=m):v.lt m:=by
 cases v with
 | var cs=>exact fun c hc y hy=>jZ (h c hc y hy) hm
 | arr=>trivial
 | opn=>exact fun c hc y hy=>jZ (h c hc y hy) hm
structure PV.Ok (p:PV):Prop where
 lt:p.v.lt p.n
 tup:p.v.isTup=false
 os:∀i o,look p.os i=some o->i<p.n/\o.lt 0
 keys:(p.os.map (·.1)).Nodup
theorem Sim.realloc (S:Sim G w0 st a w β Lf) {st':St} {d b:Nat} {p:PV} (hp:p.Ok) (hsl:look st.sl d=some (p.v.place b)) (hob:∀i o,look p.os i=some o->look st.ob (b+i)=some o) (hnt:st'.nt=st.nt) (hnx:st'.nx=st.nx+p.n)
 (hsl':∀t v,look st'.sl t=some v->(t=d/\v=p.v.place st.nx)\/look st.sl t=some v)
 (hob':∀h o,look st'.ob h=some o->(∃i,h=st.nx+i/\look p.os i=some o)\/(h<st.nx/\look st.ob h=some o/\∀i o',look p.os i=some o'->h≠b+i)):
 Sim G w0 st' a w (fun h=>if st.nx<=h then β (b+(h-st.nx)) else β h) (fun h=>if st.nx<=h then Lf (b+(h-st.nx)) else Lf h):=by
 have hold:∀h,h<st.nx->(if st.nx<=h then β (b+(h-st.nx)) else β h)=β h:=fun h hh=>eY (by omega)
 have hLold:∀h,h<st.nx->(if st.nx<=h then Lf (b+(h-st.nx)) else Lf h)=Lf h:=fun h hh=>eY (by omega)
 have hnew:∀i,(if st.nx<=st.nx+i then β (b+(st.nx+i-st.nx)) else β (st.nx+i))=β (b+i):=fun i=>by rw [dY (by omega),show st.nx+i-st.nx=i by omega]
 have hLnew:∀i,(if st.nx<=st.nx+i then Lf (b+(st.nx+i-st.nx)) else Lf (st.nx+i))=Lf (b+i):=fun i=>by rw [dY (by omega),show st.nx+i-st.nx=i by omega]
 have himm:∀k,imm G st Lf k->k<w.heap.size->imm G st' (fun h=>if st.nx<=h then Lf (b+(h-st.nx)) else Lf h) k/\w.heap[k]? =w.heap[k]? :=by
  intro k hk _;refine ⟨⟨hk.1,fun h o ho=> ?_⟩,rfl⟩
  rcases hob' h o ho with ⟨i,rfl,hi⟩ | ⟨h1,h2,_⟩
  · simp only [hLnew];exact hk.2 _ _ (hob i o hi)
  · simp only [hLold h h1];exact hk.2 h o h2
 refine { fresh:=S.fresh,below:=S.below,defers:=S.defers,size:=by rw [hnt];exact S.size,slots:= ?_,slt:= ?_,obs:= ?_,olt:= ?_,new:= ?_,nodup:= ?_,disj:= ?_,pin:=fun i hi=> ?_,pinx:=by rw [hnx];exact bY S.pinx (Nat.le_add_right _ _) }
 · intro t v ht;rcases hsl' t v ht with ⟨rfl,rfl⟩ | h
   · exact place_VA (S.slots _ _ hsl) himm hp.lt hp.tup fun i _=>hnew i
   · exact (S.slots t v h).step (S.slt t v h) himm hold
 · intro t v ht;rw [hnx];rcases hsl' t v ht with ⟨rfl,rfl⟩ | h
   · exact place_AV_lt hp.lt hp.tup
   · exact AV.lt_mono (S.slt t v h) (Nat.le_add_right _ _)
 · intro h o ho;rcases hob' h o ho with ⟨i,rfl,hi⟩ | ⟨h1,h2,_⟩
   · simp only [hLnew,hnew];exact (S.obs _ _ (hob i o hi)).step (hp.os i o hi).2 himm (fun _ _=>rfl) fun h hh=>absurd hh (Nat.not_lt_zero _)
   · simp only [hLold h h1,hold h h1];exact (S.obs h o h2).step (S.olt h o h2).2 himm (fun _ _=>rfl) hold
 · intro h o ho;rw [hnx];rcases hob' h o ho with ⟨i,rfl,hi⟩ | ⟨h1,h2,_⟩
   · have:=hp.os i o hi
     exact ⟨by omega,Ob.lt_mono this.2 (Nat.zero_le _)⟩
   · exact ⟨by omega,Ob.lt_mono (S.olt h o h2).2 (Nat.le_add_right _ _)⟩
 · intro h o ho;rcases hob' h o ho with ⟨i,rfl,hi⟩ | ⟨h1,h2,_⟩
   · simp only [hLnew];exact S.new _ _ (hob i o hi)
   · simp only [hLold h h1];exact S.new h o h2
 · intro h o ho;rcases hob' h o ho with ⟨i,rfl,hi⟩ | ⟨h1,h2,_⟩
   · simp only [hLnew];exact S.nodup _ _ (hob i o hi)
   · simp only [hLold h h1];exact S.nodup h o h2
 · intro h o h' o' ho ho' hne;rcases hob' h o ho with ⟨i,rfl,hi⟩ | ⟨h1,h2,h3⟩
   · rcases hob' h' o' ho' with ⟨i',rfl,hi'⟩ | ⟨h1',h2',h3'⟩
     · simp only [hLnew];exact S.disj _ _ _ _ (hob i o hi) (hob i' o' hi') (by omega)
     · simp only [hLnew,hLold h' h1'];exact S.disj _ _ _ _ (hob i o hi) h2' fun e=>h3' i o hi e.symm
   · rcases hob' h' o' ho' with ⟨i',rfl,hi'⟩ | ⟨h1',h2',h3'⟩
     · simp only [hLnew,hLold h h1];exact S.disj _ _ _ _ h2 (hob i' o' hi') (h3 i' o' hi')
     · simp only [hLold h h1,hLold h' h1'];exact S.disj _ _ _ _ h2 h2' hne
 · rw [hold i (jZ hi S.pinx)];exact S.pin i hi
theorem Sim.sub (S:Sim G w0 st a w β Lf) {st':St} (hnt:st'.nt=st.nt) (hnx:st.nx<=st'.nx) (hsl:∀t v,look st'.sl t=some v->look st.sl t=some v) (hob:∀h o,look st'.ob h=some o->look st.ob h=some o):Sim G w0 st' a w β Lf:=by
  have himm:∀k,imm G st Lf k->k<w.heap.size->imm G st' Lf k/\w.heap[k]? =w.heap[k]? :=fun k hk _=>⟨⟨hk.1,fun n o ho=>hk.2 n o (hob n o ho)⟩,rfl⟩
  exact { fresh:=S.fresh,below:=S.below,defers:=S.defers,size:=by rw [hnt];exact S.size,slots:=fun t v ht=>(S.slots t v (hsl t v ht)).step (S.slt t v (hsl t v ht)) himm fun _ _=>rfl,slt:=fun t v ht=>AV.lt_mono (S.slt t v (hsl t v ht)) hnx,
          obs:=fun n o ho=>(S.obs n o (hob n o ho)).step (S.olt n o (hob n o ho)).2 himm (fun _ _=>rfl) fun _ _=>rfl,olt:=fun n o ho=>⟨jZ (S.olt n o (hob n o ho)).1 hnx,Ob.lt_mono (S.olt n o (hob n o ho)).2 hnx⟩,
          new:=fun n o ho=>S.new n o (hob n o ho),nodup:=fun n o ho=>S.nodup n o (hob n o ho),disj:=fun n o n' o' ho ho'=>S.disj n o n' o' (hob n o ho) (hob n' o' ho'),pin:=S.pin,pinx:=bY S.pinx hnx }
theorem look_putAll {α:Type} {xs l:List (Nat×α)} {k:Nat} {v:α} (hn:(xs.map (·.1)).Nodup) (h:look (putAll xs l) k=some v):look xs k=some v\/((∀p ∈ xs,p.1≠k)/\look l k=some v):=by
  by_cases hk:∀p ∈ xs,p.1≠k
  · rw [look_putAll_other _ _ _ hk] at h;exact .inr ⟨hk,h⟩
  · have:∃u,look xs k=some u:=by
      have:∀l:List (Nat×α),(¬∀p ∈ l,p.1≠k)->∃u,look l k=some u:=by
        intro l;induction l with
        | nil=>intro h;exact absurd (by simp) h
        | cons q l ih=>
          intro h;simp only [look];by_cases e:q.1=k
          · exact ⟨q.2,dY e⟩
          · rw [eY e];refine ih fun h'=>h fun p hp=> ?_
            rcases zZ.1 hp with rfl | hp
            · exact e
            · exact h' p hp
      exact this xs hk
    obtain ⟨u,hu⟩:=this;rw [look_putAll_in _ _ _ _ hn hu] at h;exact .inl (by rw [hu];exact h)
theorem look_obsAt_inv (b:Nat):∀(os:List (Nat×Ob)) (h:Nat) (o:Ob),look (obsAt b os) h=some o->∃i,h=b+i/\look os i=some o
  | [],_,_,h=>by cases h
  | (n,u)::os,k,o,h=>by
    simp only [obsAt,List.map_cons,look] at h;split at h
    · rename_i e;exact ⟨n,e.symm,by simp only [look];rw [dY trivial];exact h⟩
    · rename_i e;obtain ⟨i,h1,h2⟩:=look_obsAt_inv b os k o h;exact ⟨i,h1,by simp only [look];rw [eY (by omega)];exact h2⟩
theorem obsAt_keys {b:Nat} {os:List (Nat×Ob)} (h:(os.map (·.1)).Nodup):((obsAt b os).map (·.1)).Nodup:=by
 have e:(obsAt b os).map (·.1)=(os.map (·.1)).map (b+ ·):=by simp [obsAt,List.map_map,Function.comp_def]
 rw [e];exact List.Pairwise.map _ (fun a c h=>by omega) h
theorem Sim.allocAll {B:Nat->Nat}:∀(pk:Pk) (X Y:St) (β:Nat->Value) (Lf:Nat->List Nat),Sim G w0 X a w β Lf->X.nx=Y.nx->X.nt=Y.nt->(∀t v,look Y.sl t=some v->look X.sl t=some v)->
    (∀h o,look Y.ob h=some o->look X.ob h=some o/\∀q ∈ pk,∀i o',look q.2.os i=some o'->h≠B q.1+i)->(pk.map (·.1)).Nodup->(∀q ∈ pk,q.2.Ok/\look X.sl q.1=some (q.2.v.place (B q.1))/\∀i o,look q.2.os i=some o->look X.ob (B q.1+i)=some o)->
    (∀q ∈ pk,∀q' ∈ pk,q.1≠q'.1->∀i o i' o',look q.2.os i=some o->look q'.2.os i'=some o'->B q.1+i≠B q'.1+i')->SimE G w0 (Go.V.allocAll pk Y) a w
  | [],X,Y,β,Lf,S,hnx,hnt,hsl,hob,_,_,_=>⟨β,Lf,S.sub hnt.symm (Nat.le_of_eq hnx) hsl fun h o ho=>(hob h o ho).1⟩
  | (d,p)::r,X,Y,β,Lf,S,hnx,hnt,hsl,hob,hnd,hP,hD=>by
    simp only [List.map_cons,List.nodup_cons] at hnd;obtain ⟨hp,hd,hpo⟩:=hP (d,p) (by simp)
    simp only at hd hpo
    let X':St:={ X with nx:=X.nx+p.n,sl:=put d (p.v.place X.nx) X.sl,ob:=putAll (obsAt X.nx p.os) (delAll (p.os.map fun q=>B d+q.1) X.ob) }
    have hkey:∀i o,look p.os i=some o->B d+i ∈ p.os.map fun q=>B d+q.1:=by
      intro i o hi
      have:=look_key _ _ _ hi
      obtain ⟨q,hq,rfl⟩:=List.mem_map.1 this;exact List.mem_map.2 ⟨q,hq,rfl⟩
    have hkey':∀h,h ∈ (p.os.map fun q=>B d+q.1)->∃i o,look p.os i=some o/\h=B d+i:=by
      intro h hh;obtain ⟨q,hq,rfl⟩:=List.mem_map.1 hh
      have:∀l:List (Nat×Ob),q ∈ l->∃o,look l q.1=some o:=by
        intro l;induction l with
        | nil=>intro h;cases h
        | cons z l ih=>
          intro h;simp only [look];by_cases e:z.1=q.1
          · exact ⟨z.2,dY e⟩
          · rw [eY e];rcases zZ.1 h with rfl | h
            · exact absurd rfl e
            · exact ih h
      obtain ⟨o,ho⟩:=this _ hq;exact ⟨q.1,o,ho,rfl⟩
    have keep:∀h o,look X.ob h=some o->(∀i o',look p.os i=some o'->h≠B d+i)->look X'.ob h=some o:=by
      intro h o ho hn;have hlt:=(S.olt h o ho).1;show look (putAll (obsAt X.nx p.os) (delAll (p.os.map fun q=>B d+q.1) X.ob)) h=some o
      rw [look_putAll_other _ _ _ ?_,look_delAll,eY ?_]
      · exact ho
      · intro hh;obtain ⟨i,o',h1,h2⟩:=hkey' h hh;exact hn i o' h1 h2
      · intro q hq e;obtain ⟨q',hq',rfl⟩:=List.mem_map.1 hq;simp only at e
        omega
    have S':Sim G w0 X' a w _ _:=S.realloc hp hd hpo rfl rfl
      (fun t v ht=>by
        by_cases e:t=d
        · subst e
          have:look (put t (p.v.place X.nx) X.sl) t=some v:=ht
          rw [E1] at this;exact .inl ⟨rfl,(xZ this).symm⟩
        · have:look (put d (p.v.place X.nx) X.sl) t=some v:=ht
          rw [look_put_ne _ _ e] at this;exact .inr this)
      (fun h o ho=>by
        rcases look_putAll (obsAt_keys hp.keys) ho with h1 | ⟨_,h1⟩
        · obtain ⟨i,h2,h3⟩:=look_obsAt_inv _ _ _ _ h1;exact .inl ⟨i,h2,h3⟩
        · rw [look_delAll] at h1;split at h1;cases h1
          rename_i hn;exact .inr ⟨(S.olt h o h1).1,h1,fun i o' hi e=>hn (by rw [e];exact hkey i o' hi)⟩)
    unfold Go.V.allocAll;refine Sim.allocAll (B:=B) r X' _ _ _ S' ?_ hnt ?_ ?_ hnd.2 ?_ ?_
    · show X.nx+p.n=Y.nx+p.n
      rw [hnx]
    · intro t v ht;have ht':look (put d (p.v.place Y.nx) Y.sl) t=some v:=ht;show look (put d (p.v.place X.nx) X.sl) t=some v
      rw [hnx];by_cases e:t=d
      · subst e;rw [E1] at ht' ⊢;exact ht'
      · rw [look_put_ne _ _ e] at ht' ⊢;exact hsl t v ht'
    · intro h o ho;have ho':look (putAll (obsAt Y.nx p.os) Y.ob) h=some o:=ho;rcases look_putAll (obsAt_keys hp.keys) ho' with h1 | ⟨_,h1⟩
      · refine ⟨look_putAll_in _ _ _ _ (obsAt_keys hp.keys) (by rw [hnx];exact h1),fun q hq i o' hi e=> ?_⟩
        obtain ⟨j,h2,_⟩:=look_obsAt_inv _ _ _ _ h1
        have:=(S.olt _ _ ((hP q (by simp [hq])).2.2 i o' hi)).1
        omega
      · obtain ⟨h2,h3⟩:=hob h o h1;exact ⟨keep h o h2 (h3 (d,p) (by simp)),fun q hq=>h3 q (by simp [hq])⟩
    · intro q hq;have hne:q.1≠d:=fun e=>hnd.1 (by rw [<-e];exact List.mem_map_of_mem hq)
      obtain ⟨h1,h2,h3⟩:=hP q (by simp [hq])
      refine ⟨h1,?_,fun i o hi=>keep _ _ (h3 i o hi) fun i' o' hi'=>hD q (by simp [hq]) (d,p) (by simp) hne i o i' o' hi hi'⟩
      show look (put d (p.v.place X.nx) X.sl) q.1=some _
      rw [look_put_ne _ _ hne];exact h2
    · exact fun q hq q' hq'=>hD q (by simp [hq]) q' (by simp [hq'])
mutual
theorem oavs_lt:(sh:Sh)->(x:Ty sh)->(k:Nat)->(∀c ∈ (oavs sh x k).1,c.lt (oavs sh x k).2.2)/\∀q ∈ (oavs sh x k).2.1,∀n,q.2.lt n
 | .b,x,k=>by simp [oavs,C.lt,C.hs]
 | .i _,x,k=>by simp [oavs,C.lt,C.hs]
 | .s,x,k=>by simp [oavs,C.lt,C.hs]
 | .l e sh,xs,k=>by simp [oavs,C.lt,C.hs,Ob.lt]
 | .a fs,x,k=>by simp only [oavs];exact oavsL_lt fs x k
theorem oavsL_lt:(fs:List Sh)->(x:TyL fs)->(k:Nat)->(∀c ∈ (oavsL fs x k).1,c.lt (oavsL fs x k).2.2)/\∀q ∈ (oavsL fs x k).2.1,∀n,q.2.lt n
  | [],x,k=>by simp [oavsL]
  | [f],x,k=>by simp only [oavsL];exact oavs_lt f x k
  | f::g::r,x,k=>by
    obtain ⟨h1,h2⟩:=oavs_lt f x.1 k;obtain ⟨h3,h4⟩:=oavsL_lt (g::r) x.2 (oavs f x.1 k).2.2;have h5:=(oavsL_keys (g::r) x.2 (oavs f x.1 k).2.2).1;simp only [oavsL];rcases e1:oavs f x.1 k with ⟨vs,os,m⟩
    rw [e1] at h1 h2 h3 h4 h5;rcases e2:oavsL (g::r) x.2 m with ⟨ws,ps,n⟩
    simp only at h1 h2 h3 h4 h5 ⊢
    rw [e2] at h3 h4 h5;simp only at h3 h4 h5 ⊢
    refine ⟨fun c hc=> ?_,fun q hq=> ?_⟩
    · rcases wZ.1 hc with hc | hc
      · exact fun y hy=>jZ (h1 c hc y hy) h5
      · exact h3 c hc
    · rcases wZ.1 hq with hq | hq
      · exact h2 q hq
      · exact h4 q hq
end
theorem resOwn_ok:∀(fs:List Sh) (p:TyL fs) (b:Bool) (cs:List C) (os:List (Nat×Ob)) (n:Nat),resOwn fs p 0=([(b,cs)],os,n)->(∀c ∈ cs,c.lt n)/\(∀q ∈ os,∀n,q.2.lt n)/\os.map (·.1)=List.range' 0 n
  | [],p,b,cs,os,n,h=>by simp [resOwn] at h
  | [f],p,b,cs,os,n,h=>by
    have hk:=(resOwn_one [f] p b cs os n h).1;simp only [resOwn,Prod.mk.injEq,List.cons.injEq,and_true] at h;obtain ⟨⟨rfl,rfl⟩,rfl,rfl⟩:=h;obtain ⟨h1,h2⟩:=oavs_lt f p 0;exact ⟨h1,h2,hk⟩
  | f::g::r,p,b,cs,os,n,h=>by
    have h1:=resOwn_len (f::g::r) p 0;rw [h] at h1;simp at h1
theorem look_val:∀(l:List (Nat×Ob)) (k:Nat) (o:Ob),look l k=some o->∃q ∈ l,q.1=k/\q.2=o
  | [],_,_,h=>by cases h
  | q::l,k,o,h=>by
    simp only [look] at h;split at h
    · rename_i e;exact ⟨q,by simp,e,xZ h⟩
    · obtain ⟨q',h1,h2⟩:=look_val l k o h;exact ⟨q',by simp [h1],h2⟩
theorem PV.Ok.one {v:AV} {ob:Ob} (h1:v.lt 1) (h2:v.isTup=false) (h3:ob.lt 0):(pv1 v ob).Ok:=by
 refine ⟨h1,h2,fun i o hi=> ?_,by simp [pv1]⟩
 simp only [pv1,look] at hi;split at hi;rotate_left;cases hi
 rename_i e;rw [<-xZ hi];exact ⟨by simp only [pv1];omega,h3⟩
theorem delAll_some {α:Type} {us:List Nat} {l:List (Nat×α)} {t:Nat} {v:α} (h:look (delAll us l) t=some v):t ∉ us/\look l t=some v:=by
 rw [look_delAll] at h;split at h;cases h
 rename_i hn;exact ⟨hn,h⟩
theorem headRow_used {pk:Pk} {sh:Sh} {e:Nat} {x:Operand} {us:List Nat} {xs:List (Ty sh)} (h:headRow st pk sh e x=some (us,xs)):∀t ∈ us,x= .tmp t/\∃q,look pk t=some q:=by
 unfold headRow at h;split at h
 · rename_i t ys hr;cases h
   unfold pkRow at hr;split at hr;rotate_left;cases hr
   split at hr;rotate_left;cases hr
   rename_i hp;split at hr;rotate_left;cases hr
   split at hr;rotate_left;cases hr
   cases hr
   intro t' ht';rw [kZ.1 ht'];exact ⟨rfl,_,hp⟩
 · split at h
   · cases h;intro t ht;cases ht
   · cases h;intro t ht;cases ht
   · cases h
theorem headApp_used {pk:Pk} {sh:Sh} {e:Nat} {x:Operand} {us:List Nat} {xs:List (Ty sh)} (h:headApp st pk sh e x=some (us,xs)):∀t ∈ us,x= .tmp t/\∃q,look pk t=some q:=by
 unfold headApp at h;split at h
 · rename_i q hr;obtain ⟨us',xs'⟩:=q;cases h
   exact headRow_used hr
 · split at h
   · split at h;rotate_left;cases h
     split at h;rotate_left;cases h
     cases h;intro t ht;cases ht
   · split at h;rotate_left;cases h
     split at h;rotate_left;cases h
     split at h;rotate_left;cases h
     cases h;intro t ht;cases ht
   · cases h
theorem headPart_used {pk:Pk} {x:Operand} {us:List Nat} {ds:List C} (h:headPart st pk x=some (ds,us)):∀t ∈ us,x= .tmp t/\∃q,look pk t=some q:=by
  unfold headPart at h;split at h
  · rename_i t p hp;split at h;rotate_left;cases h
    split at h;rotate_left;cases h
    cases h
    intro t' ht';rw [kZ.1 ht'];split at hp;rotate_left;cases hp
    rename_i t0;cases hq:look pk t0 with
    | none=>rw [hq] at hp;cases hp
    | some q=>
      rw [hq] at hp;simp only [Option.map_some,nZ,Prod.mk.injEq] at hp;rw [<-hp.1];exact ⟨rfl,q,hq⟩
  · split at h;rotate_left;cases h
    split at h;rotate_left;cases h
    split at h;rotate_left;cases h
    cases h;intro t ht;cases ht
theorem headParts_used {sh:Sh}:∀(ps:List (Nat×Operand)) (k:Nat) (pk:Pk) (xs:List (Ty sh)) (us:List Nat),headParts sh st pk ps k=some (xs,us)->∀t ∈ us,(∃z ∈ ps,z.2= .tmp t)/\∃q,look pk t=some q
  | [],k,pk,xs,us,h=>by
    simp only [headParts,nZ,Prod.mk.injEq] at h;obtain ⟨rfl,rfl⟩:=h;intro t ht;cases ht
  | (n,x)::r,k,pk,xs,us,h=>by
    simp only [headParts] at h;split at h;rotate_left;cases h
    split at h;rotate_left;cases h
    rename_i cs us1 hp;split at h;rotate_left;cases h
    split at h;rotate_left;cases h
    rename_i ys us2 hr;cases h
    intro t ht;rcases wZ.1 ht with ht | ht
    · obtain ⟨h1,h2⟩:=headPart_used hp t ht;exact ⟨⟨(n,x),by simp,h1⟩,h2⟩
    · obtain ⟨⟨z,hz,h1⟩,q,hq⟩:=headParts_used r (k+1) _ ys us2 hr t ht;exact ⟨⟨z,by simp [hz],h1⟩,q,(delAll_some hq).2⟩
theorem vs_lt (vs:List Value) (n:Nat):(Ob.var (vs.map .v)).lt n:=by
 intro c hc;obtain ⟨v,_,rfl⟩:=List.mem_map.1 hc;intro y hy;simp [C.hs] at hy
theorem ref_lt:(AV.c (.ref 0)).lt 1:=by intro y hy;simp [C.hs] at hy;omega
theorem mkC_facts {pk:Pk} {p:PV} {us:List Nat} (h:mkC E call st pk o (fun p us=>some (p,us))=some (p,us)):p.Ok/\∀t ∈ us,Operand.tmp t ∈ o.op.operands/\∃q,look pk t=some q:=by
  unfold mkC at h;split at h
  · split at h;rotate_left;cases h
    cases h
    exact ⟨PV.Ok.one (by intro y hy;simp [C.hs] at hy;omega) rfl (vs_lt _ _),by simp⟩
  · split at h;rotate_left;cases h
    split at h;rotate_left;cases h
    split at h;rotate_left;cases h
    split at h;rotate_left;cases h
    split at h;rotate_left;cases h
    cases h
    exact ⟨PV.Ok.one ref_lt rfl trivial,by simp⟩
  · rename_i ho;split at h;rotate_left;cases h
    split at h;rotate_left;cases h
    split at h;rotate_left;cases h
    rename_i hps;split at h;rotate_left;cases h
    cases h
    refine ⟨PV.Ok.one ref_lt rfl trivial,fun t ht=> ?_⟩
    obtain ⟨⟨z,hz,h1⟩,h2⟩:=headParts_used _ _ _ _ _ hps t ht;refine ⟨?_,h2⟩
    rw [ho];simp only [Op.operands];rw [<-h1];simp
    exact ⟨z.1,by simpa using hz⟩
  · rename_i args tys ho;split at h;rotate_left;cases h
    rename_i s x t1 t2 hargs _;have hm:∀y,y=s\/y=x->y ∈ o.op.operands:=by
      intro y hy;rw [ho];simp only [Op.operands,Call.operands]
      have:y ∈ args.toList:=by rw [hargs];simpa using hy
      simpa using this
    split at h;rotate_left;cases h
    split at h;rotate_left;cases h
    split at h;rotate_left;cases h
    rename_i hs;split at h;rotate_left;cases h
    rename_i hx;split at h;rotate_left;cases h
    cases h
    refine ⟨PV.Ok.one ref_lt rfl trivial,fun t ht=> ?_⟩
    rcases wZ.1 ht with ht | ht
    · obtain ⟨h1,h2⟩:=headRow_used hs t ht;exact ⟨hm _ (.inl h1.symm),h2⟩
    · obtain ⟨h1,q,hq⟩:=headApp_used hx t ht;exact ⟨hm _ (.inr h1.symm),q,(delAll_some hq).2⟩
  · split at h;rotate_left;cases h
    rename_i g caps vs _ _;split at h;rotate_left;cases h
    rename_i xs _;split at h;rotate_left;cases h
    cases hc:call g (xs++caps.map .c) with
    | none=>rw [hc] at h;cases h
    | some q=>
      rw [hc] at h;simp only [rZ] at h;split at h;rotate_left;cases h
      rename_i b cs os n hres;split at h;rotate_left;cases h
      rename_i v hv;cases h
      obtain ⟨h1,h2,h3⟩:=resOwn_ok _ q b cs os n hres;refine ⟨⟨?_,?_,fun i o hi=> ?_,by rw [h3];exact List.nodup_range'⟩,by simp⟩
      · unfold pack at hv;split at hv
        · rw [<-xZ hv];exact h1
        · split at hv;rotate_left;cases hv
          rw [<-xZ hv];exact h1 _ (by simp)
      · unfold pack at hv;split at hv
        · rw [<-xZ hv];rfl
        · split at hv;rotate_left;cases hv
          rw [<-xZ hv];rfl
      · have hk:=look_key _ _ _ hi;rw [h3] at hk;obtain ⟨q',hq',_,rfl⟩:=look_val _ _ _ hi;exact ⟨by simpa using hk,h2 q' hq' 0⟩
  · cases h
end
end Go.V
namespace Go.V
open Go.RowKit (Below)
def orderOk (ops:Array Oper) (m:Nat):Bool:=
  let B:=Region.before ops
  (List.range ops.size).all fun j=>match ops[j]? with
    | none=>true
    | some o=>(o.after.toList.all fun e=> !Region.binds .any e || decide (e.on<j))&&
      (if m<=j then B.getD j 0==2^j-1 else
        (List.range m).all fun i=>i==j || match W2 ops i with
          | none=>true
          | some d=>o.dst !=some d&&(!(o.looksAt ops).contains d || (decide (i<j)&&(B.getD j 0).testBit i)))
def Closed (ops:Array Oper) (L:Nat->Prop):Prop:=∀j o,ops[j]? =some o->L j->∀e ∈ o.after,Region.binds .any e=true->L e.on
theorem bits_fold (A:Array Nat) (i:Nat):∀(l:List Edge) (s:Nat),(l.foldl (fun s e=>if Region.binds .any e then s ||| 2^e.on ||| A.getD e.on 0 else s) s).testBit i=true->s.testBit i=true\/∃e ∈ l,Region.binds .any e=true/\(i=e.on\/(A.getD e.on 0).testBit i=true)
  | [],s,h=> .inl h
  | e::l,s,h=>by
    rw [List.foldl_cons] at h;rcases bits_fold A i l _ h with h | ⟨e',he,h⟩
    · split at h
      · rename_i hb;rw [Nat.testBit_or,Nat.testBit_or,Bool.or_eq_true,Bool.or_eq_true] at h;rcases h with (h | h) | h
        · exact .inl h
        · rw [Nat.testBit_two_pow] at h;exact .inr ⟨e,by simp,hb,.inl (by simpa using h:e.on=i).symm⟩
        · exact .inr ⟨e,by simp,hb,.inr h⟩
      · exact .inl h
    · exact .inr ⟨e',by simp [he],h⟩
theorem before_fold {ops:Array Oper} {L:Nat->Prop} (hcl:Closed ops L):∀(l:List Oper) (A:Array Nat),ops.toList.drop A.size=l->
    (∀j o,j<A.size->ops[j]? =some o->(∀e ∈ o.after,Region.binds .any e=true->L e.on)->∀i,(A.getD j 0).testBit i=true->L i)->
    ∀j o,ops[j]? =some o->(∀e ∈ o.after,Region.binds .any e=true->L e.on)->∀i,((l.foldl (fun acc o=>acc.push (o.after.foldl (fun s e=>if Region.binds .any e then s ||| 2^e.on ||| acc.getD e.on 0 else s) 0)) A).getD j 0).testBit i=true->L i
  | [],A,hd,hA,j,o,ho,he,i,hi=>by
    have hs:ops.size<=A.size:=by
      have:=List.drop_eq_nil_iff.1 hd
      simpa using this
    exact hA j o (jZ (bZ.1 ho).1 hs) ho he i hi
  | q::l,A,hd,hA,j,o,ho,he,i,hi=>by
    rw [List.foldl_cons] at hi;have hq:ops[A.size]? =some q:=by
      have:=congrArg (·[0]?) hd
      simpa using this
    have hd':ops.toList.drop (A.size+1)=l:=by
      have:=congrArg (List.drop 1) hd
      rw [List.drop_drop] at this;simpa using this
    refine before_fold hcl l _ (by simpa using hd') ?_ j o ho he i hi
    intro j o hj ho he i hi;rw [Array.size_push] at hj;by_cases hjA:j=A.size
    · subst hjA;rw [hq] at ho;cases ho
      rw [aZ] at hi;simp only [Array.getElem?_push_size,Option.getD_some] at hi
      rw [<-Array.foldl_toList] at hi;rcases bits_fold A i _ 0 hi with h | ⟨e,hem,hb,h⟩
      · simp at h
      · have hL:=he e (by simpa using hem) hb
        rcases h with rfl | h
        · exact hL
        · by_cases hlt:e.on<A.size
          · have hs:e.on<ops.size:=Nat.lt_trans hlt (bZ.1 hq).1
            exact hA e.on ops[e.on] hlt (by simp [hs]) (hcl e.on _ (by simp [hs]) hL) i h
          · rw [aZ,Array.getElem?_eq_none (by omega)] at h
            simp at h
    · refine hA j o (by omega) ho he i ?_
      rw [aZ,Array.getElem?_push_lt (by omega)] at hi
      rw [aZ,Array.getElem?_eq_getElem (by omega)]
      exact hi
theorem before_listed {ops:Array Oper} {L:Nat->Prop} (hcl:Closed ops L) {j:Nat} {o:Oper} (ho:ops[j]? =some o) (he:∀e ∈ o.after,Region.binds .any e=true->L e.on) (i:Nat) (hi:((Region.before ops).getD j 0).testBit i=true):L i:=by
 unfold Region.before at hi;rw [<-Array.foldl_toList] at hi;exact before_fold hcl ops.toList #[] (by simp) (fun j o h=>by simp at h) j o ho he i hi
theorem lastFrom_le (b:Array Nat) (top:Nat):∀n,lastFrom b n top<=n
  | 0=>cY _
  | n + 1 => by unfold lastFrom; split
                · exact Nat.le_succ_of_le (lastFrom_le b top n)
                · exact cY _
theorem headOf_le (ops:Array Oper):headOf ops<=ops.size:=lastFrom_le _ _ _
section
variable {ops:Array Oper} {m:Nat}
theorem orderOk_at (h:orderOk ops m=true) {j:Nat} {o:Oper} (ho:ops[j]? =some o):(∀e ∈ o.after,Region.binds .any e=true->e.on<j)/\(m<=j->(Region.before ops).getD j 0=2^j-1)/\
 (j<m->∀i,i<m->i≠j->∀d,W2 ops i=some d->o.dst≠some d/\(d ∈ o.looksAt ops->i<j/\((Region.before ops).getD j 0).testBit i=true)):=by
 unfold orderOk at h;have h1:=uZ.1 h j (List.mem_range.2 (bZ.1 ho).1)
 rw [ho] at h1;simp only [sZ] at h1;obtain ⟨h1,h2⟩:=h1;refine ⟨fun e he hb=> ?_,fun hj=> ?_,fun hj i hi hne d hd=> ?_⟩
 · have:=uZ.1 h1 e (by simpa using he)
   simpa [hb] using this
 · rw [dY hj] at h2;simpa using h2
 · rw [eY (by omega)] at h2
   have:=uZ.1 h2 i (List.mem_range.2 hi)
   rw [hd] at this;simp only [Bool.or_eq_true,beq_iff_eq,hne,false_or,sZ,bne_iff_ne,ne_eq,Bool.not_eq_true',pZ] at this;refine ⟨this.1,fun hm=> ?_⟩
   rcases this.2 with h3 | h3
   · have:(o.looksAt ops).contains d=true:=by simpa using hm
     rw [this] at h3;cases h3
   · exact h3
end
def HeadStep (E:Env) (call:CallD E) (ops:Array Oper) (cs:List Nat) (st:St) (pk:Pk) (o:Oper) (st1:St) (pk1:Pk):Prop:=
 ∃stk,Alike st stk/\((guard? st ops o=some false/\st1=stk.unset o.dst/\pk1=pk)\/
  (guard? st ops o=some true/\inSlots cs o.dst=false/\(∀t ∈ o.looksAt ops,t ∉ cs)/\(∃av,HeadVal E call stk o av/\st1=stk.set o.dst av)/\pk1=pk)\/
  (guard? st ops o=some true/\∃d p us,o.dst=some d/\d ∈ cs/\d<stk.nt/\mkC E call stk pk o (fun p us=>some (p,us))=some (p,us)/\p.n<=1000/\usedUp o pk us=true/\st1={ stk with sl:=del d stk.sl }/\pk1=delAll (d::us) pk++[(d,p)]))
section
variable {E:Env} {st:St} {R:Type} {r:R} {call:CallD E} {K:St->Option R}
theorem head_states {ops:Array Oper} {m:Nat} {cs:List Nat} {tl:List Oper->Nat->St->(St->Option R)->Option R}:∀(l:List Oper) (n:Nat) (st:St) (pk:Pk),ops.toList.drop n=l->n<=m->m<=ops.size->vhead E call ops m cs tl l n st pk K=some r->
    ∃(S:Nat->St) (P:Nat->Pk),S n=st/\P n=pk/\(∀i,n<=i->i<m->∃o,ops[i]? =some o/\HeadStep E call ops cs (S i) (P i) o (S (i+1)) (P (i+1)))/\tl (ops.toList.drop m) m (headEnd ops cs (P m) (S m)) K=some r
  | [],n,st,pk,hd,hn,hm,h=>by
    have:ops.size<=n:=by
      have:=List.drop_eq_nil_iff.1 hd
      simpa using this
    have e:n=m:=by omega
    subst e;exact ⟨fun _=>st,fun _=>pk,rfl,rfl,fun i h1 h2=>absurd h1 (by omega),by rw [hd];exact h⟩
  | o::l,n,st,pk,hd,hn,hm,h=>by
    have hi:ops[n]? =some o:=by
      have:=congrArg (·[0]?) hd
      simpa using this
    have hd':ops.toList.drop (n+1)=l:=by
      have:=congrArg (List.drop 1) hd
      rw [List.drop_drop] at this;simpa using this
    by_cases hnm:n=m
    · subst hnm;refine ⟨fun _=>st,fun _=>pk,rfl,rfl,fun i h1 h2=>absurd h1 (by omega),?_⟩
      rw [hd];unfold vhead at h;rw [eY (by omega)] at h
      exact h
    · have step:∃st1 pk1,HeadStep E call ops cs st pk o st1 pk1/\vhead E call ops m cs tl l (n+1) st1 pk1 K=some r:=by
        unfold vhead at h;rw [dY (by omega:n<m)] at h
        split at h;rotate_left;cases h
        rename_i b hb;cases b with
        | true=>
          rw [dY rfl] at h;split at h
          · rename_i hin;split at h;rotate_left;cases h
            rename_i d hdst;split at h;rotate_left;cases h
            rename_i hdn;rw [mkC_map] at h;cases hmk:mkC E call (st.know ops o true) pk o (fun p us=>some (p,us)) with
            | none=>rw [hmk] at h;cases h
            | some q=>
              obtain ⟨p,us⟩:=q;rw [hmk] at h;simp only [rZ] at h;split at h;rotate_left;cases h
              rename_i hpn;simp only [sZ,pZ] at hpn;exact ⟨_,_,⟨_,know_alike hb,.inr (.inr ⟨hb,d,p,us,hdst,by rw [hdst] at hin;simpa [inSlots] using hin,by rw [(know_alike hb).nt];exact hdn,hmk,hpn.1,hpn.2,rfl,rfl⟩)⟩,h⟩
          · rename_i hin;split at h;rotate_left;cases h
            rename_i hall;obtain ⟨av,hv,h⟩:=vstepA_split h;refine ⟨_,_,⟨_,know_alike hb,.inr (.inl ⟨hb,by simpa using hin,fun t ht=> ?_,⟨av,hv,rfl⟩,rfl⟩)⟩,h⟩
            have:=uZ.1 hall t ht
            simpa using this
        | false=>exact ⟨_,_,⟨_,know_alike hb,.inl ⟨hb,rfl,rfl⟩⟩,by simpa using h⟩
      obtain ⟨st1,pk1,hs,h1⟩:=step;obtain ⟨S,P,h2,h2',h3,h4⟩:=head_states l (n+1) st1 pk1 hd' (by omega) hm h1
      refine ⟨fun i=>if i=n then st else S i,fun i=>if i=n then pk else P i,by simp,by simp,fun i hi1 hi2=> ?_,by simp only [];rw [eY (Ne.symm hnm),eY (Ne.symm hnm)];exact h4⟩
      by_cases hin:i=n
      · subst hin;refine ⟨o,hi,?_⟩
        simp only [];rw [dY trivial,dY trivial,eY (by omega),eY (by omega),h2,h2']
        exact hs
      · obtain ⟨o',h5,h6⟩:=h3 i (by omega) hi2
        refine ⟨o',h5,?_⟩
        simp only [];simp only [eY hin,eY (show ¬i+1=n by omega)]
        exact h6
end
section
variable {E:Env} {G:Nat->Prop} {w0:Base} {st:St} {a:Act} {w:World} {β:Nat->Value} {Lf:Nat->List Nat} {R:Type} {r:R} {o:Oper} {call:CallD E} {K:St->Option R} {X:Act->World->Prop} {Q:Exit->Act->World->Prop}
theorem head_count (l:Array Bool) (i:Nat) (h:l.getD i true=false):(l.setIfInBounds i true).toList.count false+1=l.toList.count false:=by
 have hi:i<l.size:=by
  rcases Nat.lt_or_ge i l.size with h' | h'
  · exact h'
  · simp [Array.getElem?_eq_none h'] at h
 have hf:l[i]=false:=by simpa [hi] using h
 have hpos:0<l.toList.count false:=List.count_pos_iff.2 (by rw [<-hf];simp)
 rw [Array.toList_setIfInBounds,List.count_set (by simpa using hi)]
 have e1:(l.toList[i]'(by simpa using hi)==false)=true:=by simp [hf]
 rw [dY e1,eY (by simp)]
 omega
theorem R0 {l:Array Bool} {i j:Nat} (hi:i<l.size):(l.setIfInBounds i true).getD j false=true↔(j=i\/l.getD j false=true):=by
 by_cases h:i=j
 · subst h;simp [hi]
 · rw [Go.getD_set_ne false h];constructor
   · exact .inr
   · rintro (h' | h')
     · exact absurd h'.symm h
     · exact h'
theorem T2 {l:Array Bool} {j:Nat} (hj:j<l.size):l.getD j true=false↔¬l.getD j false=true:=by
 simp [hj]
theorem wpAny_tail {ops:Array Oper} (hE:EnvOk E) (hC:CallAt E call w0) {m:Nat} (hok:orderOk ops m=true):∀(l:List Oper) (n fuel:Nat) (listed:Array Bool) (st:St) (a:Act) (w:World),ops.toList.drop n=l->m<=n->n<=ops.size->ops.size-n<=fuel->listed.size=ops.size->
    (∀j,j<ops.size->(listed.getD j false=true↔j<n))->SimE G w0 st a w->vregion E call ops l n st K=some r->(∀st' a' w',SimE G w0 st' a' w'->K st'=some r->Q .normal a' w')->wpAny E.P .any ops Q fuel listed a w
  | [],n,fuel,listed,st,a,w,hd,hmn,hns,hfu,hsz,hl,S,h,hQ=>by
    have hs:ops.size<=n:=by
      have:=List.drop_eq_nil_iff.1 hd
      simpa using this
    refine wpAny_done ?_ (hQ _ _ _ S h) fuel
    refine List.eq_nil_iff_forall_not_mem.2 fun j hj=> ?_
    obtain ⟨h1,o,ho,_⟩:=mem_ready.1 hj;have hj':=(bZ.1 ho).1
    exact (T2 (by omega)).1 h1 ((hl j hj').2 (by omega))
  | o::l,n,fuel,listed,st,a,w,hd,hmn,hns,hfu,hsz,hl,⟨β,Lf,S⟩,h,hQ=>by
    have hi:ops[n]? =some o:=by
      have:=congrArg (·[0]?) hd
      simpa using this
    have hd':ops.toList.drop (n+1)=l:=by
      have:=congrArg (List.drop 1) hd
      rw [List.drop_drop] at this;simpa using this
    have hns':n<ops.size:=(bZ.1 hi).1
    obtain ⟨b,hg,h⟩:=vregion_cons h;have hcl:Closed ops fun j=>listed.getD j false=true:=fun j p hp hj e he hb=>by
      have hjs:=(bZ.1 hp).1
      have h1:=(hl j hjs).1 hj;have h2:=(orderOk_at hok hp).1 e he hb;exact (hl e.on (by omega)).2 (by omega)
    have hready:∀i ∈ Region.ready .any ops listed,i=n:=by
      intro i hir;obtain ⟨h1,p,hp,h2⟩:=mem_ready.1 hir;have his:=(bZ.1 hp).1
      have h3:¬i<n:=fun hlt=>(T2 (by omega)).1 h1 ((hl i his).2 hlt)
      by_cases hin:i=n
      · exact hin
      · have hB:=(orderOk_at hok hp).2.1 (by omega)
        have:=before_listed hcl hp h2 n (by rw [hB,Nat.testBit_two_pow_sub_one];simp;omega)
        have:=(hl n hns').1 this
        omega
    have hnr:n ∈ Region.ready .any ops listed:=by
      refine mem_ready.2 ⟨(T2 (by omega)).2 fun h=>by have:=(hl n hns').1 h;omega,o,hi,fun e he hb=> ?_⟩
      have:=(orderOk_at hok hi).1 e he hb
      exact (hl e.on (by omega)).2 this
    obtain ⟨fuel,rfl⟩:∃k,fuel=k+1:=⟨fuel-1,by omega⟩
    refine ⟨fun h0=>(by rw [h0] at hnr;cases hnr),fun i hir=> ?_⟩
    obtain rfl:=hready i hir
    refine wpOp_sound hE hC S hi hg h fun st' a' w' S' h'=>wpAny_tail hE hC hok l (i+1) fuel _ st' a' w' hd' (by omega) (by omega) (by omega) (by simpa using hsz) ?_ S' h' hQ
    intro j hj;rw [R0 (by omega),hl j hj]
    omega
theorem look_set (st:St) (d:Option Tmp) (v:AV) (t:Nat) (h:d≠some t):look (st.set d v).sl t=look st.sl t:=by
  cases d with
  | none=>rfl
  | some d=>
    have hne:t≠d:=fun e=>h (by rw [e])
    simp only [St.set];split
    · exact look_put_ne _ _ hne
    · exact look_del_ne _ hne
theorem look_unset (st:St) (d:Option Tmp) (t:Nat) (h:d≠some t):look (st.unset d).sl t=look st.sl t:=look_set st d _ t h
theorem set_ob (st:St) (d:Option Tmp) (v:AV):(st.set d v).ob=st.ob/\(st.set d v).nx=st.nx/\(st.set d v).nt=st.nt:=by
 cases d with
 | none=>exact ⟨rfl,rfl,rfl⟩
 | some d=>simp only [St.set];split<;>exact ⟨rfl,rfl,rfl⟩
theorem unset_ob (st:St) (d:Option Tmp):(st.unset d).ob=st.ob/\(st.unset d).nx=st.nx/\(st.unset d).nt=st.nt:=set_ob st d _
theorem HeadStep.ob {ops:Array Oper} {cs:List Nat} {st1:St} {pk pk1:Pk} (h:HeadStep E call ops cs st pk o st1 pk1):st1.ob=st.ob/\st1.nx=st.nx/\st1.nt=st.nt:=by
 obtain ⟨stk,hk,h⟩:=h;have hk':stk.ob=st.ob/\stk.nx=st.nx/\stk.nt=st.nt:=⟨hk.ob,hk.nx,hk.nt⟩;rcases h with ⟨_,rfl,_⟩ | ⟨_,_,_,⟨av,_,rfl⟩,_⟩ | ⟨_,d,p,us,_,_,_,_,_,_,rfl,_⟩
 · obtain ⟨h1,h2,h3⟩:=unset_ob stk o.dst;exact ⟨h1.trans hk'.1,h2.trans hk'.2.1,h3.trans hk'.2.2⟩
 · obtain ⟨h1,h2,h3⟩:=set_ob stk o.dst av;exact ⟨h1.trans hk'.1,h2.trans hk'.2.1,h3.trans hk'.2.2⟩
 · exact hk'
theorem HeadStep.look {ops:Array Oper} {cs:List Nat} {st1:St} {pk pk1:Pk} (h:HeadStep E call ops cs st pk o st1 pk1) (t:Nat) (ht:o.dst≠some t):look st1.sl t=look st.sl t:=by
 obtain ⟨stk,hk,h⟩:=h;rcases h with ⟨_,rfl,_⟩ | ⟨_,_,_,⟨av,_,rfl⟩,_⟩ | ⟨_,d,p,us,hd,_,_,_,_,_,rfl,_⟩
 · exact (look_unset _ _ _ ht).trans (hk.sl t)
 · exact (look_set _ _ _ _ ht).trans (hk.sl t)
 · have:t≠d:=fun e=>ht (by rw [hd,e])
   exact (look_del_ne _ this).trans (hk.sl t)
end
end Go.V
namespace Go.V
open Go.RowKit (Below)
theorem look_snoc {l:Pk} {d t:Nat} {p:PV}:look (l++[(d,p)]) t=match look l t with | some v=>some v | none=>if d=t then some p else none:=by
  induction l with
  | nil=>simp [look]
  | cons q l ih=>
    simp only [List.cons_append,look];split
    · rfl
    · exact ih
theorem keys_del {α:Type} (u:Nat):∀l:List (Nat×α),((del u l).map (·.1)).Sublist (l.map (·.1))
  | []=>List.Sublist.slnil
  | q::l=>by
    simp only [del];split
    · exact .cons _ (keys_del u l)
    · exact .cons_cons _ (keys_del u l)
theorem keys_delAll {α:Type}:∀(us:List Nat) (l:List (Nat×α)),(l.map (·.1)).Nodup->((delAll us l).map (·.1)).Nodup
 | [],l,h=>h
 | u::us,l,h=>keys_delAll us _ (List.Nodup.sublist (keys_del u l) h)
theorem look_of_mem {α:Type}:∀(l:List (Nat×α)) (q:Nat×α),(l.map (·.1)).Nodup->q ∈ l->look l q.1=some q.2
  | [],_,_,h=>by cases h
  | z::l,q,hn,h=>by
    simp only [List.map_cons,List.nodup_cons] at hn;simp only [look];rcases zZ.1 h with rfl | h
    · rw [dY rfl]
    · rw [eY fun e=>hn.1 (by rw [e];exact List.mem_map_of_mem h)]
      exact look_of_mem l q hn.2 h
theorem look_of_key {α:Type}:∀(l:List (Nat×α)) (k:Nat),k ∈ l.map (·.1)->∃v,look l k=some v
  | [],_,h=>by cases h
  | z::l,k,h=>by
    simp only [look];by_cases e:z.1=k
    · exact ⟨z.2,dY e⟩
    · rw [eY e];simp only [List.map_cons,zZ] at h;exact look_of_key l k (h.resolve_left fun h=>e h.symm)
theorem guard_mono {st st':St} {ops:Array Oper} {o:Oper} {b:Bool} (hm:∀t v,look st.sl t=some v->look st'.sl t=some v) (h:guard? st ops o=some b):guard? st' ops o=some b:=by
  unfold guard? at h ⊢;cases hgd:o.guard with
  | none=>rw [hgd] at h;exact h
  | some p=>
    obtain ⟨g,want⟩:=p;rw [hgd] at h;simp only at h ⊢
    cases hp:ops[g]? with
    | none=>rw [hp] at h;cases h
    | some q=>
      rw [hp] at h;simp only at h ⊢
      cases hq:q.dst with
      | none=>rw [hq] at h;cases h
      | some t=>
        rw [hq] at h;simp only at h ⊢
        cases hl:look st.sl t with
        | none=>rw [hl] at h;cases h
        | some v=>rw [hm t v hl];rw [hl] at h;exact h
section
variable {E:Env} {G:Nat->Prop} {w0:Base} {st:St} {a:Act} {w:World} {β:Nat->Value} {Lf:Nat->List Nat} {R:Type} {r:R} {o:Oper} {call:CallD E} {K:St->Option R} {X:Act->World->Prop} {Q:Exit->Act->World->Prop}
structure HeadInv (st vL X:St) (cs:List Nat) (pL:Pk) (B:Nat->Nat) (fuel size:Nat):Prop where
 nt:X.nt=st.nt
 lo:st.nx<=X.nx
 hi:X.nx+1000*fuel<=st.nx+1000*size
 sub:∀t v,look vL.sl t=some v->look X.sl t=some v
 eq:∀t,t ∉ cs->look X.sl t=look vL.sl t
 ob:∀h o,look st.ob h=some o->look X.ob h=some o
 pl:Placed (fun _=>True) X pL B
 ok:∀t p,look pL t=some p->p.Ok/\st.nx<=B t/\B t+p.n<=X.nx
 none:cs=[]->X.nx=st.nx
theorem region_draw (hE:EnvOk E) (hC:CallAt E call w0) {id:Nat} {ops:Array Oper} (hok:orderOk ops (headOf ops)=true) (Ssim:SimE G w0 st a w) (h:vhead E call ops (headOf ops) (ownSlots E ops (headOf ops)) (vregion E call ops) ops.toList 0 st [] K=some r)
    (hQ:∀st' a' w',SimE G w0 st' a' w'->K st'=some r->Q .normal a' w'):(Code.region id ops true).wp E.P Q a w:=by
  refine wp_region_any hE.mixed ?_
  have hms:=headOf_le ops;generalize ownSlots E ops (headOf ops)=cs at h;generalize headOf ops=m at hok h hms;obtain ⟨S,P,hS0,hP0,hSstep,hStail⟩:=head_states ops.toList 0 st [] (by simp) (Nat.zero_le _) hms h
  have hdst:∀i o,ops[i]? =some o->W2 ops i=o.dst:=fun i o ho=>by simp [W2,ho]
  have hSob:∀i,i<=m->(S i).ob=st.ob/\(S i).nx=st.nx/\(S i).nt=st.nt:=by
    intro i;induction i with
    | zero=>intro _;rw [hS0];exact ⟨rfl,rfl,rfl⟩
    | succ i ih=>
      intro hi;obtain ⟨o,ho,hst⟩:=hSstep i (Nat.zero_le _) (by omega)
      obtain ⟨h1,h2,h3⟩:=hst.ob;obtain ⟨h4,h5,h6⟩:=ih (by omega)
      exact ⟨h1.trans h4,h2.trans h5,h3.trans h6⟩
  have hkeep:∀t i j,i<=j->j<=m->(∀k,i<=k->k<j->W2 ops k≠some t)->look (S j).sl t=look (S i).sl t:=by
    intro t i j hij hjm;induction j with
    | zero => intro _; have : i = 0 := by omega
              rw [this]
    | succ j ih=>
      intro hk;by_cases e:i=j+1
      · rw [e]
      · obtain ⟨o,ho,hst⟩:=hSstep j (Nat.zero_le _) (by omega)
        rw [hst.look t (by rw [<-hdst j o ho];exact hk j (by omega) (by omega))]
        exact ih (by omega) (by omega) fun k h1 h2=>hk k h1 (by omega)
  have hinj:∀i j d,i<m->j<m->W2 ops i=some d->W2 ops j=some d->i=j:=by
    intro i j d hi hj h1 h2;by_cases e:i=j
    · exact e
    · obtain ⟨o,ho⟩:∃o,ops[j]? =some o:=⟨ops[j],by simp [jZ hj hms]⟩
      have:=((orderOk_at hok ho).2.2 hj i hi e d h1).1
      rw [hdst j o ho] at h2;exact absurd h2 this
  -- what was made ahead
  let Con:Nat->Nat->Prop:=fun k d=>(∃q,look (P k) d=some q)/\look (P (k+1)) d=none
  have hPstep:∀i,i<m->P (i+1)=P i\/∃d p us,W2 ops i=some d/\d ∈ cs/\P (i+1)=delAll (d::us) (P i)++[(d,p)]:=by
    intro i hi;obtain ⟨o,ho,stk,_,hst⟩:=hSstep i (Nat.zero_le _) hi;rcases hst with ⟨_,_,h⟩ | ⟨_,_,_,_,h⟩ | ⟨_,d,p,us,hd,hdc,_,_,_,_,_,h⟩
    · exact .inl h
    · exact .inl h
    · exact .inr ⟨d,p,us,by rw [hdst i o ho];exact hd,hdc,h⟩
  have hPnew:∀(l:Pk) (d:Nat) (us:List Nat) (p:PV) (t:Nat) (q:PV),look (delAll (d::us) l++[(d,p)]) t=some q->(t=d/\q=p)\/(t≠d/\t ∉ us/\look l t=some q):=by
    intro l d us p t q h;rw [look_snoc] at h;split at h
    · rename_i v hv;obtain ⟨h1,h2⟩:=delAll_some hv;simp only [zZ,not_or] at h1;rw [xZ h] at h2;exact .inr ⟨h1.1,h1.2,h2⟩
    · split at h;rotate_left;cases h
      rename_i e;exact .inl ⟨e.symm,(xZ h).symm⟩
  have hPkeep:∀(l:Pk) (d:Nat) (us:List Nat) (p:PV) (t:Nat) (q:PV),t≠d->t ∉ us->look l t=some q->look (delAll (d::us) l++[(d,p)]) t=some q:=by
    intro l d us p t q h1 h2 h3;rw [look_snoc,look_delAll,eY (by simp [h1,h2]),h3]
  have hPat:∀(l:Pk) (d:Nat) (us:List Nat) (p:PV),look (delAll (d::us) l++[(d,p)]) d=some p:=by
    intro l d us p;rw [look_snoc,look_delAll,dY (by simp)]
    simp
  have hPgone:∀(l:Pk) (d:Nat) (us:List Nat) (p:PV) (t:Nat),t≠d->t ∈ us->look (delAll (d::us) l++[(d,p)]) t=none:=by
    intro l d us p t h1 h2;rw [look_snoc,look_delAll,dY (by simp [h2])]
    simp [Ne.symm h1]
  have hborn:∀i,i<=m->∀d p,look (P i) d=some p->∃c,c<i/\W2 ops c=some d/\look (P (c+1)) d=some p/\d ∈ cs/\∀k,k<i->¬Con k d:=by
    intro i;induction i using Nat.strongRecOn with
    | ind i ih=>
      intro hi d p hp;cases i with
      | zero=>rw [hP0] at hp;cases hp
      | succ i=>
        have old:look (P i) d=some p->∃c,c<i+1/\W2 ops c=some d/\look (P (c+1)) d=some p/\d ∈ cs/\∀k,k<i+1->¬Con k d:=by
          intro h;obtain ⟨c,h1,h2,h3,h4,h5⟩:=ih i (by omega) (by omega) d p h
          refine ⟨c,by omega,h2,h3,h4,fun k hk hc=> ?_⟩
          by_cases e:k=i
          · subst e
            have:=hc.2
            rw [hp] at this;cases this
          · exact h5 k (by omega) hc
        rcases hPstep i (by omega) with h | ⟨d',p',us,h1,h2,h3⟩
        · exact old (by rw [<-h];exact hp)
        · rw [h3] at hp;rcases hPnew _ _ _ _ _ _ hp with ⟨rfl,rfl⟩ | ⟨_,_,h⟩
          · refine ⟨i,by omega,h1,by rw [h3];exact hPat _ _ _ _,h2,fun k hk hc=> ?_⟩
            obtain ⟨⟨q,hq⟩,hc2⟩:=hc;by_cases e:k=i
            · subst e;rw [h3,hPat] at hc2;cases hc2
            · obtain ⟨c,g1,g2,_⟩:=ih k (by omega) (by omega) d q hq
              have:=hinj c i d (by omega) (by omega) g2 h1
              omega
          · rw [<-h3] at hp;exact old h
  have hPnodup:∀i,i<=m->((P i).map (·.1)).Nodup:=by
    intro i;induction i with
    | zero=>intro _;rw [hP0];exact List.nodup_nil
    | succ i ih=>
      intro hi;rcases hPstep i (by omega) with h | ⟨d',p',us,h1,h2,h3⟩
      · rw [h];exact ih (by omega)
      · rw [h3,List.map_append,qZ];refine ⟨keys_delAll _ _ (ih (by omega)),by simp,fun x hx y hy e=> ?_⟩
        simp only [List.map_cons,List.map_nil,kZ] at hy;obtain ⟨v,hv⟩:=look_of_key _ _ hx
        have:=(delAll_some hv).1
        rw [e,hy] at this;simp at this
  obtain ⟨β0,Lf0,Sm0⟩:=Ssim;have hst0:∀h o,look st.ob h=some o->h<st.nx:=fun h o ho=>(Sm0.olt h o ho).1
  have hfin:∀(fuel:Nat) (listed:Array Bool) (a:Act) (w:World) (vL X:St) (pL:Pk) (B:Nat->Nat),(∀j,j<m->listed.getD j false=true)->(vL.ob=st.ob/\vL.nx=st.nx/\vL.nt=st.nt)->
      (∀k d,k<m->listed.getD k false=true->W2 ops k=some d->look vL.sl d=look (S (k+1)).sl d)->(∀t,(∀k,k<m->listed.getD k false=true->W2 ops k≠some t)->look vL.sl t=look st.sl t)->
      HeadInv st vL X cs pL B fuel ops.size->(∀c d p,c<m->listed.getD c false=true->W2 ops c=some d->look (P (c+1)) d=some p->(∀k,k<m->listed.getD k false=true->¬Con k d)->look pL d=some p)->SimE G w0 X a w->SimE G w0 (headEnd ops cs (P m) (S m)) a w:=by
    intro fuel listed a w vL X pL B hall hobL hP1 hP2 HI J1 ⟨β,Lf,Sm⟩;obtain ⟨h1,h2,h3⟩:=hSob m (cY _);have hlook:∀t,look (S m).sl t=look vL.sl t:=by
      intro t;by_cases hex:∃k,k<m/\W2 ops k=some t
      · obtain ⟨k,hk,hd⟩:=hex;rw [hP1 k t hk (hall k hk) hd];exact hkeep t (k+1) m (by omega) (cY _) fun k' h4 h5 hd'=>by have:=hinj k k' t hk h5 hd hd';omega
      · rw [hP2 t fun k hk _ hd=>hex ⟨k,hk,hd⟩]
        exact (hkeep t 0 m (Nat.zero_le _) (cY _) fun k _ hk hd=>hex ⟨k,hk,hd⟩).trans (by rw [hS0])
    unfold headEnd;split
    · rename_i hcs;have hcs:cs=[]:=by simpa using hcs
      refine ⟨β,Lf,Sm.sub (h3.trans HI.nt.symm) (by rw [HI.none hcs,h2];exact cY _) (fun t v ht=>HI.sub t v (by rw [<-hlook];exact ht)) fun h o ho=>HI.ob h o (by rw [<-h1];exact ho)⟩
    · have hent:∀q ∈ P m,look pL q.1=some q.2:=by
        intro q hq;obtain ⟨c,hc,g1,g2,_,g3⟩:=hborn m (cY _) q.1 q.2 (look_of_mem _ _ (hPnodup m (cY _)) hq);exact J1 c q.1 q.2 hc (hall c hc) g1 g2 fun k hk _=>g3 k hk
      have S0:Sim G w0 { X with nx:=st.nx+1000*ops.size } a w β Lf:=Sm.sub rfl (by show X.nx<=st.nx+1000*ops.size;have:=HI.hi;omega) (fun _ _ h=>h) fun _ _ h=>h
      refine Sim.allocAll (B:=B) (P m) _ _ β Lf S0 ?_ (HI.nt.trans h3.symm) (fun t v ht=>HI.sub t v (by rw [<-hlook];exact ht)) (fun h o ho=> ?_) (hPnodup m (cY _)) (fun q hq=> ?_) fun q hq q' hq' hne=>HI.pl.disj q.1 q.2 q'.1 q'.2 trivial trivial (hent q hq) (hent q' hq') hne
      · show st.nx+1000*ops.size=(S m).nx+1000*ops.size
        rw [h2]
      · have ho':look st.ob h=some o:=by rw [<-h1];exact ho
        refine ⟨HI.ob h o ho',fun q hq i o' hi e=> ?_⟩
        have:=(HI.ok _ _ (hent q hq)).2.1
        have:=hst0 h o ho'
        omega
      · exact ⟨(HI.ok _ _ (hent q hq)).1,HI.pl.sl _ _ trivial (hent q hq),HI.pl.ob _ _ trivial (hent q hq)⟩
  -- the unordered part
  have head:∀fuel (listed:Array Bool) (a:Act) (w:World) (vL X:St) (pL:Pk) (B:Nat->Nat),listed.size=ops.size->listed.toList.count false<=fuel->Closed ops (fun j=>listed.getD j false=true)->(∀j,j<ops.size->m<=j->¬listed.getD j false=true)->
      (vL.ob=st.ob/\vL.nx=st.nx/\vL.nt=st.nt)->(∀k d,k<m->listed.getD k false=true->W2 ops k=some d->look vL.sl d=look (S (k+1)).sl d)->(∀t,(∀k,k<m->listed.getD k false=true->W2 ops k≠some t)->look vL.sl t=look st.sl t)->
      HeadInv st vL X cs pL B fuel ops.size->(∀c d p,c<m->listed.getD c false=true->W2 ops c=some d->look (P (c+1)) d=some p->(∀k,k<m->listed.getD k false=true->¬Con k d)->look pL d=some p)->
      (∀t p,look pL t=some p->∃c,c<m/\listed.getD c false=true/\W2 ops c=some t)->SimE G w0 X a w->wpAny E.P .any ops Q fuel listed a w:=by
    intro fuel;induction fuel with
    | zero=>
      intro listed a w vL X pL B hsz hcnt hcl htail hobL hP1 hP2 HI J1 JK SX;have hall:∀j,j<ops.size->listed.getD j false=true:=by
        intro j hj;have h0:listed.toList.count false=0:=by omega
        have hn:=List.count_eq_zero.1 h0;have hj':j<listed.size:=by omega
        cases hv:listed[j] with
        | true=>simp [hj',hv]
        | false=>exact absurd (by rw [<-hv];simp) hn
      have hmm:m=ops.size:=by
        rcases Nat.lt_or_ge m ops.size with h1 | h1
        · exact absurd (hall m h1) (htail m h1 (cY _))
        · omega
      exact wpAny_tail hE hC hok _ m 0 listed _ a w rfl (cY _) hms (by omega) hsz (fun j hj=>⟨fun _=>by omega,fun _=>hall j hj⟩) (hfin 0 listed a w vL X pL B (fun j hj=>hall j (by omega)) hobL hP1 hP2 HI J1 SX) hStail hQ
    | succ fuel ih=>
      intro listed a w vL X pL B hsz hcnt hcl htail hobL hP1 hP2 HI J1 JK SX;by_cases hall:∀j,j<m->listed.getD j false=true
      · have hfu:ops.size-m<=fuel+1:=by
          refine bY ?_ hcnt
          have h1:(listed.toList.drop m).count false=ops.size-m:=by
            have h2:listed.toList.drop m=List.replicate (ops.size-m) false:=by
              refine List.eq_replicate_iff.2 ⟨by simp [hsz],fun b hb=> ?_⟩
              obtain ⟨k,hk,rfl⟩:=List.getElem_of_mem hb;have hks:m+k<ops.size:=by simp [hsz] at hk;omega
              have hkl:m+k<listed.size:=by omega
              have:=htail (m+k) hks (by omega)
              simpa [hkl] using this
            rw [h2,List.count_replicate_self]
          rw [<-h1];exact List.Sublist.count_le _ (List.drop_sublist _ _)
        exact wpAny_tail hE hC hok _ m (fuel+1) listed _ a w rfl (cY _) hms hfu hsz (fun j hj=>⟨fun hl=>Nat.lt_of_not_le fun h=>htail j hj h hl,fun h=>hall j h⟩) (hfin _ listed a w vL X pL B hall hobL hP1 hP2 HI J1 SX) hStail hQ
      · -- some of it is left
        obtain ⟨β,Lf,Sm⟩:=SX;have hex:∃j,j<m/\¬listed.getD j false=true/\∀i,i<j->listed.getD i false=true:=by
          have:∃j,j<m/\¬listed.getD j false=true:=by
            refine Classical.byContradiction fun hn=>hall fun j hj=>Classical.byContradiction fun h=>hn ⟨j,hj,h⟩
          obtain ⟨j,hj⟩:=this;induction j using Nat.strongRecOn with
          | ind j ihj=>
            by_cases h:∃i,i<j/\¬listed.getD i false=true
            · obtain ⟨i,hi,hn⟩:=h;exact ihj i hi ⟨by omega,hn⟩
            · exact ⟨j,hj.1,hj.2,fun i hi=>Classical.byContradiction fun hn=>h ⟨i,hi,hn⟩⟩
        refine ⟨fun h0=> ?_,fun i hir=> ?_⟩
        · obtain ⟨j,hjm,hjn,hjl⟩:=hex;have hjs:j<ops.size:=by omega
          have:j ∈ Region.ready .any ops listed:=mem_ready.2 ⟨(T2 (by omega)).2 hjn,ops[j],by simp [hjs],fun e he hb=>hjl _ ((orderOk_at hok (by simp [hjs]:ops[j]? =some ops[j])).1 e he hb)⟩
          rw [h0] at this;cases this
        · obtain ⟨hun,o,ho,hedge⟩:=mem_ready.1 hir;have his:i<ops.size:=(bZ.1 ho).1
          have him:i<m:=by
            refine Nat.lt_of_not_le fun hmi=> ?_
            obtain ⟨j,hjm,hjn,_⟩:=hex;have hB:=(orderOk_at hok ho).2.1 hmi;exact hjn (before_listed hcl ho hedge j (by rw [hB,Nat.testBit_two_pow_sub_one];simp;omega))
          have hunl:¬listed.getD i false=true:=(T2 (by omega)).1 hun
          obtain ⟨o',ho',hst⟩:=hSstep i (Nat.zero_le _) him;rw [ho] at ho';cases ho'
          have hbef:∀t ∈ o.looksAt ops,∀k,k<m->k≠i->W2 ops k=some t->k<i/\listed.getD k false=true:=by
            intro t ht k hk hne hd;obtain ⟨hki,hbit⟩:=((orderOk_at hok ho).2.2 him k hk hne t hd).2 ht;exact ⟨hki,before_listed hcl ho hedge k hbit⟩
          have hlooks:∀t ∈ o.looksAt ops,look vL.sl t=look (S i).sl t:=by
            intro t ht;by_cases hw:∃k,k<m/\k≠i/\W2 ops k=some t
            · obtain ⟨k,hk,hne,hd⟩:=hw;obtain ⟨hki,hlk⟩:=hbef t ht k hk hne hd;rw [hP1 k t hk hlk hd];exact (hkeep t (k+1) i (by omega) (by omega) fun k' h4 h5 hd'=>by have:=hinj k k' t hk (by omega) hd hd';omega).symm
            · rw [hP2 t fun k hk hl hd=> ?_]
              · exact ((hkeep t 0 i (Nat.zero_le _) (by omega) fun k _ hk hd=>hw ⟨k,by omega,by omega,hd⟩).trans (by rw [hS0])).symm
              · by_cases e:k=i
                · subst e;exact hunl hl
                · exact hw ⟨k,hk,e,hd⟩
          obtain ⟨h1,h2,h3⟩:=hSob i (by omega)
          have hopl:∀t,Operand.tmp t ∈ o.op.operands->t ∈ o.looksAt ops:=by
            intro t ht;unfold Oper.looksAt;exact gZ _ (List.mem_filterMap.2 ⟨.tmp t,by simpa using ht,rfl⟩)
          have hguard:guard? vL ops o=guard? (S i) ops o:=by
            unfold guard?;cases hgd:o.guard with
            | none=>rfl
            | some p=>
              obtain ⟨g,want⟩:=p;simp only
              cases hp:ops[g]? with
              | none=>rfl
              | some q=>
                simp only
                cases hq:q.dst with
                | none=>rfl
                | some t=>
                  simp only
                  have hev:look vL.sl t=look (S i).sl t:=by
                    refine hlooks t ?_
                    unfold Oper.looksAt;refine eZ _ ?_
                    rw [hgd];simp [hp,hq]
                  rw [hev]
          have hguardX:∀b,guard? (S i) ops o=some b->guard? X ops o=some b:=fun b hb=>guard_mono HI.sub (by rw [hguard];exact hb)
          have hcl':Closed ops fun j=>(listed.setIfInBounds i true).getD j false=true:=by
            intro j p hp hj e he hb;rw [R0 (by omega)] at hj ⊢
            rcases hj with rfl | hj
            · rw [ho] at hp;cases hp
              exact .inr (hedge e he hb)
            · exact .inr (hcl j p hp hj e he hb)
          have htail':∀j,j<ops.size->m<=j->¬(listed.setIfInBounds i true).getD j false=true:=by
            intro j hj hmj hl;rw [R0 (by omega)] at hl
            rcases hl with rfl | hl
            · omega
            · exact htail j hj hmj hl
          have hcnt':(listed.setIfInBounds i true).toList.count false<=fuel:=by
            have:=head_count listed i hun
            omega
          have hlist:∀k,(listed.setIfInBounds i true).getD k false=true->k≠i->listed.getD k false=true:=fun k hk hne=>((R0 (by omega)).1 hk).resolve_left hne
          have next:∀(vL' X':St) (pL':Pk) (B':Nat->Nat),(vL'.ob=vL.ob/\vL'.nx=vL.nx/\vL'.nt=vL.nt)->(∀t,o.dst≠some t->look vL'.sl t=look vL.sl t)->(∀t,o.dst=some t->look vL'.sl t=look (S (i+1)).sl t)->HeadInv st vL' X' cs pL' B' fuel ops.size->
              (∀c d p,c<m->(listed.setIfInBounds i true).getD c false=true->W2 ops c=some d->look (P (c+1)) d=some p->(∀k,k<m->(listed.setIfInBounds i true).getD k false=true->¬Con k d)->look pL' d=some p)->
              (∀t p,look pL' t=some p->∃c,c<m/\(listed.setIfInBounds i true).getD c false=true/\W2 ops c=some t)->∀a' w',SimE G w0 X' a' w'->wpAny E.P .any ops Q fuel (listed.setIfInBounds i true) a' w':=by
            intro vL' X' pL' B' hob' hsame hnew HI' J1' JK' a' w' S';refine ih _ a' w' vL' X' pL' B' (by simpa using hsz) hcnt' hcl' htail' ⟨hob'.1.trans hobL.1,hob'.2.1.trans hobL.2.1,hob'.2.2.trans hobL.2.2⟩ ?_ ?_ HI' J1' JK' S'
            · intro k d hk hl hd;by_cases e:k=i
              · subst e;rw [hdst k o ho] at hd;exact hnew d hd
              · rw [hsame d fun hd'=>e (hinj k i d hk him hd (by rw [hdst i o ho];exact hd'))]
                exact hP1 k d hk (hlist k hl e) hd
            · intro t ht;have hne:o.dst≠some t:=by
                have:=ht i him ((R0 (by omega)).2 (.inl rfl))
                rwa [hdst i o ho] at this
              rw [hsame t hne];exact hP2 t fun k hk hl=>ht k hk ((R0 (by omega)).2 (.inr hl))
          -- a step that makes nothing
          have plain:∀(av:AV),P (i+1)=P i->(∀t,o.dst=some t->look (vL.set o.dst av).sl t=look (S (i+1)).sl t)->∀a' w',SimE G w0 (X.set o.dst av) a' w'->wpAny E.P .any ops Q fuel (listed.setIfInBounds i true) a' w':=by
            intro av hPi hnew a' w' S';have hntX:X.nt=vL.nt:=HI.nt.trans hobL.2.2.symm;have hpd:∀t p,look pL t=some p->o.dst≠some t:=by
              intro t p hp hd;obtain ⟨c,hc,hl,hdc⟩:=JK t p hp
              have:=hinj c i t hc him hdc (by rw [hdst i o ho];exact hd)
              subst this;exact hunl hl
            have hset:∀t,o.dst=some t->look (X.set o.dst av).sl t=look (vL.set o.dst av).sl t:=by
              intro t ht;rw [ht];simp only [St.set,hntX];split
              · simp only [E1]
              · simp only [i2]
            have hob1:=set_ob X o.dst av;refine next (vL.set o.dst av) (X.set o.dst av) pL B (set_ob _ _ _) (fun t ht=>look_set _ _ _ _ ht) hnew ⟨hob1.2.2.trans HI.nt,by rw [hob1.2.1];exact HI.lo,by rw [hob1.2.1];have:=HI.hi;omega,fun t v ht=> ?_,fun t ht=> ?_,fun h o ho=>by rw [hob1.1];exact HI.ob h o ho,⟨fun t p hT hp=> ?_,fun t p hT hp=>by rw [hob1.1];exact HI.pl.ob t p hT hp,HI.pl.disj⟩,fun t p hp=>by rw [hob1.2.1];exact HI.ok t p hp,fun hcs=>by rw [hob1.2.1];exact HI.none hcs⟩ ?_ ?_ a' w' S'
            · by_cases e:o.dst=some t
              · rw [hset t e];exact ht
              · rw [look_set _ _ _ _ e] at ht ⊢;exact HI.sub t v ht
            · by_cases e:o.dst=some t
              · exact hset t e
              · rw [look_set _ _ _ _ e,look_set _ _ _ _ e];exact HI.eq t ht
            · rw [look_set _ _ _ _ (hpd t p hp)];exact HI.pl.sl t p hT hp
            · intro c d p hc hl hd hp hcon;by_cases e:c=i
              · subst e;rw [hPi] at hp;obtain ⟨c',g1,g2,_⟩:=hborn c (by omega) d p hp
                have:=hinj c' c d (by omega) hc g2 hd
                omega
              · exact J1 c d p hc (hlist c hl e) hd hp fun k hk hl=>hcon k hk ((R0 (by omega)).2 (.inr hl))
            · intro t p hp;obtain ⟨c,hc,hl,hd⟩:=JK t p hp;exact ⟨c,hc,(R0 (by omega)).2 (.inr hl),hd⟩
          unfold wpOp;simp only [ho];obtain ⟨stk,hk,hst⟩:=hst;rcases hst with ⟨hg,hS1,hPi⟩ | ⟨hg,hin,hlc,⟨av,hval,hS1⟩,hPi⟩ | ⟨hg,d,p,us,hd,hdc,hdn,hmk,hpn,hused,hS1,hPi⟩
          · rw [guard_sound Sm (hguardX _ hg)];simp only [Bool.false_eq_true,if_false];refine plain (.tup []) hPi (fun t ht=> ?_) _ _ ⟨β,Lf,Sm.unset o.dst⟩
            have hntk:vL.nt=stk.nt:=(hobL.2.2.trans h3.symm).trans hk.nt.symm;rw [hS1,ht];simp only [St.unset,St.set,hntk];split
            · simp only [E1]
            · simp only [i2]
          · rw [guard_sound Sm (hguardX _ hg)];simp only [if_true];have hagk:Agree o stk X:=by
              refine ⟨fun h o' ho'=>HI.ob h o' (by rw [<-h1,<-hk.ob];exact ho'),fun x hx=> ?_⟩
              cases x with
              | tmp t=>
                have ht:=hopl t hx;show look X.sl t=look stk.sl t
                rw [HI.eq t (hlc t ht),hlooks t ht];exact (hk.sl t).symm
              | const v=>rfl
              | func f=>rfl
              | global g=>rfl
            refine .inl ((hval.congr hagk).sound hE hC Sm fun u w' hB hva hlt=> ?_)
            refine plain av hPi (fun t ht=> ?_) _ _ ⟨β,Lf,(Sm.kept hB).set o.dst hva hlt⟩
            have hntk:vL.nt=stk.nt:=(hobL.2.2.trans h3.symm).trans hk.nt.symm;rw [hS1,ht];simp only [St.set,hntk];split
            · simp only [E1]
            · simp only [i2]
          · rw [guard_sound Sm (hguardX _ hg)];simp only [if_true];obtain ⟨hpok,husd⟩:=mkC_facts hmk;have hdi:W2 ops i=some d:=by rw [hdst i o ho];exact hd
            -- what it looks at stands where it was made
            have hTp:∀t,Operand.tmp t ∈ o.op.operands->∀p',look (P i) t=some p'->look pL t=some p':=by
              intro t ht p' hp';obtain ⟨c,hc,g1,g2,_,g3⟩:=hborn i (by omega) t p' hp'
              obtain ⟨_,hl⟩:=hbef t (hopl t ht) c (by omega) (by omega) g1
              have htd:t≠d:=fun e=>by
                have:=hinj c i t (by omega) him g1 (by rw [e];exact hdi)
                omega
              have htu:t ∈ us:=by
                have:=uZ.1 hused (.tmp t) (by simpa using ht)
                simp only [hp',Option.isNone_some,Bool.false_or] at this;simpa using this
              refine J1 c t p' (by omega) hl g1 g2 fun k hk' hlk hcon=> ?_
              rcases Nat.lt_trichotomy k i with h | rfl | h
              · exact g3 k h hcon
              · exact hunl hlk
              · obtain ⟨⟨q,hq⟩,_⟩:=hcon;obtain ⟨_,_,_,_,_,g4⟩:=hborn k (by omega) t q hq
                exact g4 i h ⟨⟨p',hp'⟩,by rw [hPi];exact hPgone _ _ _ _ _ htd htu⟩
            have husT:∀t ∈ us,Operand.tmp t ∈ o.op.operands\/True:=fun _ _=> .inr trivial
            have hPl:Placed (fun t=>Operand.tmp t ∈ o.op.operands) X (P i) B:=
              ⟨fun t p' hT hp'=>HI.pl.sl t p' trivial (hTp t hT p' hp'),fun t p' hT hp'=>HI.pl.ob t p' trivial (hTp t hT p' hp'),fun t p' t' p'' hT hT' hp' hp''=>HI.pl.disj t p' t' p'' trivial trivial (hTp t hT p' hp') (hTp t' hT' p'' hp'')⟩
            have hdX:d<X.nt:=by
              rw [HI.nt,<-h3,<-hk.nt];exact hdn
            obtain ⟨X',heff,hM⟩:=mk_step (stL:=X) (B:=B) (T:=fun t=>Operand.tmp t ∈ o.op.operands) hd hdX (fun x hx t e=>by rw [<-e];exact hx) hPl (fun h o' ho'=>HI.ob h o' (by rw [<-h1,<-hk.ob];exact ho')) (fun x hx v hv=>by
              cases x with
              | tmp t=>
                have hv':look stk.sl t=some v:=hv;show look X.sl t=some v
                refine HI.sub t v ?_
                rw [hlooks t (hopl t hx),<-hk.sl t];exact hv'
              | const c=>exact hv
              | func f=>exact hv
              | global g=>exact hv) hmk
            refine .inl (eff_sound hE hC Sm heff fun st' a' w' S' hst'=> ?_)
            cases hst'
            have hoT:∀t ∈ us,∀p',look (P i) t=some p'->look pL t=some p':=by
              intro t ht p' hp';obtain ⟨c,hc,g1,g2,_,g3⟩:=hborn i (by omega) t p' hp'
              have htd:t≠d:=fun e=>by
                have:=hinj c i t (by omega) him g1 (by rw [e];exact hdi)
                omega
              by_cases htop:Operand.tmp t ∈ o.op.operands
              · exact hTp t htop p' hp'
              · exact absurd (husd t ht).1 htop
            have hnums:∀h,h<X.nx->(∀t ∈ us,∀p',look pL t=some p'->∀j o',look p'.os j=some o'->h≠B t+j)->¬Nums (P i) B us h:=by
              rintro h _ hn ⟨t,ht,p',j,o',g1,g2,g3⟩
              exact hn t ht p' (hoT t ht p' g1) j o' g2 g3
            refine next { vL with sl:=del d vL.sl } X' (delAll (d::us) pL++[(d,p)]) (fun t=>if t=d then X.nx else B t) ⟨rfl,rfl,rfl⟩ (fun t ht=>look_del_ne _ fun e=>ht (by rw [hd,e])) (fun t ht=> ?_) ?_ ?_ ?_ _ _ S'
            · rw [hd] at ht;cases ht
              rw [hS1];show look (del d vL.sl) d=look (del d stk.sl) d
              rw [i2,i2]
            · have hslX:∀t,t≠d->look X'.sl t=look X.sl t:=fun t ht=>by rw [hM.sl];exact look_put_ne _ _ ht
              have hold:∀t p',t ∉ us->look pL t=some p'->∀j o',look p'.os j=some o'->look X'.ob (B t+j)=some o':=by
                intro t p' htu hp' j o' hj;have hB:=HI.ok t p' hp';have hjn:=(hB.1.os j o' hj).1;refine hM.old _ _ (HI.pl.ob t p' trivial hp' j o' hj) (by omega) (hnums _ (by omega) fun t' ht' p'' hp'' j' o'' hj'=> ?_)
                exact HI.pl.disj t p' t' p'' trivial trivial hp' hp'' (fun e=>htu (by rw [e];exact ht')) j o' j' o'' hj hj'
              refine ⟨hM.nt.trans HI.nt,by rw [hM.nx];have:=HI.lo;omega,by rw [hM.nx];have:=HI.hi;omega,fun t v ht=> ?_,fun t ht=> ?_,fun h o' ho'=> ?_,⟨fun t p' _ hp'=> ?_,fun t p' _ hp' j o' hj=> ?_,fun t p' t' p'' _ _ hp' hp'' hne j o' j' o'' hj hj'=> ?_⟩,fun t p' hp'=> ?_,fun hcs=>by rw [hcs] at hdc;cases hdc⟩
              · obtain ⟨g1,g2⟩:=look_del ht;rw [hslX t g1];exact HI.sub t v g2
              · have htd:t≠d:=fun e=>ht (by rw [e];exact hdc)
                rw [hslX t htd,HI.eq t ht];exact (look_del_ne _ htd).symm
              · have g1:=hst0 h o' ho';have g2:=HI.lo;refine hM.old h o' (HI.ob h o' ho') (by omega) (hnums h (by omega) fun t' ht' p'' hp'' j' o'' hj'=> ?_)
                have:=(HI.ok t' p'' hp'').2.1
                omega
              · rcases hPnew _ _ _ _ _ _ hp' with ⟨rfl,rfl⟩ | ⟨g1,g2,g3⟩
                · rw [hM.sl,E1,dY rfl]
                · rw [hslX t g1,eY g1];exact HI.pl.sl t p' trivial g3
              · rcases hPnew _ _ _ _ _ _ hp' with ⟨rfl,rfl⟩ | ⟨g1,g2,g3⟩
                · rw [dY rfl];exact (hM.new j o' hj).2
                · rw [eY g1];exact hold t p' g2 g3 j o' hj
              · rcases hPnew _ _ _ _ _ _ hp' with ⟨rfl,rfl⟩ | ⟨g1,g2,g3⟩
                · rcases hPnew _ _ _ _ _ _ hp'' with ⟨rfl,rfl⟩ | ⟨k1,k2,k3⟩
                  · exact absurd rfl hne
                  · rw [dY rfl,eY k1];have hB:=HI.ok t' p'' k3
                    have:=(hB.1.os j' o'' hj').1
                    omega
                · rcases hPnew _ _ _ _ _ _ hp'' with ⟨rfl,rfl⟩ | ⟨k1,k2,k3⟩
                  · rw [dY rfl,eY g1];have hB:=HI.ok t p' g3
                    have:=(hB.1.os j o' hj).1
                    omega
                  · rw [eY g1,eY k1];exact HI.pl.disj t p' t' p'' trivial trivial g3 k3 hne j o' j' o'' hj hj'
              · rcases hPnew _ _ _ _ _ _ hp' with ⟨rfl,rfl⟩ | ⟨g1,g2,g3⟩
                · rw [dY rfl,hM.nx];exact ⟨hpok,HI.lo,cY _⟩
                · rw [eY g1,hM.nx];obtain ⟨k1,k2,k3⟩:=HI.ok t p' g3;exact ⟨k1,k2,by omega⟩
            · intro c t p' hc hl hdt hp' hcon;by_cases e:c=i
              · subst e
                have:t=d:=by rw [hdi] at hdt;exact (xZ hdt).symm
                subst this;rw [hPi,hPat] at hp';rw [hPat];exact hp'
              · have htd:t≠d:=fun e'=>e (hinj c i t hc him hdt (by rw [e'];exact hdi))
                have hold:=J1 c t p' hc (hlist c hl e) hdt hp' fun k hk hl=>hcon k hk ((R0 (by omega)).2 (.inr hl))
                have htu:t ∉ us:=fun ht=>by
                  obtain ⟨_,q,hq⟩:=husd t ht;exact hcon i him ((R0 (by omega)).2 (.inl rfl)) ⟨⟨q,hq⟩,by rw [hPi];exact hPgone _ _ _ _ _ htd ht⟩
                exact hPkeep _ _ _ _ _ _ htd htu hold
            · intro t p' hp';rcases hPnew _ _ _ _ _ _ hp' with ⟨rfl,rfl⟩ | ⟨g1,g2,g3⟩
              · exact ⟨i,him,(R0 (by omega)).2 (.inl rfl),hdi⟩
              · obtain ⟨c,hc,hl,hdt⟩:=JK t p' g3;exact ⟨c,hc,(R0 (by omega)).2 (.inr hl),hdt⟩
  refine head ops.size (Array.replicate ops.size false) a _ st st [] (fun _=>0) (by simp) (by simp) ?_ ?_ ⟨rfl,rfl,rfl⟩ ?_ ?_ ⟨rfl,cY _,cY _,fun _ _ h=>h,fun _ _=>rfl,fun _ _ h=>h,⟨fun t p _ h=>(by cases h),fun t p _ h=>(by cases h),fun t p _ _ _ _ h=>(by cases h)⟩,fun t p h=>(by cases h),fun _=>rfl⟩ ?_ (fun t p h=>(by cases h)) ⟨β0,Lf0,Sm0.kept ((Below.refl _ w).drew)⟩
  · intro j o ho hj;by_cases h:j<ops.size<;>simp [h] at hj
  · intro j hj _ hl;simp [hj] at hl
  · intro k d hk hl;by_cases h:k<ops.size<;>simp [h] at hl
  · intro t _;rfl
  · intro c d p hc hl;by_cases h:c<ops.size<;>simp [h] at hl
end
section
variable {E:Env} {G:Nat->Prop} {w0:Base} {st:St} {a:Act} {w:World} {β:Nat->Value} {Lf:Nat->List Nat} {R:Type} {r:R} {o:Oper} {call:CallD E} {K:St->Option R} {X:Act->World->Prop} {Q:Exit->Act->World->Prop}
def owned (st:St) (Lf:Nat->List Nat):List Nat:=st.ob.flatMap fun p=>Lf p.1
theorem mem_owned {b:Nat}:b ∈ owned st Lf↔∃h o,look st.ob h=some o/\b ∈ Lf h:=by
 unfold owned;rw [List.mem_flatMap];constructor
 · rintro ⟨p,hp,hb⟩
   obtain ⟨v,hv⟩:=look_of_key st.ob p.1 (List.mem_map_of_mem hp);exact ⟨p.1,v,hv,hb⟩
 · rintro ⟨h,o,ho,hb⟩
   have hk:=look_key st.ob h o ho;obtain ⟨p,hp,rfl⟩:=List.mem_map.1 hk;exact ⟨p,hp,hb⟩
theorem Sim.rebase (S:Sim G w0 st a w β Lf):Sim G ⟨w,owned st Lf,st.nx,β⟩ st a w β Lf where
 fresh:=fun k hk=>by
  rcases hk with h | h
  · exact S.fresh k (.inl (bY S.below.size h))
  · obtain ⟨h',o,ho,hb⟩:=mem_owned.1 h;exact S.fresh k (S.new h' o ho k hb).1
 below:=Chg.refl _ _
 defers:=S.defers
 size:=S.size
 slots:=S.slots
 slt:=S.slt
 obs:=S.obs
 olt:=S.olt
 new:=fun h o ho b hb=>⟨.inr (mem_owned.2 ⟨h,o,ho,hb⟩),(S.new h o ho b hb).2⟩
 nodup:=S.nodup
 disj:=S.disj
 pin:=fun _ _=>rfl
 pinx:=cY _
theorem Sim.owned_new (S:Sim G w0 st a w β Lf):∀b ∈ owned st Lf,(w0.w.heap.size<=b\/b ∈ w0.T)/\b<w.heap.size:=by
 intro b hb;obtain ⟨h,o,ho,hb⟩:=mem_owned.1 hb;exact S.new h o ho b hb
theorem Sim.unbase {st':St} {a':Act} {w':World} {β':Nat->Value} {Lf':Nat->List Nat} (S:Sim G w0 st a w β Lf) (S':Sim G ⟨w,owned st Lf,st.nx,β⟩ st' a' w' β' Lf'):Sim G w0 st' a' w' β' Lf' where
 fresh:=S.fresh
 below:=S.below.then S'.below fun b hb=>(S.owned_new b hb).1
 defers:=S'.defers
 size:=S'.size
 slots:=S'.slots
 slt:=S'.slt
 obs:=S'.obs
 olt:=S'.olt
 new:=fun h o ho b hb=>by
  obtain ⟨h1,h2⟩:=S'.new h o ho b hb;refine ⟨?_,h2⟩
  rcases h1 with h1 | h1
  · exact .inl (bY S.below.size h1)
  · exact (S.owned_new b h1).1
 nodup:=S'.nodup
 disj:=S'.disj
 pin:=fun i hi=>(S'.pin i (jZ hi S.pinx)).trans (S.pin i hi)
 pinx:=bY S.pinx S'.pinx
theorem CallAt.rebase (hC:CallAt E call w0) (S:Sim G w0 st a w β Lf):CallAt E call ⟨w,owned st Lf,st.nx,β⟩:=⟨hC.ok,TabW.at hC.tab S fun b hb=>(S.owned_new b hb).1⟩
theorem put_getD (a:Act) (d:Option Tmp) (v:Value) (t:Nat) (h:d≠some t):(a.put d v).tmps.getD t undef=a.tmps.getD t undef:=by
  cases d with
  | none=>rfl
  | some d=>
    have:d≠t:=fun e=>h (by rw [e])
    simp only [Act.put,aZ];rw [Array.getElem?_setIfInBounds_ne this]
theorem Oper.wp_frame {Kx:Act->World->Prop} (hh:o.wp E.P a w Kx Q):o.wp E.P a w (fun a' w'=>Kx a' w'/\∀t,o.dst≠some t->a'.tmps.getD t undef=a.tmps.getD t undef) Q:=by
  unfold Oper.wp at*;generalize (execOp a.eval o).run E.P w=r at*;cases r with
  | ok n w'=>
    cases n<;>simp only [Oper.upon] at hh ⊢
    · exact ⟨hh,fun t ht=>put_getD a _ _ t ht⟩
    · exact ⟨hh,fun t ht=>put_getD a _ _ t ht⟩
    · exact Calls.mono hh (fun e w'' he=>by
        cases e
        · exact ⟨he,fun t ht=>put_getD a _ _ t ht⟩
        · exact he
        · exact he)
    · exact ⟨hh,fun t ht=>put_getD _ _ _ t ht⟩
    · exact Rows.mono hh (fun _ _ he=>⟨he,fun t ht=>put_getD a _ _ t ht⟩)
  | halt x w'=>cases x<;>simp only [Oper.upon] at hh ⊢<;>exact hh
theorem wpOp_keeps {ops:Array Oper} {i:Nat} (hi:ops[i]? =some o) (hh:wpOp E.P ops Q i X a w):wpOp E.P ops Q i (fun a' w'=>X a' w'/\∀t,o.dst≠some t->a'.tmps.getD t undef=a.tmps.getD t undef) a w:=by
 unfold wpOp at*;simp only [hi] at hh ⊢;split
 · rename_i hw;simp only [hw,if_true] at hh;exact hh.imp Oper.wp_frame id
 · rename_i hw;simp only [hw] at hh;exact ⟨hh,fun t ht=>put_getD a _ _ t ht⟩
theorem alloc_run (hE:EnvOk E) {t:TypeId} {i:TyI} (ho:o.op= .alloc t) (hi:E.ty t=some i) (hX:X (a.put o.dst (.pointer (some ⟨w.heap.size,0,none⟩))) (w.alloc (.cells i.zero.toArray t))):o.wp E.P a w X Q:=by
 have hT:=hE.ty _ _ hi;obtain ⟨z,hz,hr⟩:=hT.run_zero w;refine wp_value (u:= .pointer (some ⟨w.heap.size,0,none⟩)) (w':=w.alloc (.cells i.zero.toArray t)) ?_ hX
 have hz':z.cells=i.zero.toArray:=by rw [<-hz]
 simp [execOp,ho,Instr.alloc,hr,newVar,newRow,hz']
theorem Sim.ahead (S:Sim G w0 st a w β Lf) {d:Nat} (hd:look st.sl d=none) (u:Value) (ob:Obj):
 Sim (fun k=>G k/\k≠w.heap.size) ⟨w.alloc ob,owned st Lf,st.nx,β⟩ st (a.put (some d) u) (w.alloc ob) β Lf:=by
 have hsz:(w.alloc ob).heap.size=w.heap.size+1:=by simp
 have hw:∀k,imm G st Lf k->k<w.heap.size->imm (fun k=>G k/\k≠w.heap.size) st Lf k/\(w.alloc ob).heap[k]? =w.heap[k]? :=fun k hk hlt=>⟨⟨⟨hk.1,by omega⟩,hk.2⟩,heap_alloc_old w _ k hlt⟩
 exact {
  fresh:=fun k hk=>by
   rcases hk with h | h
   · rw [hsz] at h;exact ⟨S.fresh k (.inl (bY S.below.size (by omega))),by omega⟩
   · have:=S.owned_new k h
     exact ⟨S.fresh k this.1,by omega⟩
  below:=Chg.refl _ _
  defers:=S.defers
  size:=by
   show st.nt<=(a.tmps.setIfInBounds d u).size
   rw [Array.size_setIfInBounds];exact S.size
  slots:=fun t v ht=>by
   rw [put_getD a (some d) u t fun e=>by rw [xZ e,ht] at hd;cases hd]
   exact (S.slots t v ht).step (S.slt t v ht) hw fun _ _=>rfl
  slt:=S.slt
  obs:=fun n o ho=>(S.obs n o ho).step (S.olt n o ho).2 hw (fun b hb=>heap_alloc_old w _ b (S.new n o ho b hb).2) fun _ _=>rfl
  olt:=S.olt
  new:=fun h o ho b hb=>⟨.inr (mem_owned.2 ⟨h,o,ho,hb⟩),by rw [hsz];have:=(S.new h o ho b hb).2;omega⟩
  nodup:=S.nodup
  disj:=S.disj
  pin:=fun _ _=>rfl
  pinx:=cY _ }
theorem Sim.adopt (S:Sim G w0 st a w β Lf) {b:Nat} {t:TypeId} {cs:List C} {us:List Value} (hb:b<w.heap.size) (hG:¬G b) (hh:w.heap[b]? =some (.cells us.toArray t (0,0)))
 (hc:All2 (VC w (imm G st Lf) β) cs us) (hlt:∀c ∈ cs,C.lt st.nx c) {d:Nat} (hd:d<st.nt) (hs:a.tmps.getD d undef= .pointer (some ⟨b,0,none⟩)):
 Sim (fun k=>G k\/k=b) ⟨w,b::owned st Lf,st.nx,β⟩ (st.new (some d) (.c (.ptr st.nx 0)) (.var cs)) a w (upd β st.nx (.pointer (some ⟨b,0,none⟩))) (upd Lf st.nx [b]):=by
 have hown:∀k ∈ owned st Lf,G k:=fun k hk=>S.fresh k (S.owned_new k hk).1
 have hw:∀k,imm G st Lf k->k<w.heap.size->imm (fun k=>G k\/k=b) st Lf k/\w.heap[k]? =w.heap[k]? :=fun k hk _=>⟨⟨.inl hk.1,hk.2⟩,rfl⟩
 have hw2:∀k,imm G st Lf k->k<w.heap.size->(imm (fun k=>G k\/k=b) { st with ob:=st.ob } Lf k/\k ∉ [b])/\w.heap[k]? =w.heap[k]? :=fun k hk _=>⟨⟨⟨.inl hk.1,hk.2⟩,fun hm=>hG (by rw [kZ.1 hm] at hk;exact hk.1)⟩,rfl⟩
 have S1:Sim (fun k=>G k\/k=b) ⟨w,b::owned st Lf,st.nx,β⟩ { st with ob:=st.ob } a w β Lf:={
  fresh:=fun k hk=>by
   rcases hk with h | h
   · exact .inl (S.fresh k (.inl (bY S.below.size h)))
   · rcases zZ.1 h with h | h
     · exact .inr h
     · exact .inl (hown k h)
  below:=Chg.refl _ _
  defers:=S.defers
  size:=S.size
  slots:=fun t v ht=>(S.slots t v ht).step (S.slt t v ht) hw fun _ _=>rfl
  slt:=S.slt
  obs:=fun n o ho=>(S.obs n o ho).step (S.olt n o ho).2 hw (fun b hb=>rfl) fun _ _=>rfl
  olt:=S.olt
  new:=fun h o ho k hk=>⟨.inr (fZ _ (mem_owned.2 ⟨h,o,ho,hk⟩)),(S.new h o ho k hk).2⟩
  nodup:=S.nodup
  disj:=S.disj
  pin:=fun _ _=>rfl
  pinx:=cY _ }
 have S2:=S1.add (o:= .var cs) (u:= .pointer (some ⟨b,0,none⟩)) (L:=[b]) (fun k hk=>by rw [kZ.1 hk];exact ⟨.inr (List.mem_cons_self ..),hb⟩)
  (fun h o ho k hk hm=>hG (by rw [kZ.1 hm] at hk;exact hown b (mem_owned.2 ⟨h,o,ho,hk⟩))) (by simp) hlt
  (fun t v ht=>(S.slots t v ht).step (S.slt t v ht) hw2 fun _ _=>rfl)
  (fun n o ho=>(S.obs n o ho).step (S.olt n o ho).2 hw2 (fun b hb=>rfl) fun _ _=>rfl)
  ⟨b,t,us,rfl,rfl,hh,hc.imp fun c hc u hu=>hu.step hw2 fun _ _=>rfl⟩
 rw [new_eq];have S3:=S2.set (some d) (v:= .c (.ptr st.nx 0)) (u:= .pointer (some ⟨b,0,none⟩)) ⟨b,Z2 _ _ _,rfl⟩ (by
  intro h hh;simp [C.hs] at hh;subst hh;exact Nat.lt_succ_self _)
 have e:a.put (some d) (.pointer (some ⟨b,0,none⟩))=a:=by
  have hds:d<a.tmps.size:=jZ hd S.size
  have:a.tmps.setIfInBounds d (.pointer (some ⟨b,0,none⟩))=a.tmps:=by
   apply Array.ext_getElem?
   intro j;rw [Array.getElem?_setIfInBounds]
   split
   · rename_i h;subst h;rw [<-hs,aZ,Array.getElem?_eq_getElem hds]
     simp
   · rfl
  simp only [Act.put,this]
 rw [e] at S3;exact S3
end
theorem pureF_run {P:Program} {ev:Operand->Value} {o:Oper} {u:Value} {w:World} (hp:pureF o.op=true) (h:(execOp ev o).run P w= .ok (.value u) w) (w2:World):(execOp ev o).run P w2= .ok (.value u) w2:=by
 cases ho:o.op<;>rw [ho] at hp<;>simp [pureF] at hp
 case move x=>
  simp only [execOp,ho] at h ⊢;have e:Next.value (ev x)=Next.value u:=by injection h
  rw [<-e];rfl
 case extract x n=>
  simp only [execOp,ho,Instr.extract] at h ⊢;cases hx:ev x<;>rw [hx] at h<;>try (cases h;done)
  rename_i us;simp only at h ⊢
  cases hn:us[n]? <;>rw [hn] at h<;>try (cases h;done)
  rename_i v;have e:Next.value v=Next.value u:=by injection h
  rw [<-e];rfl
def flowOk (ops:Array Oper) (m:Nat) (A F:List Nat):Bool:=
  let B:=Region.before ops
  Region.noSelect ops&&(List.range ops.size).all fun j=>match ops[j]? with
    | none=>true
    | some o=>(o.after.toList.all fun e=> !Region.binds .any e || decide (e.on<j))&&
      ((if A.contains j then (isAlloc o.op&&(o.guard.isNone&&(o.dst.isSome&&((List.range ops.size).all fun i=>i==j || W2 ops i !=o.dst)))) else if m<=j then (List.range j).all fun i=>F.contains i || (B.getD j 0).testBit i else true)&&
      (if F.contains j then (pureF o.op&&(o.guard.isNone&&(!A.contains j&&((List.range ops.size).all fun i=>decide (i<=j) || (match ops[i]? with
        | some q=>q.after.any (fun e=>Region.binds .any e&&e.on==j) || o.apart ops q
        | none=>true))))) else true))
theorem flowOk_sel {ops:Array Oper} {m:Nat} {A F:List Nat} (h:flowOk ops m A F=true):Region.noSelect ops=true:=by
 unfold flowOk at h;simp only [sZ] at h;exact h.1
theorem flowOk_at {ops:Array Oper} {m:Nat} {A F:List Nat} (h:flowOk ops m A F=true) {j:Nat} {o:Oper} (ho:ops[j]? =some o):(∀e ∈ o.after,Region.binds .any e=true->e.on<j)/\(m<=j->A.contains j=false->∀i,i<j->F.contains i=false->((Region.before ops).getD j 0).testBit i=true)/\
    (A.contains j=true->∃t d,o.op= .alloc t/\o.guard=none/\o.dst=some d/\∀i,i≠j->W2 ops i≠some d)/\
    (F.contains j=true->pureF o.op=true/\o.guard=none/\A.contains j=false/\∀i q,j<i->ops[i]? =some q->(∀e ∈ q.after,Region.binds .any e=true->e.on≠j)->o.apart ops q=true):=by
  unfold flowOk at h;simp only [sZ] at h;have hj:=(bZ.1 ho).1
  have h1:=uZ.1 h.2 j (List.mem_range.2 hj);rw [ho] at h1;simp only [sZ] at h1;obtain ⟨h1,h2,h3⟩:=h1;refine ⟨fun e he hb=> ?_,fun hm hA i hij hF=> ?_,fun hA=> ?_,fun hF=> ?_⟩
  · have:=uZ.1 h1 e (by simpa using he)
    simpa [hb] using this
  · rw [hA,eY (by decide),dY hm] at h2
    have:=uZ.1 h2 i (List.mem_range.2 hij)
    rw [hF,Bool.false_or] at this;exact this
  · rw [hA,dY rfl] at h2;simp only [sZ] at h2;obtain ⟨g1,g2,g3,g4⟩:=h2;cases hop:o.op<;>rw [hop] at g1<;>simp [isAlloc] at g1
    rename_i t;cases hd:o.dst with
    | none=>rw [hd] at g3;cases g3
    | some d=>
      refine ⟨t,d,rfl,by simpa using g2,rfl,fun i hi e=> ?_⟩
      by_cases hs:i<ops.size
      · have:=uZ.1 g4 i (List.mem_range.2 hs)
        rw [e,hd] at this;simp [hi] at this
      · unfold W2 at e;rw [Array.getElem?_eq_none (by omega)] at e
        cases e
  · rw [hF,dY rfl] at h3;simp only [sZ] at h3;obtain ⟨g1,g2,g3,g4⟩:=h3;refine ⟨g1,by simpa using g2,by simpa using g3,fun i q hi hq hne=> ?_⟩
    have:=uZ.1 g4 i (List.mem_range.2 (bZ.1 hq).1)
    rw [hq] at this;simp only [Bool.or_eq_true,pZ] at this;rcases this with this | this | this
    · omega
    · obtain ⟨e,he,hb⟩:=Array.any_eq_true'.1 this;simp only [sZ,beq_iff_eq] at hb;exact absurd hb.2 (hne e he hb.1)
    · exact this
structure Link (w00 w0:Base):Prop where
 chg:Chg w00.T w00.w w0.w
 own:∀b ∈ w0.T,w00.w.heap.size<=b\/b ∈ w00.T
 pin:∀i,i<w00.m->w0.B i=w00.B i
 pinx:w00.m<=w0.m
theorem Link.refl (w0:Base):Link w0 w0:=⟨Chg.refl _ _,fun _ h=> .inr h,fun _ _=>rfl,cY _⟩
section
variable {E:Env} {G G0:Nat->Prop} {w0 w00:Base} {st:St} {a:Act} {w:World} {β:Nat->Value} {Lf:Nat->List Nat} {R:Type} {r:R} {o:Oper} {call:CallD E} {K:St->Option R} {X:Act->World->Prop} {Q:Exit->Act->World->Prop}
theorem CallAt.link (hC:CallAt E call w00) (L:Link w00 w0):CallAt E call w0:=by
 refine ⟨hC.ok,fun p hp=> ?_⟩
 obtain ⟨⟨ty,fr,h1⟩,h2⟩:=hC.tab p hp;have h3:p.1<w00.w.heap.size:=(bZ.1 h1).1
 refine ⟨⟨ty,fr,(L.chg.block p.1 h3 h2).trans h1⟩,fun hm=> ?_⟩
 rcases L.own _ hm with h4 | h4
 · omega
 · exact h2 h4
theorem Sim.link (S:Sim G w0 st a w β Lf) (L:Link w00 w0) (hG:∀k,(w00.w.heap.size<=k\/k ∈ w00.T)->G k):Sim G w00 st a w β Lf where
 fresh:=hG
 below:=L.chg.then S.below L.own
 defers:=S.defers
 size:=S.size
 slots:=S.slots
 slt:=S.slt
 obs:=S.obs
 olt:=S.olt
 new:=fun h o ho b hb=>by
  obtain ⟨h1,h2⟩:=S.new h o ho b hb;refine ⟨?_,h2⟩
  rcases h1 with h1 | h1
  · exact .inl (bY L.chg.size h1)
  · exact L.own b h1
 nodup:=S.nodup
 disj:=S.disj
 pin:=fun i hi=>(S.pin i (jZ hi L.pinx)).trans (L.pin i hi)
 pinx:=bY L.pinx S.pinx
theorem Sim.ownedL (S:Sim G w0 st a w β Lf) (L:Link w00 w0):∀b ∈ owned st Lf,w00.w.heap.size<=b\/b ∈ w00.T:=by
 intro b hb;rcases (S.owned_new b hb).1 with h | h
 · exact .inl (bY L.chg.size h)
 · exact L.own b h
theorem Link.ahead (L:Link w00 w0) (S:Sim G w0 st a w β Lf) (ob:Obj):Link w00 ⟨w.alloc ob,owned st Lf,st.nx,β⟩ where
 chg:=(L.chg.then S.below L.own).then (Chg.of_below (Below.alloc1 w ob) []) (by simp)
 own:=S.ownedL L
 pin:=fun i hi=>(S.pin i (jZ hi L.pinx)).trans (L.pin i hi)
 pinx:=bY L.pinx S.pinx
theorem Link.adopt (L:Link w00 w0) (S:Sim G w0 st a w β Lf) {b:Nat} (hb:w00.w.heap.size<=b):Link w00 ⟨w,b::owned st Lf,st.nx,β⟩ where
 chg:=L.chg.then S.below L.own
 own:=fun k hk=>by
  rcases zZ.1 hk with h | h
  · rw [h];exact .inl hb
  · exact S.ownedL L k h
 pin:=fun i hi=>(S.pin i (jZ hi L.pinx)).trans (L.pin i hi)
 pinx:=bY L.pinx S.pinx
structure Early (E:Env) (ops:Array Oper) (w00 w0:Base) (G:Nat->Prop) (a:Act) (j b:Nat):Prop where
 lo:w00.w.heap.size<=b
 nT:b ∉ w0.T
 nG:¬G b
 op:∃o t i d,ops[j]? =some o/\o.op= .alloc t/\o.dst=some d/\E.ty t=some i/\w0.w.heap[b]? =some (.cells i.zero.toArray t (0,0))/\a.tmps.getD d undef= .pointer (some ⟨b,0,none⟩)
theorem Early.put {ops:Array Oper} {j b:Nat} {a':Act} (h:Early E ops w00 w0 G a j b) {dst:Option Tmp} (hd:∀d,W2 ops j=some d->dst≠some d) (ha:∀t,dst≠some t->a'.tmps.getD t undef=a.tmps.getD t undef):Early E ops w00 w0 G a' j b:=by
 obtain ⟨h1,h2,h3,o,t,i,d,g1,g2,g3,g4,g5,g6⟩:=h;exact ⟨h1,h2,h3,o,t,i,d,g1,g2,g3,g4,g5,(ha d (hd d (by simp [W2,g1,g3]))).trans g6⟩
theorem Early.base {ops:Array Oper} {j b:Nat} {w1:Base} {G1:Nat->Prop} (h:Early E ops w00 w0 G a j b) (S:Sim G w0 st a w β Lf) (hw:∀k,k<w.heap.size->w1.w.heap[k]? =w.heap[k]?) (hT:∀k ∈ w1.T,k ∈ owned st Lf\/k≠b) (hG:¬G1 b):Early E ops w00 w1 G1 a j b:=by
 obtain ⟨h1,h2,h3,o,t,i,d,g1,g2,g3,g4,g5,g6⟩:=h;have hlt:b<w0.w.heap.size:=(bZ.1 g5).1
 refine ⟨h1,fun hm=> ?_,hG,o,t,i,d,g1,g2,g3,g4,?_,g6⟩
 · rcases hT b hm with h | h
   · rcases (S.owned_new b h).1 with h' | h'
     · omega
     · exact h2 h'
   · exact h rfl
 · rw [hw b (jZ hlt S.below.size)];exact (S.below.block b hlt h2).trans g5
theorem vflow_cons {ops:Array Oper} {A F:List Nat} {l:List Oper} {n:Nat} (h:vflow E call ops A F (o::l) n st K=some r):(∀j,A.contains j=true->n<=j->∃d,W2 ops j=some d/\look st.sl d=none/\d<st.nt/\flTy E ops j=true)/\
 (if A.contains n=true then eff E call st o (fun st=>vflow E call ops A F l (n+1) st K)=some r
  else if F.contains n=true then opv E st o (fun v=>vflow E call ops A F l (n+1) (st.set o.dst v) K) none=some r
  else ∃b,guard? st ops o=some b/\(if b=true then vstep E call (st.know ops o true) o (fun st=>vflow E call ops A F l (n+1) st K) else vflow E call ops A F l (n+1) ((st.know ops o false).unset o.dst) K)=some r):=by
 simp only [vflow] at h;split at h;rotate_left;cases h
 rename_i hA;refine ⟨fun j hj hn=> ?_,?_⟩
 · have h1:=uZ.1 hA j (by simpa using hj)
   rw [Bool.or_eq_true] at h1;rcases h1 with h1 | h1
   · have:=of_decide_eq_true h1
     omega
   · split at h1;rotate_left;cases h1
     rename_i d hd;simp only [sZ,Option.isNone_iff_eq_none,pZ] at h1;exact ⟨d,hd,h1.1,h1.2.1,h1.2.2⟩
 · split at h
   · rename_i hc;rw [dY hc];exact h
   · rename_i hc;rw [eY hc];split at h
     · rename_i hf;rw [dY hf];exact h
     · rename_i hf;rw [eY hf];split at h;rotate_left;cases h
       rename_i b hb;exact ⟨b,hb,h⟩
theorem flow_tail (hE:EnvOk E) {ops:Array Oper} {A F:List Nat} {m:Nat} (hC:CallAt E call w00) (hG0:∀k,(w00.w.heap.size<=k\/k ∈ w00.T)->G0 k) (hok:flowOk ops m A F=true)
    (hQ:∀st' a' w',SimE G0 w00 st' a' w'->K st'=some r->Q .normal a' w') (hP:∀c a w,¬Q (.panic c) a w):
    ∀(k:Nat) (l:List Oper) (n fuel:Nat) (listed:Array Bool) (st:St) (a:Act) (w:World) (G:Nat->Prop) (w0:Base) (β:Nat->Value) (Lf:Nat->List Nat) (bl:Nat->Nat),fuel+l.length<=k->ops.toList.drop n=l->m<=n->n<=ops.size->listed.toList.count false<=fuel->listed.size=ops.size->
      (∀j,j<n->listed.getD j false=true)->(∀j,n<=j->listed.getD j false=true->A.contains j=true)->(Closed ops fun j=>listed.getD j false=true)->(∀j,n<=j->listed.getD j false=true->Early E ops w00 w0 G a j (bl j))->
      (∀j j',n<=j->n<=j'->listed.getD j false=true->listed.getD j' false=true->bl j=bl j'->j=j')->(∀x,G0 x↔G x\/∃j,n<=j/\listed.getD j false=true/\x=bl j)->Link w00 w0->Sim G w0 st a w β Lf->vflow E call ops A F l n st K=some r->wpAny E.P .any ops Q fuel listed a w
  | k,[],n,fuel,listed,st,a,w,G,w0,β,Lf,bl,hk,hd,hmn,hns,hfu,hsz,hl,hA,hcl,hEa,hinj,hG,hL,S,h=>by
    have hs:ops.size<=n:=by
      have:=List.drop_eq_nil_iff.1 hd
      simpa using this
    have e:G=G0:=by
      funext x
      refine propext ⟨fun hx=>(hG x).2 (.inl hx),fun hx=> ?_⟩
      rcases (hG x).1 hx with h1 | ⟨j,hj,hlj,_⟩
      · exact h1
      · rw [aZ,Array.getElem?_eq_none (by omega)] at hlj
        cases hlj
    subst e;refine wpAny_done ?_ (hQ _ _ _ ⟨β,Lf,S.link hL hG0⟩ h) fuel
    refine List.eq_nil_iff_forall_not_mem.2 fun j hj=> ?_
    obtain ⟨h1,o,ho,_⟩:=mem_ready.1 hj;have hj':=(bZ.1 ho).1
    exact (T2 (by omega)).1 h1 (hl j (by omega))
  | 0,o::l,n,fuel,listed,st,a,w,G,w0,β,Lf,bl,hk,hd,hmn,hns,hfu,hsz,hl,hA,hcl,hEa,hinj,hG,hL,S,h=>by
    simp at hk
  | k+1,o::l,n,fuel,listed,st,a,w,G,w0,β,Lf,bl,hk,hd,hmn,hns,hfu,hsz,hl,hA,hcl,hEa,hinj,hG,hL,S,h=>by
    have hi:ops[n]? =some o:=by
      have:=congrArg (·[0]?) hd
      simpa using this
    have hd':ops.toList.drop (n+1)=l:=by
      have:=congrArg (List.drop 1) hd
      rw [List.drop_drop] at this;simpa using this
    have hns':n<ops.size:=(bZ.1 hi).1
    have hflow:=h;obtain ⟨hfree,h⟩:=vflow_cons h;by_cases hln:listed.getD n false=true
    · -- the machine has run it already
      have hAn:=hA n (cY _) hln;rw [dY hAn] at h;obtain ⟨t0,d0,f1,f2,f3,f4⟩:=(flowOk_at hok hi).2.2.1 hAn;obtain ⟨d1,e1,e2,e3,_⟩:=hfree n hAn (cY _);have hE0:=hEa n (cY _) hln;obtain ⟨q1,q2,q3,o',t,i,d,g1,g2,g3,g4,g5,g6⟩:=hE0;rw [hi] at g1;cases g1
      have hdd:d1=d:=by
        have:W2 ops n=some d:=by simp [W2,hi,g3]
        rw [this] at e1;exact (xZ e1).symm
      subst hdd;have hblt:bl n<w0.w.heap.size:=(bZ.1 g5).1
      have hheap:w.heap[bl n]? =some (.cells i.zero.toArray t (0,0)):=(S.below.block _ hblt q2).trans g5;have hT:=hE.ty _ _ g4;simp only [eff,g2,g4] at h;rw [g3] at h;have S':=S.adopt (jZ hblt S.below.size) q3 hheap (all2_vals hT.zone) (lt_vals _ _) e3 g6;refine flow_tail hE hC hG0 hok hQ hP k l (n+1) fuel listed _ a w (fun x=>G x\/x=bl n) _ _ _ bl (by simp at hk;omega) hd' (by omega) (by omega) hfu hsz (fun j hj=> ?_) (fun j hj=>hA j (by omega)) hcl (fun j hj hlj=> ?_) (fun j j' hj hj'=>hinj j j' (by omega) (by omega)) (fun x=> ?_) (hL.adopt S q1) S' h
      · by_cases e:j=n
        · rw [e];exact hln
        · exact hl j (by omega)
      · have hj0:=hEa j (by omega) hlj
        have hne:bl j≠bl n:=fun e=>by
          have:=hinj j n (by omega) (cY _) hlj hln e
          omega
        refine hj0.base S (fun _ _=>rfl) (fun k hk=> ?_) fun hx=> ?_
        · rcases zZ.1 hk with h | h
          · exact .inr fun e=>hne (by rw [<-e,h])
          · exact .inl h
        · rcases hx with hx | hx
          · exact hj0.nG hx
          · exact hne hx
      · rw [hG x];constructor
        · rintro (h1 | ⟨j,h1,h2,h3⟩)
          · exact .inl (.inl h1)
          · by_cases e:j=n
            · subst e;exact .inl (.inr h3)
            · exact .inr ⟨j,by omega,h2,h3⟩
        · rintro ((h1 | h1) | ⟨j,h1,h2,h3⟩)
          · exact .inl h1
          · exact .inr ⟨n,cY _,hln,h1⟩
          · exact .inr ⟨j,by omega,h2,h3⟩
    · have hready:F.contains n=false->∀i ∈ Region.ready .any ops listed,i=n\/(n<i/\A.contains i=true):=by
        intro hFn i hir;obtain ⟨h1,p,hp,h2⟩:=mem_ready.1 hir;have his:=(bZ.1 hp).1
        have h3:¬i<n:=fun hlt=>(T2 (by omega)).1 h1 (hl i hlt)
        by_cases hin:i=n
        · exact .inl hin
        · cases hAi:A.contains i with
          | true=>exact .inr ⟨by omega,rfl⟩
          | false=>
            exact absurd (before_listed hcl hp h2 n ((flowOk_at hok hp).2.1 (by omega) hAi n (by omega) hFn)) hln
      have hnr:n ∈ Region.ready .any ops listed:=by
        refine mem_ready.2 ⟨(T2 (by omega)).2 hln,o,hi,fun e he hb=> ?_⟩
        exact hl e.on ((flowOk_at hok hi).1 e he hb)
      have hcn:=head_count listed n (mem_ready.1 hnr).1;obtain ⟨fuel,rfl⟩:∃k,fuel=k+1:=⟨fuel-1,by omega⟩
      have hcln:Closed ops fun j=>(listed.setIfInBounds n true).getD j false=true:=by
        intro j q hq hj e he hb;rw [R0 (by omega)] at hj ⊢
        rcases hj with rfl | hj
        · exact .inr (hl e.on ((flowOk_at hok hq).1 e he hb))
        · exact .inr (hcl j q hq hj e he hb)
      have go:∀st' a' w',SimE G w0 st' a' w'->(∀t,o.dst≠some t->a'.tmps.getD t undef=a.tmps.getD t undef)->vflow E call ops A F l (n+1) st' K=some r->wpAny E.P .any ops Q fuel (listed.setIfInBounds n true) a' w':=by
        rintro st' a' w' ⟨β',Lf',S'⟩ hkeep h'
        refine flow_tail hE hC hG0 hok hQ hP k l (n+1) fuel _ st' a' w' G w0 β' Lf' bl (by simp at hk;omega) hd' (by omega) (by omega) (by omega) (by simpa using hsz) (fun j hj=> ?_) (fun j hj hlj=> ?_) hcln (fun j hj hlj=> ?_) (fun j j' hj hj' hlj hlj'=> ?_) (fun x=> ?_) hL S' h'
        · rw [R0 (by omega)]
          by_cases e:j=n
          · exact .inl e
          · exact .inr (hl j (by omega))
        · rw [R0 (by omega)] at hlj
          exact hA j (by omega) (hlj.resolve_left (by omega))
        · rw [R0 (by omega)] at hlj
          have hlj:=hlj.resolve_left (by omega)
          have hAj:=hA j (by omega) hlj
          refine (hEa j (by omega) hlj).put (fun d hd he=> ?_) hkeep
          obtain ⟨p,hp⟩:∃p,ops[j]? =some p:=by
            obtain ⟨_,_,_,p,_,_,_,g1,_⟩:=hEa j (by omega) hlj
            exact ⟨p,g1⟩
          obtain ⟨_,d',_,_,g3,g4⟩:=(flowOk_at hok hp).2.2.1 hAj
          have:W2 ops j=some d':=by simp [W2,hp,g3]
          rw [this] at hd;exact g4 n (by omega) (by rw [<-hd] at he;simp [W2,hi,he])
        · rw [R0 (by omega)] at hlj hlj'
          exact hinj j j' (by omega) (by omega) (hlj.resolve_left (by omega)) (hlj'.resolve_left (by omega))
        · rw [hG x];constructor
          · rintro (h1 | ⟨j,h1,h2,h3⟩)
            · exact .inl h1
            · have:j≠n:=fun e=>hln (by rw [<-e];exact h2)
              exact .inr ⟨j,by omega,(R0 (by omega)).2 (.inr h2),h3⟩
          · rintro (h1 | ⟨j,h1,h2,h3⟩)
            · exact .inl h1
            · exact .inr ⟨j,by omega,((R0 (by omega)).1 h2).resolve_left (by omega),h3⟩
      by_cases hFn:F.contains n=true
      · obtain ⟨p1,p2,p3,p4⟩:=(flowOk_at hok hi).2.2.2 hFn;rw [eY (by rw [p3];decide),dY hFn] at h
        rcases opv_sound hE S h with ⟨av,u,q1,q2,q3,q4⟩ | q
        · have hw:Region.wanted o (yielded ops a.tmps)=true:=by
            unfold Region.wanted;rw [p2]
          refine wpAny_first (v:=u) hi (Region.noSelect_spec (flowOk_sel hok)) (fun c a w hc=>absurd hc (hP _ _ _)) fuel listed a w (fun j oj hj hne hun hno=> ?_) hnr (.inl ⟨hw,fun w2=>pureF_run p1 q1 w2⟩) (go _ _ _ ⟨β,Lf,S.set o.dst q2 q3⟩ (fun t ht=>put_getD a _ _ t ht) q4)
          have hjs:=(bZ.1 hj).1
          have:¬j<n:=fun hlt=>(T2 (by omega)).1 hun (hl j hlt)
          exact p4 j oj (by omega) hj hno
        · cases q
      have hFn:F.contains n=false:=by simpa using hFn
      have hready:=hready hFn;refine ⟨fun h0=>(by rw [h0] at hnr;cases hnr),fun i hir=> ?_⟩
      obtain ⟨hun,p,hp,hedge⟩:=mem_ready.1 hir;have his:i<ops.size:=(bZ.1 hp).1
      have hci:=head_count listed i hun;have hcl':Closed ops fun j=>(listed.setIfInBounds i true).getD j false=true:=by
        intro j q hq hj e he hb;rw [R0 (by omega)] at hj ⊢
        rcases hj with rfl | hj
        · rw [hp] at hq;cases hq
          exact .inr (hedge e he hb)
        · exact .inr (hcl j q hq hj e he hb)
      rcases hready i hir with rfl | ⟨hni,hAi⟩
      · -- the text's own step
        rw [hi] at hp;cases hp
        cases hAn:A.contains i with
        | true=>
          rw [dY hAn] at h;obtain ⟨t0,d0,f1,f2,f3,f4⟩:=(flowOk_at hok hi).2.2.1 hAn;refine wpOp_mono (fun a' w' h=> ?_) (wpOp_keeps (X:=fun a' w'=>∃st',SimE G w0 st' a' w'/\vflow E call ops A F l (i+1) st' K=some r) hi ?_)
          · obtain ⟨⟨st',S',h'⟩,hkeep⟩:=h;exact go st' a' w' S' hkeep h'
          · have hw:Region.wanted o (yielded ops a.tmps)=true:=by
              unfold Region.wanted;rw [f2]
            unfold wpOp;simp only [hi,hw,if_true];exact .inl (eff_alloc hE S f1 h fun st' a' w' S' h'=>⟨st',S',h'⟩)
        | false=>
          rw [eY (by rw [hAn];decide),eY (by rw [hFn];decide)] at h
          obtain ⟨b,hg,h⟩:=h;refine wpOp_mono (fun a' w' h=> ?_) (wpOp_keeps (X:=fun a' w'=>∃st',SimE G w0 st' a' w'/\vflow E call ops A F l (i+1) st' K=some r) hi (wpOp_sound hE (hC.link hL) S hi hg h fun st' a' w' S' h'=>⟨st',S',h'⟩))
          obtain ⟨⟨st',S',h'⟩,hkeep⟩:=h;exact go st' a' w' S' hkeep h'
      · -- an alloc, ahead
        obtain ⟨t,d,f1,f2,f3,f4⟩:=(flowOk_at hok hp).2.2.1 hAi;obtain ⟨d1,e1,e2,e3,e4⟩:=hfree i hAi (by omega)
        have hdd:d1=d:=by
          have:W2 ops i=some d:=by simp [W2,hp,f3]
          rw [this] at e1;exact (xZ e1).symm
        subst hdd;obtain ⟨z,hz⟩:∃z,E.ty t=some z:=by
          unfold flTy at e4;rw [hp] at e4;simp only [f1] at e4;exact Option.isSome_iff_exists.1 e4
        have hw:Region.wanted p (yielded ops a.tmps)=true:=by
          unfold Region.wanted;rw [f2]
        unfold wpOp;simp only [hp,hw,if_true];refine .inl (alloc_run hE f1 hz ?_)
        rw [f3];have h00:w00.w.heap.size<=w.heap.size:=bY hL.chg.size S.below.size;have hbl:∀j,n<=j->listed.getD j false=true->bl j<w.heap.size:=by
          intro j hj hlj;obtain ⟨_,_,_,_,_,_,_,_,_,_,_,g5,_⟩:=hEa j hj hlj;exact jZ (bZ.1 g5).1 S.below.size
        have hset:∀j,(listed.setIfInBounds i true).getD j false=true↔(j=i\/listed.getD j false=true):=fun j=>R0 (by omega)
        have hui:¬listed.getD i false=true:=(T2 (by omega)).1 hun
        refine flow_tail hE hC hG0 hok hQ hP k (o::l) n fuel _ st _ _ (fun x=>G x/\x≠w.heap.size) _ β Lf (fun j=>if j=i then w.heap.size else bl j) (by simp at hk ⊢;omega) hd hmn hns (by omega) (by simpa using hsz) (fun j hj=>(hset j).2 (.inr (hl j hj))) (fun j hj hlj=> ?_) hcl' (fun j hj hlj=> ?_) (fun j j' hj hj' hlj hlj' he=> ?_) (fun x=> ?_) (hL.ahead S _) (S.ahead e2 _ _) hflow
        · rcases (hset j).1 hlj with e | h1
          · rw [e];exact hAi
          · exact hA j hj h1
        · by_cases e:j=i
          · subst e;rw [dY rfl];refine ⟨h00,fun hm=>by have:=(S.owned_new _ hm).2;omega,fun hx=>hx.2 rfl,p,t,z,d1,hp,f1,f3,hz,heap_alloc_new w _,?_⟩
            have hds:d1<a.tmps.size:=jZ e3 S.size;simp [Act.put,aZ,hds]
          · rw [eY e];have hlj':=((hset j).1 hlj).resolve_left e;have hE1:Early E ops w00 ⟨w.alloc (.cells z.zero.toArray t),owned st Lf,st.nx,β⟩ (fun x=>G x/\x≠w.heap.size) a j (bl j):=(hEa j hj hlj').base S (fun k hk=>heap_alloc_old w _ k hk) (fun k hk=> .inl hk) fun hx=>(hEa j hj hlj').nG hx.1
            refine hE1.put (dst:=some d1) (fun d' hd' he=>f4 j e (by rw [hd'];exact he.symm)) fun t' ht'=>put_getD a _ _ t' ht'
        · skip
          by_cases e:j=i
          · by_cases e':j'=i
            · rw [e,e']
            · rw [dY e,eY e'] at he
              have:=hbl j' hj' (((hset j').1 hlj').resolve_left e')
              omega
          · have h1:=((hset j).1 hlj).resolve_left e;by_cases e':j'=i
            · rw [eY e,dY e'] at he
              have:=hbl j hj h1
              omega
            · rw [eY e,eY e'] at he;exact hinj j j' hj hj' h1 (((hset j').1 hlj').resolve_left e') he
        · constructor
          · intro hx;by_cases e:x=w.heap.size
            · exact .inr ⟨i,by omega,(hset i).2 (.inl rfl),by rw [dY rfl];exact e⟩
            · rcases (hG x).1 hx with h1 | ⟨j,h1,h2,h3⟩
              · exact .inl ⟨h1,e⟩
              · exact .inr ⟨j,h1,(hset j).2 (.inr h2),by rw [eY fun e=>hui (by rw [<-e];exact h2)];exact h3⟩
          · rintro (h1 | ⟨j,h1,h2,h3⟩)
            · exact (hG x).2 (.inl h1.1)
            · by_cases e:j=i
              · rw [dY e] at h3;rw [h3];exact hG0 _ (.inl h00)
              · rw [eY e] at h3;exact (hG x).2 (.inr ⟨j,h1,((hset j).1 h2).resolve_left e,h3⟩)
end
end Go.V
namespace Go.V
open Go.RowKit (Below)
section
variable {E:Env} {G:Nat->Prop} {w0:Base} {st:St} {a:Act} {w:World} {β:Nat->Value} {Lf:Nat->List Nat} {R:Type} {r:R} {o:Oper} {call:CallD E} {K:St->Option R} {X:Act->World->Prop} {Q:Exit->Act->World->Prop}
def flowHd (ops:Array Oper) (m:Nat):Bool:=
 let B:=Region.before ops
 (List.range m).all fun j=>match ops[j]? with
  | none=>true
  | some o=>(List.range m).all fun i=>i==j || match W2 ops i with
   | none=>true
   | some d=>o.dst !=some d&&(!(o.looksAt ops).contains d || (decide (i<j)&&(B.getD j 0).testBit i))
theorem flowHd_at {ops:Array Oper} {m:Nat} (h:flowHd ops m=true):∀j o,ops[j]? =some o->j<m->∀i,i<m->i≠j->∀d,W2 ops i=some d->o.dst≠some d/\(d ∈ o.looksAt ops->i<j/\((Region.before ops).getD j 0).testBit i=true):=by
 unfold flowHd at h;intro j o ho hj i hi hne d hd;have h5:=uZ.1 h j (List.mem_range.2 hj);rw [ho] at h5
 have:=uZ.1 h5 i (List.mem_range.2 hi)
 rw [hd] at this;simp only [Bool.or_eq_true,beq_iff_eq,hne,false_or,sZ,bne_iff_ne,ne_eq,Bool.not_eq_true',pZ] at this;refine ⟨this.1,fun hm=> ?_⟩
 rcases this.2 with h3 | h3
 · have:(o.looksAt ops).contains d=true:=by simpa using hm
   rw [this] at h3;cases h3
 · exact h3
theorem flowFrom_le (B:Array Nat) (al pu:Nat->Bool):∀n,flowFrom B al pu n<=n
  | 0=>cY _
  | n+1=>by
    unfold flowFrom;split
    · exact bY (flowFrom_le B al pu n) (Nat.le_succ n)
    · exact cY _
theorem flowA_at {ops:Array Oper} {m:Nat} {F:List Nat} (hok:flowOk ops m (flowA ops m) F=true) (j:Nat) (hj:(flowA ops m).contains j=true):m<=j/\∀d,W2 ops j=some d->d ∉ ownSlots E ops m:=by
 have hj':j ∈ flowA ops m:=by simpa using hj
 unfold flowA at hj';rw [List.mem_filter] at hj';obtain ⟨h1,h2⟩:=hj';simp only [sZ,pZ] at h2;refine ⟨h2.1,fun d hd hm=> ?_⟩
 obtain ⟨p,hp⟩:∃p,ops[j]? =some p:=⟨ops[j]'(List.mem_range.1 h1),by simp [List.mem_range.1 h1]⟩
 obtain ⟨_,d',_,_,g3,g4⟩:=(flowOk_at hok hp).2.2.1 hj;have e:W2 ops j=some d':=by simp [W2,hp,g3]
 rw [e] at hd
 obtain rfl:=xZ hd
 unfold ownSlots at hm;rw [List.mem_filterMap] at hm;obtain ⟨q,hq,hqd⟩:=hm;obtain ⟨i,hi,hqi⟩:=List.getElem_of_mem hq;have hil:i<m:=by simp at hi;omega
 have his:i<ops.size:=by simp at hi;omega
 have hqd':q.dst=some d':=by
  split at hqd;rotate_left;cases hqd
  exact hqd
 refine g4 i (by omega) ?_
 simp [W2,his]
 have:q=ops[i]:=by rw [<-hqi];simp
 rw [<-this];exact hqd'
theorem flowF_at {ops:Array Oper} {m:Nat} (j:Nat) (hj:(flowF ops m).contains j=true):m<=j:=by
 have hj':j ∈ flowF ops m:=by simpa using hj
 unfold flowF at hj';rw [List.mem_filter] at hj';have h2:=hj'.2;simp only [sZ,pZ] at h2;exact h2.1
theorem flow_draw (hE:EnvOk E) {w00:Base} {G0:Nat->Prop} (hC:CallAt E call w00) {id:Nat} {ops:Array Oper} {m:Nat} {A F cs:List Nat} (hok:flowOk ops m A F=true) (hms:m<=ops.size) (hAm:∀j,A.contains j=true->m<=j/\∀d,W2 ops j=some d->d ∉ cs) (hFm:∀j,F.contains j=true->m<=j) (hHd:∀j o,ops[j]? =some o->j<m->∀i,i<m->i≠j->∀d,W2 ops i=some d->o.dst≠some d/\(d ∈ o.looksAt ops->i<j/\((Region.before ops).getD j 0).testBit i=true)) {S:Nat->St} {P:Nat->Pk} (hS0:S 0=st) (hP0:P 0=[])
    (hSstep:∀i,0<=i->i<m->∃o,ops[i]? =some o/\HeadStep E call ops cs (S i) (P i) o (S (i+1)) (P (i+1))) (hStail:vflow E call ops A F (ops.toList.drop m) m (headEnd ops cs (P m) (S m)) K=some r)
    (hfree:∀j,A.contains j=true->∃d,W2 ops j=some d/\look st.sl d=none/\d<st.nt/\flTy E ops j=true) (Ssim:SimE G0 w00 st a w)
    (hQ:∀st' a' w',SimE G0 w00 st' a' w'->K st'=some r->Q .normal a' w') (hP:∀c a w,¬Q (.panic c) a w):(Code.region id ops true).wp E.P Q a w:=by
  refine wp_region_any hE.mixed ?_
  have hdst:∀i o,ops[i]? =some o->W2 ops i=o.dst:=fun i o ho=>by simp [W2,ho]
  have hSob:∀i,i<=m->(S i).ob=st.ob/\(S i).nx=st.nx/\(S i).nt=st.nt:=by
    intro i;induction i with
    | zero=>intro _;rw [hS0];exact ⟨rfl,rfl,rfl⟩
    | succ i ih=>
      intro hi;obtain ⟨o,ho,hst⟩:=hSstep i (Nat.zero_le _) (by omega)
      obtain ⟨h1,h2,h3⟩:=hst.ob;obtain ⟨h4,h5,h6⟩:=ih (by omega)
      exact ⟨h1.trans h4,h2.trans h5,h3.trans h6⟩
  have hkeep:∀t i j,i<=j->j<=m->(∀k,i<=k->k<j->W2 ops k≠some t)->look (S j).sl t=look (S i).sl t:=by
    intro t i j hij hjm;induction j with
    | zero => intro _; have : i = 0 := by omega
              rw [this]
    | succ j ih=>
      intro hk;by_cases e:i=j+1
      · rw [e]
      · obtain ⟨o,ho,hst⟩:=hSstep j (Nat.zero_le _) (by omega)
        rw [hst.look t (by rw [<-hdst j o ho];exact hk j (by omega) (by omega))]
        exact ih (by omega) (by omega) fun k h1 h2=>hk k h1 (by omega)
  have hinj:∀i j d,i<m->j<m->W2 ops i=some d->W2 ops j=some d->i=j:=by
    intro i j d hi hj h1 h2;by_cases e:i=j
    · exact e
    · obtain ⟨o,ho⟩:∃o,ops[j]? =some o:=⟨ops[j],by simp [jZ hj hms]⟩
      have:=(hHd j o ho hj i hi e d h1).1
      rw [hdst j o ho] at h2;exact absurd h2 this
  -- what was made ahead
  let Con:Nat->Nat->Prop:=fun k d=>(∃q,look (P k) d=some q)/\look (P (k+1)) d=none
  have hPstep:∀i,i<m->P (i+1)=P i\/∃d p us,W2 ops i=some d/\d ∈ cs/\P (i+1)=delAll (d::us) (P i)++[(d,p)]:=by
    intro i hi;obtain ⟨o,ho,stk,_,hst⟩:=hSstep i (Nat.zero_le _) hi;rcases hst with ⟨_,_,h⟩ | ⟨_,_,_,_,h⟩ | ⟨_,d,p,us,hd,hdc,_,_,_,_,_,h⟩
    · exact .inl h
    · exact .inl h
    · exact .inr ⟨d,p,us,by rw [hdst i o ho];exact hd,hdc,h⟩
  have hPnew:∀(l:Pk) (d:Nat) (us:List Nat) (p:PV) (t:Nat) (q:PV),look (delAll (d::us) l++[(d,p)]) t=some q->(t=d/\q=p)\/(t≠d/\t ∉ us/\look l t=some q):=by
    intro l d us p t q h;rw [look_snoc] at h;split at h
    · rename_i v hv;obtain ⟨h1,h2⟩:=delAll_some hv;simp only [zZ,not_or] at h1;rw [xZ h] at h2;exact .inr ⟨h1.1,h1.2,h2⟩
    · split at h;rotate_left;cases h
      rename_i e;exact .inl ⟨e.symm,(xZ h).symm⟩
  have hPkeep:∀(l:Pk) (d:Nat) (us:List Nat) (p:PV) (t:Nat) (q:PV),t≠d->t ∉ us->look l t=some q->look (delAll (d::us) l++[(d,p)]) t=some q:=by
    intro l d us p t q h1 h2 h3;rw [look_snoc,look_delAll,eY (by simp [h1,h2]),h3]
  have hPat:∀(l:Pk) (d:Nat) (us:List Nat) (p:PV),look (delAll (d::us) l++[(d,p)]) d=some p:=by
    intro l d us p;rw [look_snoc,look_delAll,dY (by simp)]
    simp
  have hPgone:∀(l:Pk) (d:Nat) (us:List Nat) (p:PV) (t:Nat),t≠d->t ∈ us->look (delAll (d::us) l++[(d,p)]) t=none:=by
    intro l d us p t h1 h2;rw [look_snoc,look_delAll,dY (by simp [h2])]
    simp [Ne.symm h1]
  have hborn:∀i,i<=m->∀d p,look (P i) d=some p->∃c,c<i/\W2 ops c=some d/\look (P (c+1)) d=some p/\d ∈ cs/\∀k,k<i->¬Con k d:=by
    intro i;induction i using Nat.strongRecOn with
    | ind i ih=>
      intro hi d p hp;cases i with
      | zero=>rw [hP0] at hp;cases hp
      | succ i=>
        have old:look (P i) d=some p->∃c,c<i+1/\W2 ops c=some d/\look (P (c+1)) d=some p/\d ∈ cs/\∀k,k<i+1->¬Con k d:=by
          intro h;obtain ⟨c,h1,h2,h3,h4,h5⟩:=ih i (by omega) (by omega) d p h
          refine ⟨c,by omega,h2,h3,h4,fun k hk hc=> ?_⟩
          by_cases e:k=i
          · subst e
            have:=hc.2
            rw [hp] at this;cases this
          · exact h5 k (by omega) hc
        rcases hPstep i (by omega) with h | ⟨d',p',us,h1,h2,h3⟩
        · exact old (by rw [<-h];exact hp)
        · rw [h3] at hp;rcases hPnew _ _ _ _ _ _ hp with ⟨rfl,rfl⟩ | ⟨_,_,h⟩
          · refine ⟨i,by omega,h1,by rw [h3];exact hPat _ _ _ _,h2,fun k hk hc=> ?_⟩
            obtain ⟨⟨q,hq⟩,hc2⟩:=hc;by_cases e:k=i
            · subst e;rw [h3,hPat] at hc2;cases hc2
            · obtain ⟨c,g1,g2,_⟩:=ih k (by omega) (by omega) d q hq
              have:=hinj c i d (by omega) (by omega) g2 h1
              omega
          · rw [<-h3] at hp;exact old h
  have hPnodup:∀i,i<=m->((P i).map (·.1)).Nodup:=by
    intro i;induction i with
    | zero=>intro _;rw [hP0];exact List.nodup_nil
    | succ i ih=>
      intro hi;rcases hPstep i (by omega) with h | ⟨d',p',us,h1,h2,h3⟩
      · rw [h];exact ih (by omega)
      · rw [h3,List.map_append,qZ];refine ⟨keys_delAll _ _ (ih (by omega)),by simp,fun x hx y hy e=> ?_⟩
        simp only [List.map_cons,List.map_nil,kZ] at hy;obtain ⟨v,hv⟩:=look_of_key _ _ hx
        have:=(delAll_some hv).1
        rw [e,hy] at this;simp at this
  obtain ⟨β0,Lf0,Sm0⟩:=Ssim;have hG00:=Sm0.fresh;have hst0:∀h o,look st.ob h=some o->h<st.nx:=fun h o ho=>(Sm0.olt h o ho).1
  have hfin:∀(G:Nat->Prop) (w0:Base) (fuel:Nat) (listed:Array Bool) (a:Act) (w:World) (vL X:St) (pL:Pk) (B:Nat->Nat),(∀j,j<m->listed.getD j false=true)->(vL.ob=st.ob/\vL.nx=st.nx/\vL.nt=st.nt)->
      (∀k d,k<m->listed.getD k false=true->W2 ops k=some d->look vL.sl d=look (S (k+1)).sl d)->(∀t,(∀k,k<m->listed.getD k false=true->W2 ops k≠some t)->look vL.sl t=look st.sl t)->
      HeadInv st vL X cs pL B fuel ops.size->(∀c d p,c<m->listed.getD c false=true->W2 ops c=some d->look (P (c+1)) d=some p->(∀k,k<m->listed.getD k false=true->¬Con k d)->look pL d=some p)->SimE G w0 X a w->SimE G w0 (headEnd ops cs (P m) (S m)) a w:=by
    intro G w0 fuel listed a w vL X pL B hall hobL hP1 hP2 HI J1 ⟨β,Lf,Sm⟩;obtain ⟨h1,h2,h3⟩:=hSob m (cY _);have hlook:∀t,look (S m).sl t=look vL.sl t:=by
      intro t;by_cases hex:∃k,k<m/\W2 ops k=some t
      · obtain ⟨k,hk,hd⟩:=hex;rw [hP1 k t hk (hall k hk) hd];exact hkeep t (k+1) m (by omega) (cY _) fun k' h4 h5 hd'=>by have:=hinj k k' t hk h5 hd hd';omega
      · rw [hP2 t fun k hk _ hd=>hex ⟨k,hk,hd⟩]
        exact (hkeep t 0 m (Nat.zero_le _) (cY _) fun k _ hk hd=>hex ⟨k,hk,hd⟩).trans (by rw [hS0])
    unfold headEnd;split
    · rename_i hcs;have hcs:cs=[]:=by simpa using hcs
      refine ⟨β,Lf,Sm.sub (h3.trans HI.nt.symm) (by rw [HI.none hcs,h2];exact cY _) (fun t v ht=>HI.sub t v (by rw [<-hlook];exact ht)) fun h o ho=>HI.ob h o (by rw [<-h1];exact ho)⟩
    · have hent:∀q ∈ P m,look pL q.1=some q.2:=by
        intro q hq;obtain ⟨c,hc,g1,g2,_,g3⟩:=hborn m (cY _) q.1 q.2 (look_of_mem _ _ (hPnodup m (cY _)) hq);exact J1 c q.1 q.2 hc (hall c hc) g1 g2 fun k hk _=>g3 k hk
      have S0:Sim G w0 { X with nx:=st.nx+1000*ops.size } a w β Lf:=Sm.sub rfl (by show X.nx<=st.nx+1000*ops.size;have:=HI.hi;omega) (fun _ _ h=>h) fun _ _ h=>h
      refine Sim.allocAll (B:=B) (P m) _ _ β Lf S0 ?_ (HI.nt.trans h3.symm) (fun t v ht=>HI.sub t v (by rw [<-hlook];exact ht)) (fun h o ho=> ?_) (hPnodup m (cY _)) (fun q hq=> ?_) fun q hq q' hq' hne=>HI.pl.disj q.1 q.2 q'.1 q'.2 trivial trivial (hent q hq) (hent q' hq') hne
      · show st.nx+1000*ops.size=(S m).nx+1000*ops.size
        rw [h2]
      · have ho':look st.ob h=some o:=by rw [<-h1];exact ho
        refine ⟨HI.ob h o ho',fun q hq i o' hi e=> ?_⟩
        have:=(HI.ok _ _ (hent q hq)).2.1
        have:=hst0 h o ho'
        omega
      · exact ⟨(HI.ok _ _ (hent q hq)).1,HI.pl.sl _ _ trivial (hent q hq),HI.pl.ob _ _ trivial (hent q hq)⟩
  -- the unordered part
  have head:∀fuel (listed:Array Bool) (a:Act) (w:World) (vL X:St) (pL:Pk) (B:Nat->Nat) (G:Nat->Prop) (w0:Base) (bl:Nat->Nat),listed.size=ops.size->listed.toList.count false<=fuel->Closed ops (fun j=>listed.getD j false=true)->(∀j,m<=j->listed.getD j false=true->A.contains j=true)->
      (vL.ob=st.ob/\vL.nx=st.nx/\vL.nt=st.nt)->(∀k d,k<m->listed.getD k false=true->W2 ops k=some d->look vL.sl d=look (S (k+1)).sl d)->(∀t,(∀k,k<m->listed.getD k false=true->W2 ops k≠some t)->look vL.sl t=look st.sl t)->
      HeadInv st vL X cs pL B fuel ops.size->(∀c d p,c<m->listed.getD c false=true->W2 ops c=some d->look (P (c+1)) d=some p->(∀k,k<m->listed.getD k false=true->¬Con k d)->look pL d=some p)->
      (∀t p,look pL t=some p->∃c,c<m/\listed.getD c false=true/\W2 ops c=some t)->(∀j,m<=j->listed.getD j false=true->Early E ops w00 w0 G a j (bl j))->
      (∀j j',m<=j->m<=j'->listed.getD j false=true->listed.getD j' false=true->bl j=bl j'->j=j')->(∀x,G0 x↔G x\/∃j,m<=j/\listed.getD j false=true/\x=bl j)->Link w00 w0->SimE G w0 X a w->wpAny E.P .any ops Q fuel listed a w:=by
    have done:∀fuel (listed:Array Bool) (a:Act) (w:World) (vL X:St) (pL:Pk) (B:Nat->Nat) (G:Nat->Prop) (w0:Base) (bl:Nat->Nat),listed.size=ops.size->listed.toList.count false<=fuel->Closed ops (fun j=>listed.getD j false=true)->(∀j,m<=j->listed.getD j false=true->A.contains j=true)->
        (vL.ob=st.ob/\vL.nx=st.nx/\vL.nt=st.nt)->(∀k d,k<m->listed.getD k false=true->W2 ops k=some d->look vL.sl d=look (S (k+1)).sl d)->(∀t,(∀k,k<m->listed.getD k false=true->W2 ops k≠some t)->look vL.sl t=look st.sl t)->
        HeadInv st vL X cs pL B fuel ops.size->(∀c d p,c<m->listed.getD c false=true->W2 ops c=some d->look (P (c+1)) d=some p->(∀k,k<m->listed.getD k false=true->¬Con k d)->look pL d=some p)->
        (∀j,m<=j->listed.getD j false=true->Early E ops w00 w0 G a j (bl j))->
        (∀j j',m<=j->m<=j'->listed.getD j false=true->listed.getD j' false=true->bl j=bl j'->j=j')->(∀x,G0 x↔G x\/∃j,m<=j/\listed.getD j false=true/\x=bl j)->Link w00 w0->(∀j,j<m->listed.getD j false=true)->SimE G w0 X a w->wpAny E.P .any ops Q fuel listed a w:=by
      intro fuel listed a w vL X pL B G w0 bl hsz hcnt hcl htail hobL hP1 hP2 HI J1 hEa hinj2 hG hL hall SX;obtain ⟨β,Lf,S'⟩:=hfin G w0 fuel listed a w vL X pL B hall hobL hP1 hP2 HI J1 SX;exact flow_tail hE hC hG00 hok hQ hP _ _ m fuel listed _ a w G w0 β Lf bl (cY _) rfl (cY _) hms hcnt hsz hall htail hcl hEa hinj2 hG hL S' hStail
    intro fuel;induction fuel with
    | zero=>
      intro listed a w vL X pL B G w0 bl hsz hcnt hcl htail hobL hP1 hP2 HI J1 JK hEa hinj2 hG hL SX;have hall:∀j,j<ops.size->listed.getD j false=true:=by
        intro j hj;have h0:listed.toList.count false=0:=by omega
        have hn:=List.count_eq_zero.1 h0;have hj':j<listed.size:=by omega
        cases hv:listed[j] with
        | true=>simp [hj',hv]
        | false=>exact absurd (by rw [<-hv];simp) hn
      exact done 0 listed a w vL X pL B G w0 bl hsz hcnt hcl htail hobL hP1 hP2 HI J1 hEa hinj2 hG hL (fun j hj=>hall j (by omega)) SX
    | succ fuel ih=>
      intro listed a w vL X pL B G w0 bl hsz hcnt hcl htail hobL hP1 hP2 HI J1 JK hEa hinj2 hG hL SX;by_cases hall:∀j,j<m->listed.getD j false=true
      · exact done (fuel+1) listed a w vL X pL B G w0 bl hsz hcnt hcl htail hobL hP1 hP2 HI J1 hEa hinj2 hG hL hall SX
      · -- some of it is left
        obtain ⟨β,Lf,Sm⟩:=SX;have hex:∃j,j<m/\¬listed.getD j false=true/\∀i,i<j->listed.getD i false=true:=by
          have:∃j,j<m/\¬listed.getD j false=true:=by
            refine Classical.byContradiction fun hn=>hall fun j hj=>Classical.byContradiction fun h=>hn ⟨j,hj,h⟩
          obtain ⟨j,hj⟩:=this;induction j using Nat.strongRecOn with
          | ind j ihj=>
            by_cases h:∃i,i<j/\¬listed.getD i false=true
            · obtain ⟨i,hi,hn⟩:=h;exact ihj i hi ⟨by omega,hn⟩
            · exact ⟨j,hj.1,hj.2,fun i hi=>Classical.byContradiction fun hn=>h ⟨i,hi,hn⟩⟩
        refine ⟨fun h0=> ?_,fun i hir=> ?_⟩
        · obtain ⟨j,hjm,hjn,hjl⟩:=hex;have hjs:j<ops.size:=by omega
          have:j ∈ Region.ready .any ops listed:=mem_ready.2 ⟨(T2 (by omega)).2 hjn,ops[j],by simp [hjs],fun e he hb=>hjl _ ((flowOk_at hok (by simp [hjs]:ops[j]? =some ops[j])).1 e he hb)⟩
          rw [h0] at this;cases this
        · obtain ⟨hun,o,ho,hedge⟩:=mem_ready.1 hir;have his:i<ops.size:=(bZ.1 ho).1
          have hunl0:¬listed.getD i false=true:=(T2 (by omega)).1 hun
          have hcnt0:(listed.setIfInBounds i true).toList.count false<=fuel:=by
            have:=head_count listed i hun
            omega
          have hclS:Closed ops fun j=>(listed.setIfInBounds i true).getD j false=true:=by
            intro j p hp hj e he hb;rw [R0 (by omega)] at hj ⊢
            rcases hj with rfl | hj
            · rw [ho] at hp;cases hp
              exact .inr (hedge e he hb)
            · exact .inr (hcl j p hp hj e he hb)
          have hset:∀j,(listed.setIfInBounds i true).getD j false=true↔(j=i\/listed.getD j false=true):=fun j=>R0 (by omega)
          by_cases hAi:A.contains i=true
          · -- an alloc, ahead
            have hmi:=(hAm i hAi).1;obtain ⟨t,d,f1,f2,f3,f4⟩:=(flowOk_at hok ho).2.2.1 hAi;obtain ⟨d1,e1,e2,e3,e4⟩:=hfree i hAi;have hdd:d1=d:=by
              have:W2 ops i=some d:=by simp [W2,ho,f3]
              rw [this] at e1;exact (xZ e1).symm
            subst hdd;have hXd:look X.sl d1=none:=by
              rw [HI.eq d1 ((hAm i hAi).2 d1 e1),hP2 d1 fun k hk _ hd=>f4 k (by omega) hd]
              exact e2
            obtain ⟨z,hz⟩:∃z,E.ty t=some z:=by
              unfold flTy at e4;rw [ho] at e4;simp only [f1] at e4;exact Option.isSome_iff_exists.1 e4
            have hw:Region.wanted o (yielded ops a.tmps)=true:=by
              unfold Region.wanted;rw [f2]
            unfold wpOp;simp only [ho,hw,if_true];refine .inl (alloc_run hE f1 hz ?_)
            rw [f3];have h00:w00.w.heap.size<=w.heap.size:=bY hL.chg.size Sm.below.size;have hbl:∀j,m<=j->listed.getD j false=true->bl j<w.heap.size:=by
              intro j hj hlj;obtain ⟨_,_,_,_,_,_,_,_,_,_,_,g5,_⟩:=hEa j hj hlj;exact jZ (bZ.1 g5).1 Sm.below.size
            have hlow:∀k,k<m->(listed.setIfInBounds i true).getD k false=true->listed.getD k false=true:=fun k hk h=>((hset k).1 h).resolve_left (by omega)
            refine ih _ _ _ vL X pL B (fun x=>G x/\x≠w.heap.size) ⟨w.alloc (.cells z.zero.toArray t),owned X Lf,X.nx,β⟩ (fun j=>if j=i then w.heap.size else bl j) (by simpa using hsz) hcnt0 hclS (fun j hj hlj=> ?_) hobL (fun k d hk hl hd=>hP1 k d hk (hlow k hk hl) hd) (fun t' ht'=>hP2 t' fun k hk hl=>ht' k hk ((hset k).2 (.inr hl)))
              { HI with hi:=by have:=HI.hi;omega } (fun c d p hc hl hd hp hcon=>J1 c d p hc (hlow c hc hl) hd hp fun k hk hl=>hcon k hk ((hset k).2 (.inr hl))) (fun t' p hp=>by
                obtain ⟨c,hc,hl,hd⟩:=JK t' p hp;exact ⟨c,hc,(hset c).2 (.inr hl),hd⟩) (fun j hj hlj=> ?_) (fun j j' hj hj' hlj hlj' he=> ?_) (fun x=> ?_) (hL.ahead Sm _) ⟨β,Lf,Sm.ahead hXd _ _⟩
            · rcases (hset j).1 hlj with e | h1
              · rw [e];exact hAi
              · exact htail j hj h1
            · by_cases e:j=i
              · subst e;rw [dY rfl];refine ⟨h00,fun hm=>by have:=(Sm.owned_new _ hm).2;omega,fun hx=>hx.2 rfl,o,t,z,d1,ho,f1,f3,hz,heap_alloc_new w _,?_⟩
                have hds:d1<a.tmps.size:=jZ (by rw [HI.nt];exact e3) Sm.size
                simp [Act.put,aZ,hds]
              · rw [eY e];have hlj':=((hset j).1 hlj).resolve_left e;have hE1:Early E ops w00 ⟨w.alloc (.cells z.zero.toArray t),owned X Lf,X.nx,β⟩ (fun x=>G x/\x≠w.heap.size) a j (bl j):=(hEa j hj hlj').base Sm (fun k hk=>heap_alloc_old w _ k hk) (fun k hk=> .inl hk) fun hx=>(hEa j hj hlj').nG hx.1
                refine hE1.put (dst:=some d1) (fun d' hd' he=>f4 j e (by rw [hd'];exact he.symm)) fun t' ht'=>put_getD a _ _ t' ht'
            · by_cases e:j=i
              · by_cases e':j'=i
                · rw [e,e']
                · rw [dY e,eY e'] at he
                  have:=hbl j' hj' (((hset j').1 hlj').resolve_left e')
                  omega
              · have h1:=((hset j).1 hlj).resolve_left e;by_cases e':j'=i
                · rw [eY e,dY e'] at he
                  have:=hbl j hj h1
                  omega
                · rw [eY e,eY e'] at he;exact hinj2 j j' hj hj' h1 (((hset j').1 hlj').resolve_left e') he
            · constructor
              · intro hx;by_cases e:x=w.heap.size
                · exact .inr ⟨i,by omega,(hset i).2 (.inl rfl),by rw [dY rfl];exact e⟩
                · rcases (hG x).1 hx with h1 | ⟨j,h1,h2,h3⟩
                  · exact .inl ⟨h1,e⟩
                  · exact .inr ⟨j,h1,(hset j).2 (.inr h2),by rw [eY fun e=>hunl0 (by rw [<-e];exact h2)];exact h3⟩
              · rintro (h1 | ⟨j,h1,h2,h3⟩)
                · exact (hG x).2 (.inl h1.1)
                · by_cases e:j=i
                  · rw [dY e] at h3;rw [h3];exact hG00 _ (.inl h00)
                  · rw [eY e] at h3;exact (hG x).2 (.inr ⟨j,h1,((hset j).1 h2).resolve_left e,h3⟩)
          have hAi:A.contains i=false:=by simpa using hAi
          have him:i<m:=by
            refine Nat.lt_of_not_le fun hmi=> ?_
            obtain ⟨j,hjm,hjn,_⟩:=hex;refine hjn (before_listed hcl ho hedge j ((flowOk_at hok ho).2.1 hmi hAi j (by omega) ?_))
            cases hF:F.contains j with
            | false=>rfl
            | true=>have:=hFm j hF;omega
          have hunl:¬listed.getD i false=true:=(T2 (by omega)).1 hun
          obtain ⟨o',ho',hst⟩:=hSstep i (Nat.zero_le _) him;rw [ho] at ho';cases ho'
          have hbef:∀t ∈ o.looksAt ops,∀k,k<m->k≠i->W2 ops k=some t->k<i/\listed.getD k false=true:=by
            intro t ht k hk hne hd;obtain ⟨hki,hbit⟩:=(hHd i o ho him k hk hne t hd).2 ht;exact ⟨hki,before_listed hcl ho hedge k hbit⟩
          have hlooks:∀t ∈ o.looksAt ops,look vL.sl t=look (S i).sl t:=by
            intro t ht;by_cases hw:∃k,k<m/\k≠i/\W2 ops k=some t
            · obtain ⟨k,hk,hne,hd⟩:=hw;obtain ⟨hki,hlk⟩:=hbef t ht k hk hne hd;rw [hP1 k t hk hlk hd];exact (hkeep t (k+1) i (by omega) (by omega) fun k' h4 h5 hd'=>by have:=hinj k k' t hk (by omega) hd hd';omega).symm
            · rw [hP2 t fun k hk hl hd=> ?_]
              · exact ((hkeep t 0 i (Nat.zero_le _) (by omega) fun k _ hk hd=>hw ⟨k,by omega,by omega,hd⟩).trans (by rw [hS0])).symm
              · by_cases e:k=i
                · subst e;exact hunl hl
                · exact hw ⟨k,hk,e,hd⟩
          obtain ⟨h1,h2,h3⟩:=hSob i (by omega)
          have hopl:∀t,Operand.tmp t ∈ o.op.operands->t ∈ o.looksAt ops:=by
            intro t ht;unfold Oper.looksAt;exact gZ _ (List.mem_filterMap.2 ⟨.tmp t,by simpa using ht,rfl⟩)
          have hguard:guard? vL ops o=guard? (S i) ops o:=by
            unfold guard?;cases hgd:o.guard with
            | none=>rfl
            | some p=>
              obtain ⟨g,want⟩:=p;simp only
              cases hp:ops[g]? with
              | none=>rfl
              | some q=>
                simp only
                cases hq:q.dst with
                | none=>rfl
                | some t=>
                  simp only
                  have hev:look vL.sl t=look (S i).sl t:=by
                    refine hlooks t ?_
                    unfold Oper.looksAt;refine eZ _ ?_
                    rw [hgd];simp [hp,hq]
                  rw [hev]
          have hguardX:∀b,guard? (S i) ops o=some b->guard? X ops o=some b:=fun b hb=>guard_mono HI.sub (by rw [hguard];exact hb)
          have hcl':Closed ops fun j=>(listed.setIfInBounds i true).getD j false=true:=by
            intro j p hp hj e he hb;rw [R0 (by omega)] at hj ⊢
            rcases hj with rfl | hj
            · rw [ho] at hp;cases hp
              exact .inr (hedge e he hb)
            · exact .inr (hcl j p hp hj e he hb)
          have htail':∀j,m<=j->(listed.setIfInBounds i true).getD j false=true->A.contains j=true:=by
            intro j hmj hl;rcases (hset j).1 hl with rfl | hl
            · omega
            · exact htail j hmj hl
          have hcnt':(listed.setIfInBounds i true).toList.count false<=fuel:=by
            have:=head_count listed i hun
            omega
          have hlist:∀k,(listed.setIfInBounds i true).getD k false=true->k≠i->listed.getD k false=true:=fun k hk hne=>((R0 (by omega)).1 hk).resolve_left hne
          have hEp:∀j,m<=j->listed.getD j false=true->∀a',(∀t,o.dst≠some t->a'.tmps.getD t undef=a.tmps.getD t undef)->Early E ops w00 w0 G a' j (bl j):=by
            intro j hj hlj a' hkp;refine (hEa j hj hlj).put (fun d hd he=> ?_) hkp
            obtain ⟨p,hp⟩:∃p,ops[j]? =some p:=by
              obtain ⟨_,_,_,p,_,_,_,g1,_⟩:=hEa j hj hlj;exact ⟨p,g1⟩
            obtain ⟨_,d',_,_,g3,g4⟩:=(flowOk_at hok hp).2.2.1 (htail j hj hlj)
            have:W2 ops j=some d':=by simp [W2,hp,g3]
            rw [this] at hd;exact g4 i (by omega) (by rw [<-hd] at he;simp [W2,ho,he])
          have hGp:∀x,G0 x↔G x\/∃j,m<=j/\(listed.setIfInBounds i true).getD j false=true/\x=bl j:=by
            intro x;rw [hG x];constructor
            · rintro (h1 | ⟨j,h1,h2,h3⟩)
              · exact .inl h1
              · exact .inr ⟨j,h1,(hset j).2 (.inr h2),h3⟩
            · rintro (h1 | ⟨j,h1,h2,h3⟩)
              · exact .inl h1
              · exact .inr ⟨j,h1,((hset j).1 h2).resolve_left (by omega),h3⟩
          have next:∀(vL' X':St) (pL':Pk) (B':Nat->Nat),(vL'.ob=vL.ob/\vL'.nx=vL.nx/\vL'.nt=vL.nt)->(∀t,o.dst≠some t->look vL'.sl t=look vL.sl t)->(∀t,o.dst=some t->look vL'.sl t=look (S (i+1)).sl t)->HeadInv st vL' X' cs pL' B' fuel ops.size->
              (∀c d p,c<m->(listed.setIfInBounds i true).getD c false=true->W2 ops c=some d->look (P (c+1)) d=some p->(∀k,k<m->(listed.setIfInBounds i true).getD k false=true->¬Con k d)->look pL' d=some p)->
              (∀t p,look pL' t=some p->∃c,c<m/\(listed.setIfInBounds i true).getD c false=true/\W2 ops c=some t)->∀a' w',SimE G w0 X' a' w'->(∀t,o.dst≠some t->a'.tmps.getD t undef=a.tmps.getD t undef)->wpAny E.P .any ops Q fuel (listed.setIfInBounds i true) a' w':=by
            intro vL' X' pL' B' hob' hsame hnew HI' J1' JK' a' w' S' hkp;refine ih _ a' w' vL' X' pL' B' G w0 bl (by simpa using hsz) hcnt' hcl' htail' ⟨hob'.1.trans hobL.1,hob'.2.1.trans hobL.2.1,hob'.2.2.trans hobL.2.2⟩ ?_ ?_ HI' J1' JK' (fun j hj hlj=>hEp j hj (((hset j).1 hlj).resolve_left (by omega)) a' hkp) (fun j j' hj hj' hlj hlj'=>hinj2 j j' hj hj' (((hset j).1 hlj).resolve_left (by omega)) (((hset j').1 hlj').resolve_left (by omega))) hGp hL S'
            · intro k d hk hl hd;by_cases e:k=i
              · subst e;rw [hdst k o ho] at hd;exact hnew d hd
              · rw [hsame d fun hd'=>e (hinj k i d hk him hd (by rw [hdst i o ho];exact hd'))]
                exact hP1 k d hk (hlist k hl e) hd
            · intro t ht;have hne:o.dst≠some t:=by
                have:=ht i him ((R0 (by omega)).2 (.inl rfl))
                rwa [hdst i o ho] at this
              rw [hsame t hne];exact hP2 t fun k hk hl=>ht k hk ((R0 (by omega)).2 (.inr hl))
          -- a step that makes nothing
          have plain:∀(av:AV),P (i+1)=P i->(∀t,o.dst=some t->look (vL.set o.dst av).sl t=look (S (i+1)).sl t)->∀a' w',SimE G w0 (X.set o.dst av) a' w'->(∀t,o.dst≠some t->a'.tmps.getD t undef=a.tmps.getD t undef)->wpAny E.P .any ops Q fuel (listed.setIfInBounds i true) a' w':=by
            intro av hPi hnew a' w' S' hkp;have hntX:X.nt=vL.nt:=HI.nt.trans hobL.2.2.symm;have hpd:∀t p,look pL t=some p->o.dst≠some t:=by
              intro t p hp hd;obtain ⟨c,hc,hl,hdc⟩:=JK t p hp
              have:=hinj c i t hc him hdc (by rw [hdst i o ho];exact hd)
              subst this;exact hunl hl
            have hset2:∀t,o.dst=some t->look (X.set o.dst av).sl t=look (vL.set o.dst av).sl t:=by
              intro t ht;rw [ht];simp only [St.set,hntX];split
              · simp only [E1]
              · simp only [i2]
            have hob1:=set_ob X o.dst av;refine next (vL.set o.dst av) (X.set o.dst av) pL B (set_ob _ _ _) (fun t ht=>look_set _ _ _ _ ht) hnew ⟨hob1.2.2.trans HI.nt,by rw [hob1.2.1];exact HI.lo,by rw [hob1.2.1];have:=HI.hi;omega,fun t v ht=> ?_,fun t ht=> ?_,fun h o ho=>by rw [hob1.1];exact HI.ob h o ho,⟨fun t p hT hp=> ?_,fun t p hT hp=>by rw [hob1.1];exact HI.pl.ob t p hT hp,HI.pl.disj⟩,fun t p hp=>by rw [hob1.2.1];exact HI.ok t p hp,fun hcs=>by rw [hob1.2.1];exact HI.none hcs⟩ ?_ ?_ a' w' S' hkp
            · by_cases e:o.dst=some t
              · rw [hset2 t e];exact ht
              · rw [look_set _ _ _ _ e] at ht ⊢;exact HI.sub t v ht
            · by_cases e:o.dst=some t
              · exact hset2 t e
              · rw [look_set _ _ _ _ e,look_set _ _ _ _ e];exact HI.eq t ht
            · rw [look_set _ _ _ _ (hpd t p hp)];exact HI.pl.sl t p hT hp
            · intro c d p hc hl hd hp hcon;by_cases e:c=i
              · subst e;rw [hPi] at hp;obtain ⟨c',g1,g2,_⟩:=hborn c (by omega) d p hp
                have:=hinj c' c d (by omega) hc g2 hd
                omega
              · exact J1 c d p hc (hlist c hl e) hd hp fun k hk hl=>hcon k hk ((R0 (by omega)).2 (.inr hl))
            · intro t p hp;obtain ⟨c,hc,hl,hd⟩:=JK t p hp;exact ⟨c,hc,(R0 (by omega)).2 (.inr hl),hd⟩
          refine wpOp_mono (fun a' w' h=>h.1 h.2) (wpOp_keeps (X:=fun a' w'=>(∀t,o.dst≠some t->a'.tmps.getD t undef=a.tmps.getD t undef)->wpAny E.P .any ops Q fuel (listed.setIfInBounds i true) a' w') ho ?_)
          unfold wpOp;simp only [ho];obtain ⟨stk,hk,hst⟩:=hst;rcases hst with ⟨hg,hS1,hPi⟩ | ⟨hg,hin,hlc,⟨av,hval,hS1⟩,hPi⟩ | ⟨hg,d,p,us,hd,hdc,hdn,hmk,hpn,hused,hS1,hPi⟩
          · rw [guard_sound Sm (hguardX _ hg)];simp only [Bool.false_eq_true,if_false];refine plain (.tup []) hPi (fun t ht=> ?_) _ _ ⟨β,Lf,Sm.unset o.dst⟩
            have hntk:vL.nt=stk.nt:=(hobL.2.2.trans h3.symm).trans hk.nt.symm;rw [hS1,ht];simp only [St.unset,St.set,hntk];split
            · simp only [E1]
            · simp only [i2]
          · rw [guard_sound Sm (hguardX _ hg)];simp only [if_true];have hagk:Agree o stk X:=by
              refine ⟨fun h o' ho'=>HI.ob h o' (by rw [<-h1,<-hk.ob];exact ho'),fun x hx=> ?_⟩
              cases x with
              | tmp t=>
                have ht:=hopl t hx;show look X.sl t=look stk.sl t
                rw [HI.eq t (hlc t ht),hlooks t ht];exact (hk.sl t).symm
              | const v=>rfl
              | func f=>rfl
              | global g=>rfl
            refine .inl ((hval.congr hagk).sound hE (hC.link hL) Sm fun u w' hB hva hlt=> ?_)
            refine plain av hPi (fun t ht=> ?_) _ _ ⟨β,Lf,(Sm.kept hB).set o.dst hva hlt⟩
            have hntk:vL.nt=stk.nt:=(hobL.2.2.trans h3.symm).trans hk.nt.symm;rw [hS1,ht];simp only [St.set,hntk];split
            · simp only [E1]
            · simp only [i2]
          · rw [guard_sound Sm (hguardX _ hg)];simp only [if_true];obtain ⟨hpok,husd⟩:=mkC_facts hmk;have hdi:W2 ops i=some d:=by rw [hdst i o ho];exact hd
            -- what it looks at stands where it was made
            have hTp:∀t,Operand.tmp t ∈ o.op.operands->∀p',look (P i) t=some p'->look pL t=some p':=by
              intro t ht p' hp';obtain ⟨c,hc,g1,g2,_,g3⟩:=hborn i (by omega) t p' hp'
              obtain ⟨_,hl⟩:=hbef t (hopl t ht) c (by omega) (by omega) g1
              have htd:t≠d:=fun e=>by
                have:=hinj c i t (by omega) him g1 (by rw [e];exact hdi)
                omega
              have htu:t ∈ us:=by
                have:=uZ.1 hused (.tmp t) (by simpa using ht)
                simp only [hp',Option.isNone_some,Bool.false_or] at this;simpa using this
              refine J1 c t p' (by omega) hl g1 g2 fun k hk' hlk hcon=> ?_
              rcases Nat.lt_trichotomy k i with h | rfl | h
              · exact g3 k h hcon
              · exact hunl hlk
              · obtain ⟨⟨q,hq⟩,_⟩:=hcon;obtain ⟨_,_,_,_,_,g4⟩:=hborn k (by omega) t q hq
                exact g4 i h ⟨⟨p',hp'⟩,by rw [hPi];exact hPgone _ _ _ _ _ htd htu⟩
            have husT:∀t ∈ us,Operand.tmp t ∈ o.op.operands\/True:=fun _ _=> .inr trivial
            have hPl:Placed (fun t=>Operand.tmp t ∈ o.op.operands) X (P i) B:=
              ⟨fun t p' hT hp'=>HI.pl.sl t p' trivial (hTp t hT p' hp'),fun t p' hT hp'=>HI.pl.ob t p' trivial (hTp t hT p' hp'),fun t p' t' p'' hT hT' hp' hp''=>HI.pl.disj t p' t' p'' trivial trivial (hTp t hT p' hp') (hTp t' hT' p'' hp'')⟩
            have hdX:d<X.nt:=by
              rw [HI.nt,<-h3,<-hk.nt];exact hdn
            obtain ⟨X',heff,hM⟩:=mk_step (stL:=X) (B:=B) (T:=fun t=>Operand.tmp t ∈ o.op.operands) hd hdX (fun x hx t e=>by rw [<-e];exact hx) hPl (fun h o' ho'=>HI.ob h o' (by rw [<-h1,<-hk.ob];exact ho')) (fun x hx v hv=>by
              cases x with
              | tmp t=>
                have hv':look stk.sl t=some v:=hv;show look X.sl t=some v
                refine HI.sub t v ?_
                rw [hlooks t (hopl t hx),<-hk.sl t];exact hv'
              | const c=>exact hv
              | func f=>exact hv
              | global g=>exact hv) hmk
            refine .inl (eff_sound hE (hC.link hL) Sm heff fun st' a' w' S' hst'=> ?_)
            cases hst'
            have hoT:∀t ∈ us,∀p',look (P i) t=some p'->look pL t=some p':=by
              intro t ht p' hp';obtain ⟨c,hc,g1,g2,_,g3⟩:=hborn i (by omega) t p' hp'
              have htd:t≠d:=fun e=>by
                have:=hinj c i t (by omega) him g1 (by rw [e];exact hdi)
                omega
              by_cases htop:Operand.tmp t ∈ o.op.operands
              · exact hTp t htop p' hp'
              · exact absurd (husd t ht).1 htop
            have hnums:∀h,h<X.nx->(∀t ∈ us,∀p',look pL t=some p'->∀j o',look p'.os j=some o'->h≠B t+j)->¬Nums (P i) B us h:=by
              rintro h _ hn ⟨t,ht,p',j,o',g1,g2,g3⟩
              exact hn t ht p' (hoT t ht p' g1) j o' g2 g3
            refine next { vL with sl:=del d vL.sl } X' (delAll (d::us) pL++[(d,p)]) (fun t=>if t=d then X.nx else B t) ⟨rfl,rfl,rfl⟩ (fun t ht=>look_del_ne _ fun e=>ht (by rw [hd,e])) (fun t ht=> ?_) ?_ ?_ ?_ _ _ S'
            · rw [hd] at ht;cases ht
              rw [hS1];show look (del d vL.sl) d=look (del d stk.sl) d
              rw [i2,i2]
            · have hslX:∀t,t≠d->look X'.sl t=look X.sl t:=fun t ht=>by rw [hM.sl];exact look_put_ne _ _ ht
              have hold:∀t p',t ∉ us->look pL t=some p'->∀j o',look p'.os j=some o'->look X'.ob (B t+j)=some o':=by
                intro t p' htu hp' j o' hj;have hB:=HI.ok t p' hp';have hjn:=(hB.1.os j o' hj).1;refine hM.old _ _ (HI.pl.ob t p' trivial hp' j o' hj) (by omega) (hnums _ (by omega) fun t' ht' p'' hp'' j' o'' hj'=> ?_)
                exact HI.pl.disj t p' t' p'' trivial trivial hp' hp'' (fun e=>htu (by rw [e];exact ht')) j o' j' o'' hj hj'
              refine ⟨hM.nt.trans HI.nt,by rw [hM.nx];have:=HI.lo;omega,by rw [hM.nx];have:=HI.hi;omega,fun t v ht=> ?_,fun t ht=> ?_,fun h o' ho'=> ?_,⟨fun t p' _ hp'=> ?_,fun t p' _ hp' j o' hj=> ?_,fun t p' t' p'' _ _ hp' hp'' hne j o' j' o'' hj hj'=> ?_⟩,fun t p' hp'=> ?_,fun hcs=>by rw [hcs] at hdc;cases hdc⟩
              · obtain ⟨g1,g2⟩:=look_del ht;rw [hslX t g1];exact HI.sub t v g2
              · have htd:t≠d:=fun e=>ht (by rw [e];exact hdc)
                rw [hslX t htd,HI.eq t ht];exact (look_del_ne _ htd).symm
              · have g1:=hst0 h o' ho';have g2:=HI.lo;refine hM.old h o' (HI.ob h o' ho') (by omega) (hnums h (by omega) fun t' ht' p'' hp'' j' o'' hj'=> ?_)
                have:=(HI.ok t' p'' hp'').2.1
                omega
              · rcases hPnew _ _ _ _ _ _ hp' with ⟨rfl,rfl⟩ | ⟨g1,g2,g3⟩
                · rw [hM.sl,E1,dY rfl]
                · rw [hslX t g1,eY g1];exact HI.pl.sl t p' trivial g3
              · rcases hPnew _ _ _ _ _ _ hp' with ⟨rfl,rfl⟩ | ⟨g1,g2,g3⟩
                · rw [dY rfl];exact (hM.new j o' hj).2
                · rw [eY g1];exact hold t p' g2 g3 j o' hj
              · rcases hPnew _ _ _ _ _ _ hp' with ⟨rfl,rfl⟩ | ⟨g1,g2,g3⟩
                · rcases hPnew _ _ _ _ _ _ hp'' with ⟨rfl,rfl⟩ | ⟨k1,k2,k3⟩
                  · exact absurd rfl hne
                  · rw [dY rfl,eY k1];have hB:=HI.ok t' p'' k3
                    have:=(hB.1.os j' o'' hj').1
                    omega
                · rcases hPnew _ _ _ _ _ _ hp'' with ⟨rfl,rfl⟩ | ⟨k1,k2,k3⟩
                  · rw [dY rfl,eY g1];have hB:=HI.ok t p' g3
                    have:=(hB.1.os j o' hj).1
                    omega
                  · rw [eY g1,eY k1];exact HI.pl.disj t p' t' p'' trivial trivial g3 k3 hne j o' j' o'' hj hj'
              · rcases hPnew _ _ _ _ _ _ hp' with ⟨rfl,rfl⟩ | ⟨g1,g2,g3⟩
                · rw [dY rfl,hM.nx];exact ⟨hpok,HI.lo,cY _⟩
                · rw [eY g1,hM.nx];obtain ⟨k1,k2,k3⟩:=HI.ok t p' g3;exact ⟨k1,k2,by omega⟩
            · intro c t p' hc hl hdt hp' hcon;by_cases e:c=i
              · subst e
                have:t=d:=by rw [hdi] at hdt;exact (xZ hdt).symm
                subst this;rw [hPi,hPat] at hp';rw [hPat];exact hp'
              · have htd:t≠d:=fun e'=>e (hinj c i t hc him hdt (by rw [e'];exact hdi))
                have hold:=J1 c t p' hc (hlist c hl e) hdt hp' fun k hk hl=>hcon k hk ((R0 (by omega)).2 (.inr hl))
                have htu:t ∉ us:=fun ht=>by
                  obtain ⟨_,q,hq⟩:=husd t ht;exact hcon i him ((R0 (by omega)).2 (.inl rfl)) ⟨⟨q,hq⟩,by rw [hPi];exact hPgone _ _ _ _ _ htd ht⟩
                exact hPkeep _ _ _ _ _ _ htd htu hold
            · intro t p' hp';rcases hPnew _ _ _ _ _ _ hp' with ⟨rfl,rfl⟩ | ⟨g1,g2,g3⟩
              · exact ⟨i,him,(R0 (by omega)).2 (.inl rfl),hdi⟩
              · obtain ⟨c,hc,hl,hdt⟩:=JK t p' g3;exact ⟨c,hc,(R0 (by omega)).2 (.inr hl),hdt⟩
  have hrep:∀j,¬(Array.replicate ops.size false).getD j false=true:=by
    intro j;by_cases h:j<ops.size<;>simp [h]
  refine head ops.size (Array.replicate ops.size false) a _ st st [] (fun _=>0) G0 w00 (fun _=>0) (by simp) (by simp) (fun j o ho hj=>absurd hj (hrep j)) (fun j _ hl=>absurd hl (hrep j)) ⟨rfl,rfl,rfl⟩ (fun k d hk hl=>absurd hl (hrep k)) (fun _ _=>rfl) ⟨rfl,cY _,cY _,fun _ _ h=>h,fun _ _=>rfl,fun _ _ h=>h,⟨fun t p _ h=>(by cases h),fun t p _ h=>(by cases h),fun t p _ _ _ _ h=>(by cases h)⟩,fun t p h=>(by cases h),fun _=>rfl⟩ (fun c d p hc hl=>absurd hl (hrep c)) (fun t p h=>(by cases h)) (fun j _ hl=>absurd hl (hrep j)) (fun j _ _ _ hl=>absurd hl (hrep j)) (fun x=>⟨fun h=> .inl h,fun h=>h.elim (fun h=>h) fun ⟨j,_,hl,_⟩=>absurd hl (hrep j)⟩) (Link.refl _) ⟨β0,Lf0,Sm0.kept ((Below.refl _ w).drew)⟩
theorem region_flow (hE:EnvOk E) (hC:CallAt E call w0) {id:Nat} {ops:Array Oper} (hok:flowOk ops (flowM ops) (flowA ops (flowM ops)) (flowF ops (flowM ops))=true) (hHd:flowHd ops (flowM ops)=true) (hst:flowSt E ops (flowA ops (flowM ops)) st=true) (Ssim:SimE G w0 st a w)
 (h:vhead E call ops (flowM ops) (ownSlots E ops (flowM ops)) (vflow E call ops (flowA ops (flowM ops)) (flowF ops (flowM ops))) ops.toList 0 st [] K=some r)
 (hQ:∀st' a' w',SimE G w0 st' a' w'->K st'=some r->Q .normal a' w'):(Code.region id ops true).wp E.P Q a w:=by
 have hms:flowM ops<=ops.size:=by
  unfold flowM;simp only [];split
  · exact flowFrom_le _ _ _ _
  · exact headOf_le _
 obtain ⟨S,P,hS0,hP0,hSstep,hStail⟩:=head_states ops.toList 0 st [] (by simp) (Nat.zero_le _) hms h
 refine wp_mono (Q:=fun e a w=>e= .normal/\Q .normal a w) (flow_draw hE hC hok hms (flowA_at hok) flowF_at (flowHd_at hHd) hS0 hP0 hSstep hStail (fun j hj=> ?_) Ssim (fun st' a' w' S' h'=>⟨rfl,hQ st' a' w' S' h'⟩) fun c a w h=>by cases h.1) fun e a w h=>by rw [h.1];exact h.2
 have h1:=uZ.1 hst j (by simpa using hj)
 split at h1;rotate_left;cases h1
 rename_i d hd;simp only [sZ,Option.isNone_iff_eq_none,pZ] at h1;exact ⟨d,hd,h1.1,h1.2.1,h1.2.2⟩
end
end Go.V
namespace Go.V
open Go.RowKit (Below)
section
variable {E:Env} {G:Nat->Prop} {w0:Base} {st:St} {a:Act} {w:World} {β:Nat->Value} {Lf:Nat->List Nat}
theorem Sim.addNil (S:Sim G w0 st a w β Lf) (e:Nat) (sh:Sh):Sim G w0 { st with ob:=put st.nx (.arr e sh []) st.ob,nx:=st.nx+1 } a w (upd β st.nx (.slice none 0 0)) (upd Lf st.nx []):=by
 obtain ⟨h1,h2⟩:=S.apart (w':=w) (Below.refl _ w) (L:=[]) (by simp)
 exact S.add (o:= .arr e sh []) (u:= .slice none 0 0) (L:=[]) (by simp) (by simp) List.nodup_nil trivial h1 h2 (.inl ⟨rfl,rfl,none,rfl⟩)
theorem Sim.reslot (S:Sim G w0 st a w β Lf) {t:Nat} {v:AV} (hv:VA w (imm G st Lf) β v (a.tmps.getD t undef)) (hlt:v.lt st.nx):Sim G w0 { st with sl:=put t v st.sl } a w β Lf:=by
 have key:∀n v',look (put t v st.sl) n=some v'->(n=t/\v'=v)\/look st.sl n=some v':=by
  intro n v' h;by_cases e:n=t
  · subst e;rw [E1] at h;exact .inl ⟨rfl,(xZ h).symm⟩
  · rw [look_put_ne _ _ e] at h;exact .inr h
 refine { fresh:=S.fresh,below:=S.below,defers:=S.defers,size:=S.size,slots:= ?_,slt:= ?_,obs:=S.obs,olt:=S.olt,new:=S.new,nodup:=S.nodup,disj:=S.disj,pin:=S.pin,pinx:=S.pinx }
 · intro n v' h;rcases key n v' h with ⟨rfl,rfl⟩ | h
   · exact hv
   · exact S.slots n v' h
 · intro n v' h;rcases key n v' h with ⟨rfl,rfl⟩ | h
   · exact hlt
   · exact S.slt n v' h
theorem VC_nil {ok:Nat->Prop} {u:Value} (h:VC w ok β (.v (.slice none 0 0)) u) (n:Nat) (hn:β n= .slice none 0 0):VC w ok β (.ref n) u:=by
 have h1:rep w ok (.v (.slice none 0 0)) u:=h;simp only [rep] at h1;exact ⟨by rw [h1.1,hn],none,0,0,h1.1⟩
theorem all2_wk {ok:Nat->Prop} {n:Nat} (hn:β n= .slice none 0 0):∀{cs:List C} {us:List Value} {i:Nat} {ds:List C},wkCell n cs i=some ds->All2 (VC w ok β) cs us->All2 (VC w ok β) ds us
  | [],us,i,ds,h,_=>by simp [wkCell] at h
  | c::cs,[],i,ds,_,h2=>h2.elim
  | c::cs,u::us,0,ds,h,h2=>by
    unfold wkCell at h;simp only [List.getElem?_cons_zero,List.set_cons_zero] at h
    split at h;rotate_left;cases h
    rename_i heq;simp only [nZ] at h heq;subst h heq;exact ⟨VC_nil h2.1 n hn,h2.2⟩
  | c::cs,u::us,i+1,ds,h,h2=>by
    have:∃es,wkCell n cs i=some es/\ds=c::es:=by
      unfold wkCell at h ⊢;simp only [List.getElem?_cons_succ,List.set_cons_succ] at h
      split at h;rotate_left;cases h
      rename_i heq;simp only [nZ] at h;exact ⟨_,rfl,h.symm⟩
    obtain ⟨es,h3,rfl⟩:=this;exact ⟨h2.1,all2_wk hn h3 h2.2⟩
theorem wk_lt {n:Nat} {cs ds:List C} {i:Nat} (h:wkCell n cs i=some ds) (hc:∀c ∈ cs,C.lt n c):∀c ∈ ds,C.lt (n+1) c:=by
 unfold wkCell at h;split at h;rotate_left;cases h
 cases h
 intro c hm;rcases List.mem_or_eq_of_mem_set hm with hm | rfl
 · exact fun h hh=>Nat.lt_succ_of_lt (hc c hm h hh)
 · intro h hh;simp [C.hs] at hh;subst hh;exact Nat.lt_succ_self _
theorem wake1_sim (S:SimE G w0 st a w) (t i e:Nat):SimE G w0 (wake1 E t i e st) a w:=by
 obtain ⟨β,Lf,S⟩:=S;have same:SimE G w0 st a w:=⟨β,Lf,S⟩;have hn:upd β st.nx (.slice none 0 0) st.nx=(.slice none 0 0:Value):=Z2 _ _ _;unfold wake1;split
 · rename_i j _;have S1:=S.addNil e j.sh;split
   · rename_i h ht;split
     · rename_i cs ho;split
       · rename_i ds hw;have hlt:=S.olt h _ ho;have hne:h≠st.nx:=Nat.ne_of_lt hlt.1;have ho1:look (put st.nx (.arr e j.sh []) st.ob) h=some (.var cs):=by rw [look_put_ne _ _ hne];exact ho
         obtain ⟨b,ty,us,h1,h2,h3,h4⟩:=S1.obs h _ ho1;have S2:=S1.mod (ob':=put st.nx (.arr e j.sh []) st.ob) (fun _ _ h=>h) (w':=w) (h:=h) (o:= .var ds) (L:=upd Lf st.nx [] h) ho1 (Chg.refl _ w) (fun b hb=> .inl hb)
          (fun h' o' ho' hne'=>S1.disj h' o' h _ ho' ho1 hne') (S1.nodup h _ ho1) (wk_lt hw hlt.2) ⟨b,ty,us,h1,h2,h3,all2_wk hn hw h4⟩
         exact ⟨_,_,S2⟩
       · exact same
     · exact same
   · rename_i ht;have hv:VC w (imm G { st with ob:=put st.nx (.arr e j.sh []) st.ob,nx:=st.nx+1 } (upd Lf st.nx [])) (upd β st.nx (.slice none 0 0)) (.v (.slice none 0 0)) (a.tmps.getD t undef):=S1.slots t _ ht
     exact ⟨_,_,S1.reslot (v:= .c (.ref st.nx)) (VC_nil hv st.nx hn) (by intro h hh;simp [C.hs] at hh;subst hh;exact Nat.lt_succ_self _)⟩
   · rename_i cs ht;split
     · rename_i ds hw;obtain ⟨us,h1,h2⟩:∃us:List Value,a.tmps.getD t undef= .agg us.toArray/\All2 (VC w _ _) cs us:=S1.slots t _ ht;exact ⟨_,_,S1.reslot (v:= .agg ds) ⟨us,h1,all2_wk hn hw h2⟩ (wk_lt hw (S.slt t _ ht))⟩
     · exact same
   · exact same
 · exact same
theorem wakes_sim:∀(l:List Nat) {st:St},SimE G w0 st a w->SimE G w0 (wakes E l st) a w
  | [],st,S=>S
  | q::r,st,S=>by
    unfold wakes;split
    · exact wakes_sim r S
    · split
      · exact wakes_sim r S
      · exact wakes_sim r (wake1_sim S _ _ _)
end
section
variable {P:Program} {ops:Array Oper} {Q:Exit->Act->World->Prop} {md:Region.Mode} {S S':Array Bool->World->Prop}
def wpAnyL (P:Program) (md:Region.Mode) (ops:Array Oper) (Q:Exit->Act->World->Prop) (S:Array Bool->World->Prop):Nat->Array Bool->Act->World->Prop
  | 0,listed,a,w=>Region.ready md ops listed=[]/\Q .normal a w
  | fuel+1,listed,a,w=>
    (Region.ready md ops listed=[]->Q .normal a w)/\
    ∀i ∈ Region.ready md ops listed,wpOp P ops Q i (fun a' w'=>S (listed.setIfInBounds i true) w'/\wpAnyL P md ops Q S fuel (listed.setIfInBounds i true) a' w') a w
theorem wpAny_of_heldL:∀(fuel:Nat) (listed:Array Bool) (a:Act) (w:World),wpAnyL P md ops Q S fuel listed a w->wpAny P md ops Q fuel listed a w
 | 0,_,_,_,h=>h
 | fuel+1,_,_,_,h=>⟨h.1,fun i hi=>wpOp_mono (fun a' w' h'=>wpAny_of_heldL fuel _ a' w' h'.2) (h.2 i hi)⟩
theorem wpAnyL_weak:∀(fuel:Nat) (listed:Array Bool) (a:Act) (w:World),(∀L w,(∀j,listed.getD j false=true->L.getD j false=true)->S' L w->S L w)->wpAnyL P md ops Q S' fuel listed a w->wpAnyL P md ops Q S fuel listed a w
 | 0,_,_,_,_,h=>h
 | fuel+1,listed,_,_,hs,h=>⟨h.1,fun i hi=>wpOp_mono (fun a' w' h'=>by
  have hsub:∀j,listed.getD j false=true->(listed.setIfInBounds i true).getD j false=true:=fun j hj=>by
   simp only [aZ,Array.getElem?_setIfInBounds] at hj ⊢
   by_cases e:i=j
   · subst e;by_cases hl:i<listed.size
     · simp [hl]
     · simp [Array.getElem?_eq_none (Nat.le_of_not_lt hl)] at hj
   · simpa [e] using hj
  exact ⟨hs _ _ hsub h'.1,wpAnyL_weak fuel _ a' w' (fun L w hL h=>hs L w (fun j hj=>hL j (hsub j hj)) h) h'.2⟩) (h.2 i hi)⟩
theorem wpAnyL_done {listed:Array Bool} {a:Act} {w:World} (hr:Region.ready md ops listed=[]) (h:Q .normal a w):
 ∀fuel,wpAnyL P md ops Q S fuel listed a w
 | 0=>⟨hr,h⟩
 | _+1=>⟨fun _=>h,by rw [hr];simp⟩
theorem wp_region_heldL {id:Nat} {a:Act} {w:World} (hm:P.follows .mixedOrders=true)
 (h:wpAnyL P .any ops Q S ops.size (Array.replicate ops.size false) a { w with drawn:=w.drawn+1 }):(Code.region id ops true).wp P Q a w:=
 wp_region_any hm (wpAny_of_heldL _ _ _ _ h)
def NoWait (md:Region.Mode) (ops:Array Oper) (i:Nat) (L:Array Bool):Prop:=∀j oj,ops[j]? =some oj->L.getD j false=true->∀e ∈ oj.after,Region.binds md e=true->e.on≠i
theorem wpAnyL_first {i:Nat} {oi:Oper} {v:Value} (hi:ops[i]? =some oi) (hsel:∀(j:Nat) (o:Oper) cs b,ops[j]? =some o->o.op≠ .select cs b)
    (hQ:∀c a w,Q (.panic c) (a.put oi.dst v) w->Q (.panic c) a w) (hSi:∀L w,S (L.setIfInBounds i true) w->S L w):
    ∀(fuel:Nat) (listed:Array Bool) (a:Act) (w:World),
      (∀j oj,ops[j]? =some oj->j≠i->listed.getD j true=false->(∀e ∈ oj.after,Region.binds md e=true->e.on≠i)->oi.apart ops oj=true)->
      i ∈ Region.ready md ops listed->NoWait md ops i (listed.setIfInBounds i true)->YieldsIf P ops (fun w=>∃L,NoWait md ops i L/\S L w) oi v a->S (listed.setIfInBounds i true) w->
      wpAnyL P md ops Q S fuel (listed.setIfInBounds i true) (a.put oi.dst v) w->wpAnyL P md ops Q S (fuel+1) listed a w:=by
  intro fuel;induction fuel with
  | zero=>
    intro listed a w _ hr hnw hy hS H;refine ⟨fun h=>(by rw [h] at hr;cases hr),fun j hj=> ?_⟩
    by_cases hji:j=i
    · subst hji;exact hy.wpOp hi ⟨_,hnw,hS⟩ ⟨hS,H⟩
    · have:=ready_mono hj hji
      rw [H.1] at this;cases this
  | succ fuel ih=>
    intro listed a w hfree hr hnw hy hS H;refine ⟨fun h=>(by rw [h] at hr;cases hr),fun j hj=> ?_⟩
    by_cases hji:j=i
    · subst hji;exact hy.wpOp hi ⟨_,hnw,hS⟩ ⟨hS,H⟩
    · have h1:=H.2 j (ready_mono hj hji);obtain ⟨hjun,oj,hoj,hall⟩:=mem_ready.1 hj;have hnot:∀e ∈ oj.after,Region.binds md e=true->e.on≠i:=fun e he hb heq=>by
        have h1:=hall e he hb;have h0:=(mem_ready.1 hr).1;rw [heq] at h1;rcases Nat.lt_or_ge i listed.size with h' | h'
        · simp [h'] at h0 h1;rw [h0] at h1;cases h1
        · simp [Array.getElem?_eq_none h'] at h1
      have h2:=wpOp_putIf hoj (hfree j oj hoj hji hjun hnot) (fun cs b=>hsel i oi cs b hi) (fun cs b=>hsel j oj cs b hoj) hQ hy h1
      have hfree':∀k ok,ops[k]? =some ok->k≠i->(listed.setIfInBounds j true).getD k true=false->
          (∀e ∈ ok.after,Region.binds md e=true->e.on≠i)->oi.apart ops ok=true:=fun k ok hk hki hun hno=>by
        refine hfree k ok hk hki ?_ hno
        by_cases hjk:j=k
        · subst hjk;exact hjun
        · rw [Go.getD_set_ne true hjk] at hun;exact hun
      have hnw':NoWait md ops i ((listed.setIfInBounds j true).setIfInBounds i true):=fun k ok hk hl=>by
        by_cases hjk:j=k
        · subst hjk;rw [hoj] at hk;cases hk
          exact hnot
        · rw [Array.setIfInBounds_comm _ _ hji] at hl;exact hnw k ok hk (by rw [Go.getD_set_ne false hjk] at hl;exact hl)
      refine wpOp_mono (fun a' w' h3=> ?_) h2
      have h4:=h3.2;rw [Array.setIfInBounds_comm _ _ (Ne.symm hji)] at h4;exact ⟨hSi _ _ h4.1,ih (listed.setIfInBounds j true) a' w' hfree' (ready_mono hr (Ne.symm hji)) hnw' h3.1 h4.1 h4.2⟩
end
end Go.V
namespace Go.V
open Go.RowKit (Below)
section
variable {E:Env} {G:Nat->Prop} {w0:Base} {st:St} {a:Act} {w:World} {β:Nat->Value} {Lf:Nat->List Nat} {R:Type} {K:AV->Option R} {N:Option R} {r:R} {o:Oper}
def GivesW {R:Type} (G:Nat->Prop) (E:Env) (st:St) (a:Act) (w:World) (β:Nat->Value) (Lf:Nat->List Nat) (o:Oper) (K:AV->Option R) (r:R):Prop:=
 ∃av u,(∀w2,(execOp a.eval o).run E.P w2= .ok (.value u) w2)/\VA w (imm G st Lf) β av u/\av.lt st.nx/\K av=some r
def GivesH {R:Type} (G:Nat->Prop) (E:Env) (st:St) (a:Act) (w:World) (β:Nat->Value) (Lf:Nat->List Nat) (o:Oper) (K:AV->Option R) (r:R):Prop:=
 ∃av u,∃RD:List (Addr×Value),(∀p ∈ RD,elOf st o=true/\p.1.block<w.heap.size/\w.cell? p.1=some p.2)/\(∀w2:World,(∀k,imm G st Lf k->k<w.heap.size->w2.heap[k]? =w.heap[k]?)->(∀q ∈ heldOf st o,∀b,β q.1= .pointer (some ⟨b,0,none⟩)->w2.cell? ⟨b,q.2.1,none⟩=some (β q.2.2))->(∀p ∈ RD,w2.cell? p.1=some p.2)->(execOp a.eval o).run E.P w2= .ok (.value u) w2)/\VA w (imm G st Lf) β av u/\av.lt st.nx/\K av=some r
theorem held_cell (S:Sim G w0 st a w β Lf) {T:List (Nat×Nat×Nat)} (h:heldOk st T=true):∀q ∈ T,q.1<st.nx/\q.2.2<st.nx/\∃b,β q.1= .pointer (some ⟨b,0,none⟩)/\b<w.heap.size/\w.cell? ⟨b,q.2.1,none⟩=some (β q.2.2):=by
 intro q hq;have h1:=uZ.1 h q hq;split at h1;rotate_left;cases h1
 rename_i cs ho;split at h1;rotate_left;cases h1
 rename_i n hn;have e:n=q.2.2:=by simpa using h1
 subst e;obtain ⟨b,ty,us,g1,g2,g3,g4⟩:=S.obs _ _ ho;obtain ⟨u,hu,hvc⟩:=g4.at q.2.1 _ hn;have hmem:C.ref q.2.2 ∈ cs:=iZ hn;refine ⟨(S.olt _ _ ho).1,(S.olt _ _ ho).2 _ hmem _ (by simp [C.hs]),b,g1,(bZ.1 g3).1,?_⟩
 rw [cell_of_row w b _ us.toArray ty (0,0) g3];have hvc':u=β q.2.2/\∃A n c,u= .slice A n c:=hvc;rw [<-hvc'.1];simpa using hu
theorem heldOf_ok (st:St) (o:Oper):heldOk st (heldOf st o)=true:=by
 unfold heldOf;split
 · split
   · split
     · rename_i ho;split
       · rename_i hn;simp [heldOk,ho,hn]
       · rfl
     · rfl
   · rfl
 · rfl
theorem GivesW.held (h:GivesW G E st a w β Lf o K r):GivesH G E st a w β Lf o K r:=by
 obtain ⟨av,u,h1,h2⟩:=h;exact ⟨av,u,[],by simp,fun w2 _ _ _=>h1 w2,h2⟩
theorem givesW_fieldAddr (hE:EnvOk E) (S:Sim G w0 st a w β Lf) {s:Nat} {x:Operand} {n:Nat} (ho:o.op= .fieldAddr s x n) (h:opv E st o K N=some r):GivesW G E st a w β Lf o K r:=by
 simp only [opv,ho] at h;split at h;rotate_left;cases h
 rename_i i c hi hv;split at h;rotate_left;cases h
 rename_i off j hp;obtain ⟨hva,hlt⟩:=S.ev hv;obtain ⟨fields,f,h1,h2,h3,h4⟩:=part_field hE hi hp;have hlt':C.lt st.nx c:=hlt;have hva':VC w (imm G st Lf) β c (a.eval x):=hva;split at h
 · rename_i hh oo;obtain ⟨b,hb,hu⟩:=hva';refine ⟨.c (.ptr hh (oo+off)),.pointer (some ⟨b,oo+off,none⟩),?_,⟨b,hb,rfl⟩,hlt',h⟩
   intro w2;simp [execOp,ho,hu,run_fieldAt h1 h2 h4,addr_add,h3]
 · rename_i hh sz i' oo;obtain ⟨g,go,n',c',hb,hu⟩:=hva';refine ⟨.c (.el hh sz i' (oo+off)),.pointer (some ⟨g,go+(i'*sz+(oo+off)),none⟩),?_,⟨g,go,n',c',hb,rfl⟩,hlt',h⟩
   intro w2;simp [execOp,ho,hu,run_fieldAt h1 h2 h4,addr_add,h3,Nat.add_assoc]
 · rename_i cs;have hr:rep w (imm G st Lf) (.at_ cs) (a.eval x):=hva';have hr0:=hr;simp only [rep] at hr0;obtain ⟨ad,us,hu,_⟩:=hr0;rw [hu] at hr;refine ⟨.c (.at_ (cs.drop off)),.pointer (some (ad.add off)),?_,rep_at_drop off hr,AV.lt_c (by simp [C.lt,C.hs]),h⟩
   intro w2;simp [execOp,ho,hu,run_fieldAt h1 h2 h4,h3]
 · cases h
theorem givesW_indexAddr (hE:EnvOk E) (S:Sim G w0 st a w β Lf) {t:Nat} {x n:Operand} (ho:o.op= .indexAddr t x n) (h:opv E st o K N=some r):GivesW G E st a w β Lf o K r:=by
 simp only [opv,ho] at h;split at h;rotate_left;cases h
 rename_i e j hel;obtain ⟨ht,hj⟩:=elemTy_ok hE hel;split at h
 · rename_i hh i hv hn;have hnum:=S.int hn;obtain ⟨hva,hlt⟩:=S.ev hv;obtain ⟨hu,A,n',c',hA⟩:a.eval x=β hh/\∃A n c,a.eval x= .slice A n c:=hva;split at h
   · rename_i e' sh xs hob;split at h;rotate_left;cases h
     rename_i he;subst he;split at h;rotate_left;cases h
     rename_i hsz;split at h;rotate_left;cases h
     rename_i h0;split at h;rotate_left;cases h
     rename_i hlen;have hor:ownRow w e' sh.n (ownT w sh) xs (β hh) (Lf hh):=S.obs _ _ hob;rcases hor with ⟨rfl,_⟩ | ⟨g,off,cap,cur,L',hgv,hg,hlc,hcm,hcs,_,hrow⟩
     · simp at hlen;omega
     · refine ⟨.c (.el hh sh.n i.toNat 0),.pointer (some ⟨g,off+(i.toNat*sh.n+0),none⟩),?_,⟨g,off,_,_,hgv,rfl⟩,hlt,h⟩
       intro w2;simp only [execOp,ho,hu,hnum,hgv,aY,run_indexAt ht hj _ _ _ _ h0 hlen,oZ,Sem.run_pure,hsz,addr_add,Nat.zero_add,Nat.add_zero]
   · rename_i e' sh xs _ _ hob;split at h;rotate_left;cases h
     rename_i he;subst he;split at h;rotate_left;cases h
     rename_i hsz;split at h;rotate_left;cases h
     rename_i h0;split at h;rotate_left;cases h
     rename_i hlen;obtain ⟨g,off,cap,cur,La,Lb,hgv,_⟩:=S.obs _ _ hob;refine ⟨.c (.el hh sh.n i.toNat 0),.pointer (some ⟨g,off+(i.toNat*sh.n+0),none⟩),?_,⟨g,off,_,_,hgv,rfl⟩,hlt,h⟩
     intro w2;simp only [execOp,ho,hu,hnum,hgv,aY,run_indexAt ht hj _ _ _ _ h0 hlen,oZ,Sem.run_pure,hsz,addr_add,Nat.zero_add,Nat.add_zero]
   · cases h
 · rename_i hh sz lo hi i hv hn;have hnum:=S.int hn;obtain ⟨hva,hlt⟩:=S.ev hv;obtain ⟨A,n',c',hb0,hlh,hhn,hnc,hu⟩:VC w (imm G st Lf) β (.sub hh sz lo hi) (a.eval x):=hva;split at h;rotate_left;cases h
   rename_i e' sh xs hob;split at h;rotate_left;cases h
   rename_i he;subst he;split at h;rotate_left;cases h
   rename_i hsz;simp only [sZ,pZ] at hsz;obtain ⟨hsz,rfl⟩:=hsz;split at h;rotate_left;cases h
   rename_i h0;split at h;rotate_left;cases h
   rename_i hlen;split at h;rotate_left;cases h
   rename_i hxs;have hor:ownRow w e' sh.n (ownT w sh) xs (β hh) (Lf hh):=S.obs _ _ hob;rcases hor with ⟨rfl,_⟩ | ⟨g,off,cap,cur,L',hgv,hg,hlc,hcm,hcs,_,hrow⟩
   · simp at hxs;omega
   · rw [hb0] at hgv
     injection hgv with e1 e2 e3
     subst e1 e2 e3;have hcl:¬c'=lo:=by omega
     rw [eY hcl] at hu;refine ⟨.c (.el hh sh.n (lo+i.toNat) 0),.pointer (some ⟨g,off+((lo+i.toNat)*sh.n+0),none⟩),?_,⟨g,off,_,_,hb0,rfl⟩,hlt,h⟩
     intro w2;simp only [execOp,ho,hu,hnum,Option.map_some,aY,run_indexAt ht hj _ _ _ _ h0 (show i<((hi-lo:Nat):Int) by omega),oZ,Sem.run_pure,hsz,addr_add,Nat.add_zero,Nat.add_mul,Nat.add_assoc]
 · rename_i e' sh xs i hv hn;have hnum:=S.int hn;obtain ⟨hva,hlt⟩:=S.ev hv;have hr:rep w (imm G st Lf) (.l e' sh xs) (a.eval x):=hva;split at h;rotate_left;cases h
   rename_i hsz;split at h;rotate_left;cases h
   rename_i h0;split at h;rotate_left;cases h
   rename_i y hy;obtain ⟨ad,c,hu,hat⟩:=rep_at_avs hr i.toNat y hy;have hlen:i<xs.length:=by have:=(List.getElem?_eq_some_iff.1 hy).1;omega
   refine ⟨.c (.at_ (avs sh y)),_,?_,hat,AV.lt_c (by simp [C.lt,C.hs]),h⟩
   intro w2;simp only [execOp,ho,hu,hnum,aY,run_indexAt ht hj _ _ _ _ h0 hlen,oZ,Sem.run_pure,hsz]
 · cases h
theorem givesW_slice (hE:EnvOk E) (S:Sim G w0 st a w β Lf) {t:TypeId} {x:Operand} {lo hi mx:Option Operand} (ho:o.op= .slice t x lo hi mx) (h:opv E st o K N=some r):GivesW G E st a w β Lf o K r:=by
 simp only [opv,ho] at h;unfold slcK at h;split at h
 · rename_i hs;have hu:=isStr_ok hE hs;split at h;rotate_left;cases h
   rename_i s hx;have hv:a.eval x= .string s:=by
    have:=(S.ev hx).1
    have h1:rep w (imm G st Lf) (.v (.string s)) (a.eval x):=this;simp only [rep] at h1;exact h1.1
   split at h;rotate_left;cases h
   rename_i l q e1 e2;split at h;rotate_left;cases h
   rename_i h0;split at h;rotate_left;cases h
   rename_i h1;split at h;rotate_left;cases h
   rename_i h2;have hb:=fun w2:World=>run_bounds (P:=E.P) w2 (a:=a) (fun x n hx=>S.int hx) (isS:=false) e1 e2 h0 h1 h2 (cY _)
   refine ⟨_,.string (s.extract l.toNat q.toNat),?_,VA.scalar rfl,AV.lt_v _ _,h⟩
   intro w2;simp [execOp,ho,hv,Instr.sliceAt,Instr.slice,run_underlying hu,hb]
 · split at h;rotate_left;cases h
   rename_i e j c hel hx;obtain ⟨hu,hT⟩:=elemTy_ok hE hel;have hc:VC w (imm G st Lf) β c (a.eval x):=(S.ev hx).1;split at h
   · split at h;rotate_left;cases h
     rename_i m _ _ y;split at h;rotate_left;cases h
     rename_i p q n hy hm hn;split at h;rotate_left;cases h
     rename_i hp0;split at h;rotate_left;cases h
     rename_i hq0;subst hp0 hq0;obtain ⟨A,n',c',hv⟩:∃A n c,a.eval x= .slice A n c:=by
      cases c<;>simp only [St.len] at hn
      case v v=>
       split at hn<;>first | (cases hn;done) | skip
       all_goals
        rename_i heq
        first
         | (cases heq;simp only [VC,rep] at hc;exact ⟨_,_,_,hc.1⟩)
         | cases heq
      case l e' sh xs=>simp only [VC,rep] at hc;obtain ⟨A,c,hv,_⟩:=hc;exact ⟨A,_,c,hv⟩
      case ref hh=>simp only [VC] at hc;exact hc.2
      case emp=>simp only [VC,rep] at hc;obtain ⟨A,hv⟩:=hc;exact ⟨A,0,0,hv⟩
      case sub=>simp only [VC] at hc;obtain ⟨A,_,_,_,_,_,_,hv⟩:=hc;exact ⟨_,_,_,hv⟩
      all_goals cases hn
     refine ⟨_,.slice A 0 0,?_,(by show rep w (imm G st Lf) .emp _;simp only [rep];exact ⟨A,rfl⟩),(by intro h hh;simp [C.hs] at hh),h⟩
     have h1:=S.int hy;have h2:=S.int hm;have hz:=fun w2=>hT.run_sizeOf w2
     intro w2;simp [execOp,ho,hv,h1,h2,Instr.sliceAt,Instr.slice,run_underlying hu,Instr.sliceBounds,run_sliceBound,hz]
   · split at h
     · rename_i e' sh xs;split at h;rotate_left;cases h
       rename_i l q e1 e2;split at h;rotate_left;cases h
       rename_i hj;split at h;rotate_left;cases h
       rename_i h0;split at h;rotate_left;cases h
       rename_i h1;split at h;rotate_left;cases h
       rename_i h2;simp only [VC,rep] at hc;obtain ⟨A,cp,hv,hle,hmx,hm⟩:=hc;have hb:=fun w2:World=>run_bounds (P:=E.P) w2 (a:=a) (fun x n hx=>S.int hx) (isS:=true) e1 e2 h0 h1 h2 hle
       have hz:=fun w2=>hT.run_sizeOf w2
       have hlen:((xs.take q.toNat).drop l.toNat).length=q.toNat-l.toNat:=by
        rw [List.length_drop,List.length_take];omega
       refine ⟨_,.slice (if cp=l.toNat then A else A.map (·.add (l.toNat*j.sz))) (q.toNat-l.toNat) (cp-l.toNat),?_,?_,(by intro h hh;simp [C.hs] at hh),h⟩
       · intro w2;simp [execOp,ho,hv,Instr.sliceAt,Instr.slice,run_underlying hu,hb,hz]
       · show rep w (imm G st Lf) (.l e' sh _) _
         simp only [rep];refine ⟨_,_,by rw [hlen],by rw [hlen];omega,by omega,fun hp=> ?_⟩
         rw [hlen] at hp;have hp':0<xs.length:=by clear hm;omega
         obtain ⟨ad,rfl,g1,g2,g3⟩:=hm hp';rw [eY (by clear hm g3;omega)]
         refine ⟨_,rfl,by rw [block_add];exact g1,by rw [block_add];exact g2,fun k y hy=> ?_⟩
         rw [mZ,lZ] at hy
         split at hy;rotate_left;cases hy
         obtain ⟨vs,g4,g5⟩:=g3 _ _ hy;refine ⟨vs,g4,fun i v hi'=> ?_⟩
         have:=g5 i v hi'
         have ea:(ad.add (l.toNat*j.sz)).add (k*sh.n+i)=ad.add ((l.toNat+k)*sh.n+i):=by
          rw [hj,Nat.add_mul,Nat.add_assoc];unfold Addr.add;split<;>split<;>split<;>simp_all [Nat.add_assoc]
         rw [ea];exact this
     · rename_i n;split at h;rotate_left;cases h
       rename_i e' sh xs hob;split at h;rotate_left;cases h
       rename_i l q e1 e2;split at h;rotate_left;cases h
       rename_i hj;split at h;rotate_left;cases h
       rename_i h0;split at h;rotate_left;cases h
       rename_i h1;split at h;rotate_left;cases h
       rename_i h2;obtain ⟨hv0,_⟩:a.eval x=β n/\∃A n c,a.eval x= .slice A n c:=hc;obtain ⟨A,cp,hbv,hle⟩:=ownRow_val (show ownRow w e' sh.n (ownT w sh) xs (β n) (Lf n) from S.obs _ _ hob)
       have hv:=hv0.trans hbv;have hb:=fun w2:World=>run_bounds (P:=E.P) w2 (a:=a) (fun x n hx=>S.int hx) (isS:=true) e1 e2 h0 h1 h2 hle
       have hz:=fun w2=>hT.run_sizeOf w2
       refine ⟨.c (.sub n sh.n l.toNat q.toNat),.slice (if cp=l.toNat then A else A.map (·.add (l.toNat*sh.n))) (q.toNat-l.toNat) (cp-l.toNat),?_,⟨A,xs.length,cp,hbv,by omega,by omega,hle,rfl⟩,(show C.lt st.nx (.ref n) from (S.ev hx).2),h⟩
       intro w2;simp [execOp,ho,hv,Instr.sliceAt,Instr.slice,run_underlying hu,hb,hz,hj]
     · cases h
theorem build_valW (hE:EnvOk E) (S:Sim G w0 st a w β Lf) {t:TypeId} {parts:Array (Nat×Operand)} {i:TyI} {ps:List (Nat×List C)} {fs pl:List (Nat×Nat)} {cs:List C} (ho:o.op= .build t parts) (hi:E.ty t=some i) (hps:evParts st parts.toList=some ps)
 (hk:i.k= .agg fs) (hpl:placesOf E fs=some pl) (hcs:fillP pl (i.zero.map .v) ps=some cs):∃u,(∀w2,(execOp a.eval o).run E.P w2= .ok (.value u) w2)/\VA w (imm G st Lf) β (.agg cs) u/\(AV.agg cs).lt st.nx:=by
 have hT:=hE.ty _ _ hi;obtain ⟨fields,hu,hf⟩:=hT.struct hk;obtain ⟨h1,h2⟩:=evParts_sound S _ _ hps;obtain ⟨vs,h3,h4⟩:=fill_sound (place:=(pl.toArray[·]?)) (fun n p hp=>by simpa using hp) ps _ _ cs i.zero h1 (all2_vals hT.zone) hcs
 refine ⟨.agg vs.toArray,fun w2=> ?_,⟨vs,rfl,h4⟩,fillP_lt ps _ cs h2 (lt_vals _ _) hcs⟩
 obtain ⟨z,hz,hr⟩:=hT.run_zero w2;have hz':z.cells=i.zero.toArray:=by rw [<-hz]
 have hm:=places_sound hE fs pl fields.toList hpl hf w2;have hm':(fields.mapM fun f=>(do pure (f.offset,<-sizeOf f.type):Sem (Nat×Nat))).run E.P w2= .ok pl.toArray w2:=by
  rw [<-Array.toArray_toList (xs:=fields),List.mapM_toArray,Sem.run_map,hm];rfl
 have h3':Instr.fill (fun x=>pl.toArray[x]?) i.zero.toArray (parts.map fun (i,x)=>(i,a.eval x)).toList=some vs.toArray:=by
  rw [Array.toList_map];exact h3
 simp only [execOp,ho,Instr.build,aY,hr,oZ,run_underlying hu,hm',hz',h3',Sem.run_pure]
theorem wopv_build (hE:EnvOk E) (S:Sim G w0 st a w β Lf) {t:TypeId} {parts:Array (Nat×Operand)} (ho:o.op= .build t parts) (h:wopv E st o K=some r):GivesW G E st a w β Lf o K r:=by
 simp only [wopv,ho] at h;split at h;rotate_left;cases h
 rename_i i ps hi hps;split at h;rotate_left;cases h
 rename_i fs hk;split at h;rotate_left;cases h
 rename_i pl hpl;split at h;rotate_left;cases h
 rename_i cs hcs;obtain ⟨u,h1,h2,h3⟩:=build_valW hE S ho hi hps hk hpl hcs;exact ⟨_,u,h1,h2,h3,h⟩
theorem wopv_load (hE:EnvOk E) (S:Sim G w0 st a w β Lf) {t:TypeId} {x:Operand} (ho:o.op= .load t x) (h:wopv E st o K=some r):GivesH G E st a w β Lf o K r:=by
  simp only [wopv,ho] at h;split at h
  · rename_i i cs hi hv;obtain ⟨hva,hlt⟩:=S.ev hv;have hr:rep w (imm G st Lf) (.at_ cs) (a.eval x):=hva;simp only [rep] at hr;obtain ⟨ad,us,hu,h1,h2,h3⟩:=hr;split at h;rotate_left;cases h
    rename_i hz;split at h;rotate_left;cases h
    rename_i v hpk;have hall:All2 (VC w (imm G st Lf) β) cs us:=All2.of_repL h1;have h5:All2 (VC w (imm G st Lf) β) (cs.take i.sz) (us.take i.sz):=hall.take _;have hl:us.length=cs.length:=hall.len.symm;refine ⟨v,valOf i.isAgg (us.take i.sz),[],by simp,fun w2 hw2 _ _=> ?_,pack_VA hpk (VP_valOf h5 ?_),pack_lt hpk ?_,h⟩
    · have hr:=run_loadAt (hE.ty _ _ hi) (w:=w2) (ad:=ad) (us:=us.take i.sz) (by simp;omega) (fun j u hj=>by
        rw [lZ] at hj
        split at hj
        · refine (World.cell?_of_block ?_).trans (h3 _ _ hj)
          have hne:cs≠[]:=by
            rintro rfl
            simp only [repL] at h1;subst h1;simp at hj
          rw [block_add];exact hw2 _ (h2 hne).1 (h2 hne).2
        · cases hj)
      simp [execOp,ho,hu,hr]
    · intro hb';rw [hb'] at hpk;exact pack_len hpk
    · intro c hc;have hc':=List.mem_of_mem_take hc
      have:∀(cs:List C) (us:List Value),repL w (imm G st Lf) cs us->∀c ∈ cs,c.hs=[]:=by
        intro cs;induction cs with
        | nil=>intro us _ c hc;simp at hc
        | cons d ds ih=>
          intro us hus c hc;simp only [repL] at hus;obtain ⟨u,vs,_,hd,hds⟩:=hus;rcases zZ.1 hc with rfl | hc
          · cases c<;>first | rfl | (simp only [rep] at hd)
          · exact ih vs hds c hc
      intro h' hh';rw [this cs us h1 c hc'] at hh';simp at hh'
  · rename_i i hh off hi hv;split at h;rotate_left;cases h
    rename_i cs hob;split at h;rotate_left;cases h
    rename_i n hn;split at h;rotate_left;cases h
    rename_i hz;split at h;cases h
    rename_i hag;have hag:i.isAgg=false:=by simpa using hag
    obtain ⟨hva,hlt⟩:=S.ev hv;obtain ⟨b,hb,hu⟩:VC w (imm G st Lf) β (.ptr hh off) (a.eval x):=hva;obtain ⟨b',ty,us,g1,g2,g3,g4⟩:=S.obs _ _ hob;obtain ⟨u,hu',hvc⟩:=g4.at off _ hn;have hvc':u=β n/\∃A n c,u= .slice A n c:=hvc;have hmem:C.ref n ∈ cs:=iZ hn;refine ⟨.c (.ref n),u,[],by simp,fun w2 _ hw2 _=> ?_,(show VA w (imm G st Lf) β (.c (.ref n)) u from hvc),(show AV.lt st.nx (.c (.ref n)) from (S.olt _ _ hob).2 _ hmem),h⟩
    have hc:w2.cell? ⟨b,off,none⟩=some (β n):=hw2 (hh,off,n) (by simp [heldOf,ho,hv,hob,hn]) b hb
    have hr:=run_loadAt (hE.ty _ _ hi) (w:=w2) (ad:=⟨b,off,none⟩) (us:=[u]) (by simp [hz]) (fun j v hj=>by
      cases j with
      | zero=>
        simp only [List.getElem?_cons_zero,nZ] at hj
        rw [addr_add,Nat.add_zero,hc,<-hj,hvc'.1]
      | succ j=>simp at hj)
    simp [execOp,ho,hu,hr,valOf,hag]
  · rename_i i hh sz n oo hi hv;obtain ⟨hva,hlt⟩:=S.ev hv;obtain ⟨g,off,n',c',hb,hu⟩:∃g off n' c',β hh= .slice (some ⟨g,off,none⟩) n' c'/\a.eval x= .pointer (some ⟨g,off+(n*sz+oo),none⟩):=hva;split at h;rotate_left;cases h
    rename_i e sh xs hob;split at h;rotate_left;cases h
    rename_i hsz;split at h;rotate_left;cases h
    rename_i y hy;simp only [sZ,pZ] at hsz;obtain ⟨rfl,hflat⟩:=hsz;split at h;rotate_left;cases h
    rename_i hz;split at h;rotate_left;cases h
    rename_i v hpk;have hor:ownRow w e sh.n (ownT w sh) xs (β hh) (Lf hh):=S.obs _ _ hob;rcases hor with ⟨rfl,_⟩ | ⟨g',off',cap,cur,L',hgv,hg,_,_,_,_,hrow⟩
    · simp at hy
    · rw [hb] at hgv
      injection hgv with hgv _ _
      injection hgv with hgv
      injection hgv with hgv hgo
      subst hgv hgo;obtain ⟨L1,_,hown⟩:=rowO_at hrow n y hy;have hrt:repT w (imm G st Lf) sh y _:=repT_flat (ok:=fun _=>True) sh y _ hflat (ownT_reads sh y _ L1 (fun _ _=>trivial) hown)
      have hall:All2 (VC w (imm G st Lf) β) (avs sh y) _:=All2.of_repL (rep_avs sh y _ hrt);have hlen:=repT_len _ _ _ hrt;have hz':oo+i.sz<=(avs sh y).length:=by rw [hall.len,hlen];exact hz
      obtain ⟨h5,h6⟩:=all2_drop_add hall hz'
      let us:List Value:=(((((cur.toList.drop off).drop (n*sh.n)).take sh.n)).drop oo).take i.sz
      have hcell:∀(j:Nat) (u:Value),us[j]? =some u->w.cell? ((⟨g,off+(n*sh.n+oo),none⟩:Addr).add j)=some u:=fun j u hj=>by
        rw [addr_add,cell_of_row w g _ cur e (0,0) hg];simp only [us] at hj;rw [lZ] at hj
        split at hj;rotate_left;cases hj
        rw [mZ,lZ] at hj
        split at hj;rotate_left;cases hj
        rw [mZ,mZ] at hj
        rw [Nat.add_assoc,Nat.add_assoc];simpa using hj
      refine ⟨v,valOf i.isAgg us,us.zipIdx.map fun p=>((⟨g,off+(n*sh.n+oo),none⟩:Addr).add p.2,p.1),fun p hp=> ?_,fun w2 _ _ hw2=> ?_,pack_VA hpk (VP_valOf h5 ?_),pack_lt hpk (lt_drop_take (avs_lt _ sh y)),h⟩
      · obtain ⟨q,hq,rfl⟩:=List.mem_map.1 hp;have hq':=List.mem_zipIdx_iff_getElem?.1 hq;refine ⟨by simp [elOf,ho,hv],?_,hcell _ _ hq'⟩
        rw [block_add];exact (bZ.1 hg).1
      · have hr:=run_loadAt (hE.ty _ _ hi) (w:=w2) (ad:=⟨g,off+(n*sh.n+oo),none⟩) (us:=us) h6 (fun j u hj=>
          hw2 (_,u) (List.mem_map.2 ⟨(u,j),List.mem_zipIdx_iff_getElem?.2 hj,rfl⟩))
        simp only [execOp,ho,hu,aY,hr,oZ,Sem.run_pure]
      · intro hb';rw [hb'] at hpk;exact pack_len hpk
  · cases h
theorem bin_nat {R:Type} {op:BinOp} {x y:Value} {K:Value->Option R} {r:R} (h:bin op x y K=some r):∃v,bin op x y some=some v/\K v=some r:=by
 unfold bin at h ⊢;split at h
 · split at h<;>(repeat' split at h)<;>first | (cases h;done) | (simp_all;done)
 · split at h<;>(repeat' split at h)<;>first | (cases h;done) | (simp_all;done)
 · cases h
theorem wopv_bin (S:Sim G w0 st a w β Lf) {op:BinOp} {t u:TypeId} {x y:Operand} (ho:o.op= .binOp op t x y u) (h:wopv E st o K=some r):GivesW G E st a w β Lf o K r:=by
 simp only [wopv,ho] at h;split at h;rotate_left;cases h
 rename_i p q hp hq;split at h;cases h
 obtain ⟨v,h1,h2⟩:=bin_nat h;have key:∀w2,(do eqGuard op t x y p q;binOp op t p q:Sem Value).run E.P w2= .ok v w2/\v.oneCell'=true:=fun w2=>by
  obtain ⟨v',g1,g2,g3⟩:=bin_sound (P:=E.P) h1 t x y w2;cases g3
  exact ⟨g1,g2⟩
 refine ⟨_,v,fun w2=> ?_,VA.scalar (key w).2,AV.lt_v _ _,h2⟩
 have:=(key w2).1
 simp only [execOp,ho,S.sc hp,S.sc hq,aY,this,oZ,Sem.run_pure]
theorem wopv_sound (hE:EnvOk E) (S:Sim G w0 st a w β Lf) (hp:pureW o.op=true) (h:wopv E st o K=some r):GivesH G E st a w β Lf o K r:=by
 cases ho:o.op<;>rw [ho] at hp<;>simp [pureW] at hp
 case build t ps=>exact (wopv_build hE S ho h).held
 case load t x=>exact wopv_load hE S ho h
 case binOp op t x y u=>exact (wopv_bin S ho h).held
 case fieldAddr s x n=>exact (givesW_fieldAddr (N:=none) hE S ho (by simpa only [wopv,ho] using h)).held
 case indexAddr t x n=>exact (givesW_indexAddr (N:=none) hE S ho (by simpa only [wopv,ho] using h)).held
 case slice t x lo hi mx=>exact (givesW_slice (N:=none) hE S ho (by simpa only [wopv,ho] using h)).held
 all_goals
  have h':opv E st o K none=some r:=by simpa only [wopv,ho] using h
  rcases opv_sound hE S h' with ⟨av,u,q1,q2,q3,q4⟩ | q
  · exact ⟨av,u,[],by simp,fun w2 _ _ _=>pureF_run (by rw [ho];rfl) q1 w2,q2,q3,q4⟩
  · cases q
end
end Go.V
namespace Go.V
open Go.RowKit (Below)
section
variable {P:Program} {ops:Array Oper} {Q:Exit->Act->World->Prop} {md:Region.Mode} {S S':World->Prop}
theorem wpAnyH_weak (hs:∀w,S' w->S w):∀(fuel:Nat) (listed:Array Bool) (a:Act) (w:World),wpAnyH P md ops Q S' fuel listed a w->wpAnyH P md ops Q S fuel listed a w
 | 0,_,_,_,h=>h
 | fuel+1,_,_,_,h=>⟨h.1,fun i hi=>wpOp_mono (fun a' w' h'=>⟨hs _ h'.1,wpAnyH_weak hs fuel _ a' w' h'.2⟩) (h.2 i hi)⟩
end
theorem ordOk_cons {ops:Array Oper} {B:Array Nat} {A Z F:List Nat} {j:Nat} {r:List Nat} (h:ordOk ops B A Z F (j::r)=true):∃o,ops[j]? =some o/\(∀e ∈ o.after,Region.binds .any e=true->e.on ∉ j::r/\e.on<ops.size)/\
 (F.contains j=true->pureW o.op=true/\o.guard=none/\A.contains j=false/\Z.contains j=false/\∀i q,i ∈ r->ops[i]? =some q->(∀e ∈ q.after,Region.binds .any e=true->e.on≠j)->o.apart ops q=true)/\
 (F.contains j=false->∀i ∈ r,A.contains i=false->Z.contains i=false->(B.getD i 0).testBit j=true)/\j ∉ r/\ordOk ops B A Z F r=true:=by
 simp only [ordOk] at h;split at h;cases h
 rename_i o ho;simp only [sZ] at h;obtain ⟨h1,h2,h3,h4⟩:=h;refine ⟨o,ho,fun e he hb=> ?_,fun hF=> ?_,fun hF i hi hA hZ=> ?_,by simpa using h3,h4⟩
 · have:=uZ.1 h1 e.on (List.mem_map.2 ⟨e,List.mem_filter.2 ⟨by simpa using he,hb⟩,rfl⟩)
   simp only [sZ,Bool.not_eq_true',pZ] at this;refine ⟨fun hm=> ?_,this.2⟩
   have hc:(j::r).contains e.on=true:=by simpa using hm
   rw [hc] at this;cases this.1
 · rw [hF,dY rfl] at h2;simp only [sZ] at h2;obtain ⟨g1,g2,g3,g4,g5⟩:=h2;refine ⟨g1,by simpa using g2,by simpa using g3,by simpa using g4,fun i q hi hq hne=> ?_⟩
   have:=uZ.1 g5 i hi
   rw [hq] at this;simp only [Bool.or_eq_true] at this;rcases this with this | this
   · exfalso;have hm:j ∈ bindsOn q:=by simpa using this
     obtain ⟨e,he,hej⟩:=List.mem_map.1 hm;obtain ⟨h5,h6⟩:=List.mem_filter.1 he;exact hne e (by simpa using h5) h6 hej
   · exact this
 · rw [hF,eY (by decide)] at h2
   have:=uZ.1 h2 i hi
   rw [hA,hZ] at this;simpa using this
section
variable {E:Env} {G G0:Nat->Prop} {w0 w00:Base} {st:St} {a:Act} {w:World} {β:Nat->Value} {Lf:Nat->List Nat} {R:Type} {r:R} {o:Oper} {call:CallD E} {K:St->Option R} {X:Act->World->Prop} {Q:Exit->Act->World->Prop}
theorem Sim.hid (S:Sim G w0 st a w β Lf) {d:Nat} (hd:look st.sl d=none) (u:Value):Sim G w0 st (a.put (some d) u) w β Lf:=by
 refine { fresh:=S.fresh,below:=S.below,defers:=by rw [put_defers];exact S.defers,size:=by rw [put_size];exact S.size,slots:=fun t v h=> ?_,slt:=S.slt,obs:=S.obs,olt:=S.olt,new:=S.new,nodup:=S.nodup,disj:=S.disj,pin:=S.pin,pinx:=S.pinx }
 have hne:t≠d:=fun e=>by rw [e,hd] at h;cases h
 rw [put_tmps,getD_set_ne _ _ _ _ hne];exact S.slots t v h
structure EarlyZ (E:Env) (ops:Array Oper) (a:Act) (j:Nat):Prop where
 op:∃o t n ps d A,ops[j]? =some o/\o.op= .buildSlice t n ps/\isEmptyRow o.op=true/\o.guard=none/\o.dst=some d/\a.tmps.getD d undef= .slice A 0 0
theorem EarlyZ.put {ops:Array Oper} {j:Nat} {a':Act} (h:EarlyZ E ops a j) {dst:Option Tmp} (hd:∀d,W2 ops j=some d->dst≠some d) (ha:∀t,dst≠some t->a'.tmps.getD t undef=a.tmps.getD t undef):EarlyZ E ops a' j:=by
 obtain ⟨o,t,n,ps,d,A,g1,g2,g3,g4,g5,g6⟩:=h;exact ⟨o,t,n,ps,d,A,g1,g2,g3,g4,g5,(ha d (hd d (by simp [W2,g1,g5]))).trans g6⟩
theorem Sim.addRow (S:Sim G w0 st a w β Lf) (e:Nat) (sh:Sh) {d:Nat} (hd:d<st.nt) {A:Option Addr} (hs:a.tmps.getD d undef= .slice A 0 0):
 Sim G w0 (st.new (some d) (.c (.ref st.nx)) (.arr e sh [])) a w (upd β st.nx (.slice A 0 0)) (upd Lf st.nx []):=by
 obtain ⟨h1,h2⟩:=S.apart (w':=w) (Below.refl _ w) (L:=[]) (by simp)
 have S1:=S.add (o:= .arr e sh []) (u:= .slice A 0 0) (L:=[]) (by simp) (by simp) List.nodup_nil trivial h1 h2 (.inl ⟨rfl,rfl,A,rfl⟩)
 rw [new_eq];have e1:(({ st with ob:=put st.nx (.arr e sh []) st.ob,nx:=st.nx+1 }:St).set (some d) (.c (.ref st.nx)))={ ({ st with ob:=put st.nx (.arr e sh []) st.ob,nx:=st.nx+1 }:St) with sl:=put d (.c (.ref st.nx)) st.sl }:=by
  simp only [St.set];rw [dY hd]
 rw [e1];refine S1.reslot (t:=d) (v:= .c (.ref st.nx)) ?_ ?_
 · exact ⟨by rw [hs];exact (Z2 _ _ _).symm,A,0,0,hs⟩
 · intro h hh;simp [C.hs] at hh;subst hh;exact Nat.lt_succ_self _
theorem empty_op {P:Program} {t:TypeId} {n:Nat} {ps:Array (Nat×Operand)} {e:TypeId} {i:TyI} {ev:Operand->Value} {o:Oper} (ho:o.op= .buildSlice t n ps) (hz:isEmptyRow o.op=true) (ht:P.underlying t=some (.slice e)) (hT:TyOk P e i) (w:World):
 (execOp ev o).run P w= .ok (.value (.slice (some ⟨w.heap.size,0,none⟩) 0 0)) (w.alloc (.cells #[] e)):=by
 rw [ho] at hz;simp only [isEmptyRow,sZ,beq_iff_eq,Array.isEmpty_iff] at hz;obtain ⟨rfl,rfl⟩:=hz;have hl:¬(0*i.sz>2^24):=by simp
 simp only [execOp,ho,Instr.buildSlice,aY,run_underlying ht,oZ,hT.run_sizeOf,eY hl,Nat.zero_mul,if_true,Sem.run_pure];simp [Instr.fill,newRow,show Array.range 0=#[] from rfl]
theorem wflow_held {ops:Array Oper} {A Z F:List Nat} {T:List (Nat×Nat×Nat)} {l:List Nat} (h:wflow E call ops A Z F T l st K=some r):heldOk st T=true:=by
 cases l<;>simp only [wflow] at h<;>(split at h<;>first | assumption | cases h)
theorem wflow_cons {ops:Array Oper} {A Z F:List Nat} {T:List (Nat×Nat×Nat)} {l:List Nat} {j:Nat} (h:wflow E call ops A Z F T (j::l) st K=some r):(∀i ∈ j::l,(A.contains i || Z.contains i)=true->∃d,W2 ops i=some d/\look st.sl d=none/\d<st.nt/\(flTy E ops i || zTy E ops i)=true)/\∃o,ops[j]? =some o/\
 (if (A.contains j || Z.contains j)=true then eff E call st o (fun st=>wflow E call ops A Z F T l st K)=some r
  else if F.contains j=true then (elOf st o=true->∀i ∈ l,F.contains i=false->∀q,ops[i]? =some q->j ∈ bindsOn q)/\wopv E st o (fun v=>wflow E call ops A Z F (heldOf st o++T) l (st.set o.dst v) K)=some r
  else ∃b,guard? st ops o=some b/\(if b=true then vstep E call (st.know ops o true) o (fun st=>wflow E call ops A Z F T l st K) else wflow E call ops A Z F T l ((st.know ops o false).unset o.dst) K)=some r):=by
 simp only [wflow] at h;split at h
 case isFalse=>cases h
 split at h;rotate_left;cases h
 rename_i hA;refine ⟨fun i hi hn=> ?_,?_⟩
 · have h1:=uZ.1 hA i hi;rw [hn] at h1;simp only [Bool.not_true,Bool.false_or] at h1;split at h1;rotate_left;cases h1
   rename_i d hd;simp only [sZ,Option.isNone_iff_eq_none,pZ] at h1;exact ⟨d,hd,h1.1,h1.2.1,h1.2.2⟩
 · split at h;rotate_left;cases h
   rename_i o ho;refine ⟨o,ho,?_⟩
   split at h
   · rename_i hc;rw [dY hc];exact h
   · rename_i hc;rw [eY hc];split at h
     · rename_i hf;rw [dY hf];split at h
       case isFalse=>cases h
       rename_i hel;refine ⟨fun he i hi hF q hq=> ?_,h⟩
       rw [he,Bool.not_true,Bool.false_or] at hel
       have:=uZ.1 hel i hi
       rw [hF,hq,Bool.false_or] at this;simpa using this
     · rename_i hf;rw [eY hf];split at h;rotate_left;cases h
       rename_i b hb;exact ⟨b,hb,h⟩
theorem ordOk_mem {ops:Array Oper} {B:Array Nat} {A Z F:List Nat}:∀{l:List Nat},ordOk ops B A Z F l=true->∀j ∈ l,F.contains j=true->(A.contains j || Z.contains j)=false
  | [],_,j,hj,_=>by simp at hj
  | n::l,h,j,hj,hF=>by
    obtain ⟨o,_,_,h1,_,_,h2⟩:=ordOk_cons h;rcases zZ.1 hj with rfl | hj
    · obtain ⟨_,_,h3,h4,_⟩:=h1 hF;rw [h3,h4];rfl
    · exact ordOk_mem h2 j hj hF
def HeldD (β:Nat->Value) (T:List (Nat×Nat×Nat)) (D:List (Addr×Value)):Prop:=∀p ∈ D,∃q ∈ T,∃b,β q.1= .pointer (some ⟨b,0,none⟩)/\p=(⟨b,q.2.1,none⟩,β q.2.2)
theorem HeldD.up {β β':Nat->Value} {T:List (Nat×Nat×Nat)} {D:List (Addr×Value)} (h:HeldD β T D) (S:Sim G w0 st a w β Lf) (hk:heldOk st T=true) (hβ:∀i,i<st.nx->β' i=β i):HeldD β' T D:=by
 intro p hp;obtain ⟨q,hq,b,h1,h2⟩:=h p hp;obtain ⟨g1,g2,_⟩:=held_cell S hk q hq;exact ⟨q,hq,b,by rw [hβ _ g1];exact h1,by rw [hβ _ g2];exact h2⟩
theorem HeldD.cells {β:Nat->Value} {T:List (Nat×Nat×Nat)} {D:List (Addr×Value)} (h:HeldD β T D) (S:Sim G w0 st a w β Lf) (hk:heldOk st T=true):∀p ∈ D,p.1.block<w.heap.size/\w.cell? p.1=some p.2:=by
 intro p hp;obtain ⟨q,hq,b,h1,rfl⟩:=h p hp;obtain ⟨g1,g2,b',g3,g4,g5⟩:=held_cell S hk q hq;rw [h1] at g3
 injection g3 with g3
 injection g3 with g3
 cases g3
 exact ⟨g4,g5⟩
def HS (F l:List Nat) (H:Nat->Prop) (hv:Nat->Option Obj) (D RD:List (Addr×Value)):Array Bool->World->Prop:=fun L w'=>(∀x,H x->w'.heap[x]? =hv x)/\(∀p ∈ D,w'.cell? p.1=some p.2)/\((∀i ∈ l,F.contains i=false->L.getD i false=false)->∀p ∈ RD,w'.cell? p.1=some p.2)
theorem wide_tail (hE:EnvOk E) {ops:Array Oper} {A Z F:List Nat} (hC:CallAt E call w00) (hG0:∀k,(w00.w.heap.size<=k\/k ∈ w00.T)->G0 k) (hsel:Region.noSelect ops=true)
    (hAZ:∀j,(A.contains j || Z.contains j)=true->∃o d,ops[j]? =some o/\o.guard=none/\o.dst=some d/\(∀i,i≠j->W2 ops i≠some d)/\(A.contains j=true->∃t,o.op= .alloc t)/\(A.contains j=false->isEmptyRow o.op=true))
    (hQ:∀st' a' w',SimE G0 w00 st' a' w'->K st'=some r->Q .normal a' w') (hP:∀c a w,¬Q (.panic c) a w):
    ∀(k:Nat) (l:List Nat) (fuel:Nat) (listed:Array Bool) (st:St) (a:Act) (w:World) (G:Nat->Prop) (w0:Base) (β:Nat->Value) (Lf:Nat->List Nat) (bl:Nat->Nat) (H:Nat->Prop) (hv:Nat->Option Obj) (T:List (Nat×Nat×Nat)) (D RD:List (Addr×Value)),fuel+l.length<=k->ordOk ops (Region.before ops) A Z F l=true->(∀j ∈ l,j<ops.size)->listed.toList.count false<=fuel->listed.size=ops.size->
      (∀j,j<ops.size->j ∉ l->listed.getD j false=true)->(∀j ∈ l,listed.getD j false=true->(A.contains j || Z.contains j)=true)->(Closed ops fun j=>listed.getD j false=true)->(∀j ∈ l,listed.getD j false=true->A.contains j=true->Early E ops w00 w0 G a j (bl j))->
      (∀j ∈ l,listed.getD j false=true->A.contains j=false->EarlyZ E ops a j)->
      (∀j ∈ l,∀j' ∈ l,listed.getD j false=true->listed.getD j' false=true->A.contains j=true->A.contains j'=true->bl j=bl j'->j=j')->(∀x,G0 x↔G x\/∃j,j ∈ l/\listed.getD j false=true/\A.contains j=true/\x=bl j)->Link w00 w0->Sim G w0 st a w β Lf->
      (∀x,H x->imm G st Lf x/\x<w.heap.size/\w.heap[x]? =hv x)->HeldD β T D->(∀p ∈ RD,p.1.block<w.heap.size/\w.cell? p.1=some p.2)->wflow E call ops A Z F T l st K=some r->wpAnyL E.P .any ops Q (HS F l H hv D RD) fuel listed a w
  | k,[],fuel,listed,st,a,w,G,w0,β,Lf,bl,H,hv,T,D,RD,hk,hord,hlt,hfu,hsz,hl,hA,hcl,hEa,hEz,hinj,hG,hL,S,hH,hD,hRD,h=>by
    have e:G=G0:=by
      funext x
      refine propext ⟨fun hx=>(hG x).2 (.inl hx),fun hx=> ?_⟩
      rcases (hG x).1 hx with h1 | ⟨j,hj,_⟩
      · exact h1
      · simp at hj
    subst e;simp only [wflow] at h;split at h
    case isFalse=>cases h
    refine wpAnyL_done ?_ (hQ _ _ _ ⟨β,Lf,S.link hL hG0⟩ h) fuel
    refine List.eq_nil_iff_forall_not_mem.2 fun j hj=> ?_
    obtain ⟨h1,o,ho,_⟩:=mem_ready.1 hj;have hj':=(bZ.1 ho).1
    exact (T2 (by omega)).1 h1 (hl j hj' (by simp))
  | 0,n::l,fuel,listed,st,a,w,G,w0,β,Lf,bl,H,hv,T,D,RD,hk,hord,hlt,hfu,hsz,hl,hA,hcl,hEa,hEz,hinj,hG,hL,S,hH,hD,hRD,h=>by
    simp at hk
  | k+1,n::l,fuel,listed,st,a,w,G,w0,β,Lf,bl,H,hv,T,D,RD,hk,hord,hlt,hfu,hsz,hl,hA,hcl,hEa,hEz,hinj,hG,hL,S,hH,hD,hRD,h=>by
    obtain ⟨o,hi,hedges,hordF,hordC,hnl,hordr⟩:=ordOk_cons hord;have hns':n<ops.size:=hlt n (by simp)
    have hlt':∀j ∈ l,j<ops.size:=fun j hj=>hlt j (fZ _ hj)
    have hflow:=h;have hheld:=wflow_held h;obtain ⟨hfree,o2,ho2,h⟩:=wflow_cons h;rw [hi] at ho2;cases ho2
    have hkl:fuel+l.length<=k:=by simp at hk;omega
    have hreset:F.contains n=false->∀(H:Nat->Prop) (hv:Nat->Option Obj) (D RD:List (Addr×Value)) {M:Array Bool},M.getD n false=true->∀L w,(∀j,M.getD j false=true->L.getD j false=true)->HS F l H hv D [] L w->HS F (n::l) H hv D RD L w:=fun hFn H hv D RD M hM L w hL h=>
      ⟨h.1,h.2.1,fun hp=>absurd (hp n (by simp) hFn) (by rw [hL n hM];decide)⟩
    by_cases hln:listed.getD n false=true
    · -- the machine has run it already
      have hAn:=hA n (by simp) hln
      have hFAZ:F.contains n=false:=by
        cases hFn:F.contains n with
        | false=>rfl
        | true=>
          obtain ⟨_,_,p3,p3',_⟩:=hordF hFn;rw [p3,p3'] at hAn;cases hAn
      rw [dY hAn] at h;obtain ⟨o',d0,f1,f2,f3,f4,f5,f6⟩:=hAZ n hAn;rw [hi] at f1;cases f1
      obtain ⟨d1,e1,e2,e3,_⟩:=hfree n (by simp) hAn
      have hdd:d1=d0:=by
        have:W2 ops n=some d0:=by simp [W2,hi,f3]
        rw [this] at e1;exact (xZ e1).symm
      subst hdd;have hl':∀j,j<ops.size->j ∉ l->listed.getD j false=true:=fun j hj hjl=>by
        by_cases e:j=n
        · rw [e];exact hln
        · exact hl j hj (by simp [e,hjl])
      have hA':∀j ∈ l,listed.getD j false=true->(A.contains j || Z.contains j)=true:=fun j hj=>hA j (fZ _ hj)
      cases hAA:A.contains n with
      | true=>
        have hE0:=hEa n (by simp) hln hAA
        obtain ⟨q1,q2,q3,o',t,i,d,g1,g2,g3,g4,g5,g6⟩:=hE0;rw [hi] at g1;cases g1
        have hdd:d1=d:=by rw [f3] at g3;exact xZ g3
        subst hdd;have hblt:bl n<w0.w.heap.size:=(bZ.1 g5).1
        have hheap:w.heap[bl n]? =some (.cells i.zero.toArray t (0,0)):=(S.below.block _ hblt q2).trans g5;have hT:=hE.ty _ _ g4;simp only [eff,g2,g4] at h;rw [g3] at h;have S':=S.adopt (jZ hblt S.below.size) q3 hheap (all2_vals hT.zone) (lt_vals _ _) e3 g6;refine wpAnyL_weak _ _ _ _ (hreset hFAZ H hv D RD hln) ?_
        refine wide_tail hE hC hG0 hsel hAZ hQ hP k l fuel listed _ a w (fun x=>G x\/x=bl n) _ _ _ bl H hv T D [] hkl hordr hlt' hfu hsz hl' hA' hcl (fun j hj hlj hAj=> ?_) (fun j hj=>hEz j (fZ _ hj)) (fun j hj j' hj'=>hinj j (fZ _ hj) j' (fZ _ hj')) (fun x=> ?_) (hL.adopt S q1) S' (fun x hx=> ?_) (hD.up S hheld fun i hi=>upd_lt _ _ hi) (by simp) h
        · have hj0:=hEa j (fZ _ hj) hlj hAj;have hne:bl j≠bl n:=fun e=>by
            have:=hinj j (fZ _ hj) n (by simp) hlj hln hAj hAA e
            rw [this] at hj;exact hnl hj
          refine hj0.base S (fun _ _=>rfl) (fun k hk=> ?_) fun hx=> ?_
          · rcases zZ.1 hk with h | h
            · exact .inr fun e=>hne (by rw [<-e,h])
            · exact .inl h
          · rcases hx with hx | hx
            · exact hj0.nG hx
            · exact hne hx
        · rw [hG x];constructor
          · rintro (h1 | ⟨j,h1,h2,h3,h4⟩)
            · exact .inl (.inl h1)
            · rcases zZ.1 h1 with e | h1
              · subst e;exact .inl (.inr h4)
              · exact .inr ⟨j,h1,h2,h3,h4⟩
          · rintro ((h1 | h1) | ⟨j,h1,h2,h3,h4⟩)
            · exact .inl h1
            · exact .inr ⟨n,by simp,hln,hAA,h1⟩
            · exact .inr ⟨j,fZ _ h1,h2,h3,h4⟩
        · obtain ⟨h1,h2,h3⟩:=hH x hx;refine ⟨⟨.inl h1.1,fun hh oo hoo hm=> ?_⟩,h2,h3⟩
          simp only [St.new] at hoo;by_cases e:hh=st.nx
          · subst e;rw [Z2,kZ] at hm;exact q3 (by rw [<-hm];exact h1.1)
          · rw [look_put_ne _ _ e] at hoo;rw [upd_ne _ _ e] at hm;exact h1.2 hh oo hoo hm
      | false=>
        obtain ⟨o',t,m,ps,d,A0,g1,g2,g3,g4,g5,g6⟩:=hEz n (by simp) hln hAA
        rw [hi] at g1;cases g1
        have hdd:d1=d:=by rw [f3] at g5;exact xZ g5
        subst hdd;have hz:=g3;rw [g2] at hz;simp only [isEmptyRow,sZ,beq_iff_eq,Array.isEmpty_iff] at hz;obtain ⟨rfl,rfl⟩:=hz;simp only [eff,g2] at h;split at h
        case h_2=>cases h
        rename_i e i ps hel hps;simp only [evParts,Array.toList_empty,nZ] at hps;subst hps;simp only [movedParts,Nat.zero_mul,Nat.zero_le,if_true,List.length_nil] at h;rw [f3] at h;have S':=S.addRow e i.sh e3 g6;refine wpAnyL_weak _ _ _ _ (hreset hFAZ H hv D RD hln) ?_
        refine wide_tail hE hC hG0 hsel hAZ hQ hP k l fuel listed _ a w G _ _ _ bl H hv T D [] hkl hordr hlt' hfu hsz hl' hA' hcl (fun j hj hlj hAj=>hEa j (fZ _ hj) hlj hAj) (fun j hj=>hEz j (fZ _ hj)) (fun j hj j' hj'=>hinj j (fZ _ hj) j' (fZ _ hj')) (fun x=> ?_) hL S' (fun x hx=> ?_) (hD.up S hheld fun i hi=>upd_lt _ _ hi) (by simp) h
        · rw [hG x];constructor
          · rintro (h1 | ⟨j,h1,h2,h3,h4⟩)
            · exact .inl h1
            · rcases zZ.1 h1 with e | h1
              · subst e;rw [hAA] at h3;cases h3
              · exact .inr ⟨j,h1,h2,h3,h4⟩
          · rintro (h1 | ⟨j,h1,h2,h3,h4⟩)
            · exact .inl h1
            · exact .inr ⟨j,fZ _ h1,h2,h3,h4⟩
        · obtain ⟨h1,h2,h3⟩:=hH x hx;refine ⟨⟨h1.1,fun hh oo hoo hm=> ?_⟩,h2,h3⟩
          simp only [St.new] at hoo;by_cases e:hh=st.nx
          · subst e;rw [Z2] at hm;simp at hm
          · rw [look_put_ne _ _ e] at hoo;rw [upd_ne _ _ e] at hm;exact h1.2 hh oo hoo hm
    · have hnr:n ∈ Region.ready .any ops listed:=by
        refine mem_ready.2 ⟨(T2 (by omega)).2 hln,o,hi,fun e he hb=> ?_⟩
        exact hl e.on (hedges e he hb).2 (hedges e he hb).1
      have hcn:=head_count listed n (mem_ready.1 hnr).1;obtain ⟨fuel,rfl⟩:∃k,fuel=k+1:=⟨fuel-1,by omega⟩
      have hcln:Closed ops fun j=>(listed.setIfInBounds n true).getD j false=true:=by
        intro j q hq hj e he hb;rw [R0 (by omega)] at hj ⊢
        rcases hj with rfl | hj
        · rw [hi] at hq;cases hq
          exact .inr (hl e.on (hedges e he hb).2 (hedges e he hb).1)
        · exact .inr (hcl j q hq hj e he hb)
      have hset0:∀j,(listed.setIfInBounds n true).getD j false=true↔(j=n\/listed.getD j false=true):=fun j=>R0 (by omega)
      have hneq:∀j ∈ l,j≠n:=fun j hj e=>hnl (by rw [<-e];exact hj)
      have go:∀(H:Nat->Prop) (hv:Nat->Option Obj) (T:List (Nat×Nat×Nat)) (D RD:List (Addr×Value)),(∀x,H x->imm G st Lf x/\x<w.heap.size/\w.heap[x]? =hv x)->heldOk st T=true->HeldD β T D->∀st' a' w',(∀p ∈ RD,p.1.block<w'.heap.size/\w'.cell? p.1=some p.2)->SimE G ⟨w,owned st Lf,st.nx,β⟩ st' a' w'->(∀t,o.dst≠some t->a'.tmps.getD t undef=a.tmps.getD t undef)->wflow E call ops A Z F T l st' K=some r->
          HS F l H hv D RD (listed.setIfInBounds n true) w'/\wpAnyL E.P .any ops Q (HS F l H hv D RD) fuel (listed.setIfInBounds n true) a' w':=by
        rintro H hv T D RD hH hheld hD st' a' w' hRD ⟨β',Lf',S'⟩ hkeep h'
        have hown:∀x,H x->x ∉ owned st Lf:=fun x hx hm=>by
          obtain ⟨h1,o1,h2,h3⟩:=mem_owned.1 hm;exact (hH x hx).1.2 h1 o1 h2 h3
        have hblk:∀x,H x->w'.heap[x]? =hv x:=fun x hx=>(S'.below.block x (hH x hx).2.1 (hown x hx)).trans (hH x hx).2.2
        have hD':HeldD β' T D:=hD.up S hheld fun i hi=>S'.pin i hi
        refine ⟨⟨hblk,fun p hp=>(hD'.cells S' (wflow_held h') p hp).2,fun _ p hp=>(hRD p hp).2⟩,?_⟩
        have S1:=S.unbase S';refine wide_tail hE hC hG0 hsel hAZ hQ hP k l fuel _ st' a' w' G w0 β' Lf' bl H hv T D RD (by omega) hordr hlt' (by omega) (by simpa using hsz) (fun j hj hjl=> ?_) (fun j hj hlj=> ?_) hcln (fun j hj hlj hAj=> ?_) (fun j hj hlj hAj=> ?_) (fun j hj j' hj' hlj hlj'=> ?_) (fun x=> ?_) hL S1 (fun x hx=> ?_) hD' hRD h'
        · rw [hset0];by_cases e:j=n
          · exact .inl e
          · exact .inr (hl j hj (by simp [e,hjl]))
        · exact hA j (fZ _ hj) (((hset0 j).1 hlj).resolve_left (hneq j hj))
        · have hlj:=((hset0 j).1 hlj).resolve_left (hneq j hj);refine (hEa j (fZ _ hj) hlj hAj).put (fun d hd he=> ?_) hkeep
          obtain ⟨_,d',g1,_,g3,g4,_⟩:=hAZ j (by rw [hAj];rfl)
          have:W2 ops j=some d':=by simp [W2,g1,g3]
          rw [this] at hd;exact g4 n (fun e=>hneq j hj e.symm) (by rw [<-hd] at he;simp [W2,hi,he])
        · have hlj:=((hset0 j).1 hlj).resolve_left (hneq j hj);have hAZj:=hA j (fZ _ hj) hlj;refine (hEz j (fZ _ hj) hlj hAj).put (fun d hd he=> ?_) hkeep
          obtain ⟨_,d',g1,_,g3,g4,_⟩:=hAZ j hAZj
          have:W2 ops j=some d':=by simp [W2,g1,g3]
          rw [this] at hd;exact g4 n (fun e=>hneq j hj e.symm) (by rw [<-hd] at he;simp [W2,hi,he])
        · exact hinj j (fZ _ hj) j' (fZ _ hj') (((hset0 j).1 hlj).resolve_left (hneq j hj)) (((hset0 j').1 hlj').resolve_left (hneq j' hj'))
        · rw [hG x];constructor
          · rintro (h1 | ⟨j,h1,h2,h3,h4⟩)
            · exact .inl h1
            · rcases zZ.1 h1 with e | h1
              · subst e;exact absurd h2 hln
              · exact .inr ⟨j,h1,(hset0 j).2 (.inr h2),h3,h4⟩
          · rintro (h1 | ⟨j,h1,h2,h3,h4⟩)
            · exact .inl h1
            · exact .inr ⟨j,fZ _ h1,((hset0 j).1 h2).resolve_left (hneq j h1),h3,h4⟩
        · refine ⟨⟨(hH x hx).1.1,fun h1 o1 h2 h3=> ?_⟩,jZ (hH x hx).2.1 S'.below.size,hblk x hx⟩
          rcases (S'.new h1 o1 h2 x h3).1 with h4 | h4
          · have:=(hH x hx).2.1
            simp only at h4
            omega
          · exact hown x hx h4
      by_cases hFn:F.contains n=true
      · obtain ⟨p1,p2,p3,p3',p4⟩:=hordF hFn;rw [eY (by rw [p3,p3'];decide),dY hFn] at h
        obtain ⟨hel,h⟩:=h;obtain ⟨av,u,RDn,q0,q1,q2,q3,q4⟩:=wopv_sound hE S p1 h;have hw:Region.wanted o (yielded ops a.tmps)=true:=by
          unfold Region.wanted;rw [p2]
        let H':Nat->Prop:=fun x=>imm G st Lf x/\x<w.heap.size
        have hheld':heldOk st (heldOf st o++T)=true:=by
          have h1:=heldOf_ok st o;unfold heldOk at h1 hheld ⊢;rw [List.all_append,h1,hheld];rfl
        let D':List (Addr×Value):=(heldOf st o).filterMap (fun q=>match β q.1 with | .pointer (some ad)=>some (⟨ad.block,q.2.1,none⟩,β q.2.2) | _=>none)++D
        have hDn:∀q ∈ heldOf st o,∀b,β q.1= .pointer (some ⟨b,0,none⟩)->((⟨b,q.2.1,none⟩,β q.2.2):Addr×Value) ∈ D':=fun q hq b hb=>by
          refine gZ _ (List.mem_filterMap.2 ⟨q,hq,?_⟩)
          rw [hb]
        have hD':HeldD β (heldOf st o++T) D':=by
          intro p hp;rcases wZ.1 hp with hp | hp
          · obtain ⟨q,hq,hpq⟩:=List.mem_filterMap.1 hp;obtain ⟨_,_,b,hb,_⟩:=held_cell S hheld' q (gZ _ hq);rw [hb] at hpq;exact ⟨q,gZ _ hq,b,hb,(xZ hpq).symm⟩
          · obtain ⟨q,hq,b,h1,h2⟩:=hD p hp;exact ⟨q,eZ _ hq,b,h1,h2⟩
        have hRD':∀p ∈ RDn++RD,p.1.block<w.heap.size/\w.cell? p.1=some p.2:=fun p hp=>(wZ.1 hp).elim (fun hp=>(q0 p hp).2) (hRD p)
        have hgo:=go H' (fun x=>w.heap[x]?) _ D' (RDn++RD) (fun x hx=>⟨hx.1,hx.2,rfl⟩) hheld' hD' _ _ _ hRD' ⟨β,Lf,S.rebase.set o.dst q2 q3⟩ (fun t ht=>put_getD a _ _ t ht) q4
        refine wpAnyL_weak (S':=HS F l H' (fun x=>w.heap[x]?) D' (RDn++RD)) _ _ _ _ (fun L w' _ hs=>⟨fun x hx=>(hs.1 x ⟨(hH x hx).1,(hH x hx).2.1⟩).trans (hH x hx).2.2,fun p hp=>hs.2.1 p (eZ _ hp),fun hp p hpm=>hs.2.2 (fun i hi=>hp i (fZ _ hi)) p (eZ _ hpm)⟩) ?_
        have hedge0:∀e ∈ o.after,Region.binds .any e=true->e.on≠n:=fun e he hb e0=>(hedges e he hb).1 (by rw [e0];simp)
        refine wpAnyL_first (v:=u) hi (Region.noSelect_spec hsel) (fun c a w hc=>absurd hc (hP _ _ _)) (fun L w' hs=>⟨hs.1,hs.2.1,fun hp=>hs.2.2 fun i hi hF=>by rw [Go.getD_set_ne false (fun e=>hnl (by rw [e];exact hi))];exact hp i hi hF⟩) fuel listed a w (fun j oj hj hne hun hno=> ?_) hnr (fun j oj hj hlj e he hb=> ?_) (.inl ⟨hw,fun w2 hs=> ?_⟩) hgo.1 hgo.2
        rotate_left
        · by_cases e1:j=n
          · subst e1;rw [hi] at hj;cases hj
            exact hedge0 e he hb
          · rw [Go.getD_set_ne false (fun e=>e1 e.symm)] at hlj
            intro e0
            have:=hcl j oj hj hlj e he hb
            simp only at this
            rw [e0] at this;exact hln this
        · obtain ⟨L,hNW,hs1,hs2,hs3⟩:=hs;refine q1 w2 (fun x h1 h2=>hs1 x ⟨h1,h2⟩) (fun q hq b hb=>hs2 _ (hDn q hq b hb)) fun p hp=>hs3 (fun i hi' hF=> ?_) p (gZ _ hp)
          have hq:=hel (q0 p hp).1 i hi' hF;cases hLi:L.getD i false with
          | false=>rfl
          | true=>
            have hils:=hlt i (fZ _ hi');have ho:=Array.getElem?_eq_getElem hils
            obtain ⟨e,he,hej⟩:=List.mem_map.1 (hq _ ho);obtain ⟨h5,h6⟩:=List.mem_filter.1 he;exact absurd hej (hNW i _ ho hLi e (by simpa using h5) h6)
        have hjs:=(bZ.1 hj).1
        have hjl:j ∈ n::l:=by
          apply Classical.byContradiction
          intro hjl;exact (T2 (by omega)).1 hun (hl j hjs hjl)
        exact p4 j oj ((zZ.1 hjl).resolve_left hne) hj hno
      have hFn:F.contains n=false:=by simpa using hFn
      refine ⟨fun h0=>(by rw [h0] at hnr;cases hnr),fun i hir=> ?_⟩
      obtain ⟨hun,p,hp,hedge⟩:=mem_ready.1 hir;have his:i<ops.size:=(bZ.1 hp).1
      have hui:¬listed.getD i false=true:=(T2 (by omega)).1 hun
      have hil:i ∈ n::l:=by
        apply Classical.byContradiction
        intro hil;exact hui (hl i his hil)
      have hci:=head_count listed i hun;have hcl':Closed ops fun j=>(listed.setIfInBounds i true).getD j false=true:=by
        intro j q hq hj e he hb;rw [R0 (by omega)] at hj ⊢
        rcases hj with rfl | hj
        · rw [hp] at hq;cases hq
          exact .inr (hedge e he hb)
        · exact .inr (hcl j q hq hj e he hb)
      by_cases hin:i=n
      · -- the order's own step
        subst hin;rw [hi] at hp;cases hp
        refine wpOp_mono (fun a' w' h=> ?_) (wpOp_keeps (X:=fun a' w'=>∃st',SimE G ⟨w,owned st Lf,st.nx,β⟩ st' a' w'/\wflow E call ops A Z F T l st' K=some r) hi ?_)
        · obtain ⟨⟨st',S',h'⟩,hkeep⟩:=h;obtain ⟨g1,g2⟩:=go H hv T D [] hH hheld hD st' a' w' (by simp) S' hkeep h'
          have hset:(listed.setIfInBounds i true).getD i false=true:=(R0 (by omega)).2 (.inl rfl)
          exact ⟨hreset hFn H hv D RD hset _ _ (fun _ h=>h) g1,wpAnyL_weak _ _ _ _ (hreset hFn H hv D RD hset) g2⟩
        · cases hAZn:(A.contains i || Z.contains i) with
          | true=>
            rw [dY hAZn] at h;obtain ⟨o',d0,f1,f2,f3,f4,f5,f6⟩:=hAZ i hAZn;rw [hi] at f1;cases f1
            have hw:Region.wanted o (yielded ops a.tmps)=true:=by
              unfold Region.wanted;rw [f2]
            unfold wpOp;simp only [hi,hw,if_true];exact .inl (eff_sound hE (CallAt.rebase (hC.link hL) S) S.rebase h fun st' a' w' S' h'=>⟨st',S',h'⟩)
          | false=>
            rw [eY (by rw [hAZn];decide),eY (by rw [hFn];decide)] at h
            obtain ⟨b,hg,h⟩:=h;exact wpOp_sound hE (CallAt.rebase (hC.link hL) S) S.rebase hi hg h fun st' a' w' S' h'=>⟨st',S',h'⟩
      · -- an alloc or an empty row, ahead
        have hil':i ∈ l:=(zZ.1 hil).resolve_left hin;have hAZi:(A.contains i || Z.contains i)=true:=by
          cases hAZi:(A.contains i || Z.contains i) with
          | true=>rfl
          | false=>
            rw [Bool.or_eq_false_iff] at hAZi;exact absurd (before_listed hcl hp hedge n (hordC hFn i hil' hAZi.1 hAZi.2)) hln
        obtain ⟨o',d,f1,f2,f3,f4,f5,f6⟩:=hAZ i hAZi;rw [hp] at f1;cases f1
        obtain ⟨d1,e1,e2,e3,e4⟩:=hfree i hil hAZi;have hdd:d1=d:=by
          have:W2 ops i=some d:=by simp [W2,hp,f3]
          rw [this] at e1;exact (xZ e1).symm
        subst hdd;have hw:Region.wanted p (yielded ops a.tmps)=true:=by
          unfold Region.wanted;rw [f2]
        have hset:∀j,(listed.setIfInBounds i true).getD j false=true↔(j=i\/listed.getD j false=true):=fun j=>R0 (by omega)
        have hFi:F.contains i=false:=by
          cases hFi:F.contains i with
          | false=>rfl
          | true=>exact absurd hAZi (by rw [ordOk_mem hord i hil hFi];decide)
        have hvacL:∀L:Array Bool,(∀j,(listed.setIfInBounds i true).getD j false=true->L.getD j false=true)->∀w':World,(∀j ∈ n::l,F.contains j=false->L.getD j false=false)->∀p ∈ RD,w'.cell? p.1=some p.2:=fun L hL w' hp=>by
          have:=hp i hil hFi
          rw [hL i ((R0 (by omega)).2 (.inl rfl))] at this
          cases this
        have hvac:=fun w'=>hvacL (listed.setIfInBounds i true) (fun _ h=>h) w'
        unfold wpOp;simp only [hp,hw,if_true];have hkk:fuel+(n::l).length<=k:=by simp at hk ⊢;omega
        have hl2:∀j,j<ops.size->j ∉ n::l->(listed.setIfInBounds i true).getD j false=true:=fun j hj hjl=>(hset j).2 (.inr (hl j hj hjl))
        have hA2:∀j ∈ n::l,(listed.setIfInBounds i true).getD j false=true->(A.contains j || Z.contains j)=true:=fun j hj hlj=>by
          rcases (hset j).1 hlj with e | h1
          · rw [e];exact hAZi
          · exact hA j hj h1
        have hdne:∀j,j≠i->∀d',W2 ops j=some d'->some d1≠some d':=fun j hj d' hd' he=>f4 j hj (by rw [hd'];exact he.symm)
        have hds:d1<a.tmps.size:=jZ e3 S.size;have h00:w00.w.heap.size<=w.heap.size:=bY hL.chg.size S.below.size;have hbl:∀j ∈ n::l,listed.getD j false=true->A.contains j=true->bl j<w.heap.size:=by
          intro j hj hlj hAj;obtain ⟨_,_,_,_,_,_,_,_,_,_,_,g5,_⟩:=hEa j hj hlj hAj;exact jZ (bZ.1 g5).1 S.below.size
        cases hAi:A.contains i with
        | true=>
          obtain ⟨t,f1⟩:=f5 hAi;obtain ⟨z,hz⟩:∃z,E.ty t=some z:=by
            have e5:flTy E ops i=true:=by
              rcases Bool.or_eq_true _ _▸e4 with e4 | e4
              · exact e4
              · unfold zTy at e4;rw [hp] at e4;simp only [f1] at e4;cases e4
            unfold flTy at e5;rw [hp] at e5;simp only [f1] at e5;exact Option.isSome_iff_exists.1 e5
          refine .inl (alloc_run hE f1 hz ?_)
          rw [f3];refine ⟨⟨fun x hx=>(heap_alloc_old w _ x (hH x hx).2.1).trans (hH x hx).2.2,fun p hp=>(World.cell?_of_block (heap_alloc_old w _ _ (hD.cells S hheld p hp).1)).trans (hD.cells S hheld p hp).2,hvac _⟩,?_⟩
          refine wpAnyL_weak (S':=HS F (n::l) H hv D []) _ _ _ _ (fun L w' hL hs=>⟨hs.1,hs.2.1,hvacL L hL w'⟩) ?_
          refine wide_tail hE hC hG0 hsel hAZ hQ hP k (n::l) fuel _ st _ _ (fun x=>G x/\x≠w.heap.size) _ β Lf (fun j=>if j=i then w.heap.size else bl j) H hv T D [] hkk hord hlt (by omega) (by simpa using hsz) hl2 hA2 hcl' (fun j hj hlj hAj=> ?_) (fun j hj hlj hAj=> ?_) (fun j hj j' hj' hlj hlj' hAj hAj' he=> ?_) (fun x=> ?_) (hL.ahead S _) (S.ahead e2 _ _) (fun x hx=> ?_) hD (by simp) hflow
          · by_cases e:j=i
            · subst e;rw [dY rfl];refine ⟨h00,fun hm=>by have:=(S.owned_new _ hm).2;omega,fun hx=>hx.2 rfl,p,t,z,d1,hp,f1,f3,hz,heap_alloc_new w _,?_⟩
              simp [Act.put,aZ,hds]
            · rw [eY e];have hlj':=((hset j).1 hlj).resolve_left e;have hE1:Early E ops w00 ⟨w.alloc (.cells z.zero.toArray t),owned st Lf,st.nx,β⟩ (fun x=>G x/\x≠w.heap.size) a j (bl j):=(hEa j hj hlj' hAj).base S (fun k hk=>heap_alloc_old w _ k hk) (fun k hk=> .inl hk) fun hx=>(hEa j hj hlj' hAj).nG hx.1
              exact hE1.put (dst:=some d1) (hdne j e) fun t' ht'=>put_getD a _ _ t' ht'
          · have e:j≠i:=fun e=>by rw [e,hAi] at hAj;cases hAj
            exact (hEz j hj (((hset j).1 hlj).resolve_left e) hAj).put (dst:=some d1) (hdne j e) fun t' ht'=>put_getD a _ _ t' ht'
          · skip
            by_cases e:j=i
            · by_cases e':j'=i
              · rw [e,e']
              · rw [dY e,eY e'] at he
                have:=hbl j' hj' (((hset j').1 hlj').resolve_left e') hAj'
                omega
            · have h1:=((hset j).1 hlj).resolve_left e;by_cases e':j'=i
              · rw [eY e,dY e'] at he
                have:=hbl j hj h1 hAj
                omega
              · rw [eY e,eY e'] at he;exact hinj j hj j' hj' h1 (((hset j').1 hlj').resolve_left e') hAj hAj' he
          · constructor
            · intro hx;by_cases e:x=w.heap.size
              · exact .inr ⟨i,hil,(hset i).2 (.inl rfl),hAi,by rw [dY rfl];exact e⟩
              · rcases (hG x).1 hx with h1 | ⟨j,h1,h2,h3,h4⟩
                · exact .inl ⟨h1,e⟩
                · exact .inr ⟨j,h1,(hset j).2 (.inr h2),h3,by rw [eY fun e=>hui (by rw [<-e];exact h2)];exact h4⟩
            · rintro (h1 | ⟨j,h1,h2,h3,h4⟩)
              · exact (hG x).2 (.inl h1.1)
              · by_cases e:j=i
                · rw [dY e] at h4;rw [h4];exact hG0 _ (.inl h00)
                · rw [eY e] at h4;exact (hG x).2 (.inr ⟨j,h1,((hset j).1 h2).resolve_left e,h3,h4⟩)
          · have h1:=hH x hx;refine ⟨⟨⟨h1.1.1,?_⟩,h1.1.2⟩,?_,(heap_alloc_old w _ x h1.2.1).trans h1.2.2⟩
            · have:=h1.2.1;omega
            · exact lt_of_same (heap_alloc_old w _ x h1.2.1) h1.2.1
        | false=>
          have hzi:=f6 hAi;have hzop:∃t n' ps,p.op= .buildSlice t n' ps:=by
            cases hpo:p.op<;>rw [hpo] at hzi<;>simp [isEmptyRow] at hzi
            exact ⟨_,_,_,rfl⟩
          obtain ⟨t,n',ps,hpo⟩:=hzop;obtain ⟨⟨e,ie⟩,hel⟩:∃y,elemTy E t=some y:=by
            have e5:zTy E ops i=true:=by
              rcases Bool.or_eq_true _ _▸e4 with e4 | e4
              · unfold flTy at e4;rw [hp] at e4;simp only [hpo] at e4;cases e4
              · exact e4
            unfold zTy at e5;rw [hp] at e5;simp only [hpo] at e5;exact Option.isSome_iff_exists.1 e5
          obtain ⟨ht,hT⟩:=elemTy_ok hE hel;refine .inl (wp_value (empty_op hpo hzi ht hT w) ?_)
          rw [f3];refine ⟨⟨fun x hx=>(heap_alloc_old w _ x (hH x hx).2.1).trans (hH x hx).2.2,fun p hp=>(World.cell?_of_block (heap_alloc_old w _ _ (hD.cells S hheld p hp).1)).trans (hD.cells S hheld p hp).2,hvac _⟩,?_⟩
          refine wpAnyL_weak (S':=HS F (n::l) H hv D []) _ _ _ _ (fun L w' hL hs=>⟨hs.1,hs.2.1,hvacL L hL w'⟩) ?_
          have S2:=(S.kept (Below.alloc1 w (.cells #[] e))).hid e2 (.slice (some ⟨w.heap.size,0,none⟩) 0 0);refine wide_tail hE hC hG0 hsel hAZ hQ hP k (n::l) fuel _ st _ _ G w0 β Lf bl H hv T D [] hkk hord hlt (by omega) (by simpa using hsz) hl2 hA2 hcl' (fun j hj hlj hAj=> ?_) (fun j hj hlj hAj=> ?_) (fun j hj j' hj' hlj hlj' hAj hAj' he=> ?_) (fun x=> ?_) hL S2 (fun x hx=> ?_) hD (by simp) hflow
          · have e':j≠i:=fun e=>by rw [e,hAi] at hAj;cases hAj
            exact (hEa j hj (((hset j).1 hlj).resolve_left e') hAj).put (dst:=some d1) (hdne j e') fun t' ht'=>put_getD a _ _ t' ht'
          · by_cases e':j=i
            · subst e';exact ⟨p,t,n',ps,d1,some ⟨w.heap.size,0,none⟩,hp,hpo,hzi,f2,f3,by simp [Act.put,aZ,hds]⟩
            · exact (hEz j hj (((hset j).1 hlj).resolve_left e') hAj).put (dst:=some d1) (hdne j e') fun t' ht'=>put_getD a _ _ t' ht'
          · have e1:j≠i:=fun e=>by rw [e,hAi] at hAj;cases hAj
            have e2:j'≠i:=fun e=>by rw [e,hAi] at hAj';cases hAj'
            exact hinj j hj j' hj' (((hset j).1 hlj).resolve_left e1) (((hset j').1 hlj').resolve_left e2) hAj hAj' he
          · rw [hG x];constructor
            · rintro (h1 | ⟨j,h1,h2,h3,h4⟩)
              · exact .inl h1
              · exact .inr ⟨j,h1,(hset j).2 (.inr h2),h3,h4⟩
            · rintro (h1 | ⟨j,h1,h2,h3,h4⟩)
              · exact .inl h1
              · have e:j≠i:=fun e=>by rw [e,hAi] at h3;cases h3
                exact .inr ⟨j,h1,((hset j).1 h2).resolve_left e,h3,h4⟩
          · have h1:=hH x hx;exact ⟨h1.1,lt_of_same (heap_alloc_old w _ x h1.2.1) h1.2.1,(heap_alloc_old w _ x h1.2.1).trans h1.2.2⟩
theorem region_wide (hE:EnvOk E) (hC:CallAt E call w0) {id:Nat} {ops:Array Oper} {A Z F ord:List Nat} (hok:wideOk ops A Z F ord=true) (Ssim:SimE G w0 st a w) (h:wflow E call ops A Z F [] ord st K=some r)
 (hQ:∀st' a' w',SimE G w0 st' a' w'->K st'=some r->Q .normal a' w'):(Code.region id ops true).wp E.P Q a w:=by
 unfold wideOk at hok;simp only [sZ] at hok;obtain ⟨h1,h2,h3,h4,h6,h5⟩:=hok;have hsz2:∀j,(A.contains j || Z.contains j)=true->j<ops.size:=fun j hj=>by
  have hm:j ∈ A++Z:=by simpa using hj
  simpa using uZ.1 h6 j hm
 have hrep:∀j,¬(Array.replicate ops.size false).getD j false=true:=by
  intro j;by_cases h:j<ops.size<;>simp [h]
 obtain ⟨β,Lf,S⟩:=Ssim;refine wp_mono (Q:=fun e a w=>e= .normal/\Q .normal a w) (wp_region_heldL (S:=HS F ord (fun _=>False) (fun _=>none) [] []) hE.mixed ?_) fun e a w h=>by rw [h.1];exact h.2
 refine wide_tail (r:=r) (K:=K) (w00:=w0) (G0:=G) hE hC S.fresh h1 (fun j hj=> ?_) (fun st' a' w' S' h'=>⟨rfl,hQ st' a' w' S' h'⟩) (fun c a w h=>by cases h.1) (ops.size+ord.length) ord ops.size _ st a _ G w0 β Lf (fun _=>0) (fun _=>False) (fun _=>none) [] [] [] (cY _) h5 (fun j hj=>by simpa using uZ.1 h3 j hj) (by simp) (by simp)
  (fun j hj hjo=>absurd (by simpa using uZ.1 h2 j (List.mem_range.2 hj)) hjo) (fun j _ hl=>absurd hl (hrep j)) (fun j o ho hj=>absurd hj (hrep j)) (fun j _ hl=>absurd hl (hrep j)) (fun j _ hl=>absurd hl (hrep j)) (fun j _ _ _ hl=>absurd hl (hrep j))
  (fun x=>⟨fun h=> .inl h,fun h=>h.elim (fun h=>h) fun ⟨j,_,hl,_⟩=>absurd hl (hrep j)⟩) (Link.refl _) (S.kept ((Below.refl _ w).drew)) (fun x hx=>hx.elim) (fun p hp=>by simp at hp) (by simp) h
 have hcase:A.contains j=true\/Z.contains j=true:=by simpa only [Bool.or_eq_true] using hj
 by_cases hjs:j<ops.size
 · have:=uZ.1 h4 j (List.mem_range.2 hjs)
   simp only [sZ] at this;obtain ⟨g1,g2,g3⟩:=this;rw [hj] at g3;simp only [Bool.not_true,Bool.false_or,sZ] at g3;obtain ⟨g3,g4⟩:=g3;have ho:ops[j]? =some ops[j]:=Array.getElem?_eq_getElem hjs
   have hd:W2 ops j=ops[j].dst:=by simp [W2,ho]
   rw [hd] at g3 g4;obtain ⟨d,hdd⟩:=Option.isSome_iff_exists.1 g3;have huniq:∀i,i≠j->W2 ops i≠some d:=fun i hi e=>by
    by_cases his:i<ops.size
    · have:=uZ.1 g4 i (List.mem_range.2 his)
      rw [e,hdd] at this;simp [hi] at this
    · unfold W2 at e;rw [Array.getElem?_eq_none (by omega)] at e
      cases e
   have hopA:A.contains j=true->ops[j].guard=none/\isAlloc ops[j].op=true:=fun hA=>by
    rw [hA] at g1;simp only [Bool.not_true,Bool.false_or] at g1;unfold opAt at g1;rw [ho] at g1;simpa using g1
   have hopZ:Z.contains j=true->ops[j].guard=none/\isEmptyRow ops[j].op=true:=fun hZ=>by
    rw [hZ] at g2;simp only [Bool.not_true,Bool.false_or] at g2;unfold opAt at g2;rw [ho] at g2;simpa using g2
   refine ⟨ops[j],d,ho,?_,hdd,huniq,fun hA=> ?_,fun hA=> ?_⟩
   · rcases hcase with h | h
     · exact (hopA h).1
     · exact (hopZ h).1
   · have:=(hopA hA).2
     cases hop:ops[j].op<;>rw [hop] at this<;>simp [isAlloc] at this
     exact ⟨_,rfl⟩
   · rcases hcase with h | h
     · rw [h] at hA;cases hA
     · exact (hopZ h).2
 · exact absurd (hsz2 j hj) hjs
theorem frz1_sim (S:SimE G w0 st a w) (t:Nat):SimE G w0 (frz1 t st) a w:=by
 obtain ⟨β,Lf,S⟩:=S;have same:SimE G w0 st a w:=⟨β,Lf,S⟩;unfold frz1;split
 · rename_i h ht;split
   · rename_i cs ho;split
     · rename_i hst;obtain ⟨b,ty,us,h1,h2,h3,h4⟩:=S.obs h _ ho;have hva:VC w (imm G st Lf) β (.ptr h 0) (a.tmps.getD t undef):=S.slots t _ ht;obtain ⟨b',h5,h6⟩:=hva;rw [h1] at h5
       injection h5 with h5
       injection h5 with h5
       cases h5
       have hsub:∀n o,look (del h st.ob) n=some o->look st.ob n=some o:=fun n o hn=>(look_del hn).2
       have S1:=S.fewer hsub;have hbL:b ∈ Lf h:=by rw [h2];simp
       have hb:=S.new h _ ho b hbL;refine ⟨β,Lf,S1.reslot (t:=t) (v:= .c (.at_ cs)) ?_ (by intro h hh;simp [C.hs] at hh)⟩
       show rep w (imm G { st with ob:=del h st.ob } Lf) (.at_ cs) _
       simp only [rep];refine ⟨⟨b,0,none⟩,us,h6,still_rep hst (h4.imp fun c _ u hu=>hu.step (fun k hk _=>⟨⟨hk.1,fun n o hn=>hk.2 n o (hsub n o hn)⟩,rfl⟩) fun _ _=>rfl),fun _=>⟨⟨S.fresh b hb.1,fun n o hn hm=> ?_⟩,hb.2⟩,fun i x hx=> ?_⟩
       · have hne:=(look_del hn).1;exact S.disj h _ n o ho (hsub n o hn) (fun e=>hne e.symm) b hbL hm
       · rw [addr_add,cell_of_row w b _ us.toArray ty (0,0) h3];simpa using hx
     · exact same
   · exact same
 · exact same
theorem frzs_sim:∀(l:List Nat) {st:St},SimE G w0 st a w->SimE G w0 (frzs l st) a w
  | [],st,S=>S
  | q::r,st,S=>by
    unfold frzs;split
    · split
      · exact frzs_sim r (frz1_sim S _)
      · exact frzs_sim r S
    · exact frzs_sim r S
theorem dropR_look (lo hi:Nat):∀(l:List (Nat×AV)) (t:Nat),look (dropR lo hi l) t=if lo<=t/\t<hi then none else look l t
  | [],t=>by simp [dropR,look]
  | (n,x)::r,t=>by
    have ih:=dropR_look lo hi r t;by_cases h1:lo<=n
    · by_cases h2:n<hi
      · rw [dropR,dY h1,dY h2,ih];by_cases h:lo<=t/\t<hi
        · rw [dY h,dY h]
        · have:¬n=t:=fun e=>h (e▸⟨h1,h2⟩)
          rw [eY h,eY h];simp [look,this]
      · rw [dropR,dY h1,eY h2];by_cases e:n=t
        · subst e;rw [eY (fun h=>h2 h.2)]
          simp [look]
        · simp only [look,e,if_false];exact ih
    · rw [dropR,eY h1];by_cases e:n=t
      · subst e;rw [eY (fun h=>h1 h.1)]
        simp [look]
      · simp only [look,e,if_false];exact ih
theorem drps_sim (id:Nat):∀(l:List Nat) {st:St},SimE G w0 st a w->SimE G w0 (drps id l st) a w
  | [],st,S=>S
  | q::r,st,S=>by
    unfold drps;refine drps_sim id r ?_
    split
    · split
      · split
        · obtain ⟨β,Lf,S⟩:=S;have hl:∀t v,look (dropR ((q-1649267441664) / 4096%4096) ((q-1649267441664)%4096) st.sl) t=some v->look st.sl t=some v:=fun t v h=>by
            rw [dropR_look] at h;split at h;cases h
            exact h
          exact ⟨β,Lf,{ S with slots:=fun t v h=>S.slots t v (hl t v h),slt:=fun t v h=>S.slt t v (hl t v h) }⟩
        · exact S
      · exact S
    · exact S
end
end Go.V
